/- Layer 9, and its reference: residues, sums, products. -/
import Derived.Test.YtielloijdkoeiaaDoorKg
namespace Go.Proofs.YtielloijdkoeiaaDoor
open Go Go.RowKit
set_option maxRecDepth 100000

def in64 (n : Int) : Prop := -9223372036854775808 ≤ n ∧ n ≤ 9223372036854775807

theorem tmod_cases (n : Int) : (0 ≤ n ∧ n.tmod 1073741789 = n % 1073741789) ∨ (n < 0 ∧ n.tmod 1073741789 = -((-n) % 1073741789)) := by
  rcases (by omega : n < 0 ∨ 0 ≤ n) with h | h
  · refine Or.inr ⟨h, ?_⟩
    have : n.tmod 1073741789 = -((-n).tmod 1073741789) := by rw [Int.neg_tmod, Int.neg_neg]
    rw [this, Int.tmod_eq_emod_of_nonneg (by omega)]
  · exact Or.inl ⟨h, Int.tmod_eq_emod_of_nonneg h⟩
theorem tmod_neg {n : Int} (h : n.tmod 1073741789 < 0) : n.tmod 1073741789 + 1073741789 = n % 1073741789 := by
  rcases tmod_cases n with ⟨h1, h2⟩ | ⟨h1, h2⟩ <;> omega
theorem tmod_pos {n : Int} (h : ¬ n.tmod 1073741789 < 0) : n.tmod 1073741789 = n % 1073741789 := by
  rcases tmod_cases n with ⟨h1, h2⟩ | ⟨h1, h2⟩ <;> omega
theorem tmod_bd (n : Int) : -1073741789 < n.tmod 1073741789 ∧ n.tmod 1073741789 < 1073741789 := by
  rcases tmod_cases n with ⟨h1, h2⟩ | ⟨h1, h2⟩ <;> omega

theorem field_Mod (n : Int) (_hn : in64 n) (w : World) : Fn 45 [.int .i64 n] w (Quiet (.int .i64 (n % 1073741789)) w) := by
  unfold in64 at _hn
  have hb := tmod_bd n
  refine fn_of (args := [.int .i64 n]) Tryd.func45 rfl Tryd.ntmps45 rfl (Hp.start w) ?_
  repeat (first
    | (apply ws; exact rfl; exact rfl; exact rfl)
    | refine wc_seq ?_
    | refine wc_region ?_
    | refine wl_nil ?_
    | refine we_round ?_
    | refine we_then_wc ?_
    | (apply wi64; exact rfl; omega; omega; exact rfl; exact rfl)
    | (apply wfa; exact rfl; exact rfl; exact rfl; exact rfl)
    | (apply wct; exact rfl; omega; exact rfl; exact rfl)
    | (apply wcf; exact rfl; omega; exact rfl; exact rfl)
    | (apply wn; exact rfl; exact rfl)
    | (apply wlb (j := 0); exact rfl; exact rfl; exact rfl; exact rfl; exact rfl; exact rfl)
    | (apply wlb (j := 1); exact rfl; exact rfl; exact rfl; exact rfl; exact rfl; exact rfl)
    | (apply wlb (j := 2); exact rfl; exact rfl; exact rfl; exact rfl; exact rfl; exact rfl)
    | (apply wlb (j := 3); exact rfl; exact rfl; exact rfl; exact rfl; exact rfl; exact rfl)
    | (apply wln; exact rfl; exact rfl; exact rfl; exact rfl)
    | (apply wpu; exact rfl; exact rfl; exact rfl)
    | (apply wbx; exact rfl; exact rfl; exact rfl; intro _)
    | refine wc_block ?_
    | (apply wc_true; exact rfl)
    | (apply wc_false; exact rfl)
    | refine wc_skip ?_
    | refine wc_exit ?_
    | refine wc_ret ?_
    | refine we_then_exit ?_
    | refine we_then_ret ?_
    | refine we_in_normal ?_
    | refine we_in_ret ?_
    | refine we_in_here ?_
    | (apply we_in_there; exact rfl))
  refine wl_still rfl rfl rfl (od_rem rfl rfl (by omega) rfl) ?_
  repeat (first
    | (apply ws; exact rfl; exact rfl; exact rfl)
    | refine wc_seq ?_
    | refine wc_region ?_
    | refine wl_nil ?_
    | refine we_round ?_
    | refine we_then_wc ?_
    | (apply wi64; exact rfl; omega; omega; exact rfl; exact rfl)
    | (apply wfa; exact rfl; exact rfl; exact rfl; exact rfl)
    | (apply wct; exact rfl; omega; exact rfl; exact rfl)
    | (apply wcf; exact rfl; omega; exact rfl; exact rfl)
    | (apply wn; exact rfl; exact rfl)
    | (apply wlb (j := 0); exact rfl; exact rfl; exact rfl; exact rfl; exact rfl; exact rfl)
    | (apply wlb (j := 1); exact rfl; exact rfl; exact rfl; exact rfl; exact rfl; exact rfl)
    | (apply wlb (j := 2); exact rfl; exact rfl; exact rfl; exact rfl; exact rfl; exact rfl)
    | (apply wlb (j := 3); exact rfl; exact rfl; exact rfl; exact rfl; exact rfl; exact rfl)
    | (apply wln; exact rfl; exact rfl; exact rfl; exact rfl)
    | (apply wpu; exact rfl; exact rfl; exact rfl)
    | (apply wbx; exact rfl; exact rfl; exact rfl; intro _)
    | refine wc_block ?_
    | (apply wc_true; exact rfl)
    | (apply wc_false; exact rfl)
    | refine wc_skip ?_
    | refine wc_exit ?_
    | refine wc_ret ?_
    | refine we_then_exit ?_
    | refine we_then_ret ?_
    | refine we_in_normal ?_
    | refine we_in_ret ?_
    | refine we_in_here ?_
    | (apply we_in_there; exact rfl))
  refine wc_if rfl (fun ht => ?_) (fun ht => ?_)
  · have ht := of_decide_eq_true ht
    repeat (first
      | (apply ws; exact rfl; exact rfl; exact rfl)
      | refine wc_seq ?_
      | refine wc_region ?_
      | refine wl_nil ?_
      | refine we_round ?_
      | refine we_then_wc ?_
      | (apply wi64; exact rfl; omega; omega; exact rfl; exact rfl)
      | (apply wfa; exact rfl; exact rfl; exact rfl; exact rfl)
      | (apply wct; exact rfl; omega; exact rfl; exact rfl)
      | (apply wcf; exact rfl; omega; exact rfl; exact rfl)
      | (apply wn; exact rfl; exact rfl)
      | (apply wlb (j := 0); exact rfl; exact rfl; exact rfl; exact rfl; exact rfl; exact rfl)
      | (apply wlb (j := 1); exact rfl; exact rfl; exact rfl; exact rfl; exact rfl; exact rfl)
      | (apply wlb (j := 2); exact rfl; exact rfl; exact rfl; exact rfl; exact rfl; exact rfl)
      | (apply wlb (j := 3); exact rfl; exact rfl; exact rfl; exact rfl; exact rfl; exact rfl)
      | (apply wln; exact rfl; exact rfl; exact rfl; exact rfl)
      | (apply wpu; exact rfl; exact rfl; exact rfl)
      | (apply wbx; exact rfl; exact rfl; exact rfl; intro _)
      | refine wc_block ?_
      | (apply wc_true; exact rfl)
      | (apply wc_false; exact rfl)
      | refine wc_skip ?_
      | refine wc_exit ?_
      | refine wc_ret ?_
      | refine we_then_exit ?_
      | refine we_then_ret ?_
      | refine we_in_normal ?_
      | refine we_in_ret ?_
      | refine we_in_here ?_
      | (apply we_in_there; exact rfl))
    exact we_ret1 (Or.inl rfl) rfl rfl fun w h => ⟨by rw [tmod_neg ht], h.ext_all⟩
  · have ht := of_decide_eq_false ht
    repeat (first
      | (apply ws; exact rfl; exact rfl; exact rfl)
      | refine wc_seq ?_
      | refine wc_region ?_
      | refine wl_nil ?_
      | refine we_round ?_
      | refine we_then_wc ?_
      | (apply wi64; exact rfl; omega; omega; exact rfl; exact rfl)
      | (apply wfa; exact rfl; exact rfl; exact rfl; exact rfl)
      | (apply wct; exact rfl; omega; exact rfl; exact rfl)
      | (apply wcf; exact rfl; omega; exact rfl; exact rfl)
      | (apply wn; exact rfl; exact rfl)
      | (apply wlb (j := 0); exact rfl; exact rfl; exact rfl; exact rfl; exact rfl; exact rfl)
      | (apply wlb (j := 1); exact rfl; exact rfl; exact rfl; exact rfl; exact rfl; exact rfl)
      | (apply wlb (j := 2); exact rfl; exact rfl; exact rfl; exact rfl; exact rfl; exact rfl)
      | (apply wlb (j := 3); exact rfl; exact rfl; exact rfl; exact rfl; exact rfl; exact rfl)
      | (apply wln; exact rfl; exact rfl; exact rfl; exact rfl)
      | (apply wpu; exact rfl; exact rfl; exact rfl)
      | (apply wbx; exact rfl; exact rfl; exact rfl; intro _)
      | refine wc_block ?_
      | (apply wc_true; exact rfl)
      | (apply wc_false; exact rfl)
      | refine wc_skip ?_
      | refine wc_exit ?_
      | refine wc_ret ?_
      | refine we_then_exit ?_
      | refine we_then_ret ?_
      | refine we_in_normal ?_
      | refine we_in_ret ?_
      | refine we_in_here ?_
      | (apply we_in_there; exact rfl))
    exact we_ret1 (Or.inl rfl) rfl rfl fun w h => ⟨by rw [tmod_pos ht], h.ext_all⟩

theorem field_Mul (a b : Int) (ha : in64 a) (hb : in64 b) (w : World) : Fn 22 [.int .i64 a, .int .i64 b] w (Quiet (.int .i64 (a * b % 1073741789)) w) := by
  have h1 : 0 ≤ a % 1073741789 ∧ a % 1073741789 < 1073741789 := by omega
  have h2 : 0 ≤ b % 1073741789 ∧ b % 1073741789 < 1073741789 := by omega
  have h3 : 0 ≤ (a % 1073741789) * (b % 1073741789) := Int.mul_nonneg h1.1 h2.1
  have h4 : (a % 1073741789) * (b % 1073741789) ≤ 1073741789 * 1073741789 := Int.mul_le_mul (by omega) (by omega) h2.1 (by omega)
  refine fn_of (args := [.int .i64 a, .int .i64 b]) Tryd.func22 rfl Tryd.ntmps22 rfl (Hp.start w) ?_
  repeat (first
    | (apply ws; exact rfl; exact rfl; exact rfl)
    | refine wc_seq ?_
    | refine wc_region ?_
    | refine wl_nil ?_
    | refine we_round ?_
    | refine we_then_wc ?_
    | (apply wi64; exact rfl; omega; omega; exact rfl; exact rfl)
    | (apply wfa; exact rfl; exact rfl; exact rfl; exact rfl)
    | (apply wct; exact rfl; omega; exact rfl; exact rfl)
    | (apply wcf; exact rfl; omega; exact rfl; exact rfl)
    | (apply wn; exact rfl; exact rfl)
    | (apply wlb (j := 0); exact rfl; exact rfl; exact rfl; exact rfl; exact rfl; exact rfl)
    | (apply wlb (j := 1); exact rfl; exact rfl; exact rfl; exact rfl; exact rfl; exact rfl)
    | (apply wlb (j := 2); exact rfl; exact rfl; exact rfl; exact rfl; exact rfl; exact rfl)
    | (apply wlb (j := 3); exact rfl; exact rfl; exact rfl; exact rfl; exact rfl; exact rfl)
    | (apply wln; exact rfl; exact rfl; exact rfl; exact rfl)
    | (apply wpu; exact rfl; exact rfl; exact rfl)
    | (apply wbx; exact rfl; exact rfl; exact rfl; intro _)
    | refine wc_block ?_
    | (apply wc_true; exact rfl)
    | (apply wc_false; exact rfl)
    | refine wc_skip ?_
    | refine wc_exit ?_
    | refine wc_ret ?_
    | refine we_then_exit ?_
    | refine we_then_ret ?_
    | refine we_in_normal ?_
    | refine we_in_ret ?_
    | refine we_in_here ?_
    | (apply we_in_there; exact rfl))
  refine wl_quiet rfl rfl rfl (od_call Tryd.call45 rfl (fun w _ => field_Mod a ha w)) ?_
  repeat (first
    | (apply ws; exact rfl; exact rfl; exact rfl)
    | refine wc_seq ?_
    | refine wc_region ?_
    | refine wl_nil ?_
    | refine we_round ?_
    | refine we_then_wc ?_
    | (apply wi64; exact rfl; omega; omega; exact rfl; exact rfl)
    | (apply wfa; exact rfl; exact rfl; exact rfl; exact rfl)
    | (apply wct; exact rfl; omega; exact rfl; exact rfl)
    | (apply wcf; exact rfl; omega; exact rfl; exact rfl)
    | (apply wn; exact rfl; exact rfl)
    | (apply wlb (j := 0); exact rfl; exact rfl; exact rfl; exact rfl; exact rfl; exact rfl)
    | (apply wlb (j := 1); exact rfl; exact rfl; exact rfl; exact rfl; exact rfl; exact rfl)
    | (apply wlb (j := 2); exact rfl; exact rfl; exact rfl; exact rfl; exact rfl; exact rfl)
    | (apply wlb (j := 3); exact rfl; exact rfl; exact rfl; exact rfl; exact rfl; exact rfl)
    | (apply wln; exact rfl; exact rfl; exact rfl; exact rfl)
    | (apply wpu; exact rfl; exact rfl; exact rfl)
    | (apply wbx; exact rfl; exact rfl; exact rfl; intro _)
    | refine wc_block ?_
    | (apply wc_true; exact rfl)
    | (apply wc_false; exact rfl)
    | refine wc_skip ?_
    | refine wc_exit ?_
    | refine wc_ret ?_
    | refine we_then_exit ?_
    | refine we_then_ret ?_
    | refine we_in_normal ?_
    | refine we_in_ret ?_
    | refine we_in_here ?_
    | (apply we_in_there; exact rfl))
  refine wl_quiet rfl rfl rfl (od_call Tryd.call45 rfl (fun w _ => field_Mod b hb w)) ?_
  repeat (first
    | (apply ws; exact rfl; exact rfl; exact rfl)
    | refine wc_seq ?_
    | refine wc_region ?_
    | refine wl_nil ?_
    | refine we_round ?_
    | refine we_then_wc ?_
    | (apply wi64; exact rfl; omega; omega; exact rfl; exact rfl)
    | (apply wfa; exact rfl; exact rfl; exact rfl; exact rfl)
    | (apply wct; exact rfl; omega; exact rfl; exact rfl)
    | (apply wcf; exact rfl; omega; exact rfl; exact rfl)
    | (apply wn; exact rfl; exact rfl)
    | (apply wlb (j := 0); exact rfl; exact rfl; exact rfl; exact rfl; exact rfl; exact rfl)
    | (apply wlb (j := 1); exact rfl; exact rfl; exact rfl; exact rfl; exact rfl; exact rfl)
    | (apply wlb (j := 2); exact rfl; exact rfl; exact rfl; exact rfl; exact rfl; exact rfl)
    | (apply wlb (j := 3); exact rfl; exact rfl; exact rfl; exact rfl; exact rfl; exact rfl)
    | (apply wln; exact rfl; exact rfl; exact rfl; exact rfl)
    | (apply wpu; exact rfl; exact rfl; exact rfl)
    | (apply wbx; exact rfl; exact rfl; exact rfl; intro _)
    | refine wc_block ?_
    | (apply wc_true; exact rfl)
    | (apply wc_false; exact rfl)
    | refine wc_skip ?_
    | refine wc_exit ?_
    | refine wc_ret ?_
    | refine we_then_exit ?_
    | refine we_then_ret ?_
    | refine we_in_normal ?_
    | refine we_in_ret ?_
    | refine we_in_here ?_
    | (apply we_in_there; exact rfl))
  refine wl_still rfl rfl rfl (od_rem rfl rfl (by omega) (Int.tmod_eq_emod_of_nonneg h3)) ?_
  repeat (first
    | (apply ws; exact rfl; exact rfl; exact rfl)
    | refine wc_seq ?_
    | refine wc_region ?_
    | refine wl_nil ?_
    | refine we_round ?_
    | refine we_then_wc ?_
    | (apply wi64; exact rfl; omega; omega; exact rfl; exact rfl)
    | (apply wfa; exact rfl; exact rfl; exact rfl; exact rfl)
    | (apply wct; exact rfl; omega; exact rfl; exact rfl)
    | (apply wcf; exact rfl; omega; exact rfl; exact rfl)
    | (apply wn; exact rfl; exact rfl)
    | (apply wlb (j := 0); exact rfl; exact rfl; exact rfl; exact rfl; exact rfl; exact rfl)
    | (apply wlb (j := 1); exact rfl; exact rfl; exact rfl; exact rfl; exact rfl; exact rfl)
    | (apply wlb (j := 2); exact rfl; exact rfl; exact rfl; exact rfl; exact rfl; exact rfl)
    | (apply wlb (j := 3); exact rfl; exact rfl; exact rfl; exact rfl; exact rfl; exact rfl)
    | (apply wln; exact rfl; exact rfl; exact rfl; exact rfl)
    | (apply wpu; exact rfl; exact rfl; exact rfl)
    | (apply wbx; exact rfl; exact rfl; exact rfl; intro _)
    | refine wc_block ?_
    | (apply wc_true; exact rfl)
    | (apply wc_false; exact rfl)
    | refine wc_skip ?_
    | refine wc_exit ?_
    | refine wc_ret ?_
    | refine we_then_exit ?_
    | refine we_then_ret ?_
    | refine we_in_normal ?_
    | refine we_in_ret ?_
    | refine we_in_here ?_
    | (apply we_in_there; exact rfl))
  exact we_ret1 (Or.inl rfl) rfl rfl fun w h => ⟨by rw [← Int.mul_emod], h.ext_all⟩

/-- A slice of whole numbers that reads so. -/
def Ints (w : World) (v : Value) (zs : List Int) : Prop :=
  ∃ b o c, v = .slice (some ⟨b, o, none⟩) zs.length c ∧ ∀ i z, zs[i]? = some z → w.cell? ⟨b, o + i, none⟩ = some (.int .i64 z)

def sumQ : List Int → Int
  | [] => 0
  | z :: r => (z + sumQ r) % 1073741789

def sumL (acc : Int) : List Int → Int
  | [] => acc
  | z :: r => sumL ((acc + z % 1073741789) % 1073741789) r

theorem field_sum (v : Value) (zs : List Int) (hz : ∀ z ∈ zs, in64 z) (hl : zs.length ≤ 1000) (w : World) (hv : Ints w v zs) : Fn 44 [v] w (Quiet (.int .i64 (sumL 0 zs)) w) := by
  obtain ⟨b, o, c, rfl, hc⟩ := hv
  refine fn_of (args := [.slice (some ⟨b, o, none⟩) zs.length c]) Tryd.func44 rfl Tryd.ntmps44 rfl (Hp.start w) ?_
  repeat (first
    | (apply ws; exact rfl; exact rfl; exact rfl)
    | refine wc_seq ?_
    | refine wc_region ?_
    | refine wl_nil ?_
    | refine we_round ?_
    | refine we_then_wc ?_
    | (apply wi64; exact rfl; omega; omega; exact rfl; exact rfl)
    | (apply wfa; exact rfl; exact rfl; exact rfl; exact rfl)
    | (apply wct; exact rfl; omega; exact rfl; exact rfl)
    | (apply wcf; exact rfl; omega; exact rfl; exact rfl)
    | (apply wn; exact rfl; exact rfl)
    | (apply wlb (j := 0); exact rfl; exact rfl; exact rfl; exact rfl; exact rfl; exact rfl)
    | (apply wlb (j := 1); exact rfl; exact rfl; exact rfl; exact rfl; exact rfl; exact rfl)
    | (apply wlb (j := 2); exact rfl; exact rfl; exact rfl; exact rfl; exact rfl; exact rfl)
    | (apply wlb (j := 3); exact rfl; exact rfl; exact rfl; exact rfl; exact rfl; exact rfl)
    | (apply wln; exact rfl; exact rfl; exact rfl; exact rfl)
    | (apply wpu; exact rfl; exact rfl; exact rfl)
    | (apply wbx; exact rfl; exact rfl; exact rfl; intro _)
    | refine wc_block ?_
    | (apply wc_true; exact rfl)
    | (apply wc_false; exact rfl)
    | refine wc_skip ?_
    | refine wc_exit ?_
    | refine wc_ret ?_
    | refine we_then_exit ?_
    | refine we_then_ret ?_
    | refine we_in_normal ?_
    | refine we_in_ret ?_
    | refine we_in_here ?_
    | (apply we_in_there; exact rfl))
  refine wc_loop (ι := Nat × Int) (fun i => [(3, .int .i64 i.2), (8, .int .i64 (i.1 : Int)), (7, .int .i64 (zs.length : Int)), (6, .slice (some ⟨b, o, none⟩) zs.length c)]) (fun _ => [])
    (fun i => i.1 ≤ zs.length ∧ 0 ≤ i.2 ∧ i.2 < 1073741789 ∧ sumL i.2 (zs.drop i.1) = sumL 0 zs) (fun i => zs.length - i.1) (0, 0) ⟨Nat.zero_le _, by omega, by omega, rfl⟩ ⟨rfl, rfl, rfl, rfl, trivial⟩ (List.Sublist.refl _) ?_
  rintro ⟨k, s⟩ ⟨hk, hs0, hs1, hsum⟩
  simp only at hk hs0 hs1 hsum
  repeat (first
    | (apply ws; exact rfl; exact rfl; exact rfl)
    | refine wc_seq ?_
    | refine wc_region ?_
    | refine wl_nil ?_
    | refine we_round ?_
    | refine we_then_wc ?_
    | (apply wi64; exact rfl; omega; omega; exact rfl; exact rfl)
    | (apply wfa; exact rfl; exact rfl; exact rfl; exact rfl)
    | (apply wct; exact rfl; omega; exact rfl; exact rfl)
    | (apply wcf; exact rfl; omega; exact rfl; exact rfl)
    | (apply wn; exact rfl; exact rfl)
    | (apply wlb (j := 0); exact rfl; exact rfl; exact rfl; exact rfl; exact rfl; exact rfl)
    | (apply wlb (j := 1); exact rfl; exact rfl; exact rfl; exact rfl; exact rfl; exact rfl)
    | (apply wlb (j := 2); exact rfl; exact rfl; exact rfl; exact rfl; exact rfl; exact rfl)
    | (apply wlb (j := 3); exact rfl; exact rfl; exact rfl; exact rfl; exact rfl; exact rfl)
    | (apply wln; exact rfl; exact rfl; exact rfl; exact rfl)
    | (apply wpu; exact rfl; exact rfl; exact rfl)
    | (apply wbx; exact rfl; exact rfl; exact rfl; intro _)
    | refine wc_block ?_
    | (apply wc_true; exact rfl)
    | (apply wc_false; exact rfl)
    | refine wc_skip ?_
    | refine wc_exit ?_
    | refine wc_ret ?_
    | refine we_then_exit ?_
    | refine we_then_ret ?_
    | refine we_in_normal ?_
    | refine we_in_ret ?_
    | refine we_in_here ?_
    | (apply we_in_there; exact rfl))
  refine wc_if rfl (fun ht => ?_) (fun ht => ?_)
  · have ht := of_decide_eq_true ht
    have hlt : k < zs.length := by omega
    have hz0 := hz zs[k] (by simp)
    have hd : zs.drop k = zs[k] :: zs.drop (k + 1) := List.drop_eq_getElem_cons hlt
    have hb := hc k zs[k] (by simp)
    repeat (first
      | (apply ws; exact rfl; exact rfl; exact rfl)
      | refine wc_seq ?_
      | refine wc_region ?_
      | refine wl_nil ?_
      | refine we_round ?_
      | refine we_then_wc ?_
      | (apply wi64; exact rfl; omega; omega; exact rfl; exact rfl)
      | (apply wfa; exact rfl; exact rfl; exact rfl; exact rfl)
      | (apply wct; exact rfl; omega; exact rfl; exact rfl)
      | (apply wcf; exact rfl; omega; exact rfl; exact rfl)
      | (apply wn; exact rfl; exact rfl)
      | (apply wlb (j := 0); exact rfl; exact rfl; exact rfl; exact rfl; exact rfl; exact rfl)
      | (apply wlb (j := 1); exact rfl; exact rfl; exact rfl; exact rfl; exact rfl; exact rfl)
      | (apply wlb (j := 2); exact rfl; exact rfl; exact rfl; exact rfl; exact rfl; exact rfl)
      | (apply wlb (j := 3); exact rfl; exact rfl; exact rfl; exact rfl; exact rfl; exact rfl)
      | (apply wln; exact rfl; exact rfl; exact rfl; exact rfl)
      | (apply wpu; exact rfl; exact rfl; exact rfl)
      | (apply wbx; exact rfl; exact rfl; exact rfl; intro _)
      | refine wc_block ?_
      | (apply wc_true; exact rfl)
      | (apply wc_false; exact rfl)
      | refine wc_skip ?_
      | refine wc_exit ?_
      | refine wc_ret ?_
      | refine we_then_exit ?_
      | refine we_then_ret ?_
      | refine we_in_normal ?_
      | refine we_in_ret ?_
      | refine we_in_here ?_
      | (apply we_in_there; exact rfl))
    refine wl_still rfl rfl rfl (od_indexAddr1 k rfl rfl rfl rfl rfl hlt) ?_
    repeat (first
      | (apply ws; exact rfl; exact rfl; exact rfl)
      | refine wc_seq ?_
      | refine wc_region ?_
      | refine wl_nil ?_
      | refine we_round ?_
      | refine we_then_wc ?_
      | (apply wi64; exact rfl; omega; omega; exact rfl; exact rfl)
      | (apply wfa; exact rfl; exact rfl; exact rfl; exact rfl)
      | (apply wct; exact rfl; omega; exact rfl; exact rfl)
      | (apply wcf; exact rfl; omega; exact rfl; exact rfl)
      | (apply wn; exact rfl; exact rfl)
      | (apply wlb (j := 0); exact rfl; exact rfl; exact rfl; exact rfl; exact rfl; exact rfl)
      | (apply wlb (j := 1); exact rfl; exact rfl; exact rfl; exact rfl; exact rfl; exact rfl)
      | (apply wlb (j := 2); exact rfl; exact rfl; exact rfl; exact rfl; exact rfl; exact rfl)
      | (apply wlb (j := 3); exact rfl; exact rfl; exact rfl; exact rfl; exact rfl; exact rfl)
      | (apply wln; exact rfl; exact rfl; exact rfl; exact rfl)
      | (apply wpu; exact rfl; exact rfl; exact rfl)
      | (apply wbx; exact rfl; exact rfl; exact rfl; intro _)
      | refine wc_block ?_
      | (apply wc_true; exact rfl)
      | (apply wc_false; exact rfl)
      | refine wc_skip ?_
      | refine wc_exit ?_
      | refine wc_ret ?_
      | refine we_then_exit ?_
      | refine we_then_ret ?_
      | refine we_in_normal ?_
      | refine we_in_ret ?_
      | refine we_in_here ?_
      | (apply we_in_there; exact rfl))
    refine wl_still rfl rfl rfl (od_loadO rfl rfl hb (by simp)) ?_
    repeat (first
      | (apply ws; exact rfl; exact rfl; exact rfl)
      | refine wc_seq ?_
      | refine wc_region ?_
      | refine wl_nil ?_
      | refine we_round ?_
      | refine we_then_wc ?_
      | (apply wi64; exact rfl; omega; omega; exact rfl; exact rfl)
      | (apply wfa; exact rfl; exact rfl; exact rfl; exact rfl)
      | (apply wct; exact rfl; omega; exact rfl; exact rfl)
      | (apply wcf; exact rfl; omega; exact rfl; exact rfl)
      | (apply wn; exact rfl; exact rfl)
      | (apply wlb (j := 0); exact rfl; exact rfl; exact rfl; exact rfl; exact rfl; exact rfl)
      | (apply wlb (j := 1); exact rfl; exact rfl; exact rfl; exact rfl; exact rfl; exact rfl)
      | (apply wlb (j := 2); exact rfl; exact rfl; exact rfl; exact rfl; exact rfl; exact rfl)
      | (apply wlb (j := 3); exact rfl; exact rfl; exact rfl; exact rfl; exact rfl; exact rfl)
      | (apply wln; exact rfl; exact rfl; exact rfl; exact rfl)
      | (apply wpu; exact rfl; exact rfl; exact rfl)
      | (apply wbx; exact rfl; exact rfl; exact rfl; intro _)
      | refine wc_block ?_
      | (apply wc_true; exact rfl)
      | (apply wc_false; exact rfl)
      | refine wc_skip ?_
      | refine wc_exit ?_
      | refine wc_ret ?_
      | refine we_then_exit ?_
      | refine we_then_ret ?_
      | refine we_in_normal ?_
      | refine we_in_ret ?_
      | refine we_in_here ?_
      | (apply we_in_there; exact rfl))
    refine wl_quiet rfl rfl rfl (od_call Tryd.call45 rfl (fun w _ => field_Mod zs[k] hz0 w)) ?_
    repeat (first
      | (apply ws; exact rfl; exact rfl; exact rfl)
      | refine wc_seq ?_
      | refine wc_region ?_
      | refine wl_nil ?_
      | refine we_round ?_
      | refine we_then_wc ?_
      | (apply wi64; exact rfl; omega; omega; exact rfl; exact rfl)
      | (apply wfa; exact rfl; exact rfl; exact rfl; exact rfl)
      | (apply wct; exact rfl; omega; exact rfl; exact rfl)
      | (apply wcf; exact rfl; omega; exact rfl; exact rfl)
      | (apply wn; exact rfl; exact rfl)
      | (apply wlb (j := 0); exact rfl; exact rfl; exact rfl; exact rfl; exact rfl; exact rfl)
      | (apply wlb (j := 1); exact rfl; exact rfl; exact rfl; exact rfl; exact rfl; exact rfl)
      | (apply wlb (j := 2); exact rfl; exact rfl; exact rfl; exact rfl; exact rfl; exact rfl)
      | (apply wlb (j := 3); exact rfl; exact rfl; exact rfl; exact rfl; exact rfl; exact rfl)
      | (apply wln; exact rfl; exact rfl; exact rfl; exact rfl)
      | (apply wpu; exact rfl; exact rfl; exact rfl)
      | (apply wbx; exact rfl; exact rfl; exact rfl; intro _)
      | refine wc_block ?_
      | (apply wc_true; exact rfl)
      | (apply wc_false; exact rfl)
      | refine wc_skip ?_
      | refine wc_exit ?_
      | refine wc_ret ?_
      | refine we_then_exit ?_
      | refine we_then_ret ?_
      | refine we_in_normal ?_
      | refine we_in_ret ?_
      | refine we_in_here ?_
      | (apply we_in_there; exact rfl))
    refine wl_still rfl rfl rfl (od_rem rfl rfl (by omega) (Int.tmod_eq_emod_of_nonneg (by omega))) ?_
    repeat (first
      | (apply ws; exact rfl; exact rfl; exact rfl)
      | refine wc_seq ?_
      | refine wc_region ?_
      | refine wl_nil ?_
      | refine we_round ?_
      | refine we_then_wc ?_
      | (apply wi64; exact rfl; omega; omega; exact rfl; exact rfl)
      | (apply wfa; exact rfl; exact rfl; exact rfl; exact rfl)
      | (apply wct; exact rfl; omega; exact rfl; exact rfl)
      | (apply wcf; exact rfl; omega; exact rfl; exact rfl)
      | (apply wn; exact rfl; exact rfl)
      | (apply wlb (j := 0); exact rfl; exact rfl; exact rfl; exact rfl; exact rfl; exact rfl)
      | (apply wlb (j := 1); exact rfl; exact rfl; exact rfl; exact rfl; exact rfl; exact rfl)
      | (apply wlb (j := 2); exact rfl; exact rfl; exact rfl; exact rfl; exact rfl; exact rfl)
      | (apply wlb (j := 3); exact rfl; exact rfl; exact rfl; exact rfl; exact rfl; exact rfl)
      | (apply wln; exact rfl; exact rfl; exact rfl; exact rfl)
      | (apply wpu; exact rfl; exact rfl; exact rfl)
      | (apply wbx; exact rfl; exact rfl; exact rfl; intro _)
      | refine wc_block ?_
      | (apply wc_true; exact rfl)
      | (apply wc_false; exact rfl)
      | refine wc_skip ?_
      | refine wc_exit ?_
      | refine wc_ret ?_
      | refine we_then_exit ?_
      | refine we_then_ret ?_
      | refine we_in_normal ?_
      | refine we_in_ret ?_
      | refine we_in_here ?_
      | (apply we_in_there; exact rfl))
    refine we_again (k + 1, (s + zs[k] % 1073741789) % 1073741789) ⟨by omega, by omega, by omega, ?_⟩ (by simp only; omega) ⟨rfl, rfl, rfl, rfl, trivial⟩ (List.Sublist.refl _)
    rw [hd] at hsum
    exact hsum
  · have ht := of_decide_eq_false ht
    have hk' : k = zs.length := by omega
    subst hk'
    have hsum : s = sumL 0 zs := by simpa [sumL] using hsum
    repeat (first
      | (apply ws; exact rfl; exact rfl; exact rfl)
      | refine wc_seq ?_
      | refine wc_region ?_
      | refine wl_nil ?_
      | refine we_round ?_
      | refine we_then_wc ?_
      | (apply wi64; exact rfl; omega; omega; exact rfl; exact rfl)
      | (apply wfa; exact rfl; exact rfl; exact rfl; exact rfl)
      | (apply wct; exact rfl; omega; exact rfl; exact rfl)
      | (apply wcf; exact rfl; omega; exact rfl; exact rfl)
      | (apply wn; exact rfl; exact rfl)
      | (apply wlb (j := 0); exact rfl; exact rfl; exact rfl; exact rfl; exact rfl; exact rfl)
      | (apply wlb (j := 1); exact rfl; exact rfl; exact rfl; exact rfl; exact rfl; exact rfl)
      | (apply wlb (j := 2); exact rfl; exact rfl; exact rfl; exact rfl; exact rfl; exact rfl)
      | (apply wlb (j := 3); exact rfl; exact rfl; exact rfl; exact rfl; exact rfl; exact rfl)
      | (apply wln; exact rfl; exact rfl; exact rfl; exact rfl)
      | (apply wpu; exact rfl; exact rfl; exact rfl)
      | (apply wbx; exact rfl; exact rfl; exact rfl; intro _)
      | refine wc_block ?_
      | (apply wc_true; exact rfl)
      | (apply wc_false; exact rfl)
      | refine wc_skip ?_
      | refine wc_exit ?_
      | refine wc_ret ?_
      | refine we_then_exit ?_
      | refine we_then_ret ?_
      | refine we_in_normal ?_
      | refine we_in_ret ?_
      | refine we_in_here ?_
      | (apply we_in_there; exact rfl))
    exact we_ret1 (Or.inl rfl) rfl rfl fun w h => ⟨by rw [hsum], h.ext_all⟩

end Go.Proofs.YtielloijdkoeiaaDoor
