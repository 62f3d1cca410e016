/- The reference of chapter 47: Tag, Read, Either. -/
import Derived.Test.YtielloijdkoeiaaDoorTb
namespace Go.Proofs.YtielloijdkoeiaaDoor
open Go Go.RowKit Go.Lib
set_option maxRecDepth 100000

theorem ref_Tag_ok {a b c doc no : Int} (k : Bool) (hr : rightP a b c) (ho : occP doc no) (w : World) : Fn 35 [silV a b c, .int .i64 doc, .int .i64 no, .bool k] w (Quiet (.tuple #[.int .i64 (tagN a b c (occH doc no) k), .int .i64 0]) w) := by
  refine fn_of (args := [.agg #[.int .i64 a, .int .i64 b, .int .i64 c], .int .i64 doc, .int .i64 no, .bool k]) Tryd.func35 rfl Tryd.ntmps35 rfl (Hp.start w) ?_
  have hh := hashP_range [116, 97, 103] (encL [.I doc, .I no])
  have hi : in64 (occH doc no) := by unfold in64; unfold occH; omega
  have ha : in64 a ∧ in64 b ∧ in64 c := by unfold in64; unfold rightP numP at hr; omega
  have hd : in64 doc := by unfold in64; unfold occP at ho; omega
  have hn : in64 no := by unfold in64; unfold occP at ho; omega
  have hH := ref_Hash47 doc no hd hn
  generalize occH doc no = H at *
  have hbh : in64 (b * H % 1073741789) := by unfold in64; omega
  have hpl : in64 (plainP a b H) := by unfold in64 plainP; omega
  repeat (first
    | (apply ws; exact rfl; exact rfl; exact rfl)
    | (apply wlab (j := 0); exact rfl; exact rfl; exact rfl; exact rfl; exact rfl; exact rfl; exact rfl)
    | (apply wq Tryd.call14; exact rfl; exact rfl; exact rfl; exact (fun w _ => ref_Right_t hr w))
    | (apply wq Tryd.call15; exact rfl; exact rfl; exact rfl; exact (fun w _ => ref_Occasion_t ho w))
    | refine wc_seq ?_
    | refine wc_region ?_
    | refine wl_nil ?_
    | refine we_round ?_
    | refine we_then_wc ?_
    | (apply wi64; exact rfl; omega; omega; exact rfl; exact rfl)
    | (apply wfa; exact rfl; exact rfl; exact rfl; exact rfl)
    | (apply wct; exact rfl; omega; exact rfl; exact rfl)
    | (apply wcf; exact rfl; omega; exact rfl; exact rfl)
    | (apply wn; exact rfl; exact rfl)
    | (apply wlb (j := 0); exact rfl; exact rfl; exact rfl; exact rfl; exact rfl; exact rfl)
    | (apply wlb (j := 1); exact rfl; exact rfl; exact rfl; exact rfl; exact rfl; exact rfl)
    | (apply wlb (j := 2); exact rfl; exact rfl; exact rfl; exact rfl; exact rfl; exact rfl)
    | (apply wlb (j := 3); exact rfl; exact rfl; exact rfl; exact rfl; exact rfl; exact rfl)
    | (apply wln; exact rfl; exact rfl; exact rfl; exact rfl)
    | (apply wpu; exact rfl; exact rfl; exact rfl)
    | (apply wbx; exact rfl; exact rfl; exact rfl; intro _)
    | refine wc_block ?_
    | (apply wc_true; exact rfl)
    | (apply wc_false; exact rfl)
    | refine wc_skip ?_
    | refine wc_exit ?_
    | refine wc_ret ?_
    | refine we_then_exit ?_
    | refine we_then_ret ?_
    | refine we_in_normal ?_
    | refine we_in_ret ?_
    | refine we_in_here ?_
    | (apply we_in_there; exact rfl))
  refine wc_plan _ none [(0, true), (1, true), (2, true), (3, true), (4, true), (5, true), (6, true), (7, true), (8, true), (9, true)] (by kernel_rfl) (List.Sublist.refl _) ?_
  repeat (first
    | (apply ps; exact rfl; exact rfl; exact rfl; exact rfl)
    | (apply pq Tryd.call60; exact rfl; exact rfl; exact rfl; exact rfl; exact (fun w _ => hH w))
    | (apply pq Tryd.call59; exact rfl; exact rfl; exact rfl; exact rfl; exact (fun w _ => rfield_Mul b H ha.2.1 hi w))
    | (apply pq Tryd.call58; exact rfl; exact rfl; exact rfl; exact rfl; exact (fun w _ => rfield_Add a (b * H % 1073741789) ha.1 hbh w))
    | (apply pfa; exact rfl; exact rfl; exact rfl; exact rfl; exact rfl)
    | (apply pi64; exact rfl; exact rfl; omega; omega; exact rfl; exact rfl)
    | (apply pct; exact rfl; exact rfl; omega; exact rfl; exact rfl)
    | (apply pcf; exact rfl; exact rfl; omega; exact rfl; exact rfl)
    | (apply wp_not; exact rfl; exact rfl; exact rfl)
    | (apply plb (j := 0); exact rfl; exact rfl; exact rfl; exact rfl; exact rfl; exact rfl; exact rfl)
    | (apply plb (j := 1); exact rfl; exact rfl; exact rfl; exact rfl; exact rfl; exact rfl; exact rfl)
    | (apply plb (j := 2); exact rfl; exact rfl; exact rfl; exact rfl; exact rfl; exact rfl; exact rfl)
    | (apply pln; exact rfl; exact rfl; exact rfl; exact rfl; exact rfl)
    | (apply ppu; exact rfl; exact rfl; exact rfl; exact rfl)
    | (apply pfs; exact rfl; exact rfl; exact rfl; exact rfl)
    | apply wp_nil)
  cases k with
  | false =>
    repeat (first
      | (apply ws; exact rfl; exact rfl; exact rfl)
      | refine wc_seq ?_
      | refine wc_region ?_
      | refine wl_nil ?_
      | refine we_round ?_
      | refine we_then_wc ?_
      | (apply wi64; exact rfl; omega; omega; exact rfl; exact rfl)
      | (apply wfa; exact rfl; exact rfl; exact rfl; exact rfl)
      | (apply wct; exact rfl; omega; exact rfl; exact rfl)
      | (apply wcf; exact rfl; omega; exact rfl; exact rfl)
      | (apply wn; exact rfl; exact rfl)
      | (apply wlb (j := 0); exact rfl; exact rfl; exact rfl; exact rfl; exact rfl; exact rfl)
      | (apply wlb (j := 1); exact rfl; exact rfl; exact rfl; exact rfl; exact rfl; exact rfl)
      | (apply wlb (j := 2); exact rfl; exact rfl; exact rfl; exact rfl; exact rfl; exact rfl)
      | (apply wlb (j := 3); exact rfl; exact rfl; exact rfl; exact rfl; exact rfl; exact rfl)
      | (apply wln; exact rfl; exact rfl; exact rfl; exact rfl)
      | (apply wpu; exact rfl; exact rfl; exact rfl)
      | (apply wbx; exact rfl; exact rfl; exact rfl; intro _)
      | refine wc_block ?_
      | (apply wc_true; exact rfl)
      | (apply wc_false; exact rfl)
      | refine wc_skip ?_
      | refine wc_exit ?_
      | refine wc_ret ?_
      | refine we_then_exit ?_
      | refine we_then_ret ?_
      | refine we_in_normal ?_
      | refine we_in_ret ?_
      | refine we_in_here ?_
      | (apply we_in_there; exact rfl))
    exact we_ret2 (Or.inl rfl) rfl rfl rfl fun w' h => ⟨rfl, h.ext_all⟩
  | true =>
    repeat (first
      | (apply ws; exact rfl; exact rfl; exact rfl)
      | (apply wq Tryd.call58; exact rfl; exact rfl; exact rfl; exact (fun w _ => rfield_Add (plainP a b H) c hpl ha.2.2 w))
      | refine wc_seq ?_
      | refine wc_region ?_
      | refine wl_nil ?_
      | refine we_round ?_
      | refine we_then_wc ?_
      | (apply wi64; exact rfl; omega; omega; exact rfl; exact rfl)
      | (apply wfa; exact rfl; exact rfl; exact rfl; exact rfl)
      | (apply wct; exact rfl; omega; exact rfl; exact rfl)
      | (apply wcf; exact rfl; omega; exact rfl; exact rfl)
      | (apply wn; exact rfl; exact rfl)
      | (apply wlb (j := 0); exact rfl; exact rfl; exact rfl; exact rfl; exact rfl; exact rfl)
      | (apply wlb (j := 1); exact rfl; exact rfl; exact rfl; exact rfl; exact rfl; exact rfl)
      | (apply wlb (j := 2); exact rfl; exact rfl; exact rfl; exact rfl; exact rfl; exact rfl)
      | (apply wlb (j := 3); exact rfl; exact rfl; exact rfl; exact rfl; exact rfl; exact rfl)
      | (apply wln; exact rfl; exact rfl; exact rfl; exact rfl)
      | (apply wpu; exact rfl; exact rfl; exact rfl)
      | (apply wbx; exact rfl; exact rfl; exact rfl; intro _)
      | refine wc_block ?_
      | (apply wc_true; exact rfl)
      | (apply wc_false; exact rfl)
      | refine wc_skip ?_
      | refine wc_exit ?_
      | refine wc_ret ?_
      | refine we_then_exit ?_
      | refine we_then_ret ?_
      | refine we_in_normal ?_
      | refine we_in_ret ?_
      | refine we_in_here ?_
      | (apply we_in_there; exact rfl))
    exact we_ret2 (Or.inl rfl) rfl rfl rfl fun w' h => ⟨rfl, h.ext_all⟩

theorem ref_Tag_arg {a b c doc no : Int} (k : Bool) (hr : rightP a b c) (ho : ¬ occP doc no) (w : World) : Fn 35 [silV a b c, .int .i64 doc, .int .i64 no, .bool k] w (Quiet (.tuple #[.int .i64 0, .int .i64 1]) w) := by
  refine fn_of (args := [.agg #[.int .i64 a, .int .i64 b, .int .i64 c], .int .i64 doc, .int .i64 no, .bool k]) Tryd.func35 rfl Tryd.ntmps35 rfl (Hp.start w) ?_
  repeat (first
    | (apply ws; exact rfl; exact rfl; exact rfl)
    | (apply wlab (j := 0); exact rfl; exact rfl; exact rfl; exact rfl; exact rfl; exact rfl; exact rfl)
    | (apply wq Tryd.call14; exact rfl; exact rfl; exact rfl; exact (fun w _ => ref_Right_t hr w))
    | (apply wq Tryd.call15; exact rfl; exact rfl; exact rfl; exact (fun w _ => ref_Occasion_f ho w))
    | refine wc_seq ?_
    | refine wc_region ?_
    | refine wl_nil ?_
    | refine we_round ?_
    | refine we_then_wc ?_
    | (apply wi64; exact rfl; omega; omega; exact rfl; exact rfl)
    | (apply wfa; exact rfl; exact rfl; exact rfl; exact rfl)
    | (apply wct; exact rfl; omega; exact rfl; exact rfl)
    | (apply wcf; exact rfl; omega; exact rfl; exact rfl)
    | (apply wn; exact rfl; exact rfl)
    | (apply wlb (j := 0); exact rfl; exact rfl; exact rfl; exact rfl; exact rfl; exact rfl)
    | (apply wlb (j := 1); exact rfl; exact rfl; exact rfl; exact rfl; exact rfl; exact rfl)
    | (apply wlb (j := 2); exact rfl; exact rfl; exact rfl; exact rfl; exact rfl; exact rfl)
    | (apply wlb (j := 3); exact rfl; exact rfl; exact rfl; exact rfl; exact rfl; exact rfl)
    | (apply wln; exact rfl; exact rfl; exact rfl; exact rfl)
    | (apply wpu; exact rfl; exact rfl; exact rfl)
    | (apply wbx; exact rfl; exact rfl; exact rfl; intro _)
    | refine wc_block ?_
    | (apply wc_true; exact rfl)
    | (apply wc_false; exact rfl)
    | refine wc_skip ?_
    | refine wc_exit ?_
    | refine wc_ret ?_
    | refine we_then_exit ?_
    | refine we_then_ret ?_
    | refine we_in_normal ?_
    | refine we_in_ret ?_
    | refine we_in_here ?_
    | (apply we_in_there; exact rfl))
  exact we_ret2 (Or.inl rfl) rfl rfl rfl fun w' h => ⟨rfl, h.ext_all⟩
theorem ref_Tag_silent {a b c doc no : Int} (k : Bool) (hr : ¬ rightP a b c) (w : World) : Fn 35 [silV a b c, .int .i64 doc, .int .i64 no, .bool k] w (Quiet (.tuple #[.int .i64 0, .int .i64 470]) w) := by
  refine fn_of (args := [.agg #[.int .i64 a, .int .i64 b, .int .i64 c], .int .i64 doc, .int .i64 no, .bool k]) Tryd.func35 rfl Tryd.ntmps35 rfl (Hp.start w) ?_
  repeat (first
    | (apply ws; exact rfl; exact rfl; exact rfl)
    | (apply wlab (j := 0); exact rfl; exact rfl; exact rfl; exact rfl; exact rfl; exact rfl; exact rfl)
    | (apply wq Tryd.call14; exact rfl; exact rfl; exact rfl; exact (fun w _ => ref_Right_f hr w))
    | refine wc_seq ?_
    | refine wc_region ?_
    | refine wl_nil ?_
    | refine we_round ?_
    | refine we_then_wc ?_
    | (apply wi64; exact rfl; omega; omega; exact rfl; exact rfl)
    | (apply wfa; exact rfl; exact rfl; exact rfl; exact rfl)
    | (apply wct; exact rfl; omega; exact rfl; exact rfl)
    | (apply wcf; exact rfl; omega; exact rfl; exact rfl)
    | (apply wn; exact rfl; exact rfl)
    | (apply wlb (j := 0); exact rfl; exact rfl; exact rfl; exact rfl; exact rfl; exact rfl)
    | (apply wlb (j := 1); exact rfl; exact rfl; exact rfl; exact rfl; exact rfl; exact rfl)
    | (apply wlb (j := 2); exact rfl; exact rfl; exact rfl; exact rfl; exact rfl; exact rfl)
    | (apply wlb (j := 3); exact rfl; exact rfl; exact rfl; exact rfl; exact rfl; exact rfl)
    | (apply wln; exact rfl; exact rfl; exact rfl; exact rfl)
    | (apply wpu; exact rfl; exact rfl; exact rfl)
    | (apply wbx; exact rfl; exact rfl; exact rfl; intro _)
    | refine wc_block ?_
    | (apply wc_true; exact rfl)
    | (apply wc_false; exact rfl)
    | refine wc_skip ?_
    | refine wc_exit ?_
    | refine wc_ret ?_
    | refine we_then_exit ?_
    | refine we_then_ret ?_
    | refine we_in_normal ?_
    | refine we_in_ret ?_
    | refine we_in_here ?_
    | (apply we_in_there; exact rfl))
  exact we_ret2 (Or.inl rfl) rfl rfl rfl fun w' h => ⟨rfl, h.ext_all⟩
theorem ref_Tag (a b c doc no : Int) (k : Bool) (w : World) : Fn 35 [silV a b c, .int .i64 doc, .int .i64 no, .bool k] w (Quiet (.tuple #[.int .i64 (tagV a b c doc no k), .int .i64 (onE a b c doc no)]) w) := by
  unfold tagV onE
  by_cases hr : rightP a b c
  · by_cases ho : occP doc no
    · rw [if_pos hr, if_pos ho, if_pos ⟨hr, ho⟩]
      exact ref_Tag_ok k hr ho w
    · rw [if_pos hr, if_neg ho, if_neg (fun h => ho h.2)]
      exact ref_Tag_arg k hr ho w
  · rw [if_neg hr, if_neg (fun h => hr h.1)]
    exact ref_Tag_silent k hr w

theorem ref_Read_ok {a b c doc no t : Int} {r : Bool × Bool} (hr : rightP a b c) (ho : occP doc no) (hn : numP t) (e : readN a b c (occH doc no) t = r) (w : World) :
    Fn 36 [silV a b c, .int .i64 doc, .int .i64 no, .int .i64 t] w (Quiet (.tuple #[.bool r.1, .bool r.2, .int .i64 0]) w) := by
  refine fn_of (args := [.agg #[.int .i64 a, .int .i64 b, .int .i64 c], .int .i64 doc, .int .i64 no, .int .i64 t]) Tryd.func36 rfl Tryd.ntmps36 rfl (Hp.start w) ?_
  have h1 := fun w => ref_Tag_ok false hr ho w
  have h2 := fun w => ref_Tag_ok true hr ho w
  have hne : tagN a b c (occH doc no) true ≠ tagN a b c (occH doc no) false := by
    unfold rightP numP at hr
    generalize occH doc no = H
    show (plainP a b H + c) % 1073741789 ≠ plainP a b H
    unfold plainP
    generalize b * H % 1073741789 = B
    omega
  unfold readN at e
  generalize tagN a b c (occH doc no) true = T at *
  generalize tagN a b c (occH doc no) false = F at *
  by_cases hf : t = F
  · rw [if_pos hf] at e
    subst e
    have hT : t ≠ T := fun h => hne (h.symm.trans hf)
    repeat (first
      | (apply ws; exact rfl; exact rfl; exact rfl)
      | (apply wlab (j := 0); exact rfl; exact rfl; exact rfl; exact rfl; exact rfl; exact rfl; exact rfl)
      | (apply wq Tryd.call35; exact rfl; exact rfl; exact rfl; exact (fun w _ => h1 w))
      | (apply wq Tryd.call35; exact rfl; exact rfl; exact rfl; exact (fun w _ => h2 w))
      | (apply wq Tryd.call16; exact rfl; exact rfl; exact rfl; exact (fun w _ => ref_Number_t hn w))
      | refine wc_seq ?_
      | refine wc_region ?_
      | refine wl_nil ?_
      | refine we_round ?_
      | refine we_then_wc ?_
      | (apply wi64; exact rfl; omega; omega; exact rfl; exact rfl)
      | (apply wfa; exact rfl; exact rfl; exact rfl; exact rfl)
      | (apply wct; exact rfl; omega; exact rfl; exact rfl)
      | (apply wcf; exact rfl; omega; exact rfl; exact rfl)
      | (apply wn; exact rfl; exact rfl)
      | (apply wlb (j := 0); exact rfl; exact rfl; exact rfl; exact rfl; exact rfl; exact rfl)
      | (apply wlb (j := 1); exact rfl; exact rfl; exact rfl; exact rfl; exact rfl; exact rfl)
      | (apply wlb (j := 2); exact rfl; exact rfl; exact rfl; exact rfl; exact rfl; exact rfl)
      | (apply wlb (j := 3); exact rfl; exact rfl; exact rfl; exact rfl; exact rfl; exact rfl)
      | (apply wln; exact rfl; exact rfl; exact rfl; exact rfl)
      | (apply wpu; exact rfl; exact rfl; exact rfl)
      | (apply wbx; exact rfl; exact rfl; exact rfl; intro _)
      | refine wc_block ?_
      | (apply wc_true; exact rfl)
      | (apply wc_false; exact rfl)
      | refine wc_skip ?_
      | refine wc_exit ?_
      | refine wc_ret ?_
      | refine we_then_exit ?_
      | refine we_then_ret ?_
      | refine we_in_normal ?_
      | refine we_in_ret ?_
      | refine we_in_here ?_
      | (apply we_in_there; exact rfl))
    exact we_ret3 (Or.inl rfl) rfl rfl rfl rfl fun w' h => ⟨rfl, h.ext_all⟩
  · rw [if_neg hf] at e
    by_cases hT : t = T
    · rw [if_pos hT] at e
      subst e
      repeat (first
        | (apply ws; exact rfl; exact rfl; exact rfl)
        | (apply wlab (j := 0); exact rfl; exact rfl; exact rfl; exact rfl; exact rfl; exact rfl; exact rfl)
        | (apply wq Tryd.call35; exact rfl; exact rfl; exact rfl; exact (fun w _ => h1 w))
        | (apply wq Tryd.call35; exact rfl; exact rfl; exact rfl; exact (fun w _ => h2 w))
        | (apply wq Tryd.call16; exact rfl; exact rfl; exact rfl; exact (fun w _ => ref_Number_t hn w))
        | refine wc_seq ?_
        | refine wc_region ?_
        | refine wl_nil ?_
        | refine we_round ?_
        | refine we_then_wc ?_
        | (apply wi64; exact rfl; omega; omega; exact rfl; exact rfl)
        | (apply wfa; exact rfl; exact rfl; exact rfl; exact rfl)
        | (apply wct; exact rfl; omega; exact rfl; exact rfl)
        | (apply wcf; exact rfl; omega; exact rfl; exact rfl)
        | (apply wn; exact rfl; exact rfl)
        | (apply wlb (j := 0); exact rfl; exact rfl; exact rfl; exact rfl; exact rfl; exact rfl)
        | (apply wlb (j := 1); exact rfl; exact rfl; exact rfl; exact rfl; exact rfl; exact rfl)
        | (apply wlb (j := 2); exact rfl; exact rfl; exact rfl; exact rfl; exact rfl; exact rfl)
        | (apply wlb (j := 3); exact rfl; exact rfl; exact rfl; exact rfl; exact rfl; exact rfl)
        | (apply wln; exact rfl; exact rfl; exact rfl; exact rfl)
        | (apply wpu; exact rfl; exact rfl; exact rfl)
        | (apply wbx; exact rfl; exact rfl; exact rfl; intro _)
        | refine wc_block ?_
        | (apply wc_true; exact rfl)
        | (apply wc_false; exact rfl)
        | refine wc_skip ?_
        | refine wc_exit ?_
        | refine wc_ret ?_
        | refine we_then_exit ?_
        | refine we_then_ret ?_
        | refine we_in_normal ?_
        | refine we_in_ret ?_
        | refine we_in_here ?_
        | (apply we_in_there; exact rfl))
      exact we_ret3 (Or.inl rfl) rfl rfl rfl rfl fun w' h => ⟨rfl, h.ext_all⟩
    · rw [if_neg hT] at e
      subst e
      repeat (first
        | (apply ws; exact rfl; exact rfl; exact rfl)
        | (apply wlab (j := 0); exact rfl; exact rfl; exact rfl; exact rfl; exact rfl; exact rfl; exact rfl)
        | (apply wq Tryd.call35; exact rfl; exact rfl; exact rfl; exact (fun w _ => h1 w))
        | (apply wq Tryd.call35; exact rfl; exact rfl; exact rfl; exact (fun w _ => h2 w))
        | (apply wq Tryd.call16; exact rfl; exact rfl; exact rfl; exact (fun w _ => ref_Number_t hn w))
        | refine wc_seq ?_
        | refine wc_region ?_
        | refine wl_nil ?_
        | refine we_round ?_
        | refine we_then_wc ?_
        | (apply wi64; exact rfl; omega; omega; exact rfl; exact rfl)
        | (apply wfa; exact rfl; exact rfl; exact rfl; exact rfl)
        | (apply wct; exact rfl; omega; exact rfl; exact rfl)
        | (apply wcf; exact rfl; omega; exact rfl; exact rfl)
        | (apply wn; exact rfl; exact rfl)
        | (apply wlb (j := 0); exact rfl; exact rfl; exact rfl; exact rfl; exact rfl; exact rfl)
        | (apply wlb (j := 1); exact rfl; exact rfl; exact rfl; exact rfl; exact rfl; exact rfl)
        | (apply wlb (j := 2); exact rfl; exact rfl; exact rfl; exact rfl; exact rfl; exact rfl)
        | (apply wlb (j := 3); exact rfl; exact rfl; exact rfl; exact rfl; exact rfl; exact rfl)
        | (apply wln; exact rfl; exact rfl; exact rfl; exact rfl)
        | (apply wpu; exact rfl; exact rfl; exact rfl)
        | (apply wbx; exact rfl; exact rfl; exact rfl; intro _)
        | refine wc_block ?_
        | (apply wc_true; exact rfl)
        | (apply wc_false; exact rfl)
        | refine wc_skip ?_
        | refine wc_exit ?_
        | refine wc_ret ?_
        | refine we_then_exit ?_
        | refine we_then_ret ?_
        | refine we_in_normal ?_
        | refine we_in_ret ?_
        | refine we_in_here ?_
        | (apply we_in_there; exact rfl))
      exact we_ret3 (Or.inl rfl) rfl rfl rfl rfl fun w' h => ⟨rfl, h.ext_all⟩

theorem ref_Read (a b c doc no t : Int) (w : World) : Fn 36 [silV a b c, .int .i64 doc, .int .i64 no, .int .i64 t] w (Quiet (readT (readV a b c doc no t)) w) := by
  unfold readV readT
  by_cases hr : rightP a b c
  · by_cases ho : occP doc no
    · by_cases hn : numP t
      · rw [if_pos hr, if_pos ho, if_pos hn]
        exact ref_Read_ok hr ho hn rfl w
      · rw [if_pos hr, if_pos ho, if_neg hn]
        have h1 := fun w => ref_Tag_ok false hr ho w
        generalize tagN a b c (occH doc no) false = F at *
        refine fn_of (args := [.agg #[.int .i64 a, .int .i64 b, .int .i64 c], .int .i64 doc, .int .i64 no, .int .i64 t]) Tryd.func36 rfl Tryd.ntmps36 rfl (Hp.start w) ?_
        repeat (first
          | (apply ws; exact rfl; exact rfl; exact rfl)
          | (apply wlab (j := 0); exact rfl; exact rfl; exact rfl; exact rfl; exact rfl; exact rfl; exact rfl)
          | (apply wq Tryd.call35; exact rfl; exact rfl; exact rfl; exact (fun w _ => h1 w))
          | (apply wq Tryd.call16; exact rfl; exact rfl; exact rfl; exact (fun w _ => ref_Number_f hn w))
          | refine wc_seq ?_
          | refine wc_region ?_
          | refine wl_nil ?_
          | refine we_round ?_
          | refine we_then_wc ?_
          | (apply wi64; exact rfl; omega; omega; exact rfl; exact rfl)
          | (apply wfa; exact rfl; exact rfl; exact rfl; exact rfl)
          | (apply wct; exact rfl; omega; exact rfl; exact rfl)
          | (apply wcf; exact rfl; omega; exact rfl; exact rfl)
          | (apply wn; exact rfl; exact rfl)
          | (apply wlb (j := 0); exact rfl; exact rfl; exact rfl; exact rfl; exact rfl; exact rfl)
          | (apply wlb (j := 1); exact rfl; exact rfl; exact rfl; exact rfl; exact rfl; exact rfl)
          | (apply wlb (j := 2); exact rfl; exact rfl; exact rfl; exact rfl; exact rfl; exact rfl)
          | (apply wlb (j := 3); exact rfl; exact rfl; exact rfl; exact rfl; exact rfl; exact rfl)
          | (apply wln; exact rfl; exact rfl; exact rfl; exact rfl)
          | (apply wpu; exact rfl; exact rfl; exact rfl)
          | (apply wbx; exact rfl; exact rfl; exact rfl; intro _)
          | refine wc_block ?_
          | (apply wc_true; exact rfl)
          | (apply wc_false; exact rfl)
          | refine wc_skip ?_
          | refine wc_exit ?_
          | refine wc_ret ?_
          | refine we_then_exit ?_
          | refine we_then_ret ?_
          | refine we_in_normal ?_
          | refine we_in_ret ?_
          | refine we_in_here ?_
          | (apply we_in_there; exact rfl))
        exact we_ret3 (Or.inl rfl) rfl rfl rfl rfl fun w' h => ⟨rfl, h.ext_all⟩
    · rw [if_pos hr, if_neg ho]
      refine fn_of (args := [.agg #[.int .i64 a, .int .i64 b, .int .i64 c], .int .i64 doc, .int .i64 no, .int .i64 t]) Tryd.func36 rfl Tryd.ntmps36 rfl (Hp.start w) ?_
      repeat (first
        | (apply ws; exact rfl; exact rfl; exact rfl)
        | (apply wlab (j := 0); exact rfl; exact rfl; exact rfl; exact rfl; exact rfl; exact rfl; exact rfl)
        | (apply wq Tryd.call35; exact rfl; exact rfl; exact rfl; exact (fun w _ => ref_Tag_arg false hr ho w))
        | refine wc_seq ?_
        | refine wc_region ?_
        | refine wl_nil ?_
        | refine we_round ?_
        | refine we_then_wc ?_
        | (apply wi64; exact rfl; omega; omega; exact rfl; exact rfl)
        | (apply wfa; exact rfl; exact rfl; exact rfl; exact rfl)
        | (apply wct; exact rfl; omega; exact rfl; exact rfl)
        | (apply wcf; exact rfl; omega; exact rfl; exact rfl)
        | (apply wn; exact rfl; exact rfl)
        | (apply wlb (j := 0); exact rfl; exact rfl; exact rfl; exact rfl; exact rfl; exact rfl)
        | (apply wlb (j := 1); exact rfl; exact rfl; exact rfl; exact rfl; exact rfl; exact rfl)
        | (apply wlb (j := 2); exact rfl; exact rfl; exact rfl; exact rfl; exact rfl; exact rfl)
        | (apply wlb (j := 3); exact rfl; exact rfl; exact rfl; exact rfl; exact rfl; exact rfl)
        | (apply wln; exact rfl; exact rfl; exact rfl; exact rfl)
        | (apply wpu; exact rfl; exact rfl; exact rfl)
        | (apply wbx; exact rfl; exact rfl; exact rfl; intro _)
        | refine wc_block ?_
        | (apply wc_true; exact rfl)
        | (apply wc_false; exact rfl)
        | refine wc_skip ?_
        | refine wc_exit ?_
        | refine wc_ret ?_
        | refine we_then_exit ?_
        | refine we_then_ret ?_
        | refine we_in_normal ?_
        | refine we_in_ret ?_
        | refine we_in_here ?_
        | (apply we_in_there; exact rfl))
      exact we_ret3 (Or.inl rfl) rfl rfl rfl rfl fun w' h => ⟨rfl, h.ext_all⟩
  · rw [if_neg hr]
    refine fn_of (args := [.agg #[.int .i64 a, .int .i64 b, .int .i64 c], .int .i64 doc, .int .i64 no, .int .i64 t]) Tryd.func36 rfl Tryd.ntmps36 rfl (Hp.start w) ?_
    repeat (first
      | (apply ws; exact rfl; exact rfl; exact rfl)
      | (apply wlab (j := 0); exact rfl; exact rfl; exact rfl; exact rfl; exact rfl; exact rfl; exact rfl)
      | (apply wq Tryd.call35; exact rfl; exact rfl; exact rfl; exact (fun w _ => ref_Tag_silent false hr w))
      | refine wc_seq ?_
      | refine wc_region ?_
      | refine wl_nil ?_
      | refine we_round ?_
      | refine we_then_wc ?_
      | (apply wi64; exact rfl; omega; omega; exact rfl; exact rfl)
      | (apply wfa; exact rfl; exact rfl; exact rfl; exact rfl)
      | (apply wct; exact rfl; omega; exact rfl; exact rfl)
      | (apply wcf; exact rfl; omega; exact rfl; exact rfl)
      | (apply wn; exact rfl; exact rfl)
      | (apply wlb (j := 0); exact rfl; exact rfl; exact rfl; exact rfl; exact rfl; exact rfl)
      | (apply wlb (j := 1); exact rfl; exact rfl; exact rfl; exact rfl; exact rfl; exact rfl)
      | (apply wlb (j := 2); exact rfl; exact rfl; exact rfl; exact rfl; exact rfl; exact rfl)
      | (apply wlb (j := 3); exact rfl; exact rfl; exact rfl; exact rfl; exact rfl; exact rfl)
      | (apply wln; exact rfl; exact rfl; exact rfl; exact rfl)
      | (apply wpu; exact rfl; exact rfl; exact rfl)
      | (apply wbx; exact rfl; exact rfl; exact rfl; intro _)
      | refine wc_block ?_
      | (apply wc_true; exact rfl)
      | (apply wc_false; exact rfl)
      | refine wc_skip ?_
      | refine wc_exit ?_
      | refine wc_ret ?_
      | refine we_then_exit ?_
      | refine we_then_ret ?_
      | refine we_in_normal ?_
      | refine we_in_ret ?_
      | refine we_in_here ?_
      | (apply we_in_there; exact rfl))
    exact we_ret3 (Or.inl rfl) rfl rfl rfl rfl fun w' h => ⟨rfl, h.ext_all⟩
theorem ref_Read_silent {a b c doc no t : Int} (hr : ¬ rightP a b c) (w : World) :
    Fn 36 [silV a b c, .int .i64 doc, .int .i64 no, .int .i64 t] w (Quiet (.tuple #[.bool false, .bool false, .int .i64 470]) w) := by
  have := ref_Read a b c doc no t w
  rw [readV, if_neg hr] at this
  exact this
end Go.Proofs.YtielloijdkoeiaaDoor
