/- The statement of chapter 47: a tag can mean both. -/
import Derived.Test.YtielloijdkoeiaaDoorHa
namespace Go.Proofs.YtielloijdkoeiaaDoor
open Go Go.RowKit Go.Lib
set_option maxRecDepth 100000

theorem ref_Right_t {a b c : Int} (h : rightP a b c) (w : World) : Fn 14 [silV a b c] w (Quiet (.bool true) w) := by have := ref_Right a b c w; simpa [h] using this
theorem ref_Right_f {a b c : Int} (h : ¬ rightP a b c) (w : World) : Fn 14 [silV a b c] w (Quiet (.bool false) w) := by have := ref_Right a b c w; simpa [h] using this
theorem ref_Occasion_t {a b : Int} (h : occP a b) (w : World) : Fn 15 [.int .i64 a, .int .i64 b] w (Quiet (.bool true) w) := by have := ref_Occasion a b w; simpa [h] using this
theorem ref_Occasion_f {a b : Int} (h : ¬ occP a b) (w : World) : Fn 15 [.int .i64 a, .int .i64 b] w (Quiet (.bool false) w) := by have := ref_Occasion a b w; simpa [h] using this

theorem either_no {a b c doc no t : Int} {k : Bool} (hr : rightP a b c) (ho : occP doc no) (hn : numP t) (e : readN a b c (occH doc no) t = (k, false)) (w : World) (hL : Laid w) :
    Fn 18 [.int .i64 doc, .int .i64 no, .int .i64 t, silV a b c] w (Quiet (.tuple #[silV 0 0 0, .bool false, .int .i64 0]) w) := by
  have := duress_Either doc no t a b c w hL
  rw [eitherV, if_pos ⟨ho, hn⟩, if_pos hr, e] at this
  exact this
theorem either_f {a b c doc no t : Int} (hr : rightP a b c) (ho : occP doc no) (hn : numP t) (e : readN a b c (occH doc no) t = (false, true)) (w : World) (hL : Laid w) :
    Fn 18 [.int .i64 doc, .int .i64 no, .int .i64 t, silV a b c] w (Quiet (.tuple #[silV ((a + -c) % 1073741789) b c, .bool true, .int .i64 0]) w) := by
  have := duress_Either doc no t a b c w hL
  rw [eitherV, if_pos ⟨ho, hn⟩, if_pos hr, e] at this
  exact this
theorem either_t {a b c doc no t : Int} (hr : rightP a b c) (ho : occP doc no) (hn : numP t) (e : readN a b c (occH doc no) t = (true, true)) (w : World) (hL : Laid w) :
    Fn 18 [.int .i64 doc, .int .i64 no, .int .i64 t, silV a b c] w (Quiet (.tuple #[silV ((a + c) % 1073741789) b c, .bool true, .int .i64 0]) w) := by
  have := duress_Either doc no t a b c w hL
  rw [eitherV, if_pos ⟨ho, hn⟩, if_pos hr, e] at this
  exact this

/-- The plain law: the other meaning. -/
theorem read_inv_f {a b c h t : Int} (e : readN a b c h t = (false, true)) : t = plainP a b h := by
  by_cases h1 : t = tagN a b c h false
  · exact h1
  · unfold readN at e
    rw [if_neg h1] at e
    split at e <;> simp at e
theorem read_inv_t {a b c h t : Int} (e : readN a b c h t = (true, true)) : t = (plainP a b h + c) % 1073741789 := by
  by_cases h1 : t = tagN a b c h false
  · unfold readN at e
    rw [if_pos h1] at e
    simp at e
  · unfold readN at e
    rw [if_neg h1] at e
    by_cases h2 : t = tagN a b c h true
    · exact h2
    · rw [if_neg h2] at e
      simp at e
theorem other_f {a b c h t : Int} (hr : rightP a b c) (e : readN a b c h t = (false, true)) : rightP ((a + -c) % 1073741789) b c ∧ readN ((a + -c) % 1073741789) b c h t = (true, true) ∧ ((a + -c) % 1073741789 + c) % 1073741789 = a := by
  unfold rightP numP at hr ⊢
  have ht := read_inv_f e
  have n1 : ¬ t = plainP ((a + -c) % 1073741789) b h := by unfold plainP at *; generalize b * h % 1073741789 = B at ht ⊢; omega
  have n2 : t = (plainP ((a + -c) % 1073741789) b h + c) % 1073741789 := by unfold plainP at *; generalize b * h % 1073741789 = B at ht ⊢; omega
  refine ⟨by omega, ?_, by omega⟩
  unfold readN
  rw [if_neg (show ¬ t = tagN _ b c h false from n1), if_pos (show t = tagN _ b c h true from n2)]
theorem other_t {a b c h t : Int} (hr : rightP a b c) (e : readN a b c h t = (true, true)) : rightP ((a + c) % 1073741789) b c ∧ readN ((a + c) % 1073741789) b c h t = (false, true) ∧ ((a + c) % 1073741789 + -c) % 1073741789 = a := by
  unfold rightP numP at hr ⊢
  have ht := read_inv_t e
  have n1 : t = plainP ((a + c) % 1073741789) b h := by unfold plainP at *; generalize b * h % 1073741789 = B at ht ⊢; omega
  refine ⟨by omega, ?_, by omega⟩
  unfold readN
  rw [if_pos (show t = tagN _ b c h false from n1)]

theorem law_Either (a b c doc no t : Int) (w : World) (hL : Laid w) : Fn 3 [silV a b c, .int .i64 doc, .int .i64 no, .int .i64 t] w (Quiet (.bool true) w) := by
  refine fn_of (args := [.agg #[.int .i64 a, .int .i64 b, .int .i64 c], .int .i64 doc, .int .i64 no, .int .i64 t]) Tryd.func3 rfl Tryd.ntmps3 rfl (Hp.start w) ?_
  by_cases hr : rightP a b c
  · by_cases ho : occP doc no
    · by_cases hn : numP t
      · generalize hR : readN a b c (occH doc no) t = R
        obtain ⟨k, o⟩ := R
        cases o with
        | false =>
          repeat (first
            | (apply ws; exact rfl; exact rfl; exact rfl)
            | refine wl_still rfl rfl rfl (od_struct [.int .i64 0, .int .i64 0, .int .i64 0] [.int .i64 0, .int .i64 0, .int .i64 0] rfl rfl Tryd.zeroValue23 rfl rfl) ?_
            | (apply wal Tryd.zeroValue23 rfl; exact rfl; exact rfl; intro bz)
            | (apply wsw (j := 0); exact rfl; exact rfl; exact rfl; exact rfl; exact rfl; exact plain3 _ _ _; exact rfl; exact rfl)
            | (apply wlab (j := 0); exact rfl; exact rfl; exact rfl; exact rfl; exact rfl; exact rfl; exact rfl)
            | (apply wlab (j := 1); exact rfl; exact rfl; exact rfl; exact rfl; exact rfl; exact rfl; exact rfl)
            | (apply wlab (j := 2); exact rfl; exact rfl; exact rfl; exact rfl; exact rfl; exact rfl; exact rfl)
            | (apply wlab (j := 3); exact rfl; exact rfl; exact rfl; exact rfl; exact rfl; exact rfl; exact rfl)
            | (apply wq Tryd.call13; exact rfl; exact rfl; exact rfl; exact (fun w' h => sane47 w' (hL.ext h.ext_all)))
            | (apply wq Tryd.call14; exact rfl; exact rfl; exact rfl; exact (fun w _ => ref_Right_t hr w))
            | (apply wq Tryd.call15; exact rfl; exact rfl; exact rfl; exact (fun w _ => ref_Occasion_t ho w))
            | (apply wq Tryd.call16; exact rfl; exact rfl; exact rfl; exact (fun w _ => ref_Number_t hn w))
            | (apply wq Tryd.call17; exact rfl; exact rfl; exact rfl; exact (fun w' h => read_ok hr ho hn hR w' (hL.ext h.ext_all)))
            | (apply wq Tryd.call18; exact rfl; exact rfl; exact rfl; exact (fun w' h => either_no hr ho hn hR w' (hL.ext h.ext_all)))
            | refine wl_still rfl rfl rfl (od_eqBool (r := false) (Or.inr ⟨rfl, rfl⟩) rfl rfl rfl) ?_
            | refine wl_still rfl rfl rfl (od_eq23 (r := true) rfl rfl rfl) ?_
            | refine wc_seq ?_
            | refine wc_region ?_
            | refine wl_nil ?_
            | refine we_round ?_
            | refine we_then_wc ?_
            | (apply wi64; exact rfl; omega; omega; exact rfl; exact rfl)
            | (apply wfa; exact rfl; exact rfl; exact rfl; exact rfl)
            | (apply wct; exact rfl; omega; exact rfl; exact rfl)
            | (apply wcf; exact rfl; omega; exact rfl; exact rfl)
            | (apply wn; exact rfl; exact rfl)
            | (apply wlb (j := 0); exact rfl; exact rfl; exact rfl; exact rfl; exact rfl; exact rfl)
            | (apply wlb (j := 1); exact rfl; exact rfl; exact rfl; exact rfl; exact rfl; exact rfl)
            | (apply wlb (j := 2); exact rfl; exact rfl; exact rfl; exact rfl; exact rfl; exact rfl)
            | (apply wlb (j := 3); exact rfl; exact rfl; exact rfl; exact rfl; exact rfl; exact rfl)
            | (apply wln; exact rfl; exact rfl; exact rfl; exact rfl)
            | (apply wpu; exact rfl; exact rfl; exact rfl)
            | (apply wbx; exact rfl; exact rfl; exact rfl; intro _)
            | refine wc_block ?_
            | (apply wc_true; exact rfl)
            | (apply wc_false; exact rfl)
            | refine wc_skip ?_
            | refine wc_exit ?_
            | refine wc_ret ?_
            | refine we_then_exit ?_
            | refine we_then_ret ?_
            | refine we_in_normal ?_
            | refine we_in_ret ?_
            | refine we_in_here ?_
            | (apply we_in_there; exact rfl))
          exact we_ret1 (Or.inl rfl) rfl rfl fun w' h => ⟨rfl, h.ext_all⟩
        | true =>
          cases k with
          | false =>
            obtain ⟨h1, h2, h3⟩ := other_f hr hR
            repeat (first
              | (apply ws; exact rfl; exact rfl; exact rfl)
              | refine wl_still rfl rfl rfl (od_struct [.int .i64 0, .int .i64 0, .int .i64 0] [.int .i64 0, .int .i64 0, .int .i64 0] rfl rfl Tryd.zeroValue23 rfl rfl) ?_
              | (apply wal Tryd.zeroValue23 rfl; exact rfl; exact rfl; intro bz)
              | (apply wsw (j := 0); exact rfl; exact rfl; exact rfl; exact rfl; exact rfl; exact plain3 _ _ _; exact rfl; exact rfl)
              | (apply wlab (j := 0); exact rfl; exact rfl; exact rfl; exact rfl; exact rfl; exact rfl; exact rfl)
              | (apply wlab (j := 1); exact rfl; exact rfl; exact rfl; exact rfl; exact rfl; exact rfl; exact rfl)
              | (apply wlab (j := 2); exact rfl; exact rfl; exact rfl; exact rfl; exact rfl; exact rfl; exact rfl)
              | (apply wlab (j := 3); exact rfl; exact rfl; exact rfl; exact rfl; exact rfl; exact rfl; exact rfl)
              | (apply wq Tryd.call13; exact rfl; exact rfl; exact rfl; exact (fun w' h => sane47 w' (hL.ext h.ext_all)))
              | (apply wq Tryd.call14; exact rfl; exact rfl; exact rfl; exact (fun w _ => ref_Right_t hr w))
              | (apply wq Tryd.call15; exact rfl; exact rfl; exact rfl; exact (fun w _ => ref_Occasion_t ho w))
              | (apply wq Tryd.call16; exact rfl; exact rfl; exact rfl; exact (fun w _ => ref_Number_t hn w))
              | (apply wq Tryd.call14; exact rfl; exact rfl; exact rfl; exact (fun w _ => ref_Right_t h1 w))
              | (apply wq Tryd.call17; exact rfl; exact rfl; exact rfl; exact (fun w' h => read_ok hr ho hn hR w' (hL.ext h.ext_all)))
              | (apply wq Tryd.call18; exact rfl; exact rfl; exact rfl; exact (fun w' h => either_f hr ho hn hR w' (hL.ext h.ext_all)))
              | (apply wq Tryd.call17; exact rfl; exact rfl; exact rfl; exact (fun w' h => read_ok h1 ho hn h2 w' (hL.ext h.ext_all)))
              | (apply wq Tryd.call18; exact rfl; exact rfl; exact rfl; exact (fun w' h => either_t h1 ho hn h2 w' (hL.ext h.ext_all)))
              | refine wl_still rfl rfl rfl (od_eqBool (r := false) (Or.inr ⟨rfl, rfl⟩) rfl rfl rfl) ?_
              | refine wl_still rfl rfl rfl (od_eqBool (r := true) (Or.inr ⟨rfl, rfl⟩) rfl rfl rfl) ?_
              | refine wl_still rfl rfl rfl (od_eq23 (r := true) rfl rfl (by simp [h3])) ?_
              | refine wc_seq ?_
              | refine wc_region ?_
              | refine wl_nil ?_
              | refine we_round ?_
              | refine we_then_wc ?_
              | (apply wi64; exact rfl; omega; omega; exact rfl; exact rfl)
              | (apply wfa; exact rfl; exact rfl; exact rfl; exact rfl)
              | (apply wct; exact rfl; omega; exact rfl; exact rfl)
              | (apply wcf; exact rfl; omega; exact rfl; exact rfl)
              | (apply wn; exact rfl; exact rfl)
              | (apply wlb (j := 0); exact rfl; exact rfl; exact rfl; exact rfl; exact rfl; exact rfl)
              | (apply wlb (j := 1); exact rfl; exact rfl; exact rfl; exact rfl; exact rfl; exact rfl)
              | (apply wlb (j := 2); exact rfl; exact rfl; exact rfl; exact rfl; exact rfl; exact rfl)
              | (apply wlb (j := 3); exact rfl; exact rfl; exact rfl; exact rfl; exact rfl; exact rfl)
              | (apply wln; exact rfl; exact rfl; exact rfl; exact rfl)
              | (apply wpu; exact rfl; exact rfl; exact rfl)
              | (apply wbx; exact rfl; exact rfl; exact rfl; intro _)
              | refine wc_block ?_
              | (apply wc_true; exact rfl)
              | (apply wc_false; exact rfl)
              | refine wc_skip ?_
              | refine wc_exit ?_
              | refine wc_ret ?_
              | refine we_then_exit ?_
              | refine we_then_ret ?_
              | refine we_in_normal ?_
              | refine we_in_ret ?_
              | refine we_in_here ?_
              | (apply we_in_there; exact rfl))
            exact we_ret1 (Or.inl rfl) rfl rfl fun w' h => ⟨rfl, h.ext_all⟩
          | true =>
            obtain ⟨h1, h2, h3⟩ := other_t hr hR
            repeat (first
              | (apply ws; exact rfl; exact rfl; exact rfl)
              | refine wl_still rfl rfl rfl (od_struct [.int .i64 0, .int .i64 0, .int .i64 0] [.int .i64 0, .int .i64 0, .int .i64 0] rfl rfl Tryd.zeroValue23 rfl rfl) ?_
              | (apply wal Tryd.zeroValue23 rfl; exact rfl; exact rfl; intro bz)
              | (apply wsw (j := 0); exact rfl; exact rfl; exact rfl; exact rfl; exact rfl; exact plain3 _ _ _; exact rfl; exact rfl)
              | (apply wlab (j := 0); exact rfl; exact rfl; exact rfl; exact rfl; exact rfl; exact rfl; exact rfl)
              | (apply wlab (j := 1); exact rfl; exact rfl; exact rfl; exact rfl; exact rfl; exact rfl; exact rfl)
              | (apply wlab (j := 2); exact rfl; exact rfl; exact rfl; exact rfl; exact rfl; exact rfl; exact rfl)
              | (apply wlab (j := 3); exact rfl; exact rfl; exact rfl; exact rfl; exact rfl; exact rfl; exact rfl)
              | (apply wq Tryd.call13; exact rfl; exact rfl; exact rfl; exact (fun w' h => sane47 w' (hL.ext h.ext_all)))
              | (apply wq Tryd.call14; exact rfl; exact rfl; exact rfl; exact (fun w _ => ref_Right_t hr w))
              | (apply wq Tryd.call15; exact rfl; exact rfl; exact rfl; exact (fun w _ => ref_Occasion_t ho w))
              | (apply wq Tryd.call16; exact rfl; exact rfl; exact rfl; exact (fun w _ => ref_Number_t hn w))
              | (apply wq Tryd.call14; exact rfl; exact rfl; exact rfl; exact (fun w _ => ref_Right_t h1 w))
              | (apply wq Tryd.call17; exact rfl; exact rfl; exact rfl; exact (fun w' h => read_ok hr ho hn hR w' (hL.ext h.ext_all)))
              | (apply wq Tryd.call18; exact rfl; exact rfl; exact rfl; exact (fun w' h => either_t hr ho hn hR w' (hL.ext h.ext_all)))
              | (apply wq Tryd.call17; exact rfl; exact rfl; exact rfl; exact (fun w' h => read_ok h1 ho hn h2 w' (hL.ext h.ext_all)))
              | (apply wq Tryd.call18; exact rfl; exact rfl; exact rfl; exact (fun w' h => either_f h1 ho hn h2 w' (hL.ext h.ext_all)))
              | refine wl_still rfl rfl rfl (od_eqBool (r := false) (Or.inr ⟨rfl, rfl⟩) rfl rfl rfl) ?_
              | refine wl_still rfl rfl rfl (od_eqBool (r := true) (Or.inr ⟨rfl, rfl⟩) rfl rfl rfl) ?_
              | refine wl_still rfl rfl rfl (od_eq23 (r := true) rfl rfl (by simp [h3])) ?_
              | refine wc_seq ?_
              | refine wc_region ?_
              | refine wl_nil ?_
              | refine we_round ?_
              | refine we_then_wc ?_
              | (apply wi64; exact rfl; omega; omega; exact rfl; exact rfl)
              | (apply wfa; exact rfl; exact rfl; exact rfl; exact rfl)
              | (apply wct; exact rfl; omega; exact rfl; exact rfl)
              | (apply wcf; exact rfl; omega; exact rfl; exact rfl)
              | (apply wn; exact rfl; exact rfl)
              | (apply wlb (j := 0); exact rfl; exact rfl; exact rfl; exact rfl; exact rfl; exact rfl)
              | (apply wlb (j := 1); exact rfl; exact rfl; exact rfl; exact rfl; exact rfl; exact rfl)
              | (apply wlb (j := 2); exact rfl; exact rfl; exact rfl; exact rfl; exact rfl; exact rfl)
              | (apply wlb (j := 3); exact rfl; exact rfl; exact rfl; exact rfl; exact rfl; exact rfl)
              | (apply wln; exact rfl; exact rfl; exact rfl; exact rfl)
              | (apply wpu; exact rfl; exact rfl; exact rfl)
              | (apply wbx; exact rfl; exact rfl; exact rfl; intro _)
              | refine wc_block ?_
              | (apply wc_true; exact rfl)
              | (apply wc_false; exact rfl)
              | refine wc_skip ?_
              | refine wc_exit ?_
              | refine wc_ret ?_
              | refine we_then_exit ?_
              | refine we_then_ret ?_
              | refine we_in_normal ?_
              | refine we_in_ret ?_
              | refine we_in_here ?_
              | (apply we_in_there; exact rfl))
            exact we_ret1 (Or.inl rfl) rfl rfl fun w' h => ⟨rfl, h.ext_all⟩
      · repeat (first
          | (apply ws; exact rfl; exact rfl; exact rfl)
          | refine wl_still rfl rfl rfl (od_struct [.int .i64 0, .int .i64 0, .int .i64 0] [.int .i64 0, .int .i64 0, .int .i64 0] rfl rfl Tryd.zeroValue23 rfl rfl) ?_
          | (apply wal Tryd.zeroValue23 rfl; exact rfl; exact rfl; intro bz)
          | (apply wsw (j := 0); exact rfl; exact rfl; exact rfl; exact rfl; exact rfl; exact plain3 _ _ _; exact rfl; exact rfl)
          | (apply wlab (j := 0); exact rfl; exact rfl; exact rfl; exact rfl; exact rfl; exact rfl; exact rfl)
          | (apply wlab (j := 1); exact rfl; exact rfl; exact rfl; exact rfl; exact rfl; exact rfl; exact rfl)
          | (apply wlab (j := 2); exact rfl; exact rfl; exact rfl; exact rfl; exact rfl; exact rfl; exact rfl)
          | (apply wlab (j := 3); exact rfl; exact rfl; exact rfl; exact rfl; exact rfl; exact rfl; exact rfl)
          | (apply wq Tryd.call13; exact rfl; exact rfl; exact rfl; exact (fun w' h => sane47 w' (hL.ext h.ext_all)))
          | (apply wq Tryd.call14; exact rfl; exact rfl; exact rfl; exact (fun w _ => ref_Right_t hr w))
          | (apply wq Tryd.call15; exact rfl; exact rfl; exact rfl; exact (fun w _ => ref_Occasion_t ho w))
          | (apply wq Tryd.call16; exact rfl; exact rfl; exact rfl; exact (fun w _ => ref_Number_f hn w))
          | refine wc_seq ?_
          | refine wc_region ?_
          | refine wl_nil ?_
          | refine we_round ?_
          | refine we_then_wc ?_
          | (apply wi64; exact rfl; omega; omega; exact rfl; exact rfl)
          | (apply wfa; exact rfl; exact rfl; exact rfl; exact rfl)
          | (apply wct; exact rfl; omega; exact rfl; exact rfl)
          | (apply wcf; exact rfl; omega; exact rfl; exact rfl)
          | (apply wn; exact rfl; exact rfl)
          | (apply wlb (j := 0); exact rfl; exact rfl; exact rfl; exact rfl; exact rfl; exact rfl)
          | (apply wlb (j := 1); exact rfl; exact rfl; exact rfl; exact rfl; exact rfl; exact rfl)
          | (apply wlb (j := 2); exact rfl; exact rfl; exact rfl; exact rfl; exact rfl; exact rfl)
          | (apply wlb (j := 3); exact rfl; exact rfl; exact rfl; exact rfl; exact rfl; exact rfl)
          | (apply wln; exact rfl; exact rfl; exact rfl; exact rfl)
          | (apply wpu; exact rfl; exact rfl; exact rfl)
          | (apply wbx; exact rfl; exact rfl; exact rfl; intro _)
          | refine wc_block ?_
          | (apply wc_true; exact rfl)
          | (apply wc_false; exact rfl)
          | refine wc_skip ?_
          | refine wc_exit ?_
          | refine wc_ret ?_
          | refine we_then_exit ?_
          | refine we_then_ret ?_
          | refine we_in_normal ?_
          | refine we_in_ret ?_
          | refine we_in_here ?_
          | (apply we_in_there; exact rfl))
        exact we_ret1 (Or.inl rfl) rfl rfl fun w' h => ⟨rfl, h.ext_all⟩
    · repeat (first
        | (apply ws; exact rfl; exact rfl; exact rfl)
        | refine wl_still rfl rfl rfl (od_struct [.int .i64 0, .int .i64 0, .int .i64 0] [.int .i64 0, .int .i64 0, .int .i64 0] rfl rfl Tryd.zeroValue23 rfl rfl) ?_
        | (apply wal Tryd.zeroValue23 rfl; exact rfl; exact rfl; intro bz)
        | (apply wsw (j := 0); exact rfl; exact rfl; exact rfl; exact rfl; exact rfl; exact plain3 _ _ _; exact rfl; exact rfl)
        | (apply wlab (j := 0); exact rfl; exact rfl; exact rfl; exact rfl; exact rfl; exact rfl; exact rfl)
        | (apply wlab (j := 1); exact rfl; exact rfl; exact rfl; exact rfl; exact rfl; exact rfl; exact rfl)
        | (apply wlab (j := 2); exact rfl; exact rfl; exact rfl; exact rfl; exact rfl; exact rfl; exact rfl)
        | (apply wlab (j := 3); exact rfl; exact rfl; exact rfl; exact rfl; exact rfl; exact rfl; exact rfl)
        | (apply wq Tryd.call13; exact rfl; exact rfl; exact rfl; exact (fun w' h => sane47 w' (hL.ext h.ext_all)))
        | (apply wq Tryd.call14; exact rfl; exact rfl; exact rfl; exact (fun w _ => ref_Right_t hr w))
        | (apply wq Tryd.call15; exact rfl; exact rfl; exact rfl; exact (fun w _ => ref_Occasion_f ho w))
        | refine wc_seq ?_
        | refine wc_region ?_
        | refine wl_nil ?_
        | refine we_round ?_
        | refine we_then_wc ?_
        | (apply wi64; exact rfl; omega; omega; exact rfl; exact rfl)
        | (apply wfa; exact rfl; exact rfl; exact rfl; exact rfl)
        | (apply wct; exact rfl; omega; exact rfl; exact rfl)
        | (apply wcf; exact rfl; omega; exact rfl; exact rfl)
        | (apply wn; exact rfl; exact rfl)
        | (apply wlb (j := 0); exact rfl; exact rfl; exact rfl; exact rfl; exact rfl; exact rfl)
        | (apply wlb (j := 1); exact rfl; exact rfl; exact rfl; exact rfl; exact rfl; exact rfl)
        | (apply wlb (j := 2); exact rfl; exact rfl; exact rfl; exact rfl; exact rfl; exact rfl)
        | (apply wlb (j := 3); exact rfl; exact rfl; exact rfl; exact rfl; exact rfl; exact rfl)
        | (apply wln; exact rfl; exact rfl; exact rfl; exact rfl)
        | (apply wpu; exact rfl; exact rfl; exact rfl)
        | (apply wbx; exact rfl; exact rfl; exact rfl; intro _)
        | refine wc_block ?_
        | (apply wc_true; exact rfl)
        | (apply wc_false; exact rfl)
        | refine wc_skip ?_
        | refine wc_exit ?_
        | refine wc_ret ?_
        | refine we_then_exit ?_
        | refine we_then_ret ?_
        | refine we_in_normal ?_
        | refine we_in_ret ?_
        | refine we_in_here ?_
        | (apply we_in_there; exact rfl))
      exact we_ret1 (Or.inl rfl) rfl rfl fun w' h => ⟨rfl, h.ext_all⟩
  · repeat (first
      | (apply ws; exact rfl; exact rfl; exact rfl)
      | refine wl_still rfl rfl rfl (od_struct [.int .i64 0, .int .i64 0, .int .i64 0] [.int .i64 0, .int .i64 0, .int .i64 0] rfl rfl Tryd.zeroValue23 rfl rfl) ?_
      | (apply wal Tryd.zeroValue23 rfl; exact rfl; exact rfl; intro bz)
      | (apply wsw (j := 0); exact rfl; exact rfl; exact rfl; exact rfl; exact rfl; exact plain3 _ _ _; exact rfl; exact rfl)
      | (apply wlab (j := 0); exact rfl; exact rfl; exact rfl; exact rfl; exact rfl; exact rfl; exact rfl)
      | (apply wlab (j := 1); exact rfl; exact rfl; exact rfl; exact rfl; exact rfl; exact rfl; exact rfl)
      | (apply wlab (j := 2); exact rfl; exact rfl; exact rfl; exact rfl; exact rfl; exact rfl; exact rfl)
      | (apply wlab (j := 3); exact rfl; exact rfl; exact rfl; exact rfl; exact rfl; exact rfl; exact rfl)
      | (apply wq Tryd.call13; exact rfl; exact rfl; exact rfl; exact (fun w' h => sane47 w' (hL.ext h.ext_all)))
      | (apply wq Tryd.call14; exact rfl; exact rfl; exact rfl; exact (fun w _ => ref_Right_f hr w))
      | refine wc_seq ?_
      | refine wc_region ?_
      | refine wl_nil ?_
      | refine we_round ?_
      | refine we_then_wc ?_
      | (apply wi64; exact rfl; omega; omega; exact rfl; exact rfl)
      | (apply wfa; exact rfl; exact rfl; exact rfl; exact rfl)
      | (apply wct; exact rfl; omega; exact rfl; exact rfl)
      | (apply wcf; exact rfl; omega; exact rfl; exact rfl)
      | (apply wn; exact rfl; exact rfl)
      | (apply wlb (j := 0); exact rfl; exact rfl; exact rfl; exact rfl; exact rfl; exact rfl)
      | (apply wlb (j := 1); exact rfl; exact rfl; exact rfl; exact rfl; exact rfl; exact rfl)
      | (apply wlb (j := 2); exact rfl; exact rfl; exact rfl; exact rfl; exact rfl; exact rfl)
      | (apply wlb (j := 3); exact rfl; exact rfl; exact rfl; exact rfl; exact rfl; exact rfl)
      | (apply wln; exact rfl; exact rfl; exact rfl; exact rfl)
      | (apply wpu; exact rfl; exact rfl; exact rfl)
      | (apply wbx; exact rfl; exact rfl; exact rfl; intro _)
      | refine wc_block ?_
      | (apply wc_true; exact rfl)
      | (apply wc_false; exact rfl)
      | refine wc_skip ?_
      | refine wc_exit ?_
      | refine wc_ret ?_
      | refine we_then_exit ?_
      | refine we_then_ret ?_
      | refine we_in_normal ?_
      | refine we_in_ret ?_
      | refine we_in_here ?_
      | (apply we_in_there; exact rfl))
    exact we_ret1 (Or.inl rfl) rfl rfl fun w' h => ⟨rfl, h.ext_all⟩
end Go.Proofs.YtielloijdkoeiaaDoor
