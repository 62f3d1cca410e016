/- The statement of chapter 47: the auditors know. -/
import Derived.Test.YtielloijdkoeiaaDoorHb
namespace Go.Proofs.YtielloijdkoeiaaDoor
open Go Go.RowKit Go.Lib
set_option maxRecDepth 100000

theorem tag_ok {a b c doc no : Int} {k : Bool} {t : Int} (hr : rightP a b c) (ho : occP doc no) (e : tagN a b c (occH doc no) k = t) (w : World) (hL : Laid w) : Fn 34 [silV a b c, .int .i64 doc, .int .i64 no, .bool k] w (Quiet (.tuple #[.int .i64 t, .int .i64 0]) w) := by
  have := duress_Tag a b c doc no k w hL
  rwa [tagV, if_pos ⟨hr, ho⟩, onE, if_pos hr, if_pos ho, e] at this
theorem tag_arg {a b c doc no : Int} {k : Bool} (hr : rightP a b c) (ho : ¬ occP doc no) (w : World) (hL : Laid w) : Fn 34 [silV a b c, .int .i64 doc, .int .i64 no, .bool k] w (Quiet (.tuple #[.int .i64 0, .int .i64 1]) w) := by
  have := duress_Tag a b c doc no k w hL
  rwa [tagV, if_neg (fun h => ho h.2), onE, if_pos hr, if_neg ho] at this
theorem tag_silent {a b c doc no : Int} {k : Bool} (hr : ¬ rightP a b c) (w : World) (hL : Laid w) : Fn 34 [silV a b c, .int .i64 doc, .int .i64 no, .bool k] w (Quiet (.tuple #[.int .i64 0, .int .i64 470]) w) := by
  have := duress_Tag a b c doc no k w hL
  rwa [tagV, if_neg (fun h => hr h.1), onE, if_neg hr] at this
theorem read_num {a b c doc no t : Int} (hr : rightP a b c) (ho : occP doc no) (hn : ¬ numP t) (w : World) (hL : Laid w) :
    Fn 17 [silV a b c, .int .i64 doc, .int .i64 no, .int .i64 t] w (Quiet (.tuple #[.bool false, .bool false, .int .i64 1]) w) := by
  have := duress_Read a b c doc no t w hL
  rw [readV, if_pos hr, if_pos ho, if_neg hn] at this
  exact this

theorem readN_eq {a b c h t P Q : Int} (hP : tagN a b c h false = P) (hQ : tagN a b c h true = Q) : readN a b c h t = if t = P then (false, true) else if t = Q then (true, true) else (false, false) := by
  unfold readN
  rw [hP, hQ]

theorem law_Read (a b c doc no t : Int) (w : World) (hL : Laid w) : Fn 12 [silV a b c, .int .i64 doc, .int .i64 no, .int .i64 t] w (Quiet (.bool true) w) := by
  refine fn_of (args := [.agg #[.int .i64 a, .int .i64 b, .int .i64 c], .int .i64 doc, .int .i64 no, .int .i64 t]) Tryd.func12 rfl Tryd.ntmps12 rfl (Hp.start w) ?_
  by_cases hr : rightP a b c
  · by_cases ho : occP doc no
    · have hc : 1 ≤ c ∧ c < 1073741789 := by unfold rightP at hr; omega
      have hrange : (0 ≤ tagN a b c (occH doc no) false ∧ tagN a b c (occH doc no) false < 1073741789) ∧ (0 ≤ tagN a b c (occH doc no) true ∧ tagN a b c (occH doc no) true < 1073741789) ∧ tagN a b c (occH doc no) false ≠ tagN a b c (occH doc no) true := by
        simp only [tagN, plainP]
        generalize b * occH doc no % 1073741789 = B
        omega
      generalize hP : tagN a b c (occH doc no) false = P at hrange
      generalize hQ : tagN a b c (occH doc no) true = Q at hrange
      obtain ⟨hp, hq, hpq⟩ := hrange
      have nP : numP P := hp
      have nQ : numP Q := hq
      have rP : readN a b c (occH doc no) P = (false, true) := by rw [readN_eq hP hQ, if_pos rfl]
      have rQ : readN a b c (occH doc no) Q = (true, true) := by rw [readN_eq hP hQ, if_neg (Ne.symm hpq), if_pos rfl]
      by_cases hn : numP t
      · by_cases h1 : t = P
        · have hR : readN a b c (occH doc no) t = (false, true) := by rw [h1]; exact rP
          repeat (first
            | (apply ws; exact rfl; exact rfl; exact rfl)
            | (apply wlab (j := 0); exact rfl; exact rfl; exact rfl; exact rfl; exact rfl; exact rfl; exact rfl)
            | (apply wlab (j := 1); exact rfl; exact rfl; exact rfl; exact rfl; exact rfl; exact rfl; exact rfl)
            | (apply wq Tryd.call13; exact rfl; exact rfl; exact rfl; exact (fun w' h => sane47 w' (hL.ext h.ext_all)))
            | (apply wq Tryd.call34; exact rfl; exact rfl; exact rfl; exact (fun w' h => tag_ok hr ho hP w' (hL.ext h.ext_all)))
            | (apply wq Tryd.call34; exact rfl; exact rfl; exact rfl; exact (fun w' h => tag_ok hr ho hQ w' (hL.ext h.ext_all)))
            | (apply wq Tryd.call17; exact rfl; exact rfl; exact rfl; exact (fun w' h => read_ok hr ho nP rP w' (hL.ext h.ext_all)))
            | (apply wq Tryd.call17; exact rfl; exact rfl; exact rfl; exact (fun w' h => read_ok hr ho nQ rQ w' (hL.ext h.ext_all)))
            | (apply wq Tryd.call17; exact rfl; exact rfl; exact rfl; exact (fun w' h => read_ok hr ho hn hR w' (hL.ext h.ext_all)))
            | (apply wq Tryd.call16; exact rfl; exact rfl; exact rfl; exact (fun w _ => ref_Number_t nP w))
            | (apply wq Tryd.call16; exact rfl; exact rfl; exact rfl; exact (fun w _ => ref_Number_t nQ w))
            | (apply wq Tryd.call16; exact rfl; exact rfl; exact rfl; exact (fun w _ => ref_Number_t hn w))
            | refine wl_still rfl rfl rfl (od_eqBool (r := true) (Or.inl ⟨rfl, rfl⟩) rfl rfl rfl) ?_
            | refine wc_seq ?_
            | refine wc_region ?_
            | refine wl_nil ?_
            | refine we_round ?_
            | refine we_then_wc ?_
            | (apply wi64; exact rfl; omega; omega; exact rfl; exact rfl)
            | (apply wfa; exact rfl; exact rfl; exact rfl; exact rfl)
            | (apply wct; exact rfl; omega; exact rfl; exact rfl)
            | (apply wcf; exact rfl; omega; exact rfl; exact rfl)
            | (apply wn; exact rfl; exact rfl)
            | (apply wlb (j := 0); exact rfl; exact rfl; exact rfl; exact rfl; exact rfl; exact rfl)
            | (apply wlb (j := 1); exact rfl; exact rfl; exact rfl; exact rfl; exact rfl; exact rfl)
            | (apply wlb (j := 2); exact rfl; exact rfl; exact rfl; exact rfl; exact rfl; exact rfl)
            | (apply wlb (j := 3); exact rfl; exact rfl; exact rfl; exact rfl; exact rfl; exact rfl)
            | (apply wln; exact rfl; exact rfl; exact rfl; exact rfl)
            | (apply wpu; exact rfl; exact rfl; exact rfl)
            | (apply wbx; exact rfl; exact rfl; exact rfl; intro _)
            | refine wc_block ?_
            | (apply wc_true; exact rfl)
            | (apply wc_false; exact rfl)
            | refine wc_skip ?_
            | refine wc_exit ?_
            | refine wc_ret ?_
            | refine we_then_exit ?_
            | refine we_then_ret ?_
            | refine we_in_normal ?_
            | refine we_in_ret ?_
            | refine we_in_here ?_
            | (apply we_in_there; exact rfl))
          exact we_ret1 (Or.inl rfl) rfl rfl fun w' h => ⟨rfl, h.ext_all⟩
        · by_cases h2 : t = Q
          · have hR : readN a b c (occH doc no) t = (true, true) := by rw [h2]; exact rQ
            repeat (first
              | (apply ws; exact rfl; exact rfl; exact rfl)
              | (apply wlab (j := 0); exact rfl; exact rfl; exact rfl; exact rfl; exact rfl; exact rfl; exact rfl)
              | (apply wlab (j := 1); exact rfl; exact rfl; exact rfl; exact rfl; exact rfl; exact rfl; exact rfl)
              | (apply wq Tryd.call13; exact rfl; exact rfl; exact rfl; exact (fun w' h => sane47 w' (hL.ext h.ext_all)))
              | (apply wq Tryd.call34; exact rfl; exact rfl; exact rfl; exact (fun w' h => tag_ok hr ho hP w' (hL.ext h.ext_all)))
              | (apply wq Tryd.call34; exact rfl; exact rfl; exact rfl; exact (fun w' h => tag_ok hr ho hQ w' (hL.ext h.ext_all)))
              | (apply wq Tryd.call17; exact rfl; exact rfl; exact rfl; exact (fun w' h => read_ok hr ho nP rP w' (hL.ext h.ext_all)))
              | (apply wq Tryd.call17; exact rfl; exact rfl; exact rfl; exact (fun w' h => read_ok hr ho nQ rQ w' (hL.ext h.ext_all)))
              | (apply wq Tryd.call17; exact rfl; exact rfl; exact rfl; exact (fun w' h => read_ok hr ho hn hR w' (hL.ext h.ext_all)))
              | (apply wq Tryd.call16; exact rfl; exact rfl; exact rfl; exact (fun w _ => ref_Number_t nP w))
              | (apply wq Tryd.call16; exact rfl; exact rfl; exact rfl; exact (fun w _ => ref_Number_t nQ w))
              | (apply wq Tryd.call16; exact rfl; exact rfl; exact rfl; exact (fun w _ => ref_Number_t hn w))
              | refine wl_still rfl rfl rfl (od_eqBool (r := true) (Or.inl ⟨rfl, rfl⟩) rfl rfl rfl) ?_
              | refine wc_seq ?_
              | refine wc_region ?_
              | refine wl_nil ?_
              | refine we_round ?_
              | refine we_then_wc ?_
              | (apply wi64; exact rfl; omega; omega; exact rfl; exact rfl)
              | (apply wfa; exact rfl; exact rfl; exact rfl; exact rfl)
              | (apply wct; exact rfl; omega; exact rfl; exact rfl)
              | (apply wcf; exact rfl; omega; exact rfl; exact rfl)
              | (apply wn; exact rfl; exact rfl)
              | (apply wlb (j := 0); exact rfl; exact rfl; exact rfl; exact rfl; exact rfl; exact rfl)
              | (apply wlb (j := 1); exact rfl; exact rfl; exact rfl; exact rfl; exact rfl; exact rfl)
              | (apply wlb (j := 2); exact rfl; exact rfl; exact rfl; exact rfl; exact rfl; exact rfl)
              | (apply wlb (j := 3); exact rfl; exact rfl; exact rfl; exact rfl; exact rfl; exact rfl)
              | (apply wln; exact rfl; exact rfl; exact rfl; exact rfl)
              | (apply wpu; exact rfl; exact rfl; exact rfl)
              | (apply wbx; exact rfl; exact rfl; exact rfl; intro _)
              | refine wc_block ?_
              | (apply wc_true; exact rfl)
              | (apply wc_false; exact rfl)
              | refine wc_skip ?_
              | refine wc_exit ?_
              | refine wc_ret ?_
              | refine we_then_exit ?_
              | refine we_then_ret ?_
              | refine we_in_normal ?_
              | refine we_in_ret ?_
              | refine we_in_here ?_
              | (apply we_in_there; exact rfl))
            exact we_ret1 (Or.inl rfl) rfl rfl fun w' h => ⟨rfl, h.ext_all⟩
          · have hR : readN a b c (occH doc no) t = (false, false) := by rw [readN_eq hP hQ, if_neg h1, if_neg h2]
            repeat (first
              | (apply ws; exact rfl; exact rfl; exact rfl)
              | (apply wlab (j := 0); exact rfl; exact rfl; exact rfl; exact rfl; exact rfl; exact rfl; exact rfl)
              | (apply wlab (j := 1); exact rfl; exact rfl; exact rfl; exact rfl; exact rfl; exact rfl; exact rfl)
              | (apply wq Tryd.call13; exact rfl; exact rfl; exact rfl; exact (fun w' h => sane47 w' (hL.ext h.ext_all)))
              | (apply wq Tryd.call34; exact rfl; exact rfl; exact rfl; exact (fun w' h => tag_ok hr ho hP w' (hL.ext h.ext_all)))
              | (apply wq Tryd.call34; exact rfl; exact rfl; exact rfl; exact (fun w' h => tag_ok hr ho hQ w' (hL.ext h.ext_all)))
              | (apply wq Tryd.call17; exact rfl; exact rfl; exact rfl; exact (fun w' h => read_ok hr ho nP rP w' (hL.ext h.ext_all)))
              | (apply wq Tryd.call17; exact rfl; exact rfl; exact rfl; exact (fun w' h => read_ok hr ho nQ rQ w' (hL.ext h.ext_all)))
              | (apply wq Tryd.call17; exact rfl; exact rfl; exact rfl; exact (fun w' h => read_ok hr ho hn hR w' (hL.ext h.ext_all)))
              | (apply wq Tryd.call16; exact rfl; exact rfl; exact rfl; exact (fun w _ => ref_Number_t nP w))
              | (apply wq Tryd.call16; exact rfl; exact rfl; exact rfl; exact (fun w _ => ref_Number_t nQ w))
              | (apply wq Tryd.call16; exact rfl; exact rfl; exact rfl; exact (fun w _ => ref_Number_t hn w))
              | refine wl_still rfl rfl rfl (od_eqBool (r := true) (Or.inl ⟨rfl, rfl⟩) rfl rfl rfl) ?_
              | refine wc_seq ?_
              | refine wc_region ?_
              | refine wl_nil ?_
              | refine we_round ?_
              | refine we_then_wc ?_
              | (apply wi64; exact rfl; omega; omega; exact rfl; exact rfl)
              | (apply wfa; exact rfl; exact rfl; exact rfl; exact rfl)
              | (apply wct; exact rfl; omega; exact rfl; exact rfl)
              | (apply wcf; exact rfl; omega; exact rfl; exact rfl)
              | (apply wn; exact rfl; exact rfl)
              | (apply wlb (j := 0); exact rfl; exact rfl; exact rfl; exact rfl; exact rfl; exact rfl)
              | (apply wlb (j := 1); exact rfl; exact rfl; exact rfl; exact rfl; exact rfl; exact rfl)
              | (apply wlb (j := 2); exact rfl; exact rfl; exact rfl; exact rfl; exact rfl; exact rfl)
              | (apply wlb (j := 3); exact rfl; exact rfl; exact rfl; exact rfl; exact rfl; exact rfl)
              | (apply wln; exact rfl; exact rfl; exact rfl; exact rfl)
              | (apply wpu; exact rfl; exact rfl; exact rfl)
              | (apply wbx; exact rfl; exact rfl; exact rfl; intro _)
              | refine wc_block ?_
              | (apply wc_true; exact rfl)
              | (apply wc_false; exact rfl)
              | refine wc_skip ?_
              | refine wc_exit ?_
              | refine wc_ret ?_
              | refine we_then_exit ?_
              | refine we_then_ret ?_
              | refine we_in_normal ?_
              | refine we_in_ret ?_
              | refine we_in_here ?_
              | (apply we_in_there; exact rfl))
            exact we_ret1 (Or.inl rfl) rfl rfl fun w' h => ⟨rfl, h.ext_all⟩
      · repeat (first
          | (apply ws; exact rfl; exact rfl; exact rfl)
          | (apply wlab (j := 0); exact rfl; exact rfl; exact rfl; exact rfl; exact rfl; exact rfl; exact rfl)
          | (apply wlab (j := 1); exact rfl; exact rfl; exact rfl; exact rfl; exact rfl; exact rfl; exact rfl)
          | (apply wq Tryd.call13; exact rfl; exact rfl; exact rfl; exact (fun w' h => sane47 w' (hL.ext h.ext_all)))
          | (apply wq Tryd.call34; exact rfl; exact rfl; exact rfl; exact (fun w' h => tag_ok hr ho hP w' (hL.ext h.ext_all)))
          | (apply wq Tryd.call34; exact rfl; exact rfl; exact rfl; exact (fun w' h => tag_ok hr ho hQ w' (hL.ext h.ext_all)))
          | (apply wq Tryd.call17; exact rfl; exact rfl; exact rfl; exact (fun w' h => read_ok hr ho nP rP w' (hL.ext h.ext_all)))
          | (apply wq Tryd.call17; exact rfl; exact rfl; exact rfl; exact (fun w' h => read_ok hr ho nQ rQ w' (hL.ext h.ext_all)))
          | (apply wq Tryd.call17; exact rfl; exact rfl; exact rfl; exact (fun w' h => read_num hr ho hn w' (hL.ext h.ext_all)))
          | (apply wq Tryd.call16; exact rfl; exact rfl; exact rfl; exact (fun w _ => ref_Number_t nP w))
          | (apply wq Tryd.call16; exact rfl; exact rfl; exact rfl; exact (fun w _ => ref_Number_t nQ w))
          | (apply wq Tryd.call16; exact rfl; exact rfl; exact rfl; exact (fun w _ => ref_Number_f hn w))
          | refine wc_seq ?_
          | refine wc_region ?_
          | refine wl_nil ?_
          | refine we_round ?_
          | refine we_then_wc ?_
          | (apply wi64; exact rfl; omega; omega; exact rfl; exact rfl)
          | (apply wfa; exact rfl; exact rfl; exact rfl; exact rfl)
          | (apply wct; exact rfl; omega; exact rfl; exact rfl)
          | (apply wcf; exact rfl; omega; exact rfl; exact rfl)
          | (apply wn; exact rfl; exact rfl)
          | (apply wlb (j := 0); exact rfl; exact rfl; exact rfl; exact rfl; exact rfl; exact rfl)
          | (apply wlb (j := 1); exact rfl; exact rfl; exact rfl; exact rfl; exact rfl; exact rfl)
          | (apply wlb (j := 2); exact rfl; exact rfl; exact rfl; exact rfl; exact rfl; exact rfl)
          | (apply wlb (j := 3); exact rfl; exact rfl; exact rfl; exact rfl; exact rfl; exact rfl)
          | (apply wln; exact rfl; exact rfl; exact rfl; exact rfl)
          | (apply wpu; exact rfl; exact rfl; exact rfl)
          | (apply wbx; exact rfl; exact rfl; exact rfl; intro _)
          | refine wc_block ?_
          | (apply wc_true; exact rfl)
          | (apply wc_false; exact rfl)
          | refine wc_skip ?_
          | refine wc_exit ?_
          | refine wc_ret ?_
          | refine we_then_exit ?_
          | refine we_then_ret ?_
          | refine we_in_normal ?_
          | refine we_in_ret ?_
          | refine we_in_here ?_
          | (apply we_in_there; exact rfl))
        exact we_ret1 (Or.inl rfl) rfl rfl fun w' h => ⟨rfl, h.ext_all⟩
    · repeat (first
        | (apply ws; exact rfl; exact rfl; exact rfl)
        | (apply wlab (j := 0); exact rfl; exact rfl; exact rfl; exact rfl; exact rfl; exact rfl; exact rfl)
        | (apply wlab (j := 1); exact rfl; exact rfl; exact rfl; exact rfl; exact rfl; exact rfl; exact rfl)
        | (apply wq Tryd.call13; exact rfl; exact rfl; exact rfl; exact (fun w' h => sane47 w' (hL.ext h.ext_all)))
        | (apply wq Tryd.call34; exact rfl; exact rfl; exact rfl; exact (fun w' h => tag_arg hr ho w' (hL.ext h.ext_all)))
        | (apply wq Tryd.call14; exact rfl; exact rfl; exact rfl; exact (fun w _ => ref_Right_t hr w))
        | (apply wq Tryd.call15; exact rfl; exact rfl; exact rfl; exact (fun w _ => ref_Occasion_f ho w))
        | refine wc_seq ?_
        | refine wc_region ?_
        | refine wl_nil ?_
        | refine we_round ?_
        | refine we_then_wc ?_
        | (apply wi64; exact rfl; omega; omega; exact rfl; exact rfl)
        | (apply wfa; exact rfl; exact rfl; exact rfl; exact rfl)
        | (apply wct; exact rfl; omega; exact rfl; exact rfl)
        | (apply wcf; exact rfl; omega; exact rfl; exact rfl)
        | (apply wn; exact rfl; exact rfl)
        | (apply wlb (j := 0); exact rfl; exact rfl; exact rfl; exact rfl; exact rfl; exact rfl)
        | (apply wlb (j := 1); exact rfl; exact rfl; exact rfl; exact rfl; exact rfl; exact rfl)
        | (apply wlb (j := 2); exact rfl; exact rfl; exact rfl; exact rfl; exact rfl; exact rfl)
        | (apply wlb (j := 3); exact rfl; exact rfl; exact rfl; exact rfl; exact rfl; exact rfl)
        | (apply wln; exact rfl; exact rfl; exact rfl; exact rfl)
        | (apply wpu; exact rfl; exact rfl; exact rfl)
        | (apply wbx; exact rfl; exact rfl; exact rfl; intro _)
        | refine wc_block ?_
        | (apply wc_true; exact rfl)
        | (apply wc_false; exact rfl)
        | refine wc_skip ?_
        | refine wc_exit ?_
        | refine wc_ret ?_
        | refine we_then_exit ?_
        | refine we_then_ret ?_
        | refine we_in_normal ?_
        | refine we_in_ret ?_
        | refine we_in_here ?_
        | (apply we_in_there; exact rfl))
      exact we_ret1 (Or.inl rfl) rfl rfl fun w' h => ⟨rfl, h.ext_all⟩
  · repeat (first
      | (apply ws; exact rfl; exact rfl; exact rfl)
      | (apply wlab (j := 0); exact rfl; exact rfl; exact rfl; exact rfl; exact rfl; exact rfl; exact rfl)
      | (apply wlab (j := 1); exact rfl; exact rfl; exact rfl; exact rfl; exact rfl; exact rfl; exact rfl)
      | (apply wq Tryd.call13; exact rfl; exact rfl; exact rfl; exact (fun w' h => sane47 w' (hL.ext h.ext_all)))
      | (apply wq Tryd.call34; exact rfl; exact rfl; exact rfl; exact (fun w' h => tag_silent hr w' (hL.ext h.ext_all)))
      | (apply wq Tryd.call14; exact rfl; exact rfl; exact rfl; exact (fun w _ => ref_Right_f hr w))
      | refine wc_seq ?_
      | refine wc_region ?_
      | refine wl_nil ?_
      | refine we_round ?_
      | refine we_then_wc ?_
      | (apply wi64; exact rfl; omega; omega; exact rfl; exact rfl)
      | (apply wfa; exact rfl; exact rfl; exact rfl; exact rfl)
      | (apply wct; exact rfl; omega; exact rfl; exact rfl)
      | (apply wcf; exact rfl; omega; exact rfl; exact rfl)
      | (apply wn; exact rfl; exact rfl)
      | (apply wlb (j := 0); exact rfl; exact rfl; exact rfl; exact rfl; exact rfl; exact rfl)
      | (apply wlb (j := 1); exact rfl; exact rfl; exact rfl; exact rfl; exact rfl; exact rfl)
      | (apply wlb (j := 2); exact rfl; exact rfl; exact rfl; exact rfl; exact rfl; exact rfl)
      | (apply wlb (j := 3); exact rfl; exact rfl; exact rfl; exact rfl; exact rfl; exact rfl)
      | (apply wln; exact rfl; exact rfl; exact rfl; exact rfl)
      | (apply wpu; exact rfl; exact rfl; exact rfl)
      | (apply wbx; exact rfl; exact rfl; exact rfl; intro _)
      | refine wc_block ?_
      | (apply wc_true; exact rfl)
      | (apply wc_false; exact rfl)
      | refine wc_skip ?_
      | refine wc_exit ?_
      | refine wc_ret ?_
      | refine we_then_exit ?_
      | refine we_then_ret ?_
      | refine we_in_normal ?_
      | refine we_in_ret ?_
      | refine we_in_here ?_
      | (apply we_in_there; exact rfl))
    exact we_ret1 (Or.inl rfl) rfl rfl fun w' h => ⟨rfl, h.ext_all⟩
end Go.Proofs.YtielloijdkoeiaaDoor
