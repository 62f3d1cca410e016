/- The examples of chapter 47's statements. -/
import Derived.Test.YtielloijdkoeiaaDoorGd
import Derived.Test.YtielloijdkoeiaaDoorKk
namespace Go.Proofs.YtielloijdkoeiaaDoor
open Go Go.RowKit Go.Lib
set_option maxRecDepth 100000

theorem plain50 (h : Int) : plainP 5 0 h = 5 := by simp [plainP]
theorem r501 : rightP 5 0 1 := by decide
theorem o34 : occP 3 4 := by decide
theorem o00 : occP 0 0 := by decide
theorem read50 (h t : Int) : readN 5 0 1 h t = if t = 5 then (false, true) else if t = 6 then (true, true) else (false, false) := by
  simp [readN, tagN, plain50]

theorem sane_t1 (w : World) (hL : Laid w) : Fn 34 [silV 5 0 1, .int .i64 3, .int .i64 4, .bool false] w (Quiet (.tuple #[.int .i64 5, .int .i64 0]) w) := by
  have := duress_Tag 5 0 1 3 4 false w hL
  rwa [tagV, if_pos ⟨r501, o34⟩, onE, if_pos r501, if_pos o34, tagN, plain50] at this
theorem sane_t2 (w : World) (hL : Laid w) : Fn 34 [silV 5 0 1, .int .i64 3, .int .i64 4, .bool true] w (Quiet (.tuple #[.int .i64 6, .int .i64 0]) w) := by
  have := duress_Tag 5 0 1 3 4 true w hL
  rwa [tagV, if_pos ⟨r501, o34⟩, onE, if_pos r501, if_pos o34, tagN, plain50] at this
theorem sane_t3 (w : World) (hL : Laid w) : Fn 34 [silV 0 0 0, .int .i64 0, .int .i64 0, .bool false] w (Quiet (.tuple #[.int .i64 0, .int .i64 470]) w) := by
  have := duress_Tag 0 0 0 0 0 false w hL
  have hr : ¬ rightP 0 0 0 := by decide
  rwa [tagV, if_neg (fun h => hr h.1), onE, if_neg hr] at this
theorem sane_t4 (w : World) (hL : Laid w) : Fn 34 [silV 5 0 1, .int .i64 4096, .int .i64 0, .bool false] w (Quiet (.tuple #[.int .i64 0, .int .i64 1]) w) := by
  have := duress_Tag 5 0 1 4096 0 false w hL
  have ho : ¬ occP 4096 0 := by decide
  rwa [tagV, if_neg (fun h => ho h.2), onE, if_pos r501, if_neg ho] at this
theorem sane_r1 (w : World) (hL : Laid w) : Fn 17 [silV 5 0 1, .int .i64 3, .int .i64 4, .int .i64 5] w (Quiet (.tuple #[.bool false, .bool true, .int .i64 0]) w) :=
  read_ok r501 o34 (by decide) (r := (false, true)) (by rw [read50]; rfl) w hL
theorem sane_r2 (w : World) (hL : Laid w) : Fn 17 [silV 5 0 1, .int .i64 3, .int .i64 4, .int .i64 6] w (Quiet (.tuple #[.bool true, .bool true, .int .i64 0]) w) :=
  read_ok r501 o34 (by decide) (r := (true, true)) (by rw [read50]; rfl) w hL
theorem sane_r3 (w : World) (hL : Laid w) : Fn 17 [silV 5 0 1, .int .i64 0, .int .i64 0, .int .i64 7] w (Quiet (.tuple #[.bool false, .bool false, .int .i64 0]) w) :=
  read_ok r501 o00 (by decide) (r := (false, false)) (by rw [read50]; rfl) w hL
theorem sane_e1 (w : World) (hL : Laid w) : Fn 18 [.int .i64 3, .int .i64 4, .int .i64 6, silV 5 0 1] w (Quiet (.tuple #[silV 6 0 1, .bool true, .int .i64 0]) w) := by
  have := duress_Either 3 4 6 5 0 1 w hL
  rwa [eitherV, if_pos ⟨o34, by decide⟩, if_pos r501, read50] at this
theorem sane_e2 (w : World) (hL : Laid w) : Fn 18 [.int .i64 0, .int .i64 0, .int .i64 7, silV 5 0 1] w (Quiet (.tuple #[silV 0 0 0, .bool false, .int .i64 0]) w) := by
  have := duress_Either 0 0 7 5 0 1 w hL
  rwa [eitherV, if_pos ⟨o00, by decide⟩, if_pos r501, read50] at this
theorem sane_e3 (w : World) (hL : Laid w) : Fn 18 [.int .i64 0, .int .i64 0, .int .i64 1073741789, silV 0 0 0] w (Quiet (.tuple #[silV 0 0 0, .bool false, .int .i64 1]) w) := by
  have := duress_Either 0 0 1073741789 0 0 0 w hL
  rwa [eitherV, if_neg (by decide)] at this

theorem sane47 (w : World) (hL : Laid w) : Fn 13 [] w (Quiet (.bool true) w) := by
  refine fn_of (args := []) Tryd.func13 rfl Tryd.ntmps13 rfl (Hp.start w) ?_
  repeat (first
    | (apply ws; exact rfl; exact rfl; exact rfl)
    | refine wl_still rfl rfl rfl (od_struct [.int .i64 0, .int .i64 0, .int .i64 0] [.int .i64 5, .int .i64 0, .int .i64 1] rfl rfl Tryd.zeroValue23 rfl rfl) ?_
    | refine wl_still rfl rfl rfl (od_struct [.int .i64 0, .int .i64 0, .int .i64 0] [.int .i64 0, .int .i64 0, .int .i64 0] rfl rfl Tryd.zeroValue23 rfl rfl) ?_
    | refine wl_still rfl rfl rfl (od_struct [.int .i64 0, .int .i64 0, .int .i64 0] [.int .i64 6, .int .i64 0, .int .i64 1] rfl rfl Tryd.zeroValue23 rfl rfl) ?_
    | (apply wal Tryd.zeroValue23 rfl; exact rfl; exact rfl; intro bz)
    | (apply wsw (j := 0); exact rfl; exact rfl; exact rfl; exact rfl; exact rfl; exact plain3 _ _ _; exact rfl; exact rfl)
    | (apply wlab (j := 0); exact rfl; exact rfl; exact rfl; exact rfl; exact rfl; exact rfl; exact rfl)
    | (apply wlab (j := 1); exact rfl; exact rfl; exact rfl; exact rfl; exact rfl; exact rfl; exact rfl)
    | (apply wlab (j := 2); exact rfl; exact rfl; exact rfl; exact rfl; exact rfl; exact rfl; exact rfl)
    | (apply wlab (j := 3); exact rfl; exact rfl; exact rfl; exact rfl; exact rfl; exact rfl; exact rfl)
    | (apply wq Tryd.call34; exact rfl; exact rfl; exact rfl; exact (fun w' h => sane_t1 w' (hL.ext h.ext_all)))
    | (apply wq Tryd.call34; exact rfl; exact rfl; exact rfl; exact (fun w' h => sane_t2 w' (hL.ext h.ext_all)))
    | (apply wq Tryd.call34; exact rfl; exact rfl; exact rfl; exact (fun w' h => sane_t3 w' (hL.ext h.ext_all)))
    | (apply wq Tryd.call34; exact rfl; exact rfl; exact rfl; exact (fun w' h => sane_t4 w' (hL.ext h.ext_all)))
    | (apply wq Tryd.call17; exact rfl; exact rfl; exact rfl; exact (fun w' h => sane_r1 w' (hL.ext h.ext_all)))
    | (apply wq Tryd.call17; exact rfl; exact rfl; exact rfl; exact (fun w' h => sane_r2 w' (hL.ext h.ext_all)))
    | (apply wq Tryd.call17; exact rfl; exact rfl; exact rfl; exact (fun w' h => sane_r3 w' (hL.ext h.ext_all)))
    | (apply wq Tryd.call18; exact rfl; exact rfl; exact rfl; exact (fun w' h => sane_e1 w' (hL.ext h.ext_all)))
    | (apply wq Tryd.call18; exact rfl; exact rfl; exact rfl; exact (fun w' h => sane_e2 w' (hL.ext h.ext_all)))
    | (apply wq Tryd.call18; exact rfl; exact rfl; exact rfl; exact (fun w' h => sane_e3 w' (hL.ext h.ext_all)))
    | refine wl_still rfl rfl rfl (od_eq23 rfl rfl rfl) ?_
    | refine wc_seq ?_
    | refine wc_region ?_
    | refine wl_nil ?_
    | refine we_round ?_
    | refine we_then_wc ?_
    | (apply wi64; exact rfl; omega; omega; exact rfl; exact rfl)
    | (apply wfa; exact rfl; exact rfl; exact rfl; exact rfl)
    | (apply wct; exact rfl; omega; exact rfl; exact rfl)
    | (apply wcf; exact rfl; omega; exact rfl; exact rfl)
    | (apply wn; exact rfl; exact rfl)
    | (apply wlb (j := 0); exact rfl; exact rfl; exact rfl; exact rfl; exact rfl; exact rfl)
    | (apply wlb (j := 1); exact rfl; exact rfl; exact rfl; exact rfl; exact rfl; exact rfl)
    | (apply wlb (j := 2); exact rfl; exact rfl; exact rfl; exact rfl; exact rfl; exact rfl)
    | (apply wlb (j := 3); exact rfl; exact rfl; exact rfl; exact rfl; exact rfl; exact rfl)
    | (apply wln; exact rfl; exact rfl; exact rfl; exact rfl)
    | (apply wpu; exact rfl; exact rfl; exact rfl)
    | (apply wbx; exact rfl; exact rfl; exact rfl; intro _)
    | refine wc_block ?_
    | (apply wc_true; exact rfl)
    | (apply wc_false; exact rfl)
    | refine wc_skip ?_
    | refine wc_exit ?_
    | refine wc_ret ?_
    | refine we_then_exit ?_
    | refine we_then_ret ?_
    | refine we_in_normal ?_
    | refine we_in_ret ?_
    | refine we_in_here ?_
    | (apply we_in_there; exact rfl))
  exact we_ret1 (Or.inl rfl) rfl rfl fun w' h => ⟨rfl, h.ext_all⟩
end Go.Proofs.YtielloijdkoeiaaDoor
