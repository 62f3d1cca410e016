/- The statements of chapter 47: the two stacks give the same other secret. -/
import Derived.Test.YtielloijdkoeiaaDoorTd
namespace Go.Proofs.YtielloijdkoeiaaDoor
open Go Go.RowKit Go.Lib
set_option maxRecDepth 100000

theorem law_EitherSpec (doc no t a b c : Int) (w : World) (hL : Laid w) : Fn 11 [.int .i64 doc, .int .i64 no, .int .i64 t, silV a b c] w (Quiet (.bool true) w) := by
  refine fn_of (args := [.int .i64 doc, .int .i64 no, .int .i64 t, .agg #[.int .i64 a, .int .i64 b, .int .i64 c]]) Tryd.func11 rfl Tryd.ntmps11 rfl (Hp.start w) ?_
  have h1 := fun w' h => duress_Either doc no t a b c w' h
  have h2 := ref_Either doc no t a b c
  generalize eitherV a b c doc no t = R at *
  obtain ⟨x, y, z, ok, e⟩ := R
  repeat (first
    | (apply ws; exact rfl; exact rfl; exact rfl)
    | (apply wal Tryd.zeroValue23 rfl; exact rfl; exact rfl; intro bz)
    | (apply wlab (j := 0); exact rfl; exact rfl; exact rfl; exact rfl; exact rfl; exact rfl; exact rfl)
    | (apply wlab (j := 1); exact rfl; exact rfl; exact rfl; exact rfl; exact rfl; exact rfl; exact rfl)
    | (apply wlab (j := 2); exact rfl; exact rfl; exact rfl; exact rfl; exact rfl; exact rfl; exact rfl)
    | (apply wsw (j := 0); exact rfl; exact rfl; exact rfl; exact rfl; exact rfl; exact plain3 _ _ _; exact rfl; exact rfl)
    | (apply wq Tryd.call13; exact rfl; exact rfl; exact rfl; exact (fun w' h => sane47 w' (hL.ext h.ext_all)))
    | (apply wq Tryd.call18; exact rfl; exact rfl; exact rfl; exact (fun w' h => h1 w' (hL.ext h.ext_all)))
    | (apply wq Tryd.call37; exact rfl; exact rfl; exact rfl; exact (fun w _ => h2 w))
    | refine wl_still rfl rfl rfl (od_eqBool (r := true) (Or.inl ⟨rfl, by simp⟩) rfl rfl rfl) ?_
    | refine wl_still rfl rfl rfl (od_eq23 (r := true) rfl rfl (by simp)) ?_
    | refine wc_seq ?_
    | refine wc_region ?_
    | refine wl_nil ?_
    | refine we_round ?_
    | refine we_then_wc ?_
    | (apply wi64; exact rfl; omega; omega; exact rfl; exact rfl)
    | (apply wfa; exact rfl; exact rfl; exact rfl; exact rfl)
    | (apply wct; exact rfl; omega; exact rfl; exact rfl)
    | (apply wcf; exact rfl; omega; exact rfl; exact rfl)
    | (apply wn; exact rfl; exact rfl)
    | (apply wlb (j := 0); exact rfl; exact rfl; exact rfl; exact rfl; exact rfl; exact rfl)
    | (apply wlb (j := 1); exact rfl; exact rfl; exact rfl; exact rfl; exact rfl; exact rfl)
    | (apply wlb (j := 2); exact rfl; exact rfl; exact rfl; exact rfl; exact rfl; exact rfl)
    | (apply wlb (j := 3); exact rfl; exact rfl; exact rfl; exact rfl; exact rfl; exact rfl)
    | (apply wln; exact rfl; exact rfl; exact rfl; exact rfl)
    | (apply wpu; exact rfl; exact rfl; exact rfl)
    | (apply wbx; exact rfl; exact rfl; exact rfl; intro _)
    | refine wc_block ?_
    | (apply wc_true; exact rfl)
    | (apply wc_false; exact rfl)
    | refine wc_skip ?_
    | refine wc_exit ?_
    | refine wc_ret ?_
    | refine we_then_exit ?_
    | refine we_then_ret ?_
    | refine we_in_normal ?_
    | refine we_in_ret ?_
    | refine we_in_here ?_
    | (apply we_in_there; exact rfl))
  exact we_ret1 (Or.inl rfl) rfl rfl fun w' h => ⟨rfl, h.ext_all⟩
end Go.Proofs.YtielloijdkoeiaaDoor
