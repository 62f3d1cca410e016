/- Layer 47: Either; layer 9: Inverse. -/
import Derived.Test.YtielloijdkoeiaaDoorGc
namespace Go.Proofs.YtielloijdkoeiaaDoor
open Go Go.RowKit Go.Lib
set_option maxRecDepth 100000

theorem read_ok {a b c doc no t : Int} {r : Bool × Bool} (hr : rightP a b c) (ho : occP doc no) (hn : numP t) (e : readN a b c (occH doc no) t = r) (w : World) (hL : Laid w) :
    Fn 17 [silV a b c, .int .i64 doc, .int .i64 no, .int .i64 t] w (Quiet (.tuple #[.bool r.1, .bool r.2, .int .i64 0]) w) := by
  have := duress_Read a b c doc no t w hL
  rw [readV, if_pos hr, if_pos ho, if_pos hn, e] at this
  exact this
theorem read_silent {a b c doc no t : Int} (hr : ¬ rightP a b c) (w : World) (hL : Laid w) :
    Fn 17 [silV a b c, .int .i64 doc, .int .i64 no, .int .i64 t] w (Quiet (.tuple #[.bool false, .bool false, .int .i64 470]) w) := by
  have := duress_Read a b c doc no t w hL
  rw [readV, if_neg hr] at this
  exact this

structure EitherR where
  a : Int
  b : Int
  c : Int
  ok : Bool
  e : Int
def eitherV (a b c doc no t : Int) : EitherR :=
  if occP doc no ∧ numP t then
    (if rightP a b c then
      (if (readN a b c (occH doc no) t).2 = true then { a := (a + (if (readN a b c (occH doc no) t).1 then c else -c)) % 1073741789, b := b, c := c, ok := true, e := 0 }
      else { a := 0, b := 0, c := 0, ok := false, e := 0 })
    else { a := 0, b := 0, c := 0, ok := false, e := 470 })
  else { a := 0, b := 0, c := 0, ok := false, e := 1 }
def eitherT (r : EitherR) : Value := .tuple #[silV r.a r.b r.c, .bool r.ok, .int .i64 r.e]

theorem plain3 (a b c : Int) : ∀ v ∈ #[Value.int .i64 a, .int .i64 b, .int .i64 c].toList, plainV v = true := by simp [plainV]

theorem duress_Either (doc no t a b c : Int) (w : World) (hL : Laid w) : Fn 18 [.int .i64 doc, .int .i64 no, .int .i64 t, silV a b c] w (Quiet (eitherT (eitherV a b c doc no t)) w) := by
  refine fn_of (args := [.int .i64 doc, .int .i64 no, .int .i64 t, .agg #[.int .i64 a, .int .i64 b, .int .i64 c]]) Tryd.func18 rfl Tryd.ntmps18 rfl (Hp.start w) ?_
  unfold eitherV eitherT
  by_cases ho : occP doc no
  · by_cases hn : numP t
    · rw [if_pos ⟨ho, hn⟩]
      by_cases hr : rightP a b c
      · rw [if_pos hr]
        generalize hR : readN a b c (occH doc no) t = R
        obtain ⟨k, o⟩ := R
        have ha : in64 a ∧ in64 b ∧ in64 c := by unfold in64; unfold rightP numP at hr; omega
        have hc : 1 ≤ c ∧ c < 1073741789 := by unfold rightP at hr; omega
        repeat (first
          | (apply ws; exact rfl; exact rfl; exact rfl)
          | (apply wal Tryd.zeroValue23 rfl; exact rfl; exact rfl; intro bz)
          | (apply wq Tryd.call40; exact rfl; exact rfl; exact rfl; exact (fun w _ => duress_possible_t ho w))
          | (apply wq Tryd.call39; exact rfl; exact rfl; exact rfl; exact (fun w _ => duress_number_t hn w))
          | (apply wlab (j := 0); exact rfl; exact rfl; exact rfl; exact rfl; exact rfl; exact rfl; exact rfl)
          | (apply wlab (j := 1); exact rfl; exact rfl; exact rfl; exact rfl; exact rfl; exact rfl; exact rfl)
          | refine wc_seq ?_
          | refine wc_region ?_
          | refine wl_nil ?_
          | refine we_round ?_
          | refine we_then_wc ?_
          | (apply wi64; exact rfl; omega; omega; exact rfl; exact rfl)
          | (apply wfa; exact rfl; exact rfl; exact rfl; exact rfl)
          | (apply wct; exact rfl; omega; exact rfl; exact rfl)
          | (apply wcf; exact rfl; omega; exact rfl; exact rfl)
          | (apply wn; exact rfl; exact rfl)
          | (apply wlb (j := 0); exact rfl; exact rfl; exact rfl; exact rfl; exact rfl; exact rfl)
          | (apply wlb (j := 1); exact rfl; exact rfl; exact rfl; exact rfl; exact rfl; exact rfl)
          | (apply wlb (j := 2); exact rfl; exact rfl; exact rfl; exact rfl; exact rfl; exact rfl)
          | (apply wlb (j := 3); exact rfl; exact rfl; exact rfl; exact rfl; exact rfl; exact rfl)
          | (apply wln; exact rfl; exact rfl; exact rfl; exact rfl)
          | (apply wpu; exact rfl; exact rfl; exact rfl)
          | (apply wbx; exact rfl; exact rfl; exact rfl; intro _)
          | refine wc_block ?_
          | (apply wc_true; exact rfl)
          | (apply wc_false; exact rfl)
          | refine wc_skip ?_
          | refine wc_exit ?_
          | refine wc_ret ?_
          | refine we_then_exit ?_
          | refine we_then_ret ?_
          | refine we_in_normal ?_
          | refine we_in_ret ?_
          | refine we_in_here ?_
          | (apply we_in_there; exact rfl))
        refine wl_quiet rfl rfl rfl (od_call Tryd.call17 rfl (fun w' h => read_ok hr ho hn hR w' (hL.ext h.ext_all))) ?_
        cases o with
        | false =>
          repeat (first
            | (apply ws; exact rfl; exact rfl; exact rfl)
            | (apply wlab (j := 0); exact rfl; exact rfl; exact rfl; exact rfl; exact rfl; exact rfl; exact rfl)
            | (apply wsw (j := 0); exact rfl; exact rfl; exact rfl; exact rfl; exact rfl; exact plain3 _ _ _; exact rfl; exact rfl)
            | refine wc_seq ?_
            | refine wc_region ?_
            | refine wl_nil ?_
            | refine we_round ?_
            | refine we_then_wc ?_
            | (apply wi64; exact rfl; omega; omega; exact rfl; exact rfl)
            | (apply wfa; exact rfl; exact rfl; exact rfl; exact rfl)
            | (apply wct; exact rfl; omega; exact rfl; exact rfl)
            | (apply wcf; exact rfl; omega; exact rfl; exact rfl)
            | (apply wn; exact rfl; exact rfl)
            | (apply wlb (j := 0); exact rfl; exact rfl; exact rfl; exact rfl; exact rfl; exact rfl)
            | (apply wlb (j := 1); exact rfl; exact rfl; exact rfl; exact rfl; exact rfl; exact rfl)
            | (apply wlb (j := 2); exact rfl; exact rfl; exact rfl; exact rfl; exact rfl; exact rfl)
            | (apply wlb (j := 3); exact rfl; exact rfl; exact rfl; exact rfl; exact rfl; exact rfl)
            | (apply wln; exact rfl; exact rfl; exact rfl; exact rfl)
            | (apply wpu; exact rfl; exact rfl; exact rfl)
            | (apply wbx; exact rfl; exact rfl; exact rfl; intro _)
            | refine wc_block ?_
            | (apply wc_true; exact rfl)
            | (apply wc_false; exact rfl)
            | refine wc_skip ?_
            | refine wc_exit ?_
            | refine wc_ret ?_
            | refine we_then_exit ?_
            | refine we_then_ret ?_
            | refine we_in_normal ?_
            | refine we_in_ret ?_
            | refine we_in_here ?_
            | (apply we_in_there; exact rfl))
          exact we_retC3 0 (Or.inl rfl) rfl rfl rfl rfl rfl rfl rfl rfl fun w' h => ⟨rfl, h.ext_all⟩
        | true =>
          cases k with
          | false =>
            repeat (first
              | (apply ws; exact rfl; exact rfl; exact rfl)
              | (apply wlab (j := 0); exact rfl; exact rfl; exact rfl; exact rfl; exact rfl; exact rfl; exact rfl)
              | (apply wlab (j := 1); exact rfl; exact rfl; exact rfl; exact rfl; exact rfl; exact rfl; exact rfl)
              | (apply wsw (j := 0); exact rfl; exact rfl; exact rfl; exact rfl; exact rfl; exact plain3 _ _ _; exact rfl; exact rfl)
              | refine wc_seq ?_
              | refine wc_region ?_
              | refine wl_nil ?_
              | refine we_round ?_
              | refine we_then_wc ?_
              | (apply wi64; exact rfl; omega; omega; exact rfl; exact rfl)
              | (apply wfa; exact rfl; exact rfl; exact rfl; exact rfl)
              | (apply wct; exact rfl; omega; exact rfl; exact rfl)
              | (apply wcf; exact rfl; omega; exact rfl; exact rfl)
              | (apply wn; exact rfl; exact rfl)
              | (apply wlb (j := 0); exact rfl; exact rfl; exact rfl; exact rfl; exact rfl; exact rfl)
              | (apply wlb (j := 1); exact rfl; exact rfl; exact rfl; exact rfl; exact rfl; exact rfl)
              | (apply wlb (j := 2); exact rfl; exact rfl; exact rfl; exact rfl; exact rfl; exact rfl)
              | (apply wlb (j := 3); exact rfl; exact rfl; exact rfl; exact rfl; exact rfl; exact rfl)
              | (apply wln; exact rfl; exact rfl; exact rfl; exact rfl)
              | (apply wpu; exact rfl; exact rfl; exact rfl)
              | (apply wbx; exact rfl; exact rfl; exact rfl; intro _)
              | refine wc_block ?_
              | (apply wc_true; exact rfl)
              | (apply wc_false; exact rfl)
              | refine wc_skip ?_
              | refine wc_exit ?_
              | refine wc_ret ?_
              | refine we_then_exit ?_
              | refine we_then_ret ?_
              | refine we_in_normal ?_
              | refine we_in_ret ?_
              | refine we_in_here ?_
              | (apply we_in_there; exact rfl))
            refine wl_makes rfl rfl rfl (od_buildSlice (cs := [.int .i64 a, .int .i64 (-c)]) rfl rfl ⟨_, Tryd.zeroValue3⟩ rfl rfl rfl (by simp [Value.cells]) (by omega) rfl) ?_
            rintro _ bt -
            refine wl_quiet rfl rfl rfl (od_call Tryd.call41 rfl (fun w' h => duress_sum _ a (-c) ha.1 (by unfold in64; omega) w' (h.ints2 (j := 0) rfl))) ?_
            repeat (first
              | (apply ws; exact rfl; exact rfl; exact rfl)
              | (apply wst 1; exact rfl; exact rfl; exact rfl; exact rfl; exact rfl; exact (show (0 : Nat) < 3 from by decide); exact rfl)
              | (apply wlab (j := 1); exact rfl; exact rfl; exact rfl; exact rfl; exact rfl; exact rfl; exact rfl)
              | (apply wsw (j := 1); exact rfl; exact rfl; exact rfl; exact rfl; exact rfl; exact plain3 _ _ _; exact rfl; exact rfl)
              | refine wc_seq ?_
              | refine wc_region ?_
              | refine wl_nil ?_
              | refine we_round ?_
              | refine we_then_wc ?_
              | (apply wi64; exact rfl; omega; omega; exact rfl; exact rfl)
              | (apply wfa; exact rfl; exact rfl; exact rfl; exact rfl)
              | (apply wct; exact rfl; omega; exact rfl; exact rfl)
              | (apply wcf; exact rfl; omega; exact rfl; exact rfl)
              | (apply wn; exact rfl; exact rfl)
              | (apply wlb (j := 0); exact rfl; exact rfl; exact rfl; exact rfl; exact rfl; exact rfl)
              | (apply wlb (j := 1); exact rfl; exact rfl; exact rfl; exact rfl; exact rfl; exact rfl)
              | (apply wlb (j := 2); exact rfl; exact rfl; exact rfl; exact rfl; exact rfl; exact rfl)
              | (apply wlb (j := 3); exact rfl; exact rfl; exact rfl; exact rfl; exact rfl; exact rfl)
              | (apply wln; exact rfl; exact rfl; exact rfl; exact rfl)
              | (apply wpu; exact rfl; exact rfl; exact rfl)
              | (apply wbx; exact rfl; exact rfl; exact rfl; intro _)
              | refine wc_block ?_
              | (apply wc_true; exact rfl)
              | (apply wc_false; exact rfl)
              | refine wc_skip ?_
              | refine wc_exit ?_
              | refine wc_ret ?_
              | refine we_then_exit ?_
              | refine we_then_ret ?_
              | refine we_in_normal ?_
              | refine we_in_ret ?_
              | refine we_in_here ?_
              | (apply we_in_there; exact rfl))
            exact we_retC3 1 (Or.inl rfl) rfl rfl rfl rfl rfl rfl rfl rfl fun w' h => ⟨rfl, h.ext_all⟩
          | true =>
            repeat (first
              | (apply ws; exact rfl; exact rfl; exact rfl)
              | (apply wlab (j := 0); exact rfl; exact rfl; exact rfl; exact rfl; exact rfl; exact rfl; exact rfl)
              | (apply wlab (j := 1); exact rfl; exact rfl; exact rfl; exact rfl; exact rfl; exact rfl; exact rfl)
              | (apply wsw (j := 0); exact rfl; exact rfl; exact rfl; exact rfl; exact rfl; exact plain3 _ _ _; exact rfl; exact rfl)
              | refine wc_seq ?_
              | refine wc_region ?_
              | refine wl_nil ?_
              | refine we_round ?_
              | refine we_then_wc ?_
              | (apply wi64; exact rfl; omega; omega; exact rfl; exact rfl)
              | (apply wfa; exact rfl; exact rfl; exact rfl; exact rfl)
              | (apply wct; exact rfl; omega; exact rfl; exact rfl)
              | (apply wcf; exact rfl; omega; exact rfl; exact rfl)
              | (apply wn; exact rfl; exact rfl)
              | (apply wlb (j := 0); exact rfl; exact rfl; exact rfl; exact rfl; exact rfl; exact rfl)
              | (apply wlb (j := 1); exact rfl; exact rfl; exact rfl; exact rfl; exact rfl; exact rfl)
              | (apply wlb (j := 2); exact rfl; exact rfl; exact rfl; exact rfl; exact rfl; exact rfl)
              | (apply wlb (j := 3); exact rfl; exact rfl; exact rfl; exact rfl; exact rfl; exact rfl)
              | (apply wln; exact rfl; exact rfl; exact rfl; exact rfl)
              | (apply wpu; exact rfl; exact rfl; exact rfl)
              | (apply wbx; exact rfl; exact rfl; exact rfl; intro _)
              | refine wc_block ?_
              | (apply wc_true; exact rfl)
              | (apply wc_false; exact rfl)
              | refine wc_skip ?_
              | refine wc_exit ?_
              | refine wc_ret ?_
              | refine we_then_exit ?_
              | refine we_then_ret ?_
              | refine we_in_normal ?_
              | refine we_in_ret ?_
              | refine we_in_here ?_
              | (apply we_in_there; exact rfl))
            refine wl_makes rfl rfl rfl (od_buildSlice (cs := [.int .i64 a, .int .i64 c]) rfl rfl ⟨_, Tryd.zeroValue3⟩ rfl rfl rfl (by simp [Value.cells]) (by omega) rfl) ?_
            rintro _ bt -
            refine wl_quiet rfl rfl rfl (od_call Tryd.call41 rfl (fun w' h => duress_sum _ a c ha.1 (by unfold in64; omega) w' (h.ints2 (j := 0) rfl))) ?_
            repeat (first
              | (apply ws; exact rfl; exact rfl; exact rfl)
              | (apply wst 1; exact rfl; exact rfl; exact rfl; exact rfl; exact rfl; exact (show (0 : Nat) < 3 from by decide); exact rfl)
              | (apply wlab (j := 1); exact rfl; exact rfl; exact rfl; exact rfl; exact rfl; exact rfl; exact rfl)
              | (apply wsw (j := 1); exact rfl; exact rfl; exact rfl; exact rfl; exact rfl; exact plain3 _ _ _; exact rfl; exact rfl)
              | refine wc_seq ?_
              | refine wc_region ?_
              | refine wl_nil ?_
              | refine we_round ?_
              | refine we_then_wc ?_
              | (apply wi64; exact rfl; omega; omega; exact rfl; exact rfl)
              | (apply wfa; exact rfl; exact rfl; exact rfl; exact rfl)
              | (apply wct; exact rfl; omega; exact rfl; exact rfl)
              | (apply wcf; exact rfl; omega; exact rfl; exact rfl)
              | (apply wn; exact rfl; exact rfl)
              | (apply wlb (j := 0); exact rfl; exact rfl; exact rfl; exact rfl; exact rfl; exact rfl)
              | (apply wlb (j := 1); exact rfl; exact rfl; exact rfl; exact rfl; exact rfl; exact rfl)
              | (apply wlb (j := 2); exact rfl; exact rfl; exact rfl; exact rfl; exact rfl; exact rfl)
              | (apply wlb (j := 3); exact rfl; exact rfl; exact rfl; exact rfl; exact rfl; exact rfl)
              | (apply wln; exact rfl; exact rfl; exact rfl; exact rfl)
              | (apply wpu; exact rfl; exact rfl; exact rfl)
              | (apply wbx; exact rfl; exact rfl; exact rfl; intro _)
              | refine wc_block ?_
              | (apply wc_true; exact rfl)
              | (apply wc_false; exact rfl)
              | refine wc_skip ?_
              | refine wc_exit ?_
              | refine wc_ret ?_
              | refine we_then_exit ?_
              | refine we_then_ret ?_
              | refine we_in_normal ?_
              | refine we_in_ret ?_
              | refine we_in_here ?_
              | (apply we_in_there; exact rfl))
            exact we_retC3 1 (Or.inl rfl) rfl rfl rfl rfl rfl rfl rfl rfl fun w' h => ⟨rfl, h.ext_all⟩
      · rw [if_neg hr]
        repeat (first
          | (apply ws; exact rfl; exact rfl; exact rfl)
          | (apply wal Tryd.zeroValue23 rfl; exact rfl; exact rfl; intro bz)
          | (apply wq Tryd.call40; exact rfl; exact rfl; exact rfl; exact (fun w _ => duress_possible_t ho w))
          | (apply wq Tryd.call39; exact rfl; exact rfl; exact rfl; exact (fun w _ => duress_number_t hn w))
          | (apply wlab (j := 0); exact rfl; exact rfl; exact rfl; exact rfl; exact rfl; exact rfl; exact rfl)
          | (apply wlab (j := 1); exact rfl; exact rfl; exact rfl; exact rfl; exact rfl; exact rfl; exact rfl)
          | refine wc_seq ?_
          | refine wc_region ?_
          | refine wl_nil ?_
          | refine we_round ?_
          | refine we_then_wc ?_
          | (apply wi64; exact rfl; omega; omega; exact rfl; exact rfl)
          | (apply wfa; exact rfl; exact rfl; exact rfl; exact rfl)
          | (apply wct; exact rfl; omega; exact rfl; exact rfl)
          | (apply wcf; exact rfl; omega; exact rfl; exact rfl)
          | (apply wn; exact rfl; exact rfl)
          | (apply wlb (j := 0); exact rfl; exact rfl; exact rfl; exact rfl; exact rfl; exact rfl)
          | (apply wlb (j := 1); exact rfl; exact rfl; exact rfl; exact rfl; exact rfl; exact rfl)
          | (apply wlb (j := 2); exact rfl; exact rfl; exact rfl; exact rfl; exact rfl; exact rfl)
          | (apply wlb (j := 3); exact rfl; exact rfl; exact rfl; exact rfl; exact rfl; exact rfl)
          | (apply wln; exact rfl; exact rfl; exact rfl; exact rfl)
          | (apply wpu; exact rfl; exact rfl; exact rfl)
          | (apply wbx; exact rfl; exact rfl; exact rfl; intro _)
          | refine wc_block ?_
          | (apply wc_true; exact rfl)
          | (apply wc_false; exact rfl)
          | refine wc_skip ?_
          | refine wc_exit ?_
          | refine wc_ret ?_
          | refine we_then_exit ?_
          | refine we_then_ret ?_
          | refine we_in_normal ?_
          | refine we_in_ret ?_
          | refine we_in_here ?_
          | (apply we_in_there; exact rfl))
        refine wl_quiet rfl rfl rfl (od_call Tryd.call17 rfl (fun w' h => read_silent hr w' (hL.ext h.ext_all))) ?_
        repeat (first
          | (apply ws; exact rfl; exact rfl; exact rfl)
          | (apply wlab (j := 0); exact rfl; exact rfl; exact rfl; exact rfl; exact rfl; exact rfl; exact rfl)
          | (apply wsw (j := 0); exact rfl; exact rfl; exact rfl; exact rfl; exact rfl; exact plain3 _ _ _; exact rfl; exact rfl)
          | refine wc_seq ?_
          | refine wc_region ?_
          | refine wl_nil ?_
          | refine we_round ?_
          | refine we_then_wc ?_
          | (apply wi64; exact rfl; omega; omega; exact rfl; exact rfl)
          | (apply wfa; exact rfl; exact rfl; exact rfl; exact rfl)
          | (apply wct; exact rfl; omega; exact rfl; exact rfl)
          | (apply wcf; exact rfl; omega; exact rfl; exact rfl)
          | (apply wn; exact rfl; exact rfl)
          | (apply wlb (j := 0); exact rfl; exact rfl; exact rfl; exact rfl; exact rfl; exact rfl)
          | (apply wlb (j := 1); exact rfl; exact rfl; exact rfl; exact rfl; exact rfl; exact rfl)
          | (apply wlb (j := 2); exact rfl; exact rfl; exact rfl; exact rfl; exact rfl; exact rfl)
          | (apply wlb (j := 3); exact rfl; exact rfl; exact rfl; exact rfl; exact rfl; exact rfl)
          | (apply wln; exact rfl; exact rfl; exact rfl; exact rfl)
          | (apply wpu; exact rfl; exact rfl; exact rfl)
          | (apply wbx; exact rfl; exact rfl; exact rfl; intro _)
          | refine wc_block ?_
          | (apply wc_true; exact rfl)
          | (apply wc_false; exact rfl)
          | refine wc_skip ?_
          | refine wc_exit ?_
          | refine wc_ret ?_
          | refine we_then_exit ?_
          | refine we_then_ret ?_
          | refine we_in_normal ?_
          | refine we_in_ret ?_
          | refine we_in_here ?_
          | (apply we_in_there; exact rfl))
        exact we_retC3 0 (Or.inl rfl) rfl rfl rfl rfl rfl rfl rfl rfl fun w' h => ⟨rfl, h.ext_all⟩
    · rw [if_neg (fun h => hn h.2)]
      repeat (first
        | (apply ws; exact rfl; exact rfl; exact rfl)
        | (apply wal Tryd.zeroValue23 rfl; exact rfl; exact rfl; intro bz)
        | (apply wq Tryd.call40; exact rfl; exact rfl; exact rfl; exact (fun w _ => duress_possible_t ho w))
        | (apply wq Tryd.call39; exact rfl; exact rfl; exact rfl; exact (fun w _ => duress_number_f hn w))
        | (apply wlab (j := 0); exact rfl; exact rfl; exact rfl; exact rfl; exact rfl; exact rfl; exact rfl)
        | (apply wsw (j := 0); exact rfl; exact rfl; exact rfl; exact rfl; exact rfl; exact plain3 _ _ _; exact rfl; exact rfl)
        | refine wc_seq ?_
        | refine wc_region ?_
        | refine wl_nil ?_
        | refine we_round ?_
        | refine we_then_wc ?_
        | (apply wi64; exact rfl; omega; omega; exact rfl; exact rfl)
        | (apply wfa; exact rfl; exact rfl; exact rfl; exact rfl)
        | (apply wct; exact rfl; omega; exact rfl; exact rfl)
        | (apply wcf; exact rfl; omega; exact rfl; exact rfl)
        | (apply wn; exact rfl; exact rfl)
        | (apply wlb (j := 0); exact rfl; exact rfl; exact rfl; exact rfl; exact rfl; exact rfl)
        | (apply wlb (j := 1); exact rfl; exact rfl; exact rfl; exact rfl; exact rfl; exact rfl)
        | (apply wlb (j := 2); exact rfl; exact rfl; exact rfl; exact rfl; exact rfl; exact rfl)
        | (apply wlb (j := 3); exact rfl; exact rfl; exact rfl; exact rfl; exact rfl; exact rfl)
        | (apply wln; exact rfl; exact rfl; exact rfl; exact rfl)
        | (apply wpu; exact rfl; exact rfl; exact rfl)
        | (apply wbx; exact rfl; exact rfl; exact rfl; intro _)
        | refine wc_block ?_
        | (apply wc_true; exact rfl)
        | (apply wc_false; exact rfl)
        | refine wc_skip ?_
        | refine wc_exit ?_
        | refine wc_ret ?_
        | refine we_then_exit ?_
        | refine we_then_ret ?_
        | refine we_in_normal ?_
        | refine we_in_ret ?_
        | refine we_in_here ?_
        | (apply we_in_there; exact rfl))
      exact we_retC3 0 (Or.inl rfl) rfl rfl rfl rfl rfl rfl rfl rfl fun w' h => ⟨rfl, h.ext_all⟩
  · rw [if_neg (fun h => ho h.1)]
    repeat (first
      | (apply ws; exact rfl; exact rfl; exact rfl)
      | (apply wal Tryd.zeroValue23 rfl; exact rfl; exact rfl; intro bz)
      | (apply wq Tryd.call40; exact rfl; exact rfl; exact rfl; exact (fun w _ => duress_possible_f ho w))
      | (apply wlab (j := 0); exact rfl; exact rfl; exact rfl; exact rfl; exact rfl; exact rfl; exact rfl)
      | (apply wsw (j := 0); exact rfl; exact rfl; exact rfl; exact rfl; exact rfl; exact plain3 _ _ _; exact rfl; exact rfl)
      | refine wc_seq ?_
      | refine wc_region ?_
      | refine wl_nil ?_
      | refine we_round ?_
      | refine we_then_wc ?_
      | (apply wi64; exact rfl; omega; omega; exact rfl; exact rfl)
      | (apply wfa; exact rfl; exact rfl; exact rfl; exact rfl)
      | (apply wct; exact rfl; omega; exact rfl; exact rfl)
      | (apply wcf; exact rfl; omega; exact rfl; exact rfl)
      | (apply wn; exact rfl; exact rfl)
      | (apply wlb (j := 0); exact rfl; exact rfl; exact rfl; exact rfl; exact rfl; exact rfl)
      | (apply wlb (j := 1); exact rfl; exact rfl; exact rfl; exact rfl; exact rfl; exact rfl)
      | (apply wlb (j := 2); exact rfl; exact rfl; exact rfl; exact rfl; exact rfl; exact rfl)
      | (apply wlb (j := 3); exact rfl; exact rfl; exact rfl; exact rfl; exact rfl; exact rfl)
      | (apply wln; exact rfl; exact rfl; exact rfl; exact rfl)
      | (apply wpu; exact rfl; exact rfl; exact rfl)
      | (apply wbx; exact rfl; exact rfl; exact rfl; intro _)
      | refine wc_block ?_
      | (apply wc_true; exact rfl)
      | (apply wc_false; exact rfl)
      | refine wc_skip ?_
      | refine wc_exit ?_
      | refine wc_ret ?_
      | refine we_then_exit ?_
      | refine we_then_ret ?_
      | refine we_in_normal ?_
      | refine we_in_ret ?_
      | refine we_in_here ?_
      | (apply we_in_there; exact rfl))
    exact we_retC3 0 (Or.inl rfl) rfl rfl rfl rfl rfl rfl rfl rfl fun w' h => ⟨rfl, h.ext_all⟩

end Go.Proofs.YtielloijdkoeiaaDoor
