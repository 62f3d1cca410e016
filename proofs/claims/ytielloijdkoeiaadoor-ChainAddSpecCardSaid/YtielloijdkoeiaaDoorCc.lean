/- Layer 1: Check and Encode of a list of integers and texts. -/
import Derived.Test.YtielloijdkoeiaaDoorCb
namespace Go.Proofs.YtielloijdkoeiaaDoor
open Go Go.RowKit Go.Lib
set_option maxRecDepth 100000

def wrCells (var : Nat) : List Value := [.nilFunc, .func (.func 76) #[] #[], .func (.func 79) #[] #[], .func (.func 80) #[] #[.pointer (some ⟨var, 0, none⟩)]]
def WrF (v : Value) (bn : Blks) : Prop := ∃ var wr, v = .pointer (some ⟨wr, 0, none⟩) ∧ bn = [(var, [.pointer (some ⟨wr, 0, none⟩)], 98), (wr, wrCells var, 106)]

theorem newWriter_calls (w : World) : Fn 63 [] w (Lays WrF w) := by
  refine fn_of (args := []) Tryd.func63 rfl Tryd.ntmps63 rfl (Hp.start w) ?_
  repeat (first
    | (apply ws; exact rfl; exact rfl; exact rfl)
    | refine wc_seq ?_
    | refine wc_region ?_
    | refine wl_nil ?_
    | refine we_round ?_
    | refine we_then_wc ?_
    | (apply wi64; exact rfl; omega; omega; exact rfl; exact rfl)
    | (apply wfa; exact rfl; exact rfl; exact rfl; exact rfl)
    | (apply wct; exact rfl; omega; exact rfl; exact rfl)
    | (apply wcf; exact rfl; omega; exact rfl; exact rfl)
    | (apply wn; exact rfl; exact rfl)
    | (apply wlb (j := 0); exact rfl; exact rfl; exact rfl; exact rfl; exact rfl; exact rfl)
    | (apply wlb (j := 1); exact rfl; exact rfl; exact rfl; exact rfl; exact rfl; exact rfl)
    | (apply wlb (j := 2); exact rfl; exact rfl; exact rfl; exact rfl; exact rfl; exact rfl)
    | (apply wlb (j := 3); exact rfl; exact rfl; exact rfl; exact rfl; exact rfl; exact rfl)
    | (apply wln; exact rfl; exact rfl; exact rfl; exact rfl)
    | (apply wpu; exact rfl; exact rfl; exact rfl)
    | (apply wbx; exact rfl; exact rfl; exact rfl; intro _)
    | refine wc_block ?_
    | (apply wc_true; exact rfl)
    | (apply wc_false; exact rfl)
    | refine wc_skip ?_
    | refine wc_exit ?_
    | refine wc_ret ?_
    | refine we_then_exit ?_
    | refine we_then_ret ?_
    | refine we_in_normal ?_
    | refine we_in_ret ?_
    | refine we_in_here ?_
    | (apply we_in_there; exact rfl))
  refine wl_still rfl rfl rfl (od_buildA (z := [.nilFunc, .nilFunc, .nilFunc, .nilFunc]) (cs := [.nilFunc, .nilFunc, .nilFunc, .nilFunc]) rfl rfl Tryd.zeroValue106 rfl rfl) ?_
  repeat (first
    | (apply ws; exact rfl; exact rfl; exact rfl)
    | (apply wal Tryd.zeroValue98 rfl; exact rfl; exact rfl; intro var)
    | (apply wst 0; exact rfl; exact rfl; exact rfl; exact rfl; exact rfl; exact Nat.one_pos; exact rfl)
    | refine wl_still rfl rfl rfl (od_indexAddrA1 1 rfl rfl rfl rfl rfl (by omega)) ?_
    | refine wl_still rfl rfl rfl (od_indexAddrA1 2 rfl rfl rfl rfl rfl (by omega)) ?_
    | refine wl_still rfl rfl rfl (od_indexAddrA1 3 rfl rfl rfl rfl rfl (by omega)) ?_
    | (apply wst 1; exact rfl; exact rfl; exact rfl; exact rfl; exact rfl; exact (show (1 : Nat) < 4 from by decide); exact rfl)
    | (apply wst 1; exact rfl; exact rfl; exact rfl; exact rfl; exact rfl; exact (show (2 : Nat) < 4 from by decide); exact rfl)
    | (apply wst 1; exact rfl; exact rfl; exact rfl; exact rfl; exact rfl; exact (show (3 : Nat) < 4 from by decide); exact rfl)
    | refine wc_seq ?_
    | refine wc_region ?_
    | refine wl_nil ?_
    | refine we_round ?_
    | refine we_then_wc ?_
    | (apply wi64; exact rfl; omega; omega; exact rfl; exact rfl)
    | (apply wfa; exact rfl; exact rfl; exact rfl; exact rfl)
    | (apply wct; exact rfl; omega; exact rfl; exact rfl)
    | (apply wcf; exact rfl; omega; exact rfl; exact rfl)
    | (apply wn; exact rfl; exact rfl)
    | (apply wlb (j := 0); exact rfl; exact rfl; exact rfl; exact rfl; exact rfl; exact rfl)
    | (apply wlb (j := 1); exact rfl; exact rfl; exact rfl; exact rfl; exact rfl; exact rfl)
    | (apply wlb (j := 2); exact rfl; exact rfl; exact rfl; exact rfl; exact rfl; exact rfl)
    | (apply wlb (j := 3); exact rfl; exact rfl; exact rfl; exact rfl; exact rfl; exact rfl)
    | (apply wln; exact rfl; exact rfl; exact rfl; exact rfl)
    | (apply wpu; exact rfl; exact rfl; exact rfl)
    | (apply wbx; exact rfl; exact rfl; exact rfl; intro _)
    | refine wc_block ?_
    | (apply wc_true; exact rfl)
    | (apply wc_false; exact rfl)
    | refine wc_skip ?_
    | refine wc_exit ?_
    | refine wc_ret ?_
    | refine we_then_exit ?_
    | refine we_then_ret ?_
    | refine we_in_normal ?_
    | refine we_in_ret ?_
    | refine we_in_here ?_
    | (apply we_in_there; exact rfl))
  exact we_ret1 (Or.inl rfl) rfl rfl fun w' h => h.lays ⟨_, _, rfl, rfl⟩

/-! ### formed -/
theorem zero117 (w : World) : (zeroValue 117).run Tryd.prog w = .ok (.agg [Value.bool false, .bool false, .bool false, .bool false].toArray) w := Tryd.zeroValue117 w

theorem plainB (a b c d : Bool) : ∀ v ∈ #[Value.bool a, .bool b, .bool c, .bool d].toList, plainV v = true := by simp [plainV]

theorem formed_I (z : Int) (w : World) : Fn 75 [(Lf.I z).v] w (Quiet (.tuple #[.int .i64 0, .bool true]) w) := by
  refine fn_of (args := [.agg (Lf.I z).cells.toArray]) Tryd.func75 rfl Tryd.ntmps75 rfl (Hp.start w) ?_
  by_cases hz : z = 0
  · repeat (first
      | (apply ws; exact rfl; exact rfl; exact rfl)
      | refine wl_still rfl rfl rfl (od_eqS (r := true) (a := []) (b := []) (Or.inl ⟨rfl, rfl⟩) rfl rfl) ?_
      | refine wc_seq ?_
      | refine wc_region ?_
      | refine wl_nil ?_
      | refine we_round ?_
      | refine we_then_wc ?_
      | (apply wi64; exact rfl; omega; omega; exact rfl; exact rfl)
      | (apply wfa; exact rfl; exact rfl; exact rfl; exact rfl)
      | (apply wct; exact rfl; omega; exact rfl; exact rfl)
      | (apply wcf; exact rfl; omega; exact rfl; exact rfl)
      | (apply wn; exact rfl; exact rfl)
      | (apply wlb (j := 0); exact rfl; exact rfl; exact rfl; exact rfl; exact rfl; exact rfl)
      | (apply wlb (j := 1); exact rfl; exact rfl; exact rfl; exact rfl; exact rfl; exact rfl)
      | (apply wlb (j := 2); exact rfl; exact rfl; exact rfl; exact rfl; exact rfl; exact rfl)
      | (apply wlb (j := 3); exact rfl; exact rfl; exact rfl; exact rfl; exact rfl; exact rfl)
      | (apply wln; exact rfl; exact rfl; exact rfl; exact rfl)
      | (apply wpu; exact rfl; exact rfl; exact rfl)
      | (apply wbx; exact rfl; exact rfl; exact rfl; intro _)
      | refine wc_block ?_
      | (apply wc_true; exact rfl)
      | (apply wc_false; exact rfl)
      | refine wc_skip ?_
      | refine wc_exit ?_
      | refine wc_ret ?_
      | refine we_then_exit ?_
      | refine we_then_ret ?_
      | refine we_in_normal ?_
      | refine we_in_ret ?_
      | refine we_in_here ?_
      | (apply we_in_there; exact rfl))
    refine wl_still rfl rfl rfl (od_buildA (z := [.bool false, .bool false, .bool false, .bool false]) (cs := [.bool false, .bool true, .bool true, .bool true]) rfl rfl zero117 rfl rfl) ?_
    repeat (first
      | (apply ws; exact rfl; exact rfl; exact rfl)
      | (apply wal zero117 rfl; exact rfl; exact rfl; intro bu)
      | (apply wsw (j := 0); exact rfl; exact rfl; exact rfl; exact rfl; exact rfl; exact plainB _ _ _ _; exact rfl; exact rfl)
      | refine wl_still rfl rfl rfl (od_indexAddrA1 1 rfl rfl rfl rfl rfl (by omega)) ?_
      | refine wc_seq ?_
      | refine wc_region ?_
      | refine wl_nil ?_
      | refine we_round ?_
      | refine we_then_wc ?_
      | (apply wi64; exact rfl; omega; omega; exact rfl; exact rfl)
      | (apply wfa; exact rfl; exact rfl; exact rfl; exact rfl)
      | (apply wct; exact rfl; omega; exact rfl; exact rfl)
      | (apply wcf; exact rfl; omega; exact rfl; exact rfl)
      | (apply wn; exact rfl; exact rfl)
      | (apply wlb (j := 0); exact rfl; exact rfl; exact rfl; exact rfl; exact rfl; exact rfl)
      | (apply wlb (j := 1); exact rfl; exact rfl; exact rfl; exact rfl; exact rfl; exact rfl)
      | (apply wlb (j := 2); exact rfl; exact rfl; exact rfl; exact rfl; exact rfl; exact rfl)
      | (apply wlb (j := 3); exact rfl; exact rfl; exact rfl; exact rfl; exact rfl; exact rfl)
      | (apply wln; exact rfl; exact rfl; exact rfl; exact rfl)
      | (apply wpu; exact rfl; exact rfl; exact rfl)
      | (apply wbx; exact rfl; exact rfl; exact rfl; intro _)
      | refine wc_block ?_
      | (apply wc_true; exact rfl)
      | (apply wc_false; exact rfl)
      | refine wc_skip ?_
      | refine wc_exit ?_
      | refine wc_ret ?_
      | refine we_then_exit ?_
      | refine we_then_ret ?_
      | refine we_in_normal ?_
      | refine we_in_ret ?_
      | refine we_in_here ?_
      | (apply we_in_there; exact rfl))
    exact we_ret2 (Or.inl rfl) rfl rfl rfl fun w' h => ⟨rfl, h.ext_all⟩
  · repeat (first
      | (apply ws; exact rfl; exact rfl; exact rfl)
      | refine wl_still rfl rfl rfl (od_eqS (r := true) (a := []) (b := []) (Or.inl ⟨rfl, rfl⟩) rfl rfl) ?_
      | refine wc_seq ?_
      | refine wc_region ?_
      | refine wl_nil ?_
      | refine we_round ?_
      | refine we_then_wc ?_
      | (apply wi64; exact rfl; omega; omega; exact rfl; exact rfl)
      | (apply wfa; exact rfl; exact rfl; exact rfl; exact rfl)
      | (apply wct; exact rfl; omega; exact rfl; exact rfl)
      | (apply wcf; exact rfl; omega; exact rfl; exact rfl)
      | (apply wn; exact rfl; exact rfl)
      | (apply wlb (j := 0); exact rfl; exact rfl; exact rfl; exact rfl; exact rfl; exact rfl)
      | (apply wlb (j := 1); exact rfl; exact rfl; exact rfl; exact rfl; exact rfl; exact rfl)
      | (apply wlb (j := 2); exact rfl; exact rfl; exact rfl; exact rfl; exact rfl; exact rfl)
      | (apply wlb (j := 3); exact rfl; exact rfl; exact rfl; exact rfl; exact rfl; exact rfl)
      | (apply wln; exact rfl; exact rfl; exact rfl; exact rfl)
      | (apply wpu; exact rfl; exact rfl; exact rfl)
      | (apply wbx; exact rfl; exact rfl; exact rfl; intro _)
      | refine wc_block ?_
      | (apply wc_true; exact rfl)
      | (apply wc_false; exact rfl)
      | refine wc_skip ?_
      | refine wc_exit ?_
      | refine wc_ret ?_
      | refine we_then_exit ?_
      | refine we_then_ret ?_
      | refine we_in_normal ?_
      | refine we_in_ret ?_
      | refine we_in_here ?_
      | (apply we_in_there; exact rfl))
    refine wl_still rfl rfl rfl (od_buildA (z := [.bool false, .bool false, .bool false, .bool false]) (cs := [.bool false, .bool true, .bool false, .bool false]) rfl rfl zero117 rfl rfl) ?_
    repeat (first
      | (apply ws; exact rfl; exact rfl; exact rfl)
      | (apply wal zero117 rfl; exact rfl; exact rfl; intro bu)
      | (apply wsw (j := 0); exact rfl; exact rfl; exact rfl; exact rfl; exact rfl; exact plainB _ _ _ _; exact rfl; exact rfl)
      | refine wl_still rfl rfl rfl (od_indexAddrA1 1 rfl rfl rfl rfl rfl (by omega)) ?_
      | refine wc_seq ?_
      | refine wc_region ?_
      | refine wl_nil ?_
      | refine we_round ?_
      | refine we_then_wc ?_
      | (apply wi64; exact rfl; omega; omega; exact rfl; exact rfl)
      | (apply wfa; exact rfl; exact rfl; exact rfl; exact rfl)
      | (apply wct; exact rfl; omega; exact rfl; exact rfl)
      | (apply wcf; exact rfl; omega; exact rfl; exact rfl)
      | (apply wn; exact rfl; exact rfl)
      | (apply wlb (j := 0); exact rfl; exact rfl; exact rfl; exact rfl; exact rfl; exact rfl)
      | (apply wlb (j := 1); exact rfl; exact rfl; exact rfl; exact rfl; exact rfl; exact rfl)
      | (apply wlb (j := 2); exact rfl; exact rfl; exact rfl; exact rfl; exact rfl; exact rfl)
      | (apply wlb (j := 3); exact rfl; exact rfl; exact rfl; exact rfl; exact rfl; exact rfl)
      | (apply wln; exact rfl; exact rfl; exact rfl; exact rfl)
      | (apply wpu; exact rfl; exact rfl; exact rfl)
      | (apply wbx; exact rfl; exact rfl; exact rfl; intro _)
      | refine wc_block ?_
      | (apply wc_true; exact rfl)
      | (apply wc_false; exact rfl)
      | refine wc_skip ?_
      | refine wc_exit ?_
      | refine wc_ret ?_
      | refine we_then_exit ?_
      | refine we_then_ret ?_
      | refine we_in_normal ?_
      | refine we_in_ret ?_
      | refine we_in_here ?_
      | (apply we_in_there; exact rfl))
    exact we_ret2 (Or.inl rfl) rfl rfl rfl fun w' h => ⟨rfl, h.ext_all⟩

theorem formed_T (l : List UInt8) (w : World) : Fn 75 [(Lf.T l).v] w (Quiet (.tuple #[.int .i64 0, .bool true]) w) := by
  refine fn_of (args := [.agg (Lf.T l).cells.toArray]) Tryd.func75 rfl Tryd.ntmps75 rfl (Hp.start w) ?_
  cases l with
  | nil =>
    repeat (first
      | (apply ws; exact rfl; exact rfl; exact rfl)
      | refine wl_still rfl rfl rfl (od_eqS (r := true) (a := []) (b := []) (Or.inl ⟨rfl, rfl⟩) rfl rfl) ?_
      | refine wc_seq ?_
      | refine wc_region ?_
      | refine wl_nil ?_
      | refine we_round ?_
      | refine we_then_wc ?_
      | (apply wi64; exact rfl; omega; omega; exact rfl; exact rfl)
      | (apply wfa; exact rfl; exact rfl; exact rfl; exact rfl)
      | (apply wct; exact rfl; omega; exact rfl; exact rfl)
      | (apply wcf; exact rfl; omega; exact rfl; exact rfl)
      | (apply wn; exact rfl; exact rfl)
      | (apply wlb (j := 0); exact rfl; exact rfl; exact rfl; exact rfl; exact rfl; exact rfl)
      | (apply wlb (j := 1); exact rfl; exact rfl; exact rfl; exact rfl; exact rfl; exact rfl)
      | (apply wlb (j := 2); exact rfl; exact rfl; exact rfl; exact rfl; exact rfl; exact rfl)
      | (apply wlb (j := 3); exact rfl; exact rfl; exact rfl; exact rfl; exact rfl; exact rfl)
      | (apply wln; exact rfl; exact rfl; exact rfl; exact rfl)
      | (apply wpu; exact rfl; exact rfl; exact rfl)
      | (apply wbx; exact rfl; exact rfl; exact rfl; intro _)
      | refine wc_block ?_
      | (apply wc_true; exact rfl)
      | (apply wc_false; exact rfl)
      | refine wc_skip ?_
      | refine wc_exit ?_
      | refine wc_ret ?_
      | refine we_then_exit ?_
      | refine we_then_ret ?_
      | refine we_in_normal ?_
      | refine we_in_ret ?_
      | refine we_in_here ?_
      | (apply we_in_there; exact rfl))
    refine wl_still rfl rfl rfl (od_buildA (z := [.bool false, .bool false, .bool false, .bool false]) (cs := [.bool false, .bool true, .bool true, .bool true]) rfl rfl zero117 rfl rfl) ?_
    repeat (first
      | (apply ws; exact rfl; exact rfl; exact rfl)
      | (apply wal zero117 rfl; exact rfl; exact rfl; intro bu)
      | (apply wsw (j := 0); exact rfl; exact rfl; exact rfl; exact rfl; exact rfl; exact plainB _ _ _ _; exact rfl; exact rfl)
      | refine wl_still rfl rfl rfl (od_indexAddrA1 2 rfl rfl rfl rfl rfl (by omega)) ?_
      | refine wc_seq ?_
      | refine wc_region ?_
      | refine wl_nil ?_
      | refine we_round ?_
      | refine we_then_wc ?_
      | (apply wi64; exact rfl; omega; omega; exact rfl; exact rfl)
      | (apply wfa; exact rfl; exact rfl; exact rfl; exact rfl)
      | (apply wct; exact rfl; omega; exact rfl; exact rfl)
      | (apply wcf; exact rfl; omega; exact rfl; exact rfl)
      | (apply wn; exact rfl; exact rfl)
      | (apply wlb (j := 0); exact rfl; exact rfl; exact rfl; exact rfl; exact rfl; exact rfl)
      | (apply wlb (j := 1); exact rfl; exact rfl; exact rfl; exact rfl; exact rfl; exact rfl)
      | (apply wlb (j := 2); exact rfl; exact rfl; exact rfl; exact rfl; exact rfl; exact rfl)
      | (apply wlb (j := 3); exact rfl; exact rfl; exact rfl; exact rfl; exact rfl; exact rfl)
      | (apply wln; exact rfl; exact rfl; exact rfl; exact rfl)
      | (apply wpu; exact rfl; exact rfl; exact rfl)
      | (apply wbx; exact rfl; exact rfl; exact rfl; intro _)
      | refine wc_block ?_
      | (apply wc_true; exact rfl)
      | (apply wc_false; exact rfl)
      | refine wc_skip ?_
      | refine wc_exit ?_
      | refine wc_ret ?_
      | refine we_then_exit ?_
      | refine we_then_ret ?_
      | refine we_in_normal ?_
      | refine we_in_ret ?_
      | refine we_in_here ?_
      | (apply we_in_there; exact rfl))
    exact we_ret2 (Or.inl rfl) rfl rfl rfl fun w' h => ⟨rfl, h.ext_all⟩
  | cons c l =>
    repeat (first
      | (apply ws; exact rfl; exact rfl; exact rfl)
      | refine wl_still rfl rfl rfl (od_eqS (r := false) (a := c :: l) (b := []) (Or.inl ⟨rfl, by simp⟩) rfl rfl) ?_
      | refine wc_seq ?_
      | refine wc_region ?_
      | refine wl_nil ?_
      | refine we_round ?_
      | refine we_then_wc ?_
      | (apply wi64; exact rfl; omega; omega; exact rfl; exact rfl)
      | (apply wfa; exact rfl; exact rfl; exact rfl; exact rfl)
      | (apply wct; exact rfl; omega; exact rfl; exact rfl)
      | (apply wcf; exact rfl; omega; exact rfl; exact rfl)
      | (apply wn; exact rfl; exact rfl)
      | (apply wlb (j := 0); exact rfl; exact rfl; exact rfl; exact rfl; exact rfl; exact rfl)
      | (apply wlb (j := 1); exact rfl; exact rfl; exact rfl; exact rfl; exact rfl; exact rfl)
      | (apply wlb (j := 2); exact rfl; exact rfl; exact rfl; exact rfl; exact rfl; exact rfl)
      | (apply wlb (j := 3); exact rfl; exact rfl; exact rfl; exact rfl; exact rfl; exact rfl)
      | (apply wln; exact rfl; exact rfl; exact rfl; exact rfl)
      | (apply wpu; exact rfl; exact rfl; exact rfl)
      | (apply wbx; exact rfl; exact rfl; exact rfl; intro _)
      | refine wc_block ?_
      | (apply wc_true; exact rfl)
      | (apply wc_false; exact rfl)
      | refine wc_skip ?_
      | refine wc_exit ?_
      | refine wc_ret ?_
      | refine we_then_exit ?_
      | refine we_then_ret ?_
      | refine we_in_normal ?_
      | refine we_in_ret ?_
      | refine we_in_here ?_
      | (apply we_in_there; exact rfl))
    refine wl_still rfl rfl rfl (od_buildA (z := [.bool false, .bool false, .bool false, .bool false]) (cs := [.bool false, .bool false, .bool true, .bool false]) rfl rfl zero117 rfl rfl) ?_
    repeat (first
      | (apply ws; exact rfl; exact rfl; exact rfl)
      | (apply wal zero117 rfl; exact rfl; exact rfl; intro bu)
      | (apply wsw (j := 0); exact rfl; exact rfl; exact rfl; exact rfl; exact rfl; exact plainB _ _ _ _; exact rfl; exact rfl)
      | refine wl_still rfl rfl rfl (od_indexAddrA1 2 rfl rfl rfl rfl rfl (by omega)) ?_
      | refine wc_seq ?_
      | refine wc_region ?_
      | refine wl_nil ?_
      | refine we_round ?_
      | refine we_then_wc ?_
      | (apply wi64; exact rfl; omega; omega; exact rfl; exact rfl)
      | (apply wfa; exact rfl; exact rfl; exact rfl; exact rfl)
      | (apply wct; exact rfl; omega; exact rfl; exact rfl)
      | (apply wcf; exact rfl; omega; exact rfl; exact rfl)
      | (apply wn; exact rfl; exact rfl)
      | (apply wlb (j := 0); exact rfl; exact rfl; exact rfl; exact rfl; exact rfl; exact rfl)
      | (apply wlb (j := 1); exact rfl; exact rfl; exact rfl; exact rfl; exact rfl; exact rfl)
      | (apply wlb (j := 2); exact rfl; exact rfl; exact rfl; exact rfl; exact rfl; exact rfl)
      | (apply wlb (j := 3); exact rfl; exact rfl; exact rfl; exact rfl; exact rfl; exact rfl)
      | (apply wln; exact rfl; exact rfl; exact rfl; exact rfl)
      | (apply wpu; exact rfl; exact rfl; exact rfl)
      | (apply wbx; exact rfl; exact rfl; exact rfl; intro _)
      | refine wc_block ?_
      | (apply wc_true; exact rfl)
      | (apply wc_false; exact rfl)
      | refine wc_skip ?_
      | refine wc_exit ?_
      | refine wc_ret ?_
      | refine we_then_exit ?_
      | refine we_then_ret ?_
      | refine we_in_normal ?_
      | refine we_in_ret ?_
      | refine we_in_here ?_
      | (apply we_in_there; exact rfl))
    exact we_ret2 (Or.inl rfl) rfl rfl rfl fun w' h => ⟨rfl, h.ext_all⟩

theorem formed_leaf (x : Lf) (w : World) : Fn 75 [x.v] w (Quiet (.tuple #[.int .i64 0, .bool true]) w) := by
  cases x with
  | I z => exact formed_I z w
  | T l => exact formed_T l w

theorem formed_L (b o c : Nat) (ls : List Lf) (hn : ls.length ≤ 64) (h0 : 0 < ls.length) (w : World) (hL : LeafAt w b o ls) : Fn 75 [listV b o c ls.length] w (Quiet (.tuple #[.int .i64 1, .bool true]) w) := by
  refine fn_of (args := [listV b o c ls.length]) Tryd.func75 rfl Tryd.ntmps75 rfl (Hp.start w) ?_
  repeat (first
    | (apply ws; exact rfl; exact rfl; exact rfl)
    | refine wl_still rfl rfl rfl (od_eqS (r := true) (a := []) (b := []) (Or.inl ⟨rfl, rfl⟩) rfl rfl) ?_
    | refine wc_seq ?_
    | refine wc_region ?_
    | refine wl_nil ?_
    | refine we_round ?_
    | refine we_then_wc ?_
    | (apply wi64; exact rfl; omega; omega; exact rfl; exact rfl)
    | (apply wfa; exact rfl; exact rfl; exact rfl; exact rfl)
    | (apply wct; exact rfl; omega; exact rfl; exact rfl)
    | (apply wcf; exact rfl; omega; exact rfl; exact rfl)
    | (apply wn; exact rfl; exact rfl)
    | (apply wlb (j := 0); exact rfl; exact rfl; exact rfl; exact rfl; exact rfl; exact rfl)
    | (apply wlb (j := 1); exact rfl; exact rfl; exact rfl; exact rfl; exact rfl; exact rfl)
    | (apply wlb (j := 2); exact rfl; exact rfl; exact rfl; exact rfl; exact rfl; exact rfl)
    | (apply wlb (j := 3); exact rfl; exact rfl; exact rfl; exact rfl; exact rfl; exact rfl)
    | (apply wln; exact rfl; exact rfl; exact rfl; exact rfl)
    | (apply wpu; exact rfl; exact rfl; exact rfl)
    | (apply wbx; exact rfl; exact rfl; exact rfl; intro _)
    | refine wc_block ?_
    | (apply wc_true; exact rfl)
    | (apply wc_false; exact rfl)
    | refine wc_skip ?_
    | refine wc_exit ?_
    | refine wc_ret ?_
    | refine we_then_exit ?_
    | refine we_then_ret ?_
    | refine we_in_normal ?_
    | refine we_in_ret ?_
    | refine we_in_here ?_
    | (apply we_in_there; exact rfl))
  refine wl_still rfl rfl rfl (od_buildA (z := [.bool false, .bool false, .bool false, .bool false]) (cs := [.bool false, .bool false, .bool false, .bool true]) rfl rfl zero117 rfl rfl) ?_
  repeat (first
    | (apply ws; exact rfl; exact rfl; exact rfl)
    | (apply wal zero117 rfl; exact rfl; exact rfl; intro bu)
    | (apply wsw (j := 0); exact rfl; exact rfl; exact rfl; exact rfl; exact rfl; exact plainB _ _ _ _; exact rfl; exact rfl)
    | refine wl_still rfl rfl rfl (od_indexAddrA1 3 rfl rfl rfl rfl rfl (by omega)) ?_
    | refine wc_seq ?_
    | refine wc_region ?_
    | refine wl_nil ?_
    | refine we_round ?_
    | refine we_then_wc ?_
    | (apply wi64; exact rfl; omega; omega; exact rfl; exact rfl)
    | (apply wfa; exact rfl; exact rfl; exact rfl; exact rfl)
    | (apply wct; exact rfl; omega; exact rfl; exact rfl)
    | (apply wcf; exact rfl; omega; exact rfl; exact rfl)
    | (apply wn; exact rfl; exact rfl)
    | (apply wlb (j := 0); exact rfl; exact rfl; exact rfl; exact rfl; exact rfl; exact rfl)
    | (apply wlb (j := 1); exact rfl; exact rfl; exact rfl; exact rfl; exact rfl; exact rfl)
    | (apply wlb (j := 2); exact rfl; exact rfl; exact rfl; exact rfl; exact rfl; exact rfl)
    | (apply wlb (j := 3); exact rfl; exact rfl; exact rfl; exact rfl; exact rfl; exact rfl)
    | (apply wln; exact rfl; exact rfl; exact rfl; exact rfl)
    | (apply wpu; exact rfl; exact rfl; exact rfl)
    | (apply wbx; exact rfl; exact rfl; exact rfl; intro _)
    | refine wc_block ?_
    | (apply wc_true; exact rfl)
    | (apply wc_false; exact rfl)
    | refine wc_skip ?_
    | refine wc_exit ?_
    | refine wc_ret ?_
    | refine we_then_exit ?_
    | refine we_then_ret ?_
    | refine we_in_normal ?_
    | refine we_in_ret ?_
    | refine we_in_here ?_
    | (apply we_in_there; exact rfl))
  refine wc_loop (ι := Nat) (fun k => [(2, .int .i64 0), (57, .int .i64 (k : Int)), (56, .int .i64 (ls.length : Int)), (55, .slice (some ⟨b, o, none⟩) ls.length c)]) (fun _ => []) (fun k => k ≤ ls.length) (fun k => ls.length - k) 0 (Nat.zero_le _) ⟨rfl, rfl, rfl, rfl, trivial⟩ (List.nil_sublist _) ?_
  intro k hk
  repeat (first
    | (apply ws; exact rfl; exact rfl; exact rfl)
    | refine wc_seq ?_
    | refine wc_region ?_
    | refine wl_nil ?_
    | refine we_round ?_
    | refine we_then_wc ?_
    | (apply wi64; exact rfl; omega; omega; exact rfl; exact rfl)
    | (apply wfa; exact rfl; exact rfl; exact rfl; exact rfl)
    | (apply wct; exact rfl; omega; exact rfl; exact rfl)
    | (apply wcf; exact rfl; omega; exact rfl; exact rfl)
    | (apply wn; exact rfl; exact rfl)
    | (apply wlb (j := 0); exact rfl; exact rfl; exact rfl; exact rfl; exact rfl; exact rfl)
    | (apply wlb (j := 1); exact rfl; exact rfl; exact rfl; exact rfl; exact rfl; exact rfl)
    | (apply wlb (j := 2); exact rfl; exact rfl; exact rfl; exact rfl; exact rfl; exact rfl)
    | (apply wlb (j := 3); exact rfl; exact rfl; exact rfl; exact rfl; exact rfl; exact rfl)
    | (apply wln; exact rfl; exact rfl; exact rfl; exact rfl)
    | (apply wpu; exact rfl; exact rfl; exact rfl)
    | (apply wbx; exact rfl; exact rfl; exact rfl; intro _)
    | refine wc_block ?_
    | (apply wc_true; exact rfl)
    | (apply wc_false; exact rfl)
    | refine wc_skip ?_
    | refine wc_exit ?_
    | refine wc_ret ?_
    | refine we_then_exit ?_
    | refine we_then_ret ?_
    | refine we_in_normal ?_
    | refine we_in_ret ?_
    | refine we_in_here ?_
    | (apply we_in_there; exact rfl))
  refine wc_if rfl (fun ht => ?_) (fun ht => ?_)
  · have ht : k < ls.length := by have := of_decide_eq_true ht; omega
    have hx : ls[k]? = some ls[k] := by simp [ht]
    have hcl := hL k _ hx
    generalize ls[k] = x at *
    repeat (first
      | (apply ws; exact rfl; exact rfl; exact rfl)
      | refine wc_seq ?_
      | refine wc_region ?_
      | refine wl_nil ?_
      | refine we_round ?_
      | refine we_then_wc ?_
      | (apply wi64; exact rfl; omega; omega; exact rfl; exact rfl)
      | (apply wfa; exact rfl; exact rfl; exact rfl; exact rfl)
      | (apply wct; exact rfl; omega; exact rfl; exact rfl)
      | (apply wcf; exact rfl; omega; exact rfl; exact rfl)
      | (apply wn; exact rfl; exact rfl)
      | (apply wlb (j := 0); exact rfl; exact rfl; exact rfl; exact rfl; exact rfl; exact rfl)
      | (apply wlb (j := 1); exact rfl; exact rfl; exact rfl; exact rfl; exact rfl; exact rfl)
      | (apply wlb (j := 2); exact rfl; exact rfl; exact rfl; exact rfl; exact rfl; exact rfl)
      | (apply wlb (j := 3); exact rfl; exact rfl; exact rfl; exact rfl; exact rfl; exact rfl)
      | (apply wln; exact rfl; exact rfl; exact rfl; exact rfl)
      | (apply wpu; exact rfl; exact rfl; exact rfl)
      | (apply wbx; exact rfl; exact rfl; exact rfl; intro _)
      | refine wc_block ?_
      | (apply wc_true; exact rfl)
      | (apply wc_false; exact rfl)
      | refine wc_skip ?_
      | refine wc_exit ?_
      | refine wc_ret ?_
      | refine we_then_exit ?_
      | refine we_then_ret ?_
      | refine we_in_normal ?_
      | refine we_in_ret ?_
      | refine we_in_here ?_
      | (apply we_in_there; exact rfl))
    refine wl_still rfl rfl rfl (od_indexAddr k rfl rfl rfl rfl rfl ht) ?_
    refine wl_still rfl rfl rfl (od_loadA (cs := x.cells) rfl rfl rfl x.cells_length (fun w' h i v hi => h.cell_old (hcl i v hi) (by simp))) ?_
    repeat (first
      | (apply ws; exact rfl; exact rfl; exact rfl)
      | (apply wal zero75 rfl; exact rfl; exact rfl; intro by')
      | (apply wsw (j := 0); exact rfl; exact rfl; exact rfl; exact rfl; exact x.cells_length; exact plainLf x; exact rfl; exact rfl)
      | (apply wlab (j := 0); exact rfl; exact rfl; exact rfl; exact rfl; exact x.cells_length; exact rfl; exact rfl)
      | refine wc_seq ?_
      | refine wc_region ?_
      | refine wl_nil ?_
      | refine we_round ?_
      | refine we_then_wc ?_
      | (apply wi64; exact rfl; omega; omega; exact rfl; exact rfl)
      | (apply wfa; exact rfl; exact rfl; exact rfl; exact rfl)
      | (apply wct; exact rfl; omega; exact rfl; exact rfl)
      | (apply wcf; exact rfl; omega; exact rfl; exact rfl)
      | (apply wn; exact rfl; exact rfl)
      | (apply wlb (j := 0); exact rfl; exact rfl; exact rfl; exact rfl; exact rfl; exact rfl)
      | (apply wlb (j := 1); exact rfl; exact rfl; exact rfl; exact rfl; exact rfl; exact rfl)
      | (apply wlb (j := 2); exact rfl; exact rfl; exact rfl; exact rfl; exact rfl; exact rfl)
      | (apply wlb (j := 3); exact rfl; exact rfl; exact rfl; exact rfl; exact rfl; exact rfl)
      | (apply wln; exact rfl; exact rfl; exact rfl; exact rfl)
      | (apply wpu; exact rfl; exact rfl; exact rfl)
      | (apply wbx; exact rfl; exact rfl; exact rfl; intro _)
      | refine wc_block ?_
      | (apply wc_true; exact rfl)
      | (apply wc_false; exact rfl)
      | refine wc_skip ?_
      | refine wc_exit ?_
      | refine wc_ret ?_
      | refine we_then_exit ?_
      | refine we_then_ret ?_
      | refine we_in_normal ?_
      | refine we_in_ret ?_
      | refine we_in_here ?_
      | (apply we_in_there; exact rfl))
    refine wl_quiet rfl rfl rfl (od_call Tryd.call75 rfl (fun w' h => formed_leaf x w')) ?_
    repeat (first
      | (apply ws; exact rfl; exact rfl; exact rfl)
      | refine wl_still rfl rfl rfl (od_max rfl rfl) ?_
      | refine wc_seq ?_
      | refine wc_region ?_
      | refine wl_nil ?_
      | refine we_round ?_
      | refine we_then_wc ?_
      | (apply wi64; exact rfl; omega; omega; exact rfl; exact rfl)
      | (apply wfa; exact rfl; exact rfl; exact rfl; exact rfl)
      | (apply wct; exact rfl; omega; exact rfl; exact rfl)
      | (apply wcf; exact rfl; omega; exact rfl; exact rfl)
      | (apply wn; exact rfl; exact rfl)
      | (apply wlb (j := 0); exact rfl; exact rfl; exact rfl; exact rfl; exact rfl; exact rfl)
      | (apply wlb (j := 1); exact rfl; exact rfl; exact rfl; exact rfl; exact rfl; exact rfl)
      | (apply wlb (j := 2); exact rfl; exact rfl; exact rfl; exact rfl; exact rfl; exact rfl)
      | (apply wlb (j := 3); exact rfl; exact rfl; exact rfl; exact rfl; exact rfl; exact rfl)
      | (apply wln; exact rfl; exact rfl; exact rfl; exact rfl)
      | (apply wpu; exact rfl; exact rfl; exact rfl)
      | (apply wbx; exact rfl; exact rfl; exact rfl; intro _)
      | refine wc_block ?_
      | (apply wc_true; exact rfl)
      | (apply wc_false; exact rfl)
      | refine wc_skip ?_
      | refine wc_exit ?_
      | refine wc_ret ?_
      | refine we_then_exit ?_
      | refine we_then_ret ?_
      | refine we_in_normal ?_
      | refine we_in_ret ?_
      | refine we_in_here ?_
      | (apply we_in_there; exact rfl))
    exact we_again (k + 1) (by omega) (by omega) ⟨rfl, by simp [get], rfl, rfl, trivial⟩ (List.nil_sublist _)
  repeat (first
    | (apply ws; exact rfl; exact rfl; exact rfl)
    | refine wc_seq ?_
    | refine wc_region ?_
    | refine wl_nil ?_
    | refine we_round ?_
    | refine we_then_wc ?_
    | (apply wi64; exact rfl; omega; omega; exact rfl; exact rfl)
    | (apply wfa; exact rfl; exact rfl; exact rfl; exact rfl)
    | (apply wct; exact rfl; omega; exact rfl; exact rfl)
    | (apply wcf; exact rfl; omega; exact rfl; exact rfl)
    | (apply wn; exact rfl; exact rfl)
    | (apply wlb (j := 0); exact rfl; exact rfl; exact rfl; exact rfl; exact rfl; exact rfl)
    | (apply wlb (j := 1); exact rfl; exact rfl; exact rfl; exact rfl; exact rfl; exact rfl)
    | (apply wlb (j := 2); exact rfl; exact rfl; exact rfl; exact rfl; exact rfl; exact rfl)
    | (apply wlb (j := 3); exact rfl; exact rfl; exact rfl; exact rfl; exact rfl; exact rfl)
    | (apply wln; exact rfl; exact rfl; exact rfl; exact rfl)
    | (apply wpu; exact rfl; exact rfl; exact rfl)
    | (apply wbx; exact rfl; exact rfl; exact rfl; intro _)
    | refine wc_block ?_
    | (apply wc_true; exact rfl)
    | (apply wc_false; exact rfl)
    | refine wc_skip ?_
    | refine wc_exit ?_
    | refine wc_ret ?_
    | refine we_then_exit ?_
    | refine we_then_ret ?_
    | refine we_in_normal ?_
    | refine we_in_ret ?_
    | refine we_in_here ?_
    | (apply we_in_there; exact rfl))
  exact we_ret2 (Or.inl rfl) rfl rfl rfl fun w' h => ⟨rfl, h.ext_all⟩

theorem check_L (b o c : Nat) (ls : List Lf) (hn : ls.length ≤ 64) (h0 : 0 < ls.length) (w : World) (hL : LeafAt w b o ls) : Fn 62 [listV b o c ls.length] w (Quiet (.int .i64 0) w) := by
  refine fn_of (args := [listV b o c ls.length]) Tryd.func62 rfl Tryd.ntmps62 rfl (Hp.start w) ?_
  repeat (first
    | (apply ws; exact rfl; exact rfl; exact rfl)
    | (apply wlab (j := 0); exact rfl; exact rfl; exact rfl; exact rfl; exact rfl; exact rfl; exact rfl)
    | refine wc_seq ?_
    | refine wc_region ?_
    | refine wl_nil ?_
    | refine we_round ?_
    | refine we_then_wc ?_
    | (apply wi64; exact rfl; omega; omega; exact rfl; exact rfl)
    | (apply wfa; exact rfl; exact rfl; exact rfl; exact rfl)
    | (apply wct; exact rfl; omega; exact rfl; exact rfl)
    | (apply wcf; exact rfl; omega; exact rfl; exact rfl)
    | (apply wn; exact rfl; exact rfl)
    | (apply wlb (j := 0); exact rfl; exact rfl; exact rfl; exact rfl; exact rfl; exact rfl)
    | (apply wlb (j := 1); exact rfl; exact rfl; exact rfl; exact rfl; exact rfl; exact rfl)
    | (apply wlb (j := 2); exact rfl; exact rfl; exact rfl; exact rfl; exact rfl; exact rfl)
    | (apply wlb (j := 3); exact rfl; exact rfl; exact rfl; exact rfl; exact rfl; exact rfl)
    | (apply wln; exact rfl; exact rfl; exact rfl; exact rfl)
    | (apply wpu; exact rfl; exact rfl; exact rfl)
    | (apply wbx; exact rfl; exact rfl; exact rfl; intro _)
    | refine wc_block ?_
    | (apply wc_true; exact rfl)
    | (apply wc_false; exact rfl)
    | refine wc_skip ?_
    | refine wc_exit ?_
    | refine wc_ret ?_
    | refine we_then_exit ?_
    | refine we_then_ret ?_
    | refine we_in_normal ?_
    | refine we_in_ret ?_
    | refine we_in_here ?_
    | (apply we_in_there; exact rfl))
  refine wl_quiet rfl rfl rfl (od_call Tryd.call75 rfl (fun w' h => formed_L b o c ls hn h0 w' (fun k x hx i y hy => h.cell_old (hL k x hx i y hy) List.not_mem_nil))) ?_
  repeat (first
    | (apply ws; exact rfl; exact rfl; exact rfl)
    | refine wc_seq ?_
    | refine wc_region ?_
    | refine wl_nil ?_
    | refine we_round ?_
    | refine we_then_wc ?_
    | (apply wi64; exact rfl; omega; omega; exact rfl; exact rfl)
    | (apply wfa; exact rfl; exact rfl; exact rfl; exact rfl)
    | (apply wct; exact rfl; omega; exact rfl; exact rfl)
    | (apply wcf; exact rfl; omega; exact rfl; exact rfl)
    | (apply wn; exact rfl; exact rfl)
    | (apply wlb (j := 0); exact rfl; exact rfl; exact rfl; exact rfl; exact rfl; exact rfl)
    | (apply wlb (j := 1); exact rfl; exact rfl; exact rfl; exact rfl; exact rfl; exact rfl)
    | (apply wlb (j := 2); exact rfl; exact rfl; exact rfl; exact rfl; exact rfl; exact rfl)
    | (apply wlb (j := 3); exact rfl; exact rfl; exact rfl; exact rfl; exact rfl; exact rfl)
    | (apply wln; exact rfl; exact rfl; exact rfl; exact rfl)
    | (apply wpu; exact rfl; exact rfl; exact rfl)
    | (apply wbx; exact rfl; exact rfl; exact rfl; intro _)
    | refine wc_block ?_
    | (apply wc_true; exact rfl)
    | (apply wc_false; exact rfl)
    | refine wc_skip ?_
    | refine wc_exit ?_
    | refine wc_ret ?_
    | refine we_then_exit ?_
    | refine we_then_ret ?_
    | refine we_in_normal ?_
    | refine we_in_ret ?_
    | refine we_in_here ?_
    | (apply we_in_there; exact rfl))
  exact we_ret1 (Or.inl rfl) rfl rfl fun w' h => ⟨rfl, h.ext_all⟩

/-- The encoding lies in a new block; it is handed back with no error. -/
def Enced (ys : List UInt8) : World → Value → World → Prop :=
  Makes (ι := Nat × List Value) (fun i b' => .tuple #[.slice (some ⟨b', 0, none⟩) ys.length i.1, .int .i64 0]) (fun i => ys.length ≤ i.1 ∧ (ys.map v8 ++ i.2).length = i.1) (fun i => ys.map v8 ++ i.2) 5

theorem encode_calls (b o c : Nat) (ls : List Lf) (hok : ∀ x ∈ ls, x.ok) (hn : ls.length ≤ 64) (h0 : 0 < ls.length) (w : World) (hL : LeafAt w b o ls) : Fn 42 [listV b o c ls.length] w (Enced (encL ls) w) := by
  refine fn_of (args := [listV b o c ls.length]) Tryd.func42 rfl Tryd.ntmps42 rfl (Hp.start w) ?_
  repeat (first
    | (apply ws; exact rfl; exact rfl; exact rfl)
    | (apply wlab (j := 0); exact rfl; exact rfl; exact rfl; exact rfl; exact rfl; exact rfl; exact rfl)
    | refine wc_seq ?_
    | refine wc_region ?_
    | refine wl_nil ?_
    | refine we_round ?_
    | refine we_then_wc ?_
    | (apply wi64; exact rfl; omega; omega; exact rfl; exact rfl)
    | (apply wfa; exact rfl; exact rfl; exact rfl; exact rfl)
    | (apply wct; exact rfl; omega; exact rfl; exact rfl)
    | (apply wcf; exact rfl; omega; exact rfl; exact rfl)
    | (apply wn; exact rfl; exact rfl)
    | (apply wlb (j := 0); exact rfl; exact rfl; exact rfl; exact rfl; exact rfl; exact rfl)
    | (apply wlb (j := 1); exact rfl; exact rfl; exact rfl; exact rfl; exact rfl; exact rfl)
    | (apply wlb (j := 2); exact rfl; exact rfl; exact rfl; exact rfl; exact rfl; exact rfl)
    | (apply wlb (j := 3); exact rfl; exact rfl; exact rfl; exact rfl; exact rfl; exact rfl)
    | (apply wln; exact rfl; exact rfl; exact rfl; exact rfl)
    | (apply wpu; exact rfl; exact rfl; exact rfl)
    | (apply wbx; exact rfl; exact rfl; exact rfl; intro _)
    | refine wc_block ?_
    | (apply wc_true; exact rfl)
    | (apply wc_false; exact rfl)
    | refine wc_skip ?_
    | refine wc_exit ?_
    | refine wc_ret ?_
    | refine we_then_exit ?_
    | refine we_then_ret ?_
    | refine we_in_normal ?_
    | refine we_in_ret ?_
    | refine we_in_here ?_
    | (apply we_in_there; exact rfl))
  rename_i bx
  refine wl_quiet rfl rfl rfl (od_call Tryd.call62 rfl (fun w' h => check_L b o c ls hn h0 w' (fun k x hx i y hy => h.cell_old (hL k x hx i y hy) List.not_mem_nil))) ?_
  repeat (first
    | (apply ws; exact rfl; exact rfl; exact rfl)
    | refine wc_seq ?_
    | refine wc_region ?_
    | refine wl_nil ?_
    | refine we_round ?_
    | refine we_then_wc ?_
    | (apply wi64; exact rfl; omega; omega; exact rfl; exact rfl)
    | (apply wfa; exact rfl; exact rfl; exact rfl; exact rfl)
    | (apply wct; exact rfl; omega; exact rfl; exact rfl)
    | (apply wcf; exact rfl; omega; exact rfl; exact rfl)
    | (apply wn; exact rfl; exact rfl)
    | (apply wlb (j := 0); exact rfl; exact rfl; exact rfl; exact rfl; exact rfl; exact rfl)
    | (apply wlb (j := 1); exact rfl; exact rfl; exact rfl; exact rfl; exact rfl; exact rfl)
    | (apply wlb (j := 2); exact rfl; exact rfl; exact rfl; exact rfl; exact rfl; exact rfl)
    | (apply wlb (j := 3); exact rfl; exact rfl; exact rfl; exact rfl; exact rfl; exact rfl)
    | (apply wln; exact rfl; exact rfl; exact rfl; exact rfl)
    | (apply wpu; exact rfl; exact rfl; exact rfl)
    | (apply wbx; exact rfl; exact rfl; exact rfl; intro _)
    | refine wc_block ?_
    | (apply wc_true; exact rfl)
    | (apply wc_false; exact rfl)
    | refine wc_skip ?_
    | refine wc_exit ?_
    | refine wc_ret ?_
    | refine we_then_exit ?_
    | refine we_then_ret ?_
    | refine we_in_normal ?_
    | refine we_in_ret ?_
    | refine we_in_here ?_
    | (apply we_in_there; exact rfl))
  refine wc_plan [(bx, [.int .i64 3, .int .i64 0, strV [], .slice (some ⟨b, o, none⟩) ls.length c], 75)] none [(1, true), (2, true), (7, true), (0, false), (3, false), (4, false), (5, false), (6, false), (8, false), (9, true), (10, true)] (by kernel_rfl) (List.Sublist.refl _) ?_
  repeat (first
    | (apply ps; exact rfl; exact rfl; exact rfl; exact rfl)
    | (apply wp_still; exact rfl; exact rfl; exact rfl; exact (od_loadAB 0 rfl rfl rfl rfl rfl))
    | (apply pfa; exact rfl; exact rfl; exact rfl; exact rfl; exact rfl)
    | (apply pi64; exact rfl; exact rfl; omega; omega; exact rfl; exact rfl)
    | (apply pct; exact rfl; exact rfl; omega; exact rfl; exact rfl)
    | (apply pcf; exact rfl; exact rfl; omega; exact rfl; exact rfl)
    | (apply wp_not; exact rfl; exact rfl; exact rfl)
    | (apply plb (j := 0); exact rfl; exact rfl; exact rfl; exact rfl; exact rfl; exact rfl; exact rfl)
    | (apply plb (j := 1); exact rfl; exact rfl; exact rfl; exact rfl; exact rfl; exact rfl; exact rfl)
    | (apply plb (j := 2); exact rfl; exact rfl; exact rfl; exact rfl; exact rfl; exact rfl; exact rfl)
    | (apply pln; exact rfl; exact rfl; exact rfl; exact rfl; exact rfl)
    | (apply ppu; exact rfl; exact rfl; exact rfl; exact rfl)
    | (apply pfs; exact rfl; exact rfl; exact rfl; exact rfl)
    | apply wp_nil)
  refine wp_lays rfl rfl rfl (od_call Tryd.call63 rfl (fun w' h => newWriter_calls w')) ?_
  rintro v bn ⟨var, wr, rfl, rfl⟩
  dsimp only [List.cons_append, List.nil_append]
  repeat (first
    | (apply ps; exact rfl; exact rfl; exact rfl; exact rfl)
    | (apply wp_quietS; exact rfl; exact rfl; exact rfl; exact (od_indexAddrA1 3 rfl rfl rfl rfl rfl (by omega)).quiet)
    | (apply wp_quietS; exact rfl; exact rfl; exact rfl; exact (od_fieldAddr rfl rfl).quiet)
    | (apply wp_quietS; exact rfl; exact rfl; exact rfl; exact (od_loadB 1 rfl rfl rfl rfl).quiet)
    | (apply pfa; exact rfl; exact rfl; exact rfl; exact rfl; exact rfl)
    | (apply pi64; exact rfl; exact rfl; omega; omega; exact rfl; exact rfl)
    | (apply pct; exact rfl; exact rfl; omega; exact rfl; exact rfl)
    | (apply pcf; exact rfl; exact rfl; omega; exact rfl; exact rfl)
    | (apply wp_not; exact rfl; exact rfl; exact rfl)
    | (apply plb (j := 0); exact rfl; exact rfl; exact rfl; exact rfl; exact rfl; exact rfl; exact rfl)
    | (apply plb (j := 1); exact rfl; exact rfl; exact rfl; exact rfl; exact rfl; exact rfl; exact rfl)
    | (apply plb (j := 2); exact rfl; exact rfl; exact rfl; exact rfl; exact rfl; exact rfl; exact rfl)
    | (apply pln; exact rfl; exact rfl; exact rfl; exact rfl; exact rfl)
    | (apply ppu; exact rfl; exact rfl; exact rfl; exact rfl)
    | (apply pfs; exact rfl; exact rfl; exact rfl; exact rfl)
    | apply wp_nil)
  refine wp_makes rfl rfl rfl (od_callv rfl Tryd.call80 rfl (fun w' h => by exact write_L b o c ls var hok hn w' (fun k x hx i y hy => h.cell_old (hL k x hx i y hy) List.not_mem_nil) ⟨wr, h.cell_blk (j := 0) rfl rfl, h.cell_blk (j := 1) rfl rfl, h.cell_blk (j := 1) rfl rfl⟩)) ?_
  rintro ⟨c2, sp2⟩ b2 ⟨h1, h2⟩
  simp only at h1 h2
  dsimp only
  repeat (first
    | (apply ps; exact rfl; exact rfl; exact rfl; exact rfl)
    | (apply pfa; exact rfl; exact rfl; exact rfl; exact rfl; exact rfl)
    | (apply pi64; exact rfl; exact rfl; omega; omega; exact rfl; exact rfl)
    | (apply pct; exact rfl; exact rfl; omega; exact rfl; exact rfl)
    | (apply pcf; exact rfl; exact rfl; omega; exact rfl; exact rfl)
    | (apply wp_not; exact rfl; exact rfl; exact rfl)
    | (apply plb (j := 0); exact rfl; exact rfl; exact rfl; exact rfl; exact rfl; exact rfl; exact rfl)
    | (apply plb (j := 1); exact rfl; exact rfl; exact rfl; exact rfl; exact rfl; exact rfl; exact rfl)
    | (apply plb (j := 2); exact rfl; exact rfl; exact rfl; exact rfl; exact rfl; exact rfl; exact rfl)
    | (apply pln; exact rfl; exact rfl; exact rfl; exact rfl; exact rfl)
    | (apply ppu; exact rfl; exact rfl; exact rfl; exact rfl)
    | (apply pfs; exact rfl; exact rfl; exact rfl; exact rfl)
    | apply wp_nil)
  repeat (first
    | (apply ws; exact rfl; exact rfl; exact rfl)
    | refine wc_seq ?_
    | refine wc_region ?_
    | refine wl_nil ?_
    | refine we_round ?_
    | refine we_then_wc ?_
    | (apply wi64; exact rfl; omega; omega; exact rfl; exact rfl)
    | (apply wfa; exact rfl; exact rfl; exact rfl; exact rfl)
    | (apply wct; exact rfl; omega; exact rfl; exact rfl)
    | (apply wcf; exact rfl; omega; exact rfl; exact rfl)
    | (apply wn; exact rfl; exact rfl)
    | (apply wlb (j := 0); exact rfl; exact rfl; exact rfl; exact rfl; exact rfl; exact rfl)
    | (apply wlb (j := 1); exact rfl; exact rfl; exact rfl; exact rfl; exact rfl; exact rfl)
    | (apply wlb (j := 2); exact rfl; exact rfl; exact rfl; exact rfl; exact rfl; exact rfl)
    | (apply wlb (j := 3); exact rfl; exact rfl; exact rfl; exact rfl; exact rfl; exact rfl)
    | (apply wln; exact rfl; exact rfl; exact rfl; exact rfl)
    | (apply wpu; exact rfl; exact rfl; exact rfl)
    | (apply wbx; exact rfl; exact rfl; exact rfl; intro _)
    | refine wc_block ?_
    | (apply wc_true; exact rfl)
    | (apply wc_false; exact rfl)
    | refine wc_skip ?_
    | refine wc_exit ?_
    | refine wc_ret ?_
    | refine we_then_exit ?_
    | refine we_then_ret ?_
    | refine we_in_normal ?_
    | refine we_in_ret ?_
    | refine we_in_here ?_
    | (apply we_in_there; exact rfl))
  exact we_ret2 (Or.inl rfl) rfl rfl rfl fun w' h => ⟨(c2, sp2), b2, rfl, ⟨h1, h2⟩, (by have := (h.at (j := 0) rfl).1; simpa using this), h.ext_all, (h.at (j := 0) rfl).2⟩

end Go.Proofs.YtielloijdkoeiaaDoor
