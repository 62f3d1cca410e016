/- The reference of chapters 10 and 47: the hash of an occasion. -/
import Derived.Test.YtielloijdkoeiaaDoorTa
import Derived.Test.YtielloijdkoeiaaDoorSd
import Derived.Test.YtielloijdkoeiaaDoorPb
import Derived.Test.YtielloijdkoeiaaDoorHb
namespace Go.Proofs.YtielloijdkoeiaaDoor
open Go Go.RowKit Go.Lib
set_option maxRecDepth 100000

theorem ref_Hash10 (tag : List UInt8) (v : Value) (l : List UInt8) (ht : tag.length ≤ 2 ^ 40) (hlen : l.length ≤ 2 ^ 40) (w : World) (hv : ∀ w', Ext w w' → Src w' v 1 l.length (l.map v8)) : Fn 74 [strV tag, v] w (Quiet (.int .i64 (hashP tag l)) w) := by
  refine fn_of (args := [strV tag, v]) Tryd.func74 rfl Tryd.ntmps74 rfl (Hp.start w) ?_
  have h32 : (tagP tag l).length = 32 := sumP_length _
  have h32' : ((tagP tag l).map v8).length = 32 := by simp [h32]
  have hfin : hashP tag l = hashD (tagP tag l) := rfl
  repeat (first
    | (apply ws; exact rfl; exact rfl; exact rfl)
    | refine wc_seq ?_
    | refine wc_region ?_
    | refine wl_nil ?_
    | refine we_round ?_
    | refine we_then_wc ?_
    | (apply wi64; exact rfl; omega; omega; exact rfl; exact rfl)
    | (apply wfa; exact rfl; exact rfl; exact rfl; exact rfl)
    | (apply wct; exact rfl; omega; exact rfl; exact rfl)
    | (apply wcf; exact rfl; omega; exact rfl; exact rfl)
    | (apply wn; exact rfl; exact rfl)
    | (apply wlb (j := 0); exact rfl; exact rfl; exact rfl; exact rfl; exact rfl; exact rfl)
    | (apply wlb (j := 1); exact rfl; exact rfl; exact rfl; exact rfl; exact rfl; exact rfl)
    | (apply wlb (j := 2); exact rfl; exact rfl; exact rfl; exact rfl; exact rfl; exact rfl)
    | (apply wlb (j := 3); exact rfl; exact rfl; exact rfl; exact rfl; exact rfl; exact rfl)
    | (apply wln; exact rfl; exact rfl; exact rfl; exact rfl)
    | (apply wpu; exact rfl; exact rfl; exact rfl)
    | (apply wbx; exact rfl; exact rfl; exact rfl; intro _)
    | refine wc_block ?_
    | (apply wc_true; exact rfl)
    | (apply wc_false; exact rfl)
    | refine wc_skip ?_
    | refine wc_exit ?_
    | refine wc_ret ?_
    | refine we_then_exit ?_
    | refine we_then_ret ?_
    | refine we_in_normal ?_
    | refine we_in_ret ?_
    | refine we_in_here ?_
    | (apply we_in_there; exact rfl))
  refine wl_quiet rfl rfl rfl (od_call Tryd.call66 rfl (fun w' h => ref_Tagged tag v l ht hlen w' (fun w'' h' => hv w'' (h.ext_all.trans h')))) ?_
  rw [hfin]
  generalize tagP tag l = d at *
  obtain ⟨x0, r, rfl⟩ : ∃ c r, d = c :: r := by cases d with | nil => simp at h32 | cons c r => exact ⟨c, r, rfl⟩
  have hd0 : ((x0 :: r).map v8)[0 + 0]? = some (v8 x0) := rfl
  have hx0 := x0.toNat_lt
  have hw0 : IntKind.i64.wrap (x0.toNat : Int) = (x0.toNat : Int) := wrap_i64 (by omega) (by omega)
  have hr0 : (x0.toNat : Int).tmod 128 = ((x0.toNat % 128 : Nat) : Int) := by rw [Int.tmod_eq_emod_of_nonneg (by omega)]; rfl
  repeat (first
    | (apply ws; exact rfl; exact rfl; exact rfl)
    | (apply wal zero53 rfl; exact rfl; exact rfl; intro bt)
    | (apply wsw (j := 0); exact rfl; exact rfl; exact rfl; exact rfl; exact h32'; exact plain8 _; exact rfl; exact rfl)
    | refine wl_still rfl rfl rfl (od_indexAddrA1 0 rfl rfl rfl rfl rfl (by omega)) ?_
    | refine wl_still rfl rfl rfl (od_loadB 0 rfl rfl rfl hd0) ?_
    | refine wc_seq ?_
    | refine wc_region ?_
    | refine wl_nil ?_
    | refine we_round ?_
    | refine we_then_wc ?_
    | (apply wi64; exact rfl; omega; omega; exact rfl; exact rfl)
    | (apply wfa; exact rfl; exact rfl; exact rfl; exact rfl)
    | (apply wct; exact rfl; omega; exact rfl; exact rfl)
    | (apply wcf; exact rfl; omega; exact rfl; exact rfl)
    | (apply wn; exact rfl; exact rfl)
    | (apply wlb (j := 0); exact rfl; exact rfl; exact rfl; exact rfl; exact rfl; exact rfl)
    | (apply wlb (j := 1); exact rfl; exact rfl; exact rfl; exact rfl; exact rfl; exact rfl)
    | (apply wlb (j := 2); exact rfl; exact rfl; exact rfl; exact rfl; exact rfl; exact rfl)
    | (apply wlb (j := 3); exact rfl; exact rfl; exact rfl; exact rfl; exact rfl; exact rfl)
    | (apply wln; exact rfl; exact rfl; exact rfl; exact rfl)
    | (apply wpu; exact rfl; exact rfl; exact rfl)
    | (apply wbx; exact rfl; exact rfl; exact rfl; intro _)
    | refine wc_block ?_
    | (apply wc_true; exact rfl)
    | (apply wc_false; exact rfl)
    | refine wc_skip ?_
    | refine wc_exit ?_
    | refine wc_ret ?_
    | refine we_then_exit ?_
    | refine we_then_ret ?_
    | refine we_in_normal ?_
    | refine we_in_ret ?_
    | refine we_in_here ?_
    | (apply we_in_there; exact rfl))
  refine wl_still rfl rfl rfl (od_conv rfl rfl rfl) ?_
  rw [hw0]
  repeat (first
    | (apply ws; exact rfl; exact rfl; exact rfl)
    | refine wl_still rfl rfl rfl (od_rem rfl rfl (by decide) hr0) ?_
    | refine wc_seq ?_
    | refine wc_region ?_
    | refine wl_nil ?_
    | refine we_round ?_
    | refine we_then_wc ?_
    | (apply wi64; exact rfl; omega; omega; exact rfl; exact rfl)
    | (apply wfa; exact rfl; exact rfl; exact rfl; exact rfl)
    | (apply wct; exact rfl; omega; exact rfl; exact rfl)
    | (apply wcf; exact rfl; omega; exact rfl; exact rfl)
    | (apply wn; exact rfl; exact rfl)
    | (apply wlb (j := 0); exact rfl; exact rfl; exact rfl; exact rfl; exact rfl; exact rfl)
    | (apply wlb (j := 1); exact rfl; exact rfl; exact rfl; exact rfl; exact rfl; exact rfl)
    | (apply wlb (j := 2); exact rfl; exact rfl; exact rfl; exact rfl; exact rfl; exact rfl)
    | (apply wlb (j := 3); exact rfl; exact rfl; exact rfl; exact rfl; exact rfl; exact rfl)
    | (apply wln; exact rfl; exact rfl; exact rfl; exact rfl)
    | (apply wpu; exact rfl; exact rfl; exact rfl)
    | (apply wbx; exact rfl; exact rfl; exact rfl; intro _)
    | refine wc_block ?_
    | (apply wc_true; exact rfl)
    | (apply wc_false; exact rfl)
    | refine wc_skip ?_
    | refine wc_exit ?_
    | refine wc_ret ?_
    | refine we_then_exit ?_
    | refine we_then_ret ?_
    | refine we_in_normal ?_
    | refine we_in_ret ?_
    | refine we_in_here ?_
    | (apply we_in_there; exact rfl))
  have hh : hashD (x0 :: r) = ((numF (x0.toNat % 128) (r.take 7) : Nat) : Int) % 1073741789 := by
    unfold hashD hd7
    have e1 : ((x0 :: r).set 0 (UInt8.ofNat (((x0 :: r).getD 0 0).toNat % 128))).take 8 = UInt8.ofNat (x0.toNat % 128) :: r.take 7 := by simp
    rw [e1]
    have e2 : (UInt8.ofNat (x0.toNat % 128)).toNat = x0.toNat % 128 := by simp; omega
    show ((numF (0 * 256 + (UInt8.ofNat (x0.toNat % 128)).toNat) (r.take 7) : Nat) : Int) % 1073741789 = _
    rw [e2, Nat.zero_mul, Nat.zero_add]
  rw [hh]
  have hrl : r.length = 31 := by simpa using h32
  refine wc_loop (ι := Nat × Nat) (fun i => [(6, .int .i64 (i.2 : Int)), (7, .int .i64 ((i.1 + 1 : Nat) : Int)), (5, .pointer (some ⟨bt, 0, none⟩))]) (fun _ => [(bt, (x0 :: r).map v8, 53)])
    (fun i => i.1 ≤ 7 ∧ i.2 * 2 < 2 ^ (8 * (i.1 + 1)) ∧ numF i.2 ((r.take 7).drop i.1) = numF (x0.toNat % 128) (r.take 7)) (fun i => 7 - i.1) (0, x0.toNat % 128) ⟨Nat.zero_le _, by simp; omega, rfl⟩ ⟨rfl, rfl, rfl, trivial⟩ (List.Sublist.cons_cons _ (List.nil_sublist _)) ?_
  rintro ⟨k, n⟩ ⟨hk, hn, hf⟩
  simp only at hk hn hf
  dsimp only
  by_cases hlt : k < 7
  · have hn56 : n * 2 < 2 ^ 56 := Nat.lt_of_lt_of_le hn (Nat.pow_le_pow_right (by omega) (by omega))
    have hx : r[k]? = some r[k] := List.getElem?_eq_getElem (by omega)
    have hb : ((x0 :: r).map v8)[0 + (k + 1)]? = some (v8 r[k]) := by rw [Nat.zero_add, List.map_cons, List.getElem?_cons_succ, List.getElem?_map, hx]; rfl
    have hd : (r.take 7).drop k = r[k] :: (r.take 7).drop (k + 1) := by
      rw [List.drop_eq_getElem_cons (by simp; omega)]; simp
    generalize r[k] = y at *
    have hy := y.toNat_lt
    have hw : IntKind.i64.wrap (y.toNat : Int) = (y.toNat : Int) := wrap_i64 (by omega) (by omega)
    repeat (first
      | (apply ws; exact rfl; exact rfl; exact rfl)
      | refine wl_still rfl rfl rfl (od_indexAddrA1 (k + 1) rfl rfl rfl rfl rfl (by omega)) ?_
      | refine wl_still rfl rfl rfl (od_loadB 0 rfl rfl rfl hb) ?_
      | refine wc_seq ?_
      | refine wc_region ?_
      | refine wl_nil ?_
      | refine we_round ?_
      | refine we_then_wc ?_
      | (apply wi64; exact rfl; omega; omega; exact rfl; exact rfl)
      | (apply wfa; exact rfl; exact rfl; exact rfl; exact rfl)
      | (apply wct; exact rfl; omega; exact rfl; exact rfl)
      | (apply wcf; exact rfl; omega; exact rfl; exact rfl)
      | (apply wn; exact rfl; exact rfl)
      | (apply wlb (j := 0); exact rfl; exact rfl; exact rfl; exact rfl; exact rfl; exact rfl)
      | (apply wlb (j := 1); exact rfl; exact rfl; exact rfl; exact rfl; exact rfl; exact rfl)
      | (apply wlb (j := 2); exact rfl; exact rfl; exact rfl; exact rfl; exact rfl; exact rfl)
      | (apply wlb (j := 3); exact rfl; exact rfl; exact rfl; exact rfl; exact rfl; exact rfl)
      | (apply wln; exact rfl; exact rfl; exact rfl; exact rfl)
      | (apply wpu; exact rfl; exact rfl; exact rfl)
      | (apply wbx; exact rfl; exact rfl; exact rfl; intro _)
      | refine wc_block ?_
      | (apply wc_true; exact rfl)
      | (apply wc_false; exact rfl)
      | refine wc_skip ?_
      | refine wc_exit ?_
      | refine wc_ret ?_
      | refine we_then_exit ?_
      | refine we_then_ret ?_
      | refine we_in_normal ?_
      | refine we_in_ret ?_
      | refine we_in_here ?_
      | (apply we_in_there; exact rfl))
    refine wl_still rfl rfl rfl (od_conv rfl rfl rfl) ?_
    rw [hw]
    repeat (first
      | (apply ws; exact rfl; exact rfl; exact rfl)
      | refine wc_seq ?_
      | refine wc_region ?_
      | refine wl_nil ?_
      | refine we_round ?_
      | refine we_then_wc ?_
      | (apply wi64; exact rfl; omega; omega; exact rfl; exact rfl)
      | (apply wfa; exact rfl; exact rfl; exact rfl; exact rfl)
      | (apply wct; exact rfl; omega; exact rfl; exact rfl)
      | (apply wcf; exact rfl; omega; exact rfl; exact rfl)
      | (apply wn; exact rfl; exact rfl)
      | (apply wlb (j := 0); exact rfl; exact rfl; exact rfl; exact rfl; exact rfl; exact rfl)
      | (apply wlb (j := 1); exact rfl; exact rfl; exact rfl; exact rfl; exact rfl; exact rfl)
      | (apply wlb (j := 2); exact rfl; exact rfl; exact rfl; exact rfl; exact rfl; exact rfl)
      | (apply wlb (j := 3); exact rfl; exact rfl; exact rfl; exact rfl; exact rfl; exact rfl)
      | (apply wln; exact rfl; exact rfl; exact rfl; exact rfl)
      | (apply wpu; exact rfl; exact rfl; exact rfl)
      | (apply wbx; exact rfl; exact rfl; exact rfl; intro _)
      | refine wc_block ?_
      | (apply wc_true; exact rfl)
      | (apply wc_false; exact rfl)
      | refine wc_skip ?_
      | refine wc_exit ?_
      | refine wc_ret ?_
      | refine we_then_exit ?_
      | refine we_then_ret ?_
      | refine we_in_normal ?_
      | refine we_in_ret ?_
      | refine we_in_here ?_
      | (apply we_in_there; exact rfl))
    refine we_again (k + 1, n * 256 + y.toNat) ⟨by simp only; omega, numF_bound _ hn (fun h0 => by omega), ?_⟩ (by simp only; omega) ⟨rfl, by simp [get], rfl, trivial⟩ (List.Sublist.refl _)
    rw [hd] at hf
    exact hf
  · have hk7 : k = 7 := by omega
    subst hk7
    have hf' : n = numF (x0.toNat % 128) (r.take 7) := by
      rw [List.drop_eq_nil_of_le (by simp; omega)] at hf
      exact hf
    repeat (first
      | (apply ws; exact rfl; exact rfl; exact rfl)
      | refine wl_still rfl rfl rfl (od_rem rfl rfl (by omega) (Int.tmod_eq_emod_of_nonneg (by omega))) ?_
      | refine wc_seq ?_
      | refine wc_region ?_
      | refine wl_nil ?_
      | refine we_round ?_
      | refine we_then_wc ?_
      | (apply wi64; exact rfl; omega; omega; exact rfl; exact rfl)
      | (apply wfa; exact rfl; exact rfl; exact rfl; exact rfl)
      | (apply wct; exact rfl; omega; exact rfl; exact rfl)
      | (apply wcf; exact rfl; omega; exact rfl; exact rfl)
      | (apply wn; exact rfl; exact rfl)
      | (apply wlb (j := 0); exact rfl; exact rfl; exact rfl; exact rfl; exact rfl; exact rfl)
      | (apply wlb (j := 1); exact rfl; exact rfl; exact rfl; exact rfl; exact rfl; exact rfl)
      | (apply wlb (j := 2); exact rfl; exact rfl; exact rfl; exact rfl; exact rfl; exact rfl)
      | (apply wlb (j := 3); exact rfl; exact rfl; exact rfl; exact rfl; exact rfl; exact rfl)
      | (apply wln; exact rfl; exact rfl; exact rfl; exact rfl)
      | (apply wpu; exact rfl; exact rfl; exact rfl)
      | (apply wbx; exact rfl; exact rfl; exact rfl; intro _)
      | refine wc_block ?_
      | (apply wc_true; exact rfl)
      | (apply wc_false; exact rfl)
      | refine wc_skip ?_
      | refine wc_exit ?_
      | refine wc_ret ?_
      | refine we_then_exit ?_
      | refine we_then_ret ?_
      | refine we_in_normal ?_
      | refine we_in_ret ?_
      | refine we_in_here ?_
      | (apply we_in_there; exact rfl))
    exact we_ret1 (Or.inl rfl) rfl rfl fun w' h => ⟨by rw [hf'], h.ext_all⟩

theorem ref_Int (n : Int) (w : World) : Fn 73 [.int .i64 n] w (Quiet (Lf.I n).v w) := by
  refine fn_of (args := [.int .i64 n]) Tryd.func73 rfl Tryd.ntmps73 rfl (Hp.start w) ?_
  repeat (first
    | (apply ws; exact rfl; exact rfl; exact rfl)
    | (apply wal zero75 rfl; exact rfl; exact rfl; intro bz)
    | refine wl_still rfl rfl rfl (od_struct [.int .i64 0, .int .i64 0, strV [], .slice none 0 0] (Lf.I n).cells rfl rfl zero75 rfl rfl) ?_
    | (apply wsw (j := 0); exact rfl; exact rfl; exact rfl; exact rfl; exact rfl; exact plainLf (Lf.I n); exact rfl; exact rfl)
    | refine wc_seq ?_
    | refine wc_region ?_
    | refine wl_nil ?_
    | refine we_round ?_
    | refine we_then_wc ?_
    | (apply wi64; exact rfl; omega; omega; exact rfl; exact rfl)
    | (apply wfa; exact rfl; exact rfl; exact rfl; exact rfl)
    | (apply wct; exact rfl; omega; exact rfl; exact rfl)
    | (apply wcf; exact rfl; omega; exact rfl; exact rfl)
    | (apply wn; exact rfl; exact rfl)
    | (apply wlb (j := 0); exact rfl; exact rfl; exact rfl; exact rfl; exact rfl; exact rfl)
    | (apply wlb (j := 1); exact rfl; exact rfl; exact rfl; exact rfl; exact rfl; exact rfl)
    | (apply wlb (j := 2); exact rfl; exact rfl; exact rfl; exact rfl; exact rfl; exact rfl)
    | (apply wlb (j := 3); exact rfl; exact rfl; exact rfl; exact rfl; exact rfl; exact rfl)
    | (apply wln; exact rfl; exact rfl; exact rfl; exact rfl)
    | (apply wpu; exact rfl; exact rfl; exact rfl)
    | (apply wbx; exact rfl; exact rfl; exact rfl; intro _)
    | refine wc_block ?_
    | (apply wc_true; exact rfl)
    | (apply wc_false; exact rfl)
    | refine wc_skip ?_
    | refine wc_exit ?_
    | refine wc_ret ?_
    | refine we_then_exit ?_
    | refine we_then_ret ?_
    | refine we_in_normal ?_
    | refine we_in_ret ?_
    | refine we_in_here ?_
    | (apply we_in_there; exact rfl))
  exact we_retCA 0 (Or.inl rfl) rfl rfl rfl rfl rfl rfl fun w' h => ⟨rfl, h.ext_all⟩
theorem plainL4 (b o n c : Nat) : ∀ v ∈ #[Value.int .i64 3, .int .i64 0, strV [], .slice (some ⟨b, o, none⟩) n c].toList, plainV v = true := by simp [strV, plainV]
theorem ref_List (b o n c : Nat) (w : World) : Fn 72 [.slice (some ⟨b, o, none⟩) n c] w (Quiet (listV b o c n) w) := by
  refine fn_of (args := [.slice (some ⟨b, o, none⟩) n c]) Tryd.func72 rfl Tryd.ntmps72 rfl (Hp.start w) ?_
  repeat (first
    | (apply ws; exact rfl; exact rfl; exact rfl)
    | (apply wal zero75 rfl; exact rfl; exact rfl; intro bz)
    | refine wl_still rfl rfl rfl (od_struct [.int .i64 0, .int .i64 0, strV [], .slice none 0 0] [.int .i64 3, .int .i64 0, strV [], .slice (some ⟨b, o, none⟩) n c] rfl rfl zero75 rfl rfl) ?_
    | (apply wsw (j := 0); exact rfl; exact rfl; exact rfl; exact rfl; exact rfl; exact plainL4 _ _ _ _; exact rfl; exact rfl)
    | refine wc_seq ?_
    | refine wc_region ?_
    | refine wl_nil ?_
    | refine we_round ?_
    | refine we_then_wc ?_
    | (apply wi64; exact rfl; omega; omega; exact rfl; exact rfl)
    | (apply wfa; exact rfl; exact rfl; exact rfl; exact rfl)
    | (apply wct; exact rfl; omega; exact rfl; exact rfl)
    | (apply wcf; exact rfl; omega; exact rfl; exact rfl)
    | (apply wn; exact rfl; exact rfl)
    | (apply wlb (j := 0); exact rfl; exact rfl; exact rfl; exact rfl; exact rfl; exact rfl)
    | (apply wlb (j := 1); exact rfl; exact rfl; exact rfl; exact rfl; exact rfl; exact rfl)
    | (apply wlb (j := 2); exact rfl; exact rfl; exact rfl; exact rfl; exact rfl; exact rfl)
    | (apply wlb (j := 3); exact rfl; exact rfl; exact rfl; exact rfl; exact rfl; exact rfl)
    | (apply wln; exact rfl; exact rfl; exact rfl; exact rfl)
    | (apply wpu; exact rfl; exact rfl; exact rfl)
    | (apply wbx; exact rfl; exact rfl; exact rfl; intro _)
    | refine wc_block ?_
    | (apply wc_true; exact rfl)
    | (apply wc_false; exact rfl)
    | refine wc_skip ?_
    | refine wc_exit ?_
    | refine wc_ret ?_
    | refine we_then_exit ?_
    | refine we_then_ret ?_
    | refine we_in_normal ?_
    | refine we_in_ret ?_
    | refine we_in_here ?_
    | (apply we_in_there; exact rfl))
  exact we_retCA 0 (Or.inl rfl) rfl rfl rfl rfl rfl rfl fun w' h => ⟨rfl, h.ext_all⟩

theorem ref_Hash47 (doc no : Int) (hd : in64 doc) (hn : in64 no) (w : World) : Fn 60 [.int .i64 doc, .int .i64 no] w (Quiet (.int .i64 (occH doc no)) w) := by
  refine fn_of (args := [.int .i64 doc, .int .i64 no]) Tryd.func60 rfl Tryd.ntmps60 rfl (Hp.start w) ?_
  have hel : (encL [.I doc, .I no]).length ≤ 2 ^ 38 := by
    have := encH_length [.I doc, .I no] 2 (by simp [Lf.ok, hd, hn]) (by simp)
    simpa [encH, encL] using this
  repeat (first
    | (apply ws; exact rfl; exact rfl; exact rfl)
    | (apply wq Tryd.call73; exact rfl; exact rfl; exact rfl; exact (fun w _ => ref_Int _ w))
    | refine wc_seq ?_
    | refine wc_region ?_
    | refine wl_nil ?_
    | refine we_round ?_
    | refine we_then_wc ?_
    | (apply wi64; exact rfl; omega; omega; exact rfl; exact rfl)
    | (apply wfa; exact rfl; exact rfl; exact rfl; exact rfl)
    | (apply wct; exact rfl; omega; exact rfl; exact rfl)
    | (apply wcf; exact rfl; omega; exact rfl; exact rfl)
    | (apply wn; exact rfl; exact rfl)
    | (apply wlb (j := 0); exact rfl; exact rfl; exact rfl; exact rfl; exact rfl; exact rfl)
    | (apply wlb (j := 1); exact rfl; exact rfl; exact rfl; exact rfl; exact rfl; exact rfl)
    | (apply wlb (j := 2); exact rfl; exact rfl; exact rfl; exact rfl; exact rfl; exact rfl)
    | (apply wlb (j := 3); exact rfl; exact rfl; exact rfl; exact rfl; exact rfl; exact rfl)
    | (apply wln; exact rfl; exact rfl; exact rfl; exact rfl)
    | (apply wpu; exact rfl; exact rfl; exact rfl)
    | (apply wbx; exact rfl; exact rfl; exact rfl; intro _)
    | refine wc_block ?_
    | (apply wc_true; exact rfl)
    | (apply wc_false; exact rfl)
    | refine wc_skip ?_
    | refine wc_exit ?_
    | refine wc_ret ?_
    | refine we_then_exit ?_
    | refine we_then_ret ?_
    | refine we_in_normal ?_
    | refine we_in_ret ?_
    | refine we_in_here ?_
    | (apply we_in_there; exact rfl))
  refine wl_makes rfl rfl rfl (od_buildSlice (cs := (Lf.I doc).cells ++ (Lf.I no).cells) rfl rfl ⟨_, zero75⟩ rfl rfl rfl (by simp [Value.cells, Lf.cells, Lf.v]) (by omega) rfl) ?_
  rintro _ bl -
  repeat (first
    | (apply ws; exact rfl; exact rfl; exact rfl)
    | (apply wq Tryd.call72; exact rfl; exact rfl; exact rfl; exact (fun w _ => ref_List bl 0 2 2 w))
    | refine wc_seq ?_
    | refine wc_region ?_
    | refine wl_nil ?_
    | refine we_round ?_
    | refine we_then_wc ?_
    | (apply wi64; exact rfl; omega; omega; exact rfl; exact rfl)
    | (apply wfa; exact rfl; exact rfl; exact rfl; exact rfl)
    | (apply wct; exact rfl; omega; exact rfl; exact rfl)
    | (apply wcf; exact rfl; omega; exact rfl; exact rfl)
    | (apply wn; exact rfl; exact rfl)
    | (apply wlb (j := 0); exact rfl; exact rfl; exact rfl; exact rfl; exact rfl; exact rfl)
    | (apply wlb (j := 1); exact rfl; exact rfl; exact rfl; exact rfl; exact rfl; exact rfl)
    | (apply wlb (j := 2); exact rfl; exact rfl; exact rfl; exact rfl; exact rfl; exact rfl)
    | (apply wlb (j := 3); exact rfl; exact rfl; exact rfl; exact rfl; exact rfl; exact rfl)
    | (apply wln; exact rfl; exact rfl; exact rfl; exact rfl)
    | (apply wpu; exact rfl; exact rfl; exact rfl)
    | (apply wbx; exact rfl; exact rfl; exact rfl; intro _)
    | refine wc_block ?_
    | (apply wc_true; exact rfl)
    | (apply wc_false; exact rfl)
    | refine wc_skip ?_
    | refine wc_exit ?_
    | refine wc_ret ?_
    | refine we_then_exit ?_
    | refine we_then_ret ?_
    | refine we_in_normal ?_
    | refine we_in_ret ?_
    | refine we_in_here ?_
    | (apply we_in_there; exact rfl))
  refine wmk Tryd.call68 rfl rfl rfl (fun w' h => ref_Encode bl 0 2 [.I doc, .I no] (by simp [Lf.ok, hd, hn]) (by simp) w' (leaf2 (fun i v hi => h.cell_blk (j := 0) rfl hi))) ?_
  rintro ⟨c2, sp2⟩ b2 ⟨h1, h2⟩
  simp only at h1 h2
  dsimp only
  repeat (first
    | (apply ws; exact rfl; exact rfl; exact rfl)
    | refine wc_seq ?_
    | refine wc_region ?_
    | refine wl_nil ?_
    | refine we_round ?_
    | refine we_then_wc ?_
    | (apply wi64; exact rfl; omega; omega; exact rfl; exact rfl)
    | (apply wfa; exact rfl; exact rfl; exact rfl; exact rfl)
    | (apply wct; exact rfl; omega; exact rfl; exact rfl)
    | (apply wcf; exact rfl; omega; exact rfl; exact rfl)
    | (apply wn; exact rfl; exact rfl)
    | (apply wlb (j := 0); exact rfl; exact rfl; exact rfl; exact rfl; exact rfl; exact rfl)
    | (apply wlb (j := 1); exact rfl; exact rfl; exact rfl; exact rfl; exact rfl; exact rfl)
    | (apply wlb (j := 2); exact rfl; exact rfl; exact rfl; exact rfl; exact rfl; exact rfl)
    | (apply wlb (j := 3); exact rfl; exact rfl; exact rfl; exact rfl; exact rfl; exact rfl)
    | (apply wln; exact rfl; exact rfl; exact rfl; exact rfl)
    | (apply wpu; exact rfl; exact rfl; exact rfl)
    | (apply wbx; exact rfl; exact rfl; exact rfl; intro _)
    | refine wc_block ?_
    | (apply wc_true; exact rfl)
    | (apply wc_false; exact rfl)
    | refine wc_skip ?_
    | refine wc_exit ?_
    | refine wc_ret ?_
    | refine we_then_exit ?_
    | refine we_then_ret ?_
    | refine we_in_normal ?_
    | refine we_in_ret ?_
    | refine we_in_here ?_
    | (apply we_in_there; exact rfl))
  refine wl_quiet rfl rfl rfl (od_call Tryd.call74 rfl (fun w' h => ref_Hash10 [116, 97, 103] _ (encL [.I doc, .I no]) (by simp) (by omega) w' (fun w'' h' => Src.rd (Rd.ext (h.rd (f := v8) (l := encL [.I doc, .I no]) (j := 0) (o := 0) rfl h1 (cells_map 0 rfl)) h')))) ?_
  repeat (first
    | (apply ws; exact rfl; exact rfl; exact rfl)
    | refine wc_seq ?_
    | refine wc_region ?_
    | refine wl_nil ?_
    | refine we_round ?_
    | refine we_then_wc ?_
    | (apply wi64; exact rfl; omega; omega; exact rfl; exact rfl)
    | (apply wfa; exact rfl; exact rfl; exact rfl; exact rfl)
    | (apply wct; exact rfl; omega; exact rfl; exact rfl)
    | (apply wcf; exact rfl; omega; exact rfl; exact rfl)
    | (apply wn; exact rfl; exact rfl)
    | (apply wlb (j := 0); exact rfl; exact rfl; exact rfl; exact rfl; exact rfl; exact rfl)
    | (apply wlb (j := 1); exact rfl; exact rfl; exact rfl; exact rfl; exact rfl; exact rfl)
    | (apply wlb (j := 2); exact rfl; exact rfl; exact rfl; exact rfl; exact rfl; exact rfl)
    | (apply wlb (j := 3); exact rfl; exact rfl; exact rfl; exact rfl; exact rfl; exact rfl)
    | (apply wln; exact rfl; exact rfl; exact rfl; exact rfl)
    | (apply wpu; exact rfl; exact rfl; exact rfl)
    | (apply wbx; exact rfl; exact rfl; exact rfl; intro _)
    | refine wc_block ?_
    | (apply wc_true; exact rfl)
    | (apply wc_false; exact rfl)
    | refine wc_skip ?_
    | refine wc_exit ?_
    | refine wc_ret ?_
    | refine we_then_exit ?_
    | refine we_then_ret ?_
    | refine we_in_normal ?_
    | refine we_in_ret ?_
    | refine we_in_here ?_
    | (apply we_in_there; exact rfl))
  exact we_ret1 (Or.inl rfl) rfl rfl fun w' h => ⟨rfl, h.ext_all⟩
end Go.Proofs.YtielloijdkoeiaaDoor
