/- Layer 10: the hash as a number; layer 9: a sum of two; layer 47: an occasion's tag. -/
import Derived.Test.YtielloijdkoeiaaDoorCc
namespace Go.Proofs.YtielloijdkoeiaaDoor
open Go Go.RowKit Go.Lib
set_option maxRecDepth 100000

def numF (n : Nat) : List UInt8 → Nat
  | [] => n
  | c :: r => numF (n * 256 + c.toNat) r
def hd7 (d : List UInt8) : List UInt8 := d.set 0 (UInt8.ofNat ((d.getD 0 0).toNat % 128))
def hashD (d : List UInt8) : Int := (numF 0 ((hd7 d).take 8) : Nat) % 1073741789
def hashP (tag l : List UInt8) : Int := hashD (tagP tag l)
theorem hashP_range (tag l : List UInt8) : 0 ≤ hashP tag l ∧ hashP tag l < 1073741789 := by unfold hashP hashD; omega

theorem and127 (c : UInt8) : bitsV .and .u8 (c.toNat : Int) 127 = some ((UInt8.ofNat (c.toNat % 128)).toNat : Int) := by
  have h2 : ∀ a : Fin 256, bitsV .and .u8 ((a.val : Nat) : Int) 127 = some ((UInt8.ofNat (a.val % 128)).toNat : Int) := by decide
  exact h2 ⟨c.toNat, c.toNat_lt⟩

theorem shl8 {n : Nat} (h : n * 2 < 2 ^ 56) : IntKind.i64.wrap ((n : Int) * 2 ^ (min ((8 : Int)).toNat IntKind.i64.bits)) = ((n * 256 : Nat) : Int) := by
  have h1 : min ((8 : Int)).toNat IntKind.i64.bits = 8 := by decide
  rw [h1]
  have : (n : Int) * 2 ^ 8 = ((n * 256 : Nat) : Int) := by omega
  rw [this, wrap_i64 (by omega) (by omega)]

theorem or8 {n : Nat} (h : n * 2 < 2 ^ 56) (c : UInt8) : bitsV .or .i64 ((n * 256 : Nat) : Int) (c.toNat : Int) = some ((n * 256 + c.toNat : Nat) : Int) := by
  have hc := c.toNat_lt
  show some (IntKind.i64.wrap (((BitVec.ofInt 64 ((n * 256 : Nat) : Int) ||| BitVec.ofInt 64 (c.toNat : Int)).toNat : Nat) : Int)) = _
  rw [ofInt64, ofInt64, BitVec.toNat_or, BitVec.toNat_ofNat, BitVec.toNat_ofNat, Nat.mod_eq_of_lt (by omega), Nat.mod_eq_of_lt (by omega)]
  have : n * 256 ||| c.toNat = n * 256 + c.toNat := by
    have := Nat.two_pow_add_eq_or_of_lt (i := 8) (b := c.toNat) hc n
    rw [Nat.mul_comm n 256]
    exact this.symm
  rw [this, wrap_i64 (by omega) (by omega)]

theorem numF_bound {n i : Nat} (c : UInt8) (h : n * 2 < 2 ^ (8 * i)) (hc : i = 0 → c.toNat < 128) : (n * 256 + c.toNat) * 2 < 2 ^ (8 * (i + 1)) := by
  have hlt := c.toNat_lt
  cases i with
  | zero => have := hc rfl; simp at h ⊢; omega
  | succ i =>
    have e1 : 2 ^ (8 * (i + 1)) = 2 * 2 ^ (8 * i + 7) := by rw [show 8 * (i + 1) = (8 * i + 7) + 1 by omega, Nat.pow_succ]; omega
    have e2 : 2 ^ (8 * (i + 1 + 1)) = 512 * 2 ^ (8 * i + 7) := by rw [show 8 * (i + 1 + 1) = (8 * i + 7) + 9 by omega, Nat.pow_add]; omega
    rw [e1] at h
    rw [e2]
    omega

theorem hash_calls (tag : List UInt8) (v : Value) (l : List UInt8) (ht : tag.length ≤ 2 ^ 40) (hlen : l.length ≤ 2 ^ 40) (w : World) (hL : Laid w) (hv : Bs w v l) : Fn 43 [strV tag, v] w (Quiet (.int .i64 (hashP tag l)) w) := by
  refine fn_of (args := [strV tag, v]) Tryd.func43 rfl Tryd.ntmps43 rfl (Hp.start w) ?_
  have h32 : (tagP tag l).length = 32 := sumP_length _
  have h32' : ((tagP tag l).map v8).length = 32 := by simp [h32]
  have hfin : hashP tag l = hashD (tagP tag l) := rfl
  repeat (first
    | (apply ws; exact rfl; exact rfl; exact rfl)
    | refine wc_seq ?_
    | refine wc_region ?_
    | refine wl_nil ?_
    | refine we_round ?_
    | refine we_then_wc ?_
    | (apply wi64; exact rfl; omega; omega; exact rfl; exact rfl)
    | (apply wfa; exact rfl; exact rfl; exact rfl; exact rfl)
    | (apply wct; exact rfl; omega; exact rfl; exact rfl)
    | (apply wcf; exact rfl; omega; exact rfl; exact rfl)
    | (apply wn; exact rfl; exact rfl)
    | (apply wlb (j := 0); exact rfl; exact rfl; exact rfl; exact rfl; exact rfl; exact rfl)
    | (apply wlb (j := 1); exact rfl; exact rfl; exact rfl; exact rfl; exact rfl; exact rfl)
    | (apply wlb (j := 2); exact rfl; exact rfl; exact rfl; exact rfl; exact rfl; exact rfl)
    | (apply wlb (j := 3); exact rfl; exact rfl; exact rfl; exact rfl; exact rfl; exact rfl)
    | (apply wln; exact rfl; exact rfl; exact rfl; exact rfl)
    | (apply wpu; exact rfl; exact rfl; exact rfl)
    | (apply wbx; exact rfl; exact rfl; exact rfl; intro _)
    | refine wc_block ?_
    | (apply wc_true; exact rfl)
    | (apply wc_false; exact rfl)
    | refine wc_skip ?_
    | refine wc_exit ?_
    | refine wc_ret ?_
    | refine we_then_exit ?_
    | refine we_then_ret ?_
    | refine we_in_normal ?_
    | refine we_in_ret ?_
    | refine we_in_here ?_
    | (apply we_in_there; exact rfl))
  refine wl_quiet rfl rfl rfl (od_call Tryd.call46 rfl (fun w' h => tagged_calls tag v l ht hlen w' (hL.ext h.ext_all) (hv.ext h.ext_all))) ?_
  rw [hfin]
  generalize tagP tag l = d at *
  have hd0 : (d.map v8)[0 + 0]? = some (v8 (d.getD 0 0)) := by
    obtain ⟨c, r, rfl⟩ : ∃ c r, d = c :: r := by cases d with | nil => simp at h32 | cons c r => exact ⟨c, r, rfl⟩
    rfl
  repeat (first
    | (apply ws; exact rfl; exact rfl; exact rfl)
    | (apply wal zero53 rfl; exact rfl; exact rfl; intro bt)
    | (apply wsw (j := 0); exact rfl; exact rfl; exact rfl; exact rfl; exact h32'; exact plain8 _; exact rfl; exact rfl)
    | refine wl_still rfl rfl rfl (od_indexAddrA1 0 rfl rfl rfl rfl rfl (by omega)) ?_
    | refine wl_still rfl rfl rfl (od_loadB 0 rfl rfl rfl hd0) ?_
    | refine wl_still rfl rfl rfl (od_bits rfl rfl (and127 _)) ?_
    | refine wc_seq ?_
    | refine wc_region ?_
    | refine wl_nil ?_
    | refine we_round ?_
    | refine we_then_wc ?_
    | (apply wi64; exact rfl; omega; omega; exact rfl; exact rfl)
    | (apply wfa; exact rfl; exact rfl; exact rfl; exact rfl)
    | (apply wct; exact rfl; omega; exact rfl; exact rfl)
    | (apply wcf; exact rfl; omega; exact rfl; exact rfl)
    | (apply wn; exact rfl; exact rfl)
    | (apply wlb (j := 0); exact rfl; exact rfl; exact rfl; exact rfl; exact rfl; exact rfl)
    | (apply wlb (j := 1); exact rfl; exact rfl; exact rfl; exact rfl; exact rfl; exact rfl)
    | (apply wlb (j := 2); exact rfl; exact rfl; exact rfl; exact rfl; exact rfl; exact rfl)
    | (apply wlb (j := 3); exact rfl; exact rfl; exact rfl; exact rfl; exact rfl; exact rfl)
    | (apply wln; exact rfl; exact rfl; exact rfl; exact rfl)
    | (apply wpu; exact rfl; exact rfl; exact rfl)
    | (apply wbx; exact rfl; exact rfl; exact rfl; intro _)
    | refine wc_block ?_
    | (apply wc_true; exact rfl)
    | (apply wc_false; exact rfl)
    | refine wc_skip ?_
    | refine wc_exit ?_
    | refine wc_ret ?_
    | refine we_then_exit ?_
    | refine we_then_ret ?_
    | refine we_in_normal ?_
    | refine we_in_ret ?_
    | refine we_in_here ?_
    | (apply we_in_there; exact rfl))
  refine wst 0 rfl rfl rfl rfl rfl (by rw [show ((d.map v8).toArray.toList) = d.map v8 from rfl, h32']; omega) rfl ?_
  have hset : (d.map v8).set (0 + 0) (v8 (UInt8.ofNat ((d.getD 0 0).toNat % 128))) = (hd7 d).map v8 := by
    simp [hd7, List.map_set]
  refine wl_nil (we_then_wc (wc_weaken (env' := [(4, .int .i64 0), (5, .pointer (some ⟨bt, 0, none⟩))]) (bs' := [(bt, (hd7 d).map v8, 53)]) ?_ ⟨rfl, rfl, trivial⟩ (by rw [← hset]; exact List.Sublist.refl _)))
  have hl7 : (hd7 d).length = 32 := by simp [hd7, h32]
  have hlt0 : ((hd7 d).getD 0 0).toNat < 128 := by
    cases d with
    | nil => simp at h32
    | cons c r => simp [hd7]; omega
  unfold hashD
  clear hset hfin hd0
  generalize hd7 d = e at *
  repeat (first
    | (apply ws; exact rfl; exact rfl; exact rfl)
    | refine wc_seq ?_
    | refine wc_region ?_
    | refine wl_nil ?_
    | refine we_round ?_
    | refine we_then_wc ?_
    | (apply wi64; exact rfl; omega; omega; exact rfl; exact rfl)
    | (apply wfa; exact rfl; exact rfl; exact rfl; exact rfl)
    | (apply wct; exact rfl; omega; exact rfl; exact rfl)
    | (apply wcf; exact rfl; omega; exact rfl; exact rfl)
    | (apply wn; exact rfl; exact rfl)
    | (apply wlb (j := 0); exact rfl; exact rfl; exact rfl; exact rfl; exact rfl; exact rfl)
    | (apply wlb (j := 1); exact rfl; exact rfl; exact rfl; exact rfl; exact rfl; exact rfl)
    | (apply wlb (j := 2); exact rfl; exact rfl; exact rfl; exact rfl; exact rfl; exact rfl)
    | (apply wlb (j := 3); exact rfl; exact rfl; exact rfl; exact rfl; exact rfl; exact rfl)
    | (apply wln; exact rfl; exact rfl; exact rfl; exact rfl)
    | (apply wpu; exact rfl; exact rfl; exact rfl)
    | (apply wbx; exact rfl; exact rfl; exact rfl; intro _)
    | refine wc_block ?_
    | (apply wc_true; exact rfl)
    | (apply wc_false; exact rfl)
    | refine wc_skip ?_
    | refine wc_exit ?_
    | refine wc_ret ?_
    | refine we_then_exit ?_
    | refine we_then_ret ?_
    | refine we_in_normal ?_
    | refine we_in_ret ?_
    | refine we_in_here ?_
    | (apply we_in_there; exact rfl))
  refine wc_loop (ι := Nat × Nat) (fun i => [(4, .int .i64 (i.2 : Int)), (14, .int .i64 (i.1 : Int)), (5, .pointer (some ⟨bt, 0, none⟩))]) (fun _ => [(bt, e.map v8, 53)])
    (fun i => i.1 ≤ 8 ∧ i.2 * 2 < 2 ^ (8 * i.1) ∧ numF i.2 ((e.take 8).drop i.1) = numF 0 (e.take 8)) (fun i => 8 - i.1) (0, 0) ⟨Nat.zero_le _, by simp, rfl⟩ ⟨rfl, rfl, rfl, trivial⟩ (List.Sublist.refl _) ?_
  rintro ⟨k, n⟩ ⟨hk, hn, hf⟩
  simp only at hk hn hf
  dsimp only
  repeat (first
    | (apply ws; exact rfl; exact rfl; exact rfl)
    | refine wc_seq ?_
    | refine wc_region ?_
    | refine wl_nil ?_
    | refine we_round ?_
    | refine we_then_wc ?_
    | (apply wi64; exact rfl; omega; omega; exact rfl; exact rfl)
    | (apply wfa; exact rfl; exact rfl; exact rfl; exact rfl)
    | (apply wct; exact rfl; omega; exact rfl; exact rfl)
    | (apply wcf; exact rfl; omega; exact rfl; exact rfl)
    | (apply wn; exact rfl; exact rfl)
    | (apply wlb (j := 0); exact rfl; exact rfl; exact rfl; exact rfl; exact rfl; exact rfl)
    | (apply wlb (j := 1); exact rfl; exact rfl; exact rfl; exact rfl; exact rfl; exact rfl)
    | (apply wlb (j := 2); exact rfl; exact rfl; exact rfl; exact rfl; exact rfl; exact rfl)
    | (apply wlb (j := 3); exact rfl; exact rfl; exact rfl; exact rfl; exact rfl; exact rfl)
    | (apply wln; exact rfl; exact rfl; exact rfl; exact rfl)
    | (apply wpu; exact rfl; exact rfl; exact rfl)
    | (apply wbx; exact rfl; exact rfl; exact rfl; intro _)
    | refine wc_block ?_
    | (apply wc_true; exact rfl)
    | (apply wc_false; exact rfl)
    | refine wc_skip ?_
    | refine wc_exit ?_
    | refine wc_ret ?_
    | refine we_then_exit ?_
    | refine we_then_ret ?_
    | refine we_in_normal ?_
    | refine we_in_ret ?_
    | refine we_in_here ?_
    | (apply we_in_there; exact rfl))
  refine wc_if rfl (fun ht => ?_) (fun ht => ?_)
  · have hlt : k < 8 := by have := of_decide_eq_true ht; omega
    have hn56 : n * 2 < 2 ^ 56 := Nat.lt_of_lt_of_le hn (Nat.pow_le_pow_right (by omega) (by omega))
    have hx : e[k]? = some e[k] := by simp
    have hb : (e.map v8)[0 + k]? = some (v8 e[k]) := by rw [Nat.zero_add, List.getElem?_map, hx]; rfl
    have hd : (e.take 8).drop k = e[k] :: (e.take 8).drop (k + 1) := by
      rw [List.drop_eq_getElem_cons (by simp; omega)]; simp
    repeat (first
      | (apply ws; exact rfl; exact rfl; exact rfl)
      | refine wc_seq ?_
      | refine wc_region ?_
      | refine wl_nil ?_
      | refine we_round ?_
      | refine we_then_wc ?_
      | (apply wi64; exact rfl; omega; omega; exact rfl; exact rfl)
      | (apply wfa; exact rfl; exact rfl; exact rfl; exact rfl)
      | (apply wct; exact rfl; omega; exact rfl; exact rfl)
      | (apply wcf; exact rfl; omega; exact rfl; exact rfl)
      | (apply wn; exact rfl; exact rfl)
      | (apply wlb (j := 0); exact rfl; exact rfl; exact rfl; exact rfl; exact rfl; exact rfl)
      | (apply wlb (j := 1); exact rfl; exact rfl; exact rfl; exact rfl; exact rfl; exact rfl)
      | (apply wlb (j := 2); exact rfl; exact rfl; exact rfl; exact rfl; exact rfl; exact rfl)
      | (apply wlb (j := 3); exact rfl; exact rfl; exact rfl; exact rfl; exact rfl; exact rfl)
      | (apply wln; exact rfl; exact rfl; exact rfl; exact rfl)
      | (apply wpu; exact rfl; exact rfl; exact rfl)
      | (apply wbx; exact rfl; exact rfl; exact rfl; intro _)
      | refine wc_block ?_
      | (apply wc_true; exact rfl)
      | (apply wc_false; exact rfl)
      | refine wc_skip ?_
      | refine wc_exit ?_
      | refine wc_ret ?_
      | refine we_then_exit ?_
      | refine we_then_ret ?_
      | refine we_in_normal ?_
      | refine we_in_ret ?_
      | refine we_in_here ?_
      | (apply we_in_there; exact rfl))
    refine wl_still rfl rfl rfl (od_shl rfl rfl (by omega) (shl8 hn56)) ?_
    repeat (first
      | (apply ws; exact rfl; exact rfl; exact rfl)
      | refine wl_still rfl rfl rfl (od_indexAddrA1 k rfl rfl rfl rfl rfl (by omega)) ?_
      | refine wl_still rfl rfl rfl (od_loadB 0 rfl rfl rfl hb) ?_
      | refine wc_seq ?_
      | refine wc_region ?_
      | refine wl_nil ?_
      | refine we_round ?_
      | refine we_then_wc ?_
      | (apply wi64; exact rfl; omega; omega; exact rfl; exact rfl)
      | (apply wfa; exact rfl; exact rfl; exact rfl; exact rfl)
      | (apply wct; exact rfl; omega; exact rfl; exact rfl)
      | (apply wcf; exact rfl; omega; exact rfl; exact rfl)
      | (apply wn; exact rfl; exact rfl)
      | (apply wlb (j := 0); exact rfl; exact rfl; exact rfl; exact rfl; exact rfl; exact rfl)
      | (apply wlb (j := 1); exact rfl; exact rfl; exact rfl; exact rfl; exact rfl; exact rfl)
      | (apply wlb (j := 2); exact rfl; exact rfl; exact rfl; exact rfl; exact rfl; exact rfl)
      | (apply wlb (j := 3); exact rfl; exact rfl; exact rfl; exact rfl; exact rfl; exact rfl)
      | (apply wln; exact rfl; exact rfl; exact rfl; exact rfl)
      | (apply wpu; exact rfl; exact rfl; exact rfl)
      | (apply wbx; exact rfl; exact rfl; exact rfl; intro _)
      | refine wc_block ?_
      | (apply wc_true; exact rfl)
      | (apply wc_false; exact rfl)
      | refine wc_skip ?_
      | refine wc_exit ?_
      | refine wc_ret ?_
      | refine we_then_exit ?_
      | refine we_then_ret ?_
      | refine we_in_normal ?_
      | refine we_in_ret ?_
      | refine we_in_here ?_
      | (apply we_in_there; exact rfl))
    refine wl_still rfl rfl rfl (od_conv rfl rfl rfl) ?_
    have hw : IntKind.i64.wrap ((e[k]).toNat : Int) = ((e[k]).toNat : Int) := wrap_i64 (by omega) (by have := (e[k]).toNat_lt; omega)
    rw [hw]
    refine wl_still rfl rfl rfl (od_bits rfl rfl (or8 hn56 e[k])) ?_
    repeat (first
      | (apply ws; exact rfl; exact rfl; exact rfl)
      | refine wc_seq ?_
      | refine wc_region ?_
      | refine wl_nil ?_
      | refine we_round ?_
      | refine we_then_wc ?_
      | (apply wi64; exact rfl; omega; omega; exact rfl; exact rfl)
      | (apply wfa; exact rfl; exact rfl; exact rfl; exact rfl)
      | (apply wct; exact rfl; omega; exact rfl; exact rfl)
      | (apply wcf; exact rfl; omega; exact rfl; exact rfl)
      | (apply wn; exact rfl; exact rfl)
      | (apply wlb (j := 0); exact rfl; exact rfl; exact rfl; exact rfl; exact rfl; exact rfl)
      | (apply wlb (j := 1); exact rfl; exact rfl; exact rfl; exact rfl; exact rfl; exact rfl)
      | (apply wlb (j := 2); exact rfl; exact rfl; exact rfl; exact rfl; exact rfl; exact rfl)
      | (apply wlb (j := 3); exact rfl; exact rfl; exact rfl; exact rfl; exact rfl; exact rfl)
      | (apply wln; exact rfl; exact rfl; exact rfl; exact rfl)
      | (apply wpu; exact rfl; exact rfl; exact rfl)
      | (apply wbx; exact rfl; exact rfl; exact rfl; intro _)
      | refine wc_block ?_
      | (apply wc_true; exact rfl)
      | (apply wc_false; exact rfl)
      | refine wc_skip ?_
      | refine wc_exit ?_
      | refine wc_ret ?_
      | refine we_then_exit ?_
      | refine we_then_ret ?_
      | refine we_in_normal ?_
      | refine we_in_ret ?_
      | refine we_in_here ?_
      | (apply we_in_there; exact rfl))
    refine we_again (k + 1, n * 256 + (e[k]).toNat) ⟨by simp only; omega, numF_bound _ hn (fun h0 => by subst h0; rw [List.getD, hx] at hlt0; exact hlt0), ?_⟩ (by simp only; omega) ⟨rfl, by simp [get], rfl, trivial⟩ (List.Sublist.refl _)
    rw [hd] at hf
    exact hf
  have hk8 : k = 8 := by have := of_decide_eq_false ht; omega
  subst hk8
  have hf' : n = numF 0 (e.take 8) := by
    rw [List.drop_eq_nil_of_le (by simp; omega)] at hf
    exact hf
  repeat (first
    | (apply ws; exact rfl; exact rfl; exact rfl)
    | refine wc_seq ?_
    | refine wc_region ?_
    | refine wl_nil ?_
    | refine we_round ?_
    | refine we_then_wc ?_
    | (apply wi64; exact rfl; omega; omega; exact rfl; exact rfl)
    | (apply wfa; exact rfl; exact rfl; exact rfl; exact rfl)
    | (apply wct; exact rfl; omega; exact rfl; exact rfl)
    | (apply wcf; exact rfl; omega; exact rfl; exact rfl)
    | (apply wn; exact rfl; exact rfl)
    | (apply wlb (j := 0); exact rfl; exact rfl; exact rfl; exact rfl; exact rfl; exact rfl)
    | (apply wlb (j := 1); exact rfl; exact rfl; exact rfl; exact rfl; exact rfl; exact rfl)
    | (apply wlb (j := 2); exact rfl; exact rfl; exact rfl; exact rfl; exact rfl; exact rfl)
    | (apply wlb (j := 3); exact rfl; exact rfl; exact rfl; exact rfl; exact rfl; exact rfl)
    | (apply wln; exact rfl; exact rfl; exact rfl; exact rfl)
    | (apply wpu; exact rfl; exact rfl; exact rfl)
    | (apply wbx; exact rfl; exact rfl; exact rfl; intro _)
    | refine wc_block ?_
    | (apply wc_true; exact rfl)
    | (apply wc_false; exact rfl)
    | refine wc_skip ?_
    | refine wc_exit ?_
    | refine wc_ret ?_
    | refine we_then_exit ?_
    | refine we_then_ret ?_
    | refine we_in_normal ?_
    | refine we_in_ret ?_
    | refine we_in_here ?_
    | (apply we_in_there; exact rfl))
  refine wl_still rfl rfl rfl (od_rem rfl rfl (by omega) (Int.tmod_eq_emod_of_nonneg (by omega))) ?_
  repeat (first
    | (apply ws; exact rfl; exact rfl; exact rfl)
    | refine wc_seq ?_
    | refine wc_region ?_
    | refine wl_nil ?_
    | refine we_round ?_
    | refine we_then_wc ?_
    | (apply wi64; exact rfl; omega; omega; exact rfl; exact rfl)
    | (apply wfa; exact rfl; exact rfl; exact rfl; exact rfl)
    | (apply wct; exact rfl; omega; exact rfl; exact rfl)
    | (apply wcf; exact rfl; omega; exact rfl; exact rfl)
    | (apply wn; exact rfl; exact rfl)
    | (apply wlb (j := 0); exact rfl; exact rfl; exact rfl; exact rfl; exact rfl; exact rfl)
    | (apply wlb (j := 1); exact rfl; exact rfl; exact rfl; exact rfl; exact rfl; exact rfl)
    | (apply wlb (j := 2); exact rfl; exact rfl; exact rfl; exact rfl; exact rfl; exact rfl)
    | (apply wlb (j := 3); exact rfl; exact rfl; exact rfl; exact rfl; exact rfl; exact rfl)
    | (apply wln; exact rfl; exact rfl; exact rfl; exact rfl)
    | (apply wpu; exact rfl; exact rfl; exact rfl)
    | (apply wbx; exact rfl; exact rfl; exact rfl; intro _)
    | refine wc_block ?_
    | (apply wc_true; exact rfl)
    | (apply wc_false; exact rfl)
    | refine wc_skip ?_
    | refine wc_exit ?_
    | refine wc_ret ?_
    | refine we_then_exit ?_
    | refine we_then_ret ?_
    | refine we_in_normal ?_
    | refine we_in_ret ?_
    | refine we_in_here ?_
    | (apply we_in_there; exact rfl))
  exact we_ret1 (Or.inl rfl) rfl rfl fun w' h => ⟨by rw [hf'], h.ext_all⟩
end Go.Proofs.YtielloijdkoeiaaDoor
