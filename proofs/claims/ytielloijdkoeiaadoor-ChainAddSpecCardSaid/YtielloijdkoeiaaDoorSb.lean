/- The reference's digest: a block. -/
import Derived.Test.YtielloijdkoeiaaDoorSa
namespace Go.Proofs.YtielloijdkoeiaaDoor
open Go Go.RowKit Go.Lib
set_option maxRecDepth 100000

theorem ref_ror' (x : W32) (k : Int) (s : Nat) (hk : 0 < k ∧ k < 32) (hs : (32 - k).toNat = s) (w : World) : Fn 97 [u32 x, .int .i64 k] w (Quiet (u32 (rotV x s)) w) := by
  obtain ⟨n, rfl⟩ : ∃ n : Nat, k = (n : Int) := ⟨k.toNat, by omega⟩
  have := ref_ror x n (by omega) (by omega) w
  rwa [show 32 - n = s by omega] at this

theorem zero111 (w : World) : (zeroValue 111).run Tryd.prog w = .ok (.agg (List.replicate 8 (u32 0)).toArray) w := (Tryd.zeroValue111 w).trans (by rfl)
theorem plainZ (n : Nat) : ∀ v ∈ (List.replicate n (u32 0)).toArray.toList, plainV v = true := by
  intro v hv
  simp at hv
  rw [hv.2]
  rfl

theorem rd_mid {w : World} {l : List UInt8} (t : Nat) (b o c : Nat) (hc : l.length ≤ c) (hl : ∀ i x, l[i]? = some x → w.cell? ⟨b, o + i, none⟩ = some (v8 x)) (ht : 4 * t + 4 ≤ l.length) :
    Rd v8 w (.slice (some ⟨b, if c = 4 * t then o else o + 4 * t * 1, none⟩) (4 * t + 4 - 4 * t) (c - 4 * t)) ((l.drop (4 * t)).take 4) := by
  have hlen : ((l.drop (4 * t)).take 4).length = 4 * t + 4 - 4 * t := by simp; omega
  rw [if_neg (by omega), Nat.mul_one, ← hlen]
  refine ⟨b, o + 4 * t, _, rfl, by rw [hlen]; omega, fun i x hx => ?_⟩
  rw [List.getElem?_take] at hx
  split at hx
  · rw [List.getElem?_drop] at hx
    rw [Nat.add_assoc]
    exact hl _ _ hx
  · cases hx

theorem p_eq (S : S8) (k x : W32) : S.h + (rotV S.e 26 ^^^ rotV S.e 21 ^^^ rotV S.e 7) + (S.e &&& S.f ^^^ ~~~S.e &&& S.g) + k + x = pP S k x := by
  rw [ch_eq]; rfl
theorem q_eq (S : S8) : (rotV S.a 30 ^^^ rotV S.a 19 ^^^ rotV S.a 10) + (S.a &&& S.b ^^^ S.a &&& S.c ^^^ S.b &&& S.c) = qP S := by
  rw [mj_eq]; rfl

set_option maxHeartbeats 800000 in
theorem ref_block (st : S8) (v : Value) (blk : List UInt8) (hlen : blk.length = 64) (w : World) (hv : Rd v8 w v blk) : Fn 91 [.agg st.v.toArray, v] w (Quiet (.agg (absorbP st blk).v.toArray) w) := by
  obtain ⟨b, o, c, rfl, hc, hcell⟩ := hv
  refine fn_of (args := [.agg st.v.toArray, .slice (some ⟨b, o, none⟩) blk.length c]) Tryd.func91 rfl Tryd.ntmps91 rfl (Hp.start w) ?_
  repeat (first
    | (apply ws; exact rfl; exact rfl; exact rfl)
    | (apply wal zero111 rfl; exact rfl; exact rfl; intro br)
    | refine wl_still rfl rfl rfl (od_buildA (z := List.replicate 64 (u32 0)) (cs := List.replicate 64 (u32 0)) rfl rfl zero119 rfl rfl) ?_
    | (apply wal zero119 rfl; exact rfl; exact rfl; intro bw)
    | (apply wsw (j := 0); exact rfl; exact rfl; exact rfl; exact rfl; exact rfl; exact plainZ 64; exact rfl; exact rfl)
    | refine wc_seq ?_
    | refine wc_region ?_
    | refine wl_nil ?_
    | refine we_round ?_
    | refine we_then_wc ?_
    | (apply wi64; exact rfl; omega; omega; exact rfl; exact rfl)
    | (apply wfa; exact rfl; exact rfl; exact rfl; exact rfl)
    | (apply wct; exact rfl; omega; exact rfl; exact rfl)
    | (apply wcf; exact rfl; omega; exact rfl; exact rfl)
    | (apply wn; exact rfl; exact rfl)
    | (apply wlb (j := 0); exact rfl; exact rfl; exact rfl; exact rfl; exact rfl; exact rfl)
    | (apply wlb (j := 1); exact rfl; exact rfl; exact rfl; exact rfl; exact rfl; exact rfl)
    | (apply wlb (j := 2); exact rfl; exact rfl; exact rfl; exact rfl; exact rfl; exact rfl)
    | (apply wlb (j := 3); exact rfl; exact rfl; exact rfl; exact rfl; exact rfl; exact rfl)
    | (apply wln; exact rfl; exact rfl; exact rfl; exact rfl)
    | (apply wpu; exact rfl; exact rfl; exact rfl)
    | (apply wbx; exact rfl; exact rfl; exact rfl; intro _)
    | refine wc_block ?_
    | (apply wc_true; exact rfl)
    | (apply wc_false; exact rfl)
    | refine wc_skip ?_
    | refine wc_exit ?_
    | refine wc_ret ?_
    | refine we_then_exit ?_
    | refine we_then_ret ?_
    | refine we_in_normal ?_
    | refine we_in_ret ?_
    | refine we_in_here ?_
    | (apply we_in_there; exact rfl))
  rename_i bs0
  -- the first sixteen words
  refine wc_loop (ι := Nat) (fun t => [(6, .int .i64 (t : Int)), (5, .pointer (some ⟨bw, 0, none⟩)), (4, .pointer (some ⟨br, 0, none⟩)), (2, .pointer (some ⟨bs0, 0, none⟩)), (1, .slice (some ⟨b, o, none⟩) blk.length c)])
    (fun t => [(bw, ((wordsOf blk).take t).map u32 ++ List.replicate (64 - t) (u32 0), 119), (br, List.replicate 8 (u32 0), 111), (bs0, st.v, 111)]) (fun t => t ≤ 16) (fun t => 16 - t) 0 (Nat.zero_le _) ⟨rfl, rfl, rfl, rfl, rfl, trivial⟩ (List.Sublist.refl _) ?_
  intro t ht
  by_cases hlt : t < 16
  · repeat (first
      | (apply ws; exact rfl; exact rfl; exact rfl)
      | refine wc_seq ?_
      | refine wc_region ?_
      | refine wl_nil ?_
      | refine we_round ?_
      | refine we_then_wc ?_
      | (apply wi64; exact rfl; omega; omega; exact rfl; exact rfl)
      | (apply wfa; exact rfl; exact rfl; exact rfl; exact rfl)
      | (apply wct; exact rfl; omega; exact rfl; exact rfl)
      | (apply wcf; exact rfl; omega; exact rfl; exact rfl)
      | (apply wn; exact rfl; exact rfl)
      | (apply wlb (j := 0); exact rfl; exact rfl; exact rfl; exact rfl; exact rfl; exact rfl)
      | (apply wlb (j := 1); exact rfl; exact rfl; exact rfl; exact rfl; exact rfl; exact rfl)
      | (apply wlb (j := 2); exact rfl; exact rfl; exact rfl; exact rfl; exact rfl; exact rfl)
      | (apply wlb (j := 3); exact rfl; exact rfl; exact rfl; exact rfl; exact rfl; exact rfl)
      | (apply wln; exact rfl; exact rfl; exact rfl; exact rfl)
      | (apply wpu; exact rfl; exact rfl; exact rfl)
      | (apply wbx; exact rfl; exact rfl; exact rfl; intro _)
      | refine wc_block ?_
      | (apply wc_true; exact rfl)
      | (apply wc_false; exact rfl)
      | refine wc_skip ?_
      | refine wc_exit ?_
      | refine wc_ret ?_
      | refine we_then_exit ?_
      | refine we_then_ret ?_
      | refine we_in_normal ?_
      | refine we_in_ret ?_
      | refine we_in_here ?_
      | (apply we_in_there; exact rfl))
    refine wl_still rfl rfl rfl (od_slice (4 * t) (4 * t + 4) c rfl rfl rfl rfl ⟨_, _, rfl, by omega⟩ ⟨_, _, rfl, by omega⟩ (by omega) (by omega) (Nat.le_refl _) (by simp)) ?_
    refine wl_quiet rfl rfl rfl (od_call Tryd.call96 rfl (fun w h => ref_word _ ((blk.drop (4 * t)).take 4) (by simp; omega) w (rd_mid t b o c hc (fun i x hx => h.cell_old (hcell i x hx) (by simp)) (by omega)))) ?_
    refine wl_still rfl rfl rfl (od_indexAddrA1 t rfl rfl rfl rfl rfl (by omega)) ?_
    have hwl : t < (wordsOf blk).length := by simp [wordsOf]; omega
    have hwt : (wordsOf blk).take (t + 1) = (wordsOf blk).take t ++ [wordF 0 ((blk.drop (4 * t)).take 4)] := by
      rw [List.take_succ_eq_append_getElem hwl]
      simp [wordsOf]
    refine wst 0 rfl rfl rfl rfl rfl (by simp; omega) rfl ?_
    have hset := set_next (l := (wordsOf blk).take t) (m := 64 - t) (wordF 0 ((blk.drop (4 * t)).take 4)) (by omega) (0 + t) (by simp; omega)
    rw [← hwt] at hset
    rw [hset]
    repeat (first
      | (apply ws; exact rfl; exact rfl; exact rfl)
      | refine wc_seq ?_
      | refine wc_region ?_
      | refine wl_nil ?_
      | refine we_round ?_
      | refine we_then_wc ?_
      | (apply wi64; exact rfl; omega; omega; exact rfl; exact rfl)
      | (apply wfa; exact rfl; exact rfl; exact rfl; exact rfl)
      | (apply wct; exact rfl; omega; exact rfl; exact rfl)
      | (apply wcf; exact rfl; omega; exact rfl; exact rfl)
      | (apply wn; exact rfl; exact rfl)
      | (apply wlb (j := 0); exact rfl; exact rfl; exact rfl; exact rfl; exact rfl; exact rfl)
      | (apply wlb (j := 1); exact rfl; exact rfl; exact rfl; exact rfl; exact rfl; exact rfl)
      | (apply wlb (j := 2); exact rfl; exact rfl; exact rfl; exact rfl; exact rfl; exact rfl)
      | (apply wlb (j := 3); exact rfl; exact rfl; exact rfl; exact rfl; exact rfl; exact rfl)
      | (apply wln; exact rfl; exact rfl; exact rfl; exact rfl)
      | (apply wpu; exact rfl; exact rfl; exact rfl)
      | (apply wbx; exact rfl; exact rfl; exact rfl; intro _)
      | refine wc_block ?_
      | (apply wc_true; exact rfl)
      | (apply wc_false; exact rfl)
      | refine wc_skip ?_
      | refine wc_exit ?_
      | refine wc_ret ?_
      | refine we_then_exit ?_
      | refine we_then_ret ?_
      | refine we_in_normal ?_
      | refine we_in_ret ?_
      | refine we_in_here ?_
      | (apply we_in_there; exact rfl))
    exact we_again (t + 1) (by omega) (by omega) ⟨rfl, rfl, rfl, rfl, rfl, trivial⟩ (List.Sublist.refl _)
  have ht16 : t = 16 := by omega
  subst ht16
  have hw16 : (wordsOf blk).take 16 = wordsOf blk := List.take_of_length_le (by simp [wordsOf])
  rw [hw16]
  have hwlen : (wordsOf blk).length = 16 := by simp [wordsOf]
  repeat (first
    | (apply ws; exact rfl; exact rfl; exact rfl)
    | refine wc_seq ?_
    | refine wc_region ?_
    | refine wl_nil ?_
    | refine we_round ?_
    | refine we_then_wc ?_
    | (apply wi64; exact rfl; omega; omega; exact rfl; exact rfl)
    | (apply wfa; exact rfl; exact rfl; exact rfl; exact rfl)
    | (apply wct; exact rfl; omega; exact rfl; exact rfl)
    | (apply wcf; exact rfl; omega; exact rfl; exact rfl)
    | (apply wn; exact rfl; exact rfl)
    | (apply wlb (j := 0); exact rfl; exact rfl; exact rfl; exact rfl; exact rfl; exact rfl)
    | (apply wlb (j := 1); exact rfl; exact rfl; exact rfl; exact rfl; exact rfl; exact rfl)
    | (apply wlb (j := 2); exact rfl; exact rfl; exact rfl; exact rfl; exact rfl; exact rfl)
    | (apply wlb (j := 3); exact rfl; exact rfl; exact rfl; exact rfl; exact rfl; exact rfl)
    | (apply wln; exact rfl; exact rfl; exact rfl; exact rfl)
    | (apply wpu; exact rfl; exact rfl; exact rfl)
    | (apply wbx; exact rfl; exact rfl; exact rfl; intro _)
    | refine wc_block ?_
    | (apply wc_true; exact rfl)
    | (apply wc_false; exact rfl)
    | refine wc_skip ?_
    | refine wc_exit ?_
    | refine wc_ret ?_
    | refine we_then_exit ?_
    | refine we_then_ret ?_
    | refine we_in_normal ?_
    | refine we_in_ret ?_
    | refine we_in_here ?_
    | (apply we_in_there; exact rfl))
  -- the other words
  refine wc_loop (ι := Nat) (fun k => [(7, .int .i64 ((16 + k : Nat) : Int)), (5, .pointer (some ⟨bw, 0, none⟩)), (4, .pointer (some ⟨br, 0, none⟩)), (2, .pointer (some ⟨bs0, 0, none⟩))])
    (fun k => [(bw, (sched (wordsOf blk) k).map u32 ++ List.replicate (48 - k) (u32 0), 119), (br, List.replicate 8 (u32 0), 111), (bs0, st.v, 111)]) (fun k => k ≤ 48) (fun k => 48 - k) 0 (Nat.zero_le _) ⟨rfl, rfl, rfl, rfl, trivial⟩ (List.Sublist.refl _) ?_
  intro k hk
  have hsl := sched_length (wordsOf blk) hwlen k
  by_cases hlt : k < 48
  · have hC := List.Sublist.cons_cons (bw, (sched (wordsOf blk) k).map u32 ++ List.replicate (48 - k) (u32 0), 119) (List.nil_sublist [(br, List.replicate 8 (u32 0), 111), (bs0, st.v, 111)])
    have hx := getD_map0 (l := sched (wordsOf blk) k) (i := 16 + k - 15) (by omega) (List.replicate (48 - k) (u32 0))
    have hy := getD_map0 (l := sched (wordsOf blk) k) (i := 16 + k - 2) (by omega) (List.replicate (48 - k) (u32 0))
    have hz := getD_map0 (l := sched (wordsOf blk) k) (i := 16 + k - 16) (by omega) (List.replicate (48 - k) (u32 0))
    have hu := getD_map0 (l := sched (wordsOf blk) k) (i := 16 + k - 7) (by omega) (List.replicate (48 - k) (u32 0))
    repeat (first
      | (apply ws; exact rfl; exact rfl; exact rfl)
      | refine wl_still rfl rfl rfl (od_indexAddrA1 (16 + k - 15) rfl rfl rfl rfl (by omega) (by omega)) ?_
      | refine wl_still rfl rfl rfl (od_indexAddrA1 (16 + k - 2) rfl rfl rfl rfl (by omega) (by omega)) ?_
      | (apply wlb (j := 0); exact rfl; exact rfl; exact rfl; exact hx; exact rfl; exact rfl)
      | (apply wlb (j := 0); exact rfl; exact rfl; exact rfl; exact hy; exact rfl; exact rfl)
      | refine wc_seq ?_
      | refine wc_region ?_
      | refine wl_nil ?_
      | refine we_round ?_
      | refine we_then_wc ?_
      | (apply wi64; exact rfl; omega; omega; exact rfl; exact rfl)
      | (apply wfa; exact rfl; exact rfl; exact rfl; exact rfl)
      | (apply wct; exact rfl; omega; exact rfl; exact rfl)
      | (apply wcf; exact rfl; omega; exact rfl; exact rfl)
      | (apply wn; exact rfl; exact rfl)
      | (apply wlb (j := 0); exact rfl; exact rfl; exact rfl; exact rfl; exact rfl; exact rfl)
      | (apply wlb (j := 1); exact rfl; exact rfl; exact rfl; exact rfl; exact rfl; exact rfl)
      | (apply wlb (j := 2); exact rfl; exact rfl; exact rfl; exact rfl; exact rfl; exact rfl)
      | (apply wlb (j := 3); exact rfl; exact rfl; exact rfl; exact rfl; exact rfl; exact rfl)
      | (apply wln; exact rfl; exact rfl; exact rfl; exact rfl)
      | (apply wpu; exact rfl; exact rfl; exact rfl)
      | (apply wbx; exact rfl; exact rfl; exact rfl; intro _)
      | refine wc_block ?_
      | (apply wc_true; exact rfl)
      | (apply wc_false; exact rfl)
      | refine wc_skip ?_
      | refine wc_exit ?_
      | refine wc_ret ?_
      | refine we_then_exit ?_
      | refine we_then_ret ?_
      | refine we_in_normal ?_
      | refine we_in_ret ?_
      | refine we_in_here ?_
      | (apply we_in_there; exact rfl))
    refine wc_plan [(bw, (sched (wordsOf blk) k).map u32 ++ List.replicate (48 - k) (u32 0), 119)] (some 29) [(0, true), (1, true), (2, true), (3, true), (4, true), (5, true), (6, true), (7, true), (8, true), (9, true), (10, true), (11, true), (12, true), (13, true), (14, true), (15, true), (16, true), (17, true), (18, true), (19, true), (20, true), (21, true), (22, true), (23, true), (24, true), (25, true), (26, true), (27, true), (28, true), (29, false)] (by kernel_rfl) hC ?_
    repeat (first
      | (apply ps; exact rfl; exact rfl; exact rfl; exact rfl)
      | (apply pia (k := 16 + k - 16); exact rfl; exact rfl; exact rfl; exact rfl; exact rfl; (first | exact rfl | omega); omega; exact rfl; exact rfl)
      | (apply pia (k := 16 + k - 7); exact rfl; exact rfl; exact rfl; exact rfl; exact rfl; (first | exact rfl | omega); omega; exact rfl; exact rfl)
      | (apply pia (k := 16 + k); exact rfl; exact rfl; exact rfl; exact rfl; exact rfl; (first | exact rfl | omega); omega; exact rfl; exact rfl)
      | (apply plb (j := 0); exact rfl; exact rfl; exact rfl; exact rfl; exact hz; exact rfl; exact rfl)
      | (apply plb (j := 0); exact rfl; exact rfl; exact rfl; exact rfl; exact hu; exact rfl; exact rfl)
      | (apply pq Tryd.call97; exact rfl; exact rfl; exact rfl; exact rfl; exact (fun w _ => ref_ror' _ 7 25 (by omega) (by omega) w))
      | (apply pq Tryd.call97; exact rfl; exact rfl; exact rfl; exact rfl; exact (fun w _ => ref_ror' _ 18 14 (by omega) (by omega) w))
      | (apply pq Tryd.call97; exact rfl; exact rfl; exact rfl; exact rfl; exact (fun w _ => ref_ror' _ 17 15 (by omega) (by omega) w))
      | (apply pq Tryd.call97; exact rfl; exact rfl; exact rfl; exact rfl; exact (fun w _ => ref_ror' _ 19 13 (by omega) (by omega) w))
      | (apply p32xor; exact rfl; exact rfl; exact rfl; exact rfl; exact rfl)
      | (apply p32add; exact rfl; exact rfl; exact rfl; exact rfl; exact rfl)
      | (apply p32and; exact rfl; exact rfl; exact rfl; exact rfl; exact rfl)
      | (apply wp_still; exact rfl; exact rfl; exact rfl; exact (od_not32 rfl))
      | (apply wp_still; exact rfl; exact rfl; exact rfl; exact (od_shr32 3 rfl rfl (by omega)))
      | (apply wp_still; exact rfl; exact rfl; exact rfl; exact (od_shr32 10 rfl rfl (by omega)))
      | (apply pfa; exact rfl; exact rfl; exact rfl; exact rfl; exact rfl)
      | (apply pi64; exact rfl; exact rfl; omega; omega; exact rfl; exact rfl)
      | (apply pct; exact rfl; exact rfl; omega; exact rfl; exact rfl)
      | (apply pcf; exact rfl; exact rfl; omega; exact rfl; exact rfl)
      | (apply wp_not; exact rfl; exact rfl; exact rfl)
      | (apply plb (j := 0); exact rfl; exact rfl; exact rfl; exact rfl; exact rfl; exact rfl; exact rfl)
      | (apply plb (j := 1); exact rfl; exact rfl; exact rfl; exact rfl; exact rfl; exact rfl; exact rfl)
      | (apply plb (j := 2); exact rfl; exact rfl; exact rfl; exact rfl; exact rfl; exact rfl; exact rfl)
      | (apply pln; exact rfl; exact rfl; exact rfl; exact rfl; exact rfl)
      | (apply ppu; exact rfl; exact rfl; exact rfl; exact rfl)
      | (apply pfs; exact rfl; exact rfl; exact rfl; exact rfl)
      | apply wp_nil)
    refine wp_store 0 rfl rfl rfl (od_store (d := none) 0 rfl rfl rfl rfl rfl (by simp [hsl]; omega)) ?_
    have hset := set_next (l := sched (wordsOf blk) k) (m := 48 - k) (nxt (sched (wordsOf blk) k) (16 + k)) (by omega) (0 + (16 + k)) (by omega)
    have hblk : (sched (wordsOf blk) k ++ [nxt (sched (wordsOf blk) k) (16 + k)]).map u32 ++ List.replicate (48 - k - 1) (u32 0) = (sched (wordsOf blk) (k + 1)).map u32 ++ List.replicate (48 - (k + 1)) (u32 0) := by
      rw [show 48 - k - 1 = 48 - (k + 1) by omega]; rfl
    rw [hblk] at hset
    refine we_weaken (env' := [(7, .int .i64 ((16 + k : Nat) : Int)), (5, .pointer (some ⟨bw, 0, none⟩)), (4, .pointer (some ⟨br, 0, none⟩)), (2, .pointer (some ⟨bs0, 0, none⟩))]) (bs' := [(bw, (sched (wordsOf blk) (k + 1)).map u32 ++ List.replicate (48 - (k + 1)) (u32 0), 119), (br, List.replicate 8 (u32 0), 111), (bs0, st.v, 111)]) ?_ ⟨rfl, rfl, rfl, rfl, trivial⟩ (by rw [← hset]; exact List.Sublist.refl _)
    repeat (first
      | (apply ws; exact rfl; exact rfl; exact rfl)
      | refine wc_seq ?_
      | refine wc_region ?_
      | refine wl_nil ?_
      | refine we_round ?_
      | refine we_then_wc ?_
      | (apply wi64; exact rfl; omega; omega; exact rfl; exact rfl)
      | (apply wfa; exact rfl; exact rfl; exact rfl; exact rfl)
      | (apply wct; exact rfl; omega; exact rfl; exact rfl)
      | (apply wcf; exact rfl; omega; exact rfl; exact rfl)
      | (apply wn; exact rfl; exact rfl)
      | (apply wlb (j := 0); exact rfl; exact rfl; exact rfl; exact rfl; exact rfl; exact rfl)
      | (apply wlb (j := 1); exact rfl; exact rfl; exact rfl; exact rfl; exact rfl; exact rfl)
      | (apply wlb (j := 2); exact rfl; exact rfl; exact rfl; exact rfl; exact rfl; exact rfl)
      | (apply wlb (j := 3); exact rfl; exact rfl; exact rfl; exact rfl; exact rfl; exact rfl)
      | (apply wln; exact rfl; exact rfl; exact rfl; exact rfl)
      | (apply wpu; exact rfl; exact rfl; exact rfl)
      | (apply wbx; exact rfl; exact rfl; exact rfl; intro _)
      | refine wc_block ?_
      | (apply wc_true; exact rfl)
      | (apply wc_false; exact rfl)
      | refine wc_skip ?_
      | refine wc_exit ?_
      | refine wc_ret ?_
      | refine we_then_exit ?_
      | refine we_then_ret ?_
      | refine we_in_normal ?_
      | refine we_in_ret ?_
      | refine we_in_here ?_
      | (apply we_in_there; exact rfl))
    exact we_again (k + 1) (by omega) (by omega) ⟨by simp [get]; omega, rfl, rfl, rfl, trivial⟩ (List.Sublist.refl _)
  have hk48 : k = 48 := by omega
  subst hk48
  generalize hWW : sched (wordsOf blk) 48 = W at *
  have hWl : W.length = 64 := hsl
  refine wc_weaken (env' := [(7, .int .i64 ((16 + 48 : Nat) : Int)), (5, .pointer (some ⟨bw, 0, none⟩)), (4, .pointer (some ⟨br, 0, none⟩)), (2, .pointer (some ⟨bs0, 0, none⟩))]) (bs' := [(bw, W.map u32, 119), (br, List.replicate 8 (u32 0), 111), (bs0, st.v, 111)]) ?_ ⟨rfl, rfl, rfl, rfl, trivial⟩ (by simp)
  repeat (first
    | (apply ws; exact rfl; exact rfl; exact rfl)
    | (apply wq Tryd.call98; exact rfl; exact rfl; exact rfl; exact (fun w' _ => ref_numbers w'))
    | (apply wal zero119 rfl; exact rfl; exact rfl; intro bk)
    | (apply wsw (j := 0); exact rfl; exact rfl; exact rfl; exact rfl; exact rfl; exact plainK; exact rfl; exact rfl)
    | refine wc_seq ?_
    | refine wc_region ?_
    | refine wl_nil ?_
    | refine we_round ?_
    | refine we_then_wc ?_
    | (apply wi64; exact rfl; omega; omega; exact rfl; exact rfl)
    | (apply wfa; exact rfl; exact rfl; exact rfl; exact rfl)
    | (apply wct; exact rfl; omega; exact rfl; exact rfl)
    | (apply wcf; exact rfl; omega; exact rfl; exact rfl)
    | (apply wn; exact rfl; exact rfl)
    | (apply wlb (j := 0); exact rfl; exact rfl; exact rfl; exact rfl; exact rfl; exact rfl)
    | (apply wlb (j := 1); exact rfl; exact rfl; exact rfl; exact rfl; exact rfl; exact rfl)
    | (apply wlb (j := 2); exact rfl; exact rfl; exact rfl; exact rfl; exact rfl; exact rfl)
    | (apply wlb (j := 3); exact rfl; exact rfl; exact rfl; exact rfl; exact rfl; exact rfl)
    | (apply wln; exact rfl; exact rfl; exact rfl; exact rfl)
    | (apply wpu; exact rfl; exact rfl; exact rfl)
    | (apply wbx; exact rfl; exact rfl; exact rfl; intro _)
    | refine wc_block ?_
    | (apply wc_true; exact rfl)
    | (apply wc_false; exact rfl)
    | refine wc_skip ?_
    | refine wc_exit ?_
    | refine wc_ret ?_
    | refine we_then_exit ?_
    | refine we_then_ret ?_
    | refine we_in_normal ?_
    | refine we_in_ret ?_
    | refine we_in_here ?_
    | (apply we_in_there; exact rfl))
  refine wc_plan _ none [(0, true), (1, true), (2, true), (3, true), (4, true), (5, true), (6, true), (7, true), (8, true), (9, true), (10, true), (11, true), (12, true), (13, true), (14, true), (15, true), (16, true), (17, true), (18, true), (19, true), (20, true), (21, true), (22, true), (23, true)] (by kernel_rfl) (List.Sublist.refl _) ?_
  repeat (first
    | (apply ps; exact rfl; exact rfl; exact rfl; exact rfl)
    | (apply pia (k := 0); exact rfl; exact rfl; exact rfl; exact rfl; exact rfl; (first | exact rfl | omega); omega; exact rfl; exact rfl)
    | (apply pia (k := 1); exact rfl; exact rfl; exact rfl; exact rfl; exact rfl; (first | exact rfl | omega); omega; exact rfl; exact rfl)
    | (apply pia (k := 2); exact rfl; exact rfl; exact rfl; exact rfl; exact rfl; (first | exact rfl | omega); omega; exact rfl; exact rfl)
    | (apply pia (k := 3); exact rfl; exact rfl; exact rfl; exact rfl; exact rfl; (first | exact rfl | omega); omega; exact rfl; exact rfl)
    | (apply pia (k := 4); exact rfl; exact rfl; exact rfl; exact rfl; exact rfl; (first | exact rfl | omega); omega; exact rfl; exact rfl)
    | (apply pia (k := 5); exact rfl; exact rfl; exact rfl; exact rfl; exact rfl; (first | exact rfl | omega); omega; exact rfl; exact rfl)
    | (apply pia (k := 6); exact rfl; exact rfl; exact rfl; exact rfl; exact rfl; (first | exact rfl | omega); omega; exact rfl; exact rfl)
    | (apply pia (k := 7); exact rfl; exact rfl; exact rfl; exact rfl; exact rfl; (first | exact rfl | omega); omega; exact rfl; exact rfl)
    | (apply plb (j := 3); exact rfl; exact rfl; exact rfl; exact rfl; exact rfl; exact rfl; exact rfl)
    | (apply pfa; exact rfl; exact rfl; exact rfl; exact rfl; exact rfl)
    | (apply pi64; exact rfl; exact rfl; omega; omega; exact rfl; exact rfl)
    | (apply pct; exact rfl; exact rfl; omega; exact rfl; exact rfl)
    | (apply pcf; exact rfl; exact rfl; omega; exact rfl; exact rfl)
    | (apply wp_not; exact rfl; exact rfl; exact rfl)
    | (apply plb (j := 0); exact rfl; exact rfl; exact rfl; exact rfl; exact rfl; exact rfl; exact rfl)
    | (apply plb (j := 1); exact rfl; exact rfl; exact rfl; exact rfl; exact rfl; exact rfl; exact rfl)
    | (apply plb (j := 2); exact rfl; exact rfl; exact rfl; exact rfl; exact rfl; exact rfl; exact rfl)
    | (apply pln; exact rfl; exact rfl; exact rfl; exact rfl; exact rfl)
    | (apply ppu; exact rfl; exact rfl; exact rfl; exact rfl)
    | (apply pfs; exact rfl; exact rfl; exact rfl; exact rfl)
    | apply wp_nil)
  repeat (first
    | (apply ws; exact rfl; exact rfl; exact rfl)
    | refine wc_seq ?_
    | refine wc_region ?_
    | refine wl_nil ?_
    | refine we_round ?_
    | refine we_then_wc ?_
    | (apply wi64; exact rfl; omega; omega; exact rfl; exact rfl)
    | (apply wfa; exact rfl; exact rfl; exact rfl; exact rfl)
    | (apply wct; exact rfl; omega; exact rfl; exact rfl)
    | (apply wcf; exact rfl; omega; exact rfl; exact rfl)
    | (apply wn; exact rfl; exact rfl)
    | (apply wlb (j := 0); exact rfl; exact rfl; exact rfl; exact rfl; exact rfl; exact rfl)
    | (apply wlb (j := 1); exact rfl; exact rfl; exact rfl; exact rfl; exact rfl; exact rfl)
    | (apply wlb (j := 2); exact rfl; exact rfl; exact rfl; exact rfl; exact rfl; exact rfl)
    | (apply wlb (j := 3); exact rfl; exact rfl; exact rfl; exact rfl; exact rfl; exact rfl)
    | (apply wln; exact rfl; exact rfl; exact rfl; exact rfl)
    | (apply wpu; exact rfl; exact rfl; exact rfl)
    | (apply wbx; exact rfl; exact rfl; exact rfl; intro _)
    | refine wc_block ?_
    | (apply wc_true; exact rfl)
    | (apply wc_false; exact rfl)
    | refine wc_skip ?_
    | refine wc_exit ?_
    | refine wc_ret ?_
    | refine we_then_exit ?_
    | refine we_then_ret ?_
    | refine we_in_normal ?_
    | refine we_in_ret ?_
    | refine we_in_here ?_
    | (apply we_in_there; exact rfl))
  refine wc_loop (ι := Nat) (fun t => [(19, .int .i64 (t : Int)), (11, u32 (runP st W t).a), (12, u32 (runP st W t).b), (13, u32 (runP st W t).c), (14, u32 (runP st W t).d), (15, u32 (runP st W t).e), (16, u32 (runP st W t).f), (17, u32 (runP st W t).g), (18, u32 (runP st W t).h), (10, .pointer (some ⟨bk, 0, none⟩)), (5, .pointer (some ⟨bw, 0, none⟩)), (4, .pointer (some ⟨br, 0, none⟩)), (2, .pointer (some ⟨bs0, 0, none⟩))])
    (fun _ => [(bk, kW.map u32, 119), (bw, W.map u32, 119), (br, List.replicate 8 (u32 0), 111), (bs0, st.v, 111)]) (fun t => t ≤ 64) (fun t => 64 - t) 0 (Nat.zero_le _) ⟨rfl, rfl, rfl, rfl, rfl, rfl, rfl, rfl, rfl, rfl, rfl, rfl, rfl, trivial⟩ (List.Sublist.refl _) ?_
  intro t ht
  by_cases hlt : t < 64
  · have hkt := getD_map1 (l := kW) (i := t) (show t < kW.length from hlt)
    have hwt := getD_map1 (l := W) (i := t) (by omega)
    have hS1 : runP st W (t + 1) = stepP (runP st W t) (wd kW t) (wd W t) := rfl
    generalize hS : runP st W t = S at hS1 ⊢
    repeat (first
      | (apply ws; exact rfl; exact rfl; exact rfl)
      | refine wc_seq ?_
      | refine wc_region ?_
      | refine wl_nil ?_
      | refine we_round ?_
      | refine we_then_wc ?_
      | (apply wi64; exact rfl; omega; omega; exact rfl; exact rfl)
      | (apply wfa; exact rfl; exact rfl; exact rfl; exact rfl)
      | (apply wct; exact rfl; omega; exact rfl; exact rfl)
      | (apply wcf; exact rfl; omega; exact rfl; exact rfl)
      | (apply wn; exact rfl; exact rfl)
      | (apply wlb (j := 0); exact rfl; exact rfl; exact rfl; exact rfl; exact rfl; exact rfl)
      | (apply wlb (j := 1); exact rfl; exact rfl; exact rfl; exact rfl; exact rfl; exact rfl)
      | (apply wlb (j := 2); exact rfl; exact rfl; exact rfl; exact rfl; exact rfl; exact rfl)
      | (apply wlb (j := 3); exact rfl; exact rfl; exact rfl; exact rfl; exact rfl; exact rfl)
      | (apply wln; exact rfl; exact rfl; exact rfl; exact rfl)
      | (apply wpu; exact rfl; exact rfl; exact rfl)
      | (apply wbx; exact rfl; exact rfl; exact rfl; intro _)
      | refine wc_block ?_
      | (apply wc_true; exact rfl)
      | (apply wc_false; exact rfl)
      | refine wc_skip ?_
      | refine wc_exit ?_
      | refine wc_ret ?_
      | refine we_then_exit ?_
      | refine we_then_ret ?_
      | refine we_in_normal ?_
      | refine we_in_ret ?_
      | refine we_in_here ?_
      | (apply we_in_there; exact rfl))
    refine wc_plan _ none [(0, true), (1, true), (2, true), (3, true), (4, true), (5, true), (6, true), (7, true), (8, true), (9, true), (10, true), (11, true), (12, true), (13, true), (14, true), (15, true), (16, true), (17, true), (18, true), (19, true), (20, true), (21, true), (22, true), (23, true), (24, true), (25, true), (26, true), (27, true)] (by kernel_rfl) (List.Sublist.refl _) ?_
    repeat (first
      | (apply ps; exact rfl; exact rfl; exact rfl; exact rfl)
      | (apply pia (k := t); exact rfl; exact rfl; exact rfl; exact rfl; exact rfl; (first | exact rfl | omega); omega; exact rfl; exact rfl)
      | (apply plb (j := 0); exact rfl; exact rfl; exact rfl; exact rfl; exact hkt; exact rfl; exact rfl)
      | (apply plb (j := 1); exact rfl; exact rfl; exact rfl; exact rfl; exact hwt; exact rfl; exact rfl)
      | (apply pq Tryd.call97; exact rfl; exact rfl; exact rfl; exact rfl; exact (fun w _ => ref_ror' _ 6 26 (by omega) (by omega) w))
      | (apply pq Tryd.call97; exact rfl; exact rfl; exact rfl; exact rfl; exact (fun w _ => ref_ror' _ 11 21 (by omega) (by omega) w))
      | (apply pq Tryd.call97; exact rfl; exact rfl; exact rfl; exact rfl; exact (fun w _ => ref_ror' _ 25 7 (by omega) (by omega) w))
      | (apply p32xor; exact rfl; exact rfl; exact rfl; exact rfl; exact rfl)
      | (apply p32add; exact rfl; exact rfl; exact rfl; exact rfl; exact rfl)
      | (apply p32and; exact rfl; exact rfl; exact rfl; exact rfl; exact rfl)
      | (apply wp_still; exact rfl; exact rfl; exact rfl; exact (od_not32 rfl))
      | (apply pfa; exact rfl; exact rfl; exact rfl; exact rfl; exact rfl)
      | (apply pi64; exact rfl; exact rfl; omega; omega; exact rfl; exact rfl)
      | (apply pct; exact rfl; exact rfl; omega; exact rfl; exact rfl)
      | (apply pcf; exact rfl; exact rfl; omega; exact rfl; exact rfl)
      | (apply wp_not; exact rfl; exact rfl; exact rfl)
      | (apply plb (j := 0); exact rfl; exact rfl; exact rfl; exact rfl; exact rfl; exact rfl; exact rfl)
      | (apply plb (j := 1); exact rfl; exact rfl; exact rfl; exact rfl; exact rfl; exact rfl; exact rfl)
      | (apply plb (j := 2); exact rfl; exact rfl; exact rfl; exact rfl; exact rfl; exact rfl; exact rfl)
      | (apply pln; exact rfl; exact rfl; exact rfl; exact rfl; exact rfl)
      | (apply ppu; exact rfl; exact rfl; exact rfl; exact rfl)
      | (apply pfs; exact rfl; exact rfl; exact rfl; exact rfl)
      | apply wp_nil)
    rw [p_eq]
    repeat (first
      | (apply ws; exact rfl; exact rfl; exact rfl)
      | (apply wq Tryd.call97; exact rfl; exact rfl; exact rfl; exact (fun w _ => ref_ror' _ 2 30 (by omega) (by omega) w))
      | (apply wq Tryd.call97; exact rfl; exact rfl; exact rfl; exact (fun w _ => ref_ror' _ 13 19 (by omega) (by omega) w))
      | (apply wq Tryd.call97; exact rfl; exact rfl; exact rfl; exact (fun w _ => ref_ror' _ 22 10 (by omega) (by omega) w))
      | (apply w32xor; exact rfl; exact rfl; exact rfl; exact rfl)
      | (apply w32add; exact rfl; exact rfl; exact rfl; exact rfl)
      | (apply w32and; exact rfl; exact rfl; exact rfl; exact rfl)
      | refine wc_seq ?_
      | refine wc_region ?_
      | refine wl_nil ?_
      | refine we_round ?_
      | refine we_then_wc ?_
      | (apply wi64; exact rfl; omega; omega; exact rfl; exact rfl)
      | (apply wfa; exact rfl; exact rfl; exact rfl; exact rfl)
      | (apply wct; exact rfl; omega; exact rfl; exact rfl)
      | (apply wcf; exact rfl; omega; exact rfl; exact rfl)
      | (apply wn; exact rfl; exact rfl)
      | (apply wlb (j := 0); exact rfl; exact rfl; exact rfl; exact rfl; exact rfl; exact rfl)
      | (apply wlb (j := 1); exact rfl; exact rfl; exact rfl; exact rfl; exact rfl; exact rfl)
      | (apply wlb (j := 2); exact rfl; exact rfl; exact rfl; exact rfl; exact rfl; exact rfl)
      | (apply wlb (j := 3); exact rfl; exact rfl; exact rfl; exact rfl; exact rfl; exact rfl)
      | (apply wln; exact rfl; exact rfl; exact rfl; exact rfl)
      | (apply wpu; exact rfl; exact rfl; exact rfl)
      | (apply wbx; exact rfl; exact rfl; exact rfl; intro _)
      | refine wc_block ?_
      | (apply wc_true; exact rfl)
      | (apply wc_false; exact rfl)
      | refine wc_skip ?_
      | refine wc_exit ?_
      | refine wc_ret ?_
      | refine we_then_exit ?_
      | refine we_then_ret ?_
      | refine we_in_normal ?_
      | refine we_in_ret ?_
      | refine we_in_here ?_
      | (apply we_in_there; exact rfl))
    rw [q_eq]
    refine we_again (t + 1) (by omega) (by omega) ?_ (List.Sublist.refl _)
    rw [hS1]
    exact ⟨rfl, rfl, rfl, rfl, rfl, rfl, rfl, rfl, rfl, rfl, rfl, rfl, rfl, trivial⟩
  have ht64 : t = 64 := by omega
  subst ht64
  have hfin : absorbP st blk = addS st (runP st W 64) := by unfold absorbP; rw [hWW]
  rw [hfin]
  generalize runP st W 64 = V
  repeat (first
    | (apply ws; exact rfl; exact rfl; exact rfl)
    | refine wl_still rfl rfl rfl (od_indexAddrA1 0 rfl rfl rfl rfl rfl (by omega)) ?_
    | refine wl_still rfl rfl rfl (od_indexAddrA1 1 rfl rfl rfl rfl rfl (by omega)) ?_
    | refine wl_still rfl rfl rfl (od_indexAddrA1 2 rfl rfl rfl rfl rfl (by omega)) ?_
    | refine wl_still rfl rfl rfl (od_indexAddrA1 3 rfl rfl rfl rfl rfl (by omega)) ?_
    | refine wl_still rfl rfl rfl (od_indexAddrA1 4 rfl rfl rfl rfl rfl (by omega)) ?_
    | refine wl_still rfl rfl rfl (od_indexAddrA1 5 rfl rfl rfl rfl rfl (by omega)) ?_
    | refine wl_still rfl rfl rfl (od_indexAddrA1 6 rfl rfl rfl rfl rfl (by omega)) ?_
    | refine wl_still rfl rfl rfl (od_indexAddrA1 7 rfl rfl rfl rfl rfl (by omega)) ?_
    | (apply w32xor; exact rfl; exact rfl; exact rfl; exact rfl)
    | (apply w32add; exact rfl; exact rfl; exact rfl; exact rfl)
    | (apply w32and; exact rfl; exact rfl; exact rfl; exact rfl)
    | refine wl_still rfl rfl rfl (od_buildA (z := List.replicate 8 (u32 0)) (cs := (addS st V).v) rfl rfl zero111 rfl rfl) ?_
    | (apply wsw (j := 2); exact rfl; exact rfl; exact rfl; exact rfl; exact rfl; exact plainS _; exact rfl; exact rfl)
    | refine wc_seq ?_
    | refine wc_region ?_
    | refine wl_nil ?_
    | refine we_round ?_
    | refine we_then_wc ?_
    | (apply wi64; exact rfl; omega; omega; exact rfl; exact rfl)
    | (apply wfa; exact rfl; exact rfl; exact rfl; exact rfl)
    | (apply wct; exact rfl; omega; exact rfl; exact rfl)
    | (apply wcf; exact rfl; omega; exact rfl; exact rfl)
    | (apply wn; exact rfl; exact rfl)
    | (apply wlb (j := 0); exact rfl; exact rfl; exact rfl; exact rfl; exact rfl; exact rfl)
    | (apply wlb (j := 1); exact rfl; exact rfl; exact rfl; exact rfl; exact rfl; exact rfl)
    | (apply wlb (j := 2); exact rfl; exact rfl; exact rfl; exact rfl; exact rfl; exact rfl)
    | (apply wlb (j := 3); exact rfl; exact rfl; exact rfl; exact rfl; exact rfl; exact rfl)
    | (apply wln; exact rfl; exact rfl; exact rfl; exact rfl)
    | (apply wpu; exact rfl; exact rfl; exact rfl)
    | (apply wbx; exact rfl; exact rfl; exact rfl; intro _)
    | refine wc_block ?_
    | (apply wc_true; exact rfl)
    | (apply wc_false; exact rfl)
    | refine wc_skip ?_
    | refine wc_exit ?_
    | refine wc_ret ?_
    | refine we_then_exit ?_
    | refine we_then_ret ?_
    | refine we_in_normal ?_
    | refine we_in_ret ?_
    | refine we_in_here ?_
    | (apply we_in_there; exact rfl))
  exact we_retCA 2 (Or.inl rfl) rfl rfl rfl rfl rfl rfl fun w' h => ⟨rfl, h.ext_all⟩
end Go.Proofs.YtielloijdkoeiaaDoor
