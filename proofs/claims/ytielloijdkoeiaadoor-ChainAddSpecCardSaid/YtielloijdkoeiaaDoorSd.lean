/- The reference's digest: the hash of bytes. -/
import Derived.Test.YtielloijdkoeiaaDoorSc

namespace Go.Proofs.YtielloijdkoeiaaDoor
open Go Go.RowKit Go.Lib
set_option maxRecDepth 100000

theorem flat4_get (f : W32 → List UInt8) (hf : ∀ x, (f x).length = 4) : ∀ (l : List W32) (i : Nat) (x : W32), l[i / 4]? = some x → (l.flatMap f)[i]? = (f x)[i % 4]?
  | [], i, x, h => by simp at h
  | y :: l, i, x, h => by
    rw [List.flatMap_cons]
    by_cases hi : i < 4
    · rw [show i / 4 = 0 by omega] at h
      simp at h
      subst h
      rw [List.getElem?_append_left (by rw [hf]; omega), show i % 4 = i by omega]
    · rw [show i / 4 = (i - 4) / 4 + 1 by omega] at h
      simp at h
      rw [List.getElem?_append_right (by rw [hf]; omega), hf, flat4_get f hf l (i - 4) x h, show (i - 4) % 4 = i % 4 by omega]

theorem dig_byte (s : S8) (i : Nat) (h : i < 32) : (digP s)[i]? = some (UInt8.ofNat ((wd s.l (i / 4)).toNat / 2 ^ (8 * (4 - 1 - i % 4)))) := by
  have h8 : i / 4 < s.l.length := by show i / 4 < 8; omega
  have hx : s.l[i / 4]? = some (wd s.l (i / 4)) := by simp [wd, List.getD, h8]
  unfold digP
  rw [flat4_get _ (fun x => putL_length _ _ _) s.l i _ hx]
  unfold putL
  rw [List.getElem?_map, List.getElem?_range (by omega)]
  rfl

theorem dig_take (s : S8) (i : Nat) (h : i < 32) : (digP s).take (i + 1) = (digP s).take i ++ [UInt8.ofNat ((wd s.l (i / 4)).toNat / 2 ^ (8 * (4 - 1 - i % 4)))] := by
  rw [List.take_add_one, dig_byte s i h]
  rfl

theorem set_next8 {l : List UInt8} {m : Nat} (x : UInt8) (hm : 0 < m) (p : Nat) (hp : p = l.length) : (l.map v8 ++ List.replicate m (v8 0)).set p (v8 x) = (l ++ [x]).map v8 ++ List.replicate (m - 1) (v8 0) := by
  subst hp
  obtain ⟨k, rfl⟩ : ∃ k, m = k + 1 := ⟨m - 1, by omega⟩
  rw [List.set_append_right _ _ (by simp)]
  simp [List.replicate_succ]

theorem od_conv328 {env : Env} {w0 : World} {ex : List Nat} {bs : Blks} {d : Option Nat} {ty : TypeId} {pos : String} {af : Array Edge} {g : Option (Nat × Bool)} {x : Operand} {a : W32} (hx : ev env x = some (u32 a)) : OD env w0 ex bs ⟨d, .convert 110 5 x, ty, pos, af, g⟩ (Still (v8 (UInt8.ofNat a.toNat))) := by
  have := od_conv (w0 := w0) (ex := ex) (bs := bs) (d := d) (ty := ty) (pos := pos) (af := af) (g := g) (src := 110) (dst := 5) (k := .u8) hx rfl rfl
  rwa [wrap8] at this

theorem rd_blk {w : World} {L : List UInt8} (k bp c : Nat) (hk : 64 * k + 64 ≤ L.length) (hc : L.length ≤ c) (hl : ∀ i x, L[i]? = some x → w.cell? ⟨bp, 0 + i, none⟩ = some (v8 x)) :
    Rd v8 w (.slice (some ⟨bp, if c = 64 * k then 0 else 0 + 64 * k * 1, none⟩) (64 * k + 64 - 64 * k) (c - 64 * k)) ((L.drop (64 * k)).take 64) := by
  have hlen : ((L.drop (64 * k)).take 64).length = 64 * k + 64 - 64 * k := by simp; omega
  rw [if_neg (by omega), Nat.mul_one, ← hlen]
  refine ⟨bp, 0 + 64 * k, _, rfl, by rw [hlen]; omega, fun i x hx => ?_⟩
  rw [List.getElem?_take] at hx
  split at hx
  · rw [List.getElem?_drop] at hx
    rw [Nat.add_assoc]
    exact hl _ _ hx
  · cases hx

set_option maxHeartbeats 800000 in
theorem ref_Sum (v : Value) (l : List UInt8) (hl : l.length < 2 ^ 45) (w : World) (hv : Rd v8 w v l) : Fn 84 [v] w (Quiet (digV (sumP l)) w) := by
  have hv' := hv
  obtain ⟨b, o, c, rfl, hc, hcell⟩ := hv
  refine fn_of (args := [.slice (some ⟨b, o, none⟩) l.length c]) Tryd.func84 rfl Tryd.ntmps84 rfl (Hp.start w) ?_
  have hpl := padP_length l
  have hpz := padZ_le l.length
  have hq : (padP l).length % 64 = 0 := by
    rw [hpl]
    have := (padZ_stop l.length (padZ l.length) (Nat.le_refl _)).2 rfl
    omega
  unfold sumP
  repeat (first
    | (apply ws; exact rfl; exact rfl; exact rfl)
    | (apply wal zero53 rfl; exact rfl; exact rfl; intro br)
    | refine wl_still rfl rfl rfl (od_buildA (z := List.replicate 8 (u32 0)) (cs := startS.v) rfl rfl zero111 rfl rfl) ?_
    | (apply wal zero111 rfl; exact rfl; exact rfl; intro bs0)
    | (apply wsw (j := 0); exact rfl; exact rfl; exact rfl; exact rfl; exact rfl; exact plainS _; exact rfl; exact rfl)
    | refine wc_seq ?_
    | refine wc_region ?_
    | refine wl_nil ?_
    | refine we_round ?_
    | refine we_then_wc ?_
    | (apply wi64; exact rfl; omega; omega; exact rfl; exact rfl)
    | (apply wfa; exact rfl; exact rfl; exact rfl; exact rfl)
    | (apply wct; exact rfl; omega; exact rfl; exact rfl)
    | (apply wcf; exact rfl; omega; exact rfl; exact rfl)
    | (apply wn; exact rfl; exact rfl)
    | (apply wlb (j := 0); exact rfl; exact rfl; exact rfl; exact rfl; exact rfl; exact rfl)
    | (apply wlb (j := 1); exact rfl; exact rfl; exact rfl; exact rfl; exact rfl; exact rfl)
    | (apply wlb (j := 2); exact rfl; exact rfl; exact rfl; exact rfl; exact rfl; exact rfl)
    | (apply wlb (j := 3); exact rfl; exact rfl; exact rfl; exact rfl; exact rfl; exact rfl)
    | (apply wln; exact rfl; exact rfl; exact rfl; exact rfl)
    | (apply wpu; exact rfl; exact rfl; exact rfl)
    | (apply wbx; exact rfl; exact rfl; exact rfl; intro _)
    | refine wc_block ?_
    | (apply wc_true; exact rfl)
    | (apply wc_false; exact rfl)
    | refine wc_skip ?_
    | refine wc_exit ?_
    | refine wc_ret ?_
    | refine we_then_exit ?_
    | refine we_then_ret ?_
    | refine we_in_normal ?_
    | refine we_in_ret ?_
    | refine we_in_here ?_
    | (apply we_in_there; exact rfl))
  generalize startS = S0
  refine wmk Tryd.call90 rfl rfl rfl (fun w' h => ref_padded _ l hl w' (hv'.ext h.ext_all)) ?_
  rintro ⟨cp, sp⟩ bp ⟨h1, h2⟩
  simp only at h1 h2
  dsimp only
  generalize hL : padP l = L at *
  obtain ⟨q, hq'⟩ : ∃ q, L.length = 64 * q := ⟨L.length / 64, by omega⟩
  have hq2 : L.length / 64 = q := by omega
  rw [hq2]
  repeat (first
    | (apply ws; exact rfl; exact rfl; exact rfl)
    | refine wc_seq ?_
    | refine wc_region ?_
    | refine wl_nil ?_
    | refine we_round ?_
    | refine we_then_wc ?_
    | (apply wi64; exact rfl; omega; omega; exact rfl; exact rfl)
    | (apply wfa; exact rfl; exact rfl; exact rfl; exact rfl)
    | (apply wct; exact rfl; omega; exact rfl; exact rfl)
    | (apply wcf; exact rfl; omega; exact rfl; exact rfl)
    | (apply wn; exact rfl; exact rfl)
    | (apply wlb (j := 0); exact rfl; exact rfl; exact rfl; exact rfl; exact rfl; exact rfl)
    | (apply wlb (j := 1); exact rfl; exact rfl; exact rfl; exact rfl; exact rfl; exact rfl)
    | (apply wlb (j := 2); exact rfl; exact rfl; exact rfl; exact rfl; exact rfl; exact rfl)
    | (apply wlb (j := 3); exact rfl; exact rfl; exact rfl; exact rfl; exact rfl; exact rfl)
    | (apply wln; exact rfl; exact rfl; exact rfl; exact rfl)
    | (apply wpu; exact rfl; exact rfl; exact rfl)
    | (apply wbx; exact rfl; exact rfl; exact rfl; intro _)
    | refine wc_block ?_
    | (apply wc_true; exact rfl)
    | (apply wc_false; exact rfl)
    | refine wc_skip ?_
    | refine wc_exit ?_
    | refine wc_ret ?_
    | refine we_then_exit ?_
    | refine we_then_ret ?_
    | refine we_in_normal ?_
    | refine we_in_ret ?_
    | refine we_in_here ?_
    | (apply we_in_there; exact rfl))
  refine wc_loop (ι := Nat) (fun k => [(5, .int .i64 ((64 * k : Nat) : Int)), (4, .slice (some ⟨bp, 0, none⟩) L.length cp), (3, .pointer (some ⟨bs0, 0, none⟩)), (2, .pointer (some ⟨br, 0, none⟩))])
    (fun k => [(bp, L.map v8 ++ sp, 5), (bs0, (blocksP S0 k L).v, 111), (br, List.replicate 32 (v8 0), 53)]) (fun k => k ≤ q) (fun k => q - k) 0 (Nat.zero_le _) ⟨rfl, rfl, rfl, rfl, trivial⟩ (List.Sublist.refl _) ?_
  intro k hk
  by_cases hlt : k < q
  · have hsucc := blocksP_succ S0 k L
    repeat (first
      | (apply ws; exact rfl; exact rfl; exact rfl)
      | refine wc_seq ?_
      | refine wc_region ?_
      | refine wl_nil ?_
      | refine we_round ?_
      | refine we_then_wc ?_
      | (apply wi64; exact rfl; omega; omega; exact rfl; exact rfl)
      | (apply wfa; exact rfl; exact rfl; exact rfl; exact rfl)
      | (apply wct; exact rfl; omega; exact rfl; exact rfl)
      | (apply wcf; exact rfl; omega; exact rfl; exact rfl)
      | (apply wn; exact rfl; exact rfl)
      | (apply wlb (j := 0); exact rfl; exact rfl; exact rfl; exact rfl; exact rfl; exact rfl)
      | (apply wlb (j := 1); exact rfl; exact rfl; exact rfl; exact rfl; exact rfl; exact rfl)
      | (apply wlb (j := 2); exact rfl; exact rfl; exact rfl; exact rfl; exact rfl; exact rfl)
      | (apply wlb (j := 3); exact rfl; exact rfl; exact rfl; exact rfl; exact rfl; exact rfl)
      | (apply wln; exact rfl; exact rfl; exact rfl; exact rfl)
      | (apply wpu; exact rfl; exact rfl; exact rfl)
      | (apply wbx; exact rfl; exact rfl; exact rfl; intro _)
      | refine wc_block ?_
      | (apply wc_true; exact rfl)
      | (apply wc_false; exact rfl)
      | refine wc_skip ?_
      | refine wc_exit ?_
      | refine wc_ret ?_
      | refine we_then_exit ?_
      | refine we_then_ret ?_
      | refine we_in_normal ?_
      | refine we_in_ret ?_
      | refine we_in_here ?_
      | (apply we_in_there; exact rfl))
    refine wc_plan _ (some 7) [(0, true), (1, true), (2, true), (3, true), (4, true), (5, true), (6, true), (7, false)] (by kernel_rfl) (List.Sublist.refl _) ?_
    repeat (first
      | (apply ps; exact rfl; exact rfl; exact rfl; exact rfl)
      | (apply wp_still; exact rfl; exact rfl; exact rfl; exact (od_loadAB 1 rfl rfl rfl rfl rfl))
      | (apply wp_still; exact rfl; exact rfl; exact rfl; exact (od_slice (64 * k) (64 * k + 64) cp rfl rfl rfl rfl ⟨_, _, rfl, by omega⟩ ⟨_, _, rfl, by omega⟩ (by omega) (by omega) (by omega) (by simp)))
      | (apply pfa; exact rfl; exact rfl; exact rfl; exact rfl; exact rfl)
      | (apply pi64; exact rfl; exact rfl; omega; omega; exact rfl; exact rfl)
      | (apply pct; exact rfl; exact rfl; omega; exact rfl; exact rfl)
      | (apply pcf; exact rfl; exact rfl; omega; exact rfl; exact rfl)
      | (apply wp_not; exact rfl; exact rfl; exact rfl)
      | (apply plb (j := 0); exact rfl; exact rfl; exact rfl; exact rfl; exact rfl; exact rfl; exact rfl)
      | (apply plb (j := 1); exact rfl; exact rfl; exact rfl; exact rfl; exact rfl; exact rfl; exact rfl)
      | (apply plb (j := 2); exact rfl; exact rfl; exact rfl; exact rfl; exact rfl; exact rfl; exact rfl)
      | (apply pln; exact rfl; exact rfl; exact rfl; exact rfl; exact rfl)
      | (apply ppu; exact rfl; exact rfl; exact rfl; exact rfl)
      | (apply pfs; exact rfl; exact rfl; exact rfl; exact rfl)
      | apply wp_nil)
    refine wp_quiet rfl rfl rfl (od_call Tryd.call91 rfl (fun w' h => ref_block _ _ ((L.drop (64 * k)).take 64) (by simp; omega) w' (rd_blk k bp cp (by omega) h1 (fun i x hx => h.cell_blk (j := 0) rfl (cells_map 0 rfl i x hx))))) ?_
    rw [← hsucc]
    refine wp_store 1 rfl rfl rfl (od_storeW 1 rfl rfl rfl rfl rfl (plainS _) rfl) ?_
    repeat (first
      | (apply ws; exact rfl; exact rfl; exact rfl)
      | refine wc_seq ?_
      | refine wc_region ?_
      | refine wl_nil ?_
      | refine we_round ?_
      | refine we_then_wc ?_
      | (apply wi64; exact rfl; omega; omega; exact rfl; exact rfl)
      | (apply wfa; exact rfl; exact rfl; exact rfl; exact rfl)
      | (apply wct; exact rfl; omega; exact rfl; exact rfl)
      | (apply wcf; exact rfl; omega; exact rfl; exact rfl)
      | (apply wn; exact rfl; exact rfl)
      | (apply wlb (j := 0); exact rfl; exact rfl; exact rfl; exact rfl; exact rfl; exact rfl)
      | (apply wlb (j := 1); exact rfl; exact rfl; exact rfl; exact rfl; exact rfl; exact rfl)
      | (apply wlb (j := 2); exact rfl; exact rfl; exact rfl; exact rfl; exact rfl; exact rfl)
      | (apply wlb (j := 3); exact rfl; exact rfl; exact rfl; exact rfl; exact rfl; exact rfl)
      | (apply wln; exact rfl; exact rfl; exact rfl; exact rfl)
      | (apply wpu; exact rfl; exact rfl; exact rfl)
      | (apply wbx; exact rfl; exact rfl; exact rfl; intro _)
      | refine wc_block ?_
      | (apply wc_true; exact rfl)
      | (apply wc_false; exact rfl)
      | refine wc_skip ?_
      | refine wc_exit ?_
      | refine wc_ret ?_
      | refine we_then_exit ?_
      | refine we_then_ret ?_
      | refine we_in_normal ?_
      | refine we_in_ret ?_
      | refine we_in_here ?_
      | (apply we_in_there; exact rfl))
    exact we_again (k + 1) (by omega) (by omega) ⟨by simp [get]; omega, rfl, rfl, rfl, trivial⟩ (List.Sublist.refl _)
  have hkq : k = q := by omega
  subst hkq
  generalize blocksP S0 k L = S
  have hdl := digP_length S
  repeat (first
    | (apply ws; exact rfl; exact rfl; exact rfl)
    | refine wl_still rfl rfl rfl (od_buildA (z := List.replicate 32 (v8 0)) (cs := List.replicate 32 (v8 0)) rfl rfl zero53 rfl rfl) ?_
    | (apply wal zero53 rfl; exact rfl; exact rfl; intro bd)
    | (apply wsw (j := 0); exact rfl; exact rfl; exact rfl; exact rfl; exact rfl; exact plain8 (List.replicate 32 0); exact rfl; exact rfl)
    | refine wc_seq ?_
    | refine wc_region ?_
    | refine wl_nil ?_
    | refine we_round ?_
    | refine we_then_wc ?_
    | (apply wi64; exact rfl; omega; omega; exact rfl; exact rfl)
    | (apply wfa; exact rfl; exact rfl; exact rfl; exact rfl)
    | (apply wct; exact rfl; omega; exact rfl; exact rfl)
    | (apply wcf; exact rfl; omega; exact rfl; exact rfl)
    | (apply wn; exact rfl; exact rfl)
    | (apply wlb (j := 0); exact rfl; exact rfl; exact rfl; exact rfl; exact rfl; exact rfl)
    | (apply wlb (j := 1); exact rfl; exact rfl; exact rfl; exact rfl; exact rfl; exact rfl)
    | (apply wlb (j := 2); exact rfl; exact rfl; exact rfl; exact rfl; exact rfl; exact rfl)
    | (apply wlb (j := 3); exact rfl; exact rfl; exact rfl; exact rfl; exact rfl; exact rfl)
    | (apply wln; exact rfl; exact rfl; exact rfl; exact rfl)
    | (apply wpu; exact rfl; exact rfl; exact rfl)
    | (apply wbx; exact rfl; exact rfl; exact rfl; intro _)
    | refine wc_block ?_
    | (apply wc_true; exact rfl)
    | (apply wc_false; exact rfl)
    | refine wc_skip ?_
    | refine wc_exit ?_
    | refine wc_ret ?_
    | refine we_then_exit ?_
    | refine we_then_ret ?_
    | refine we_in_normal ?_
    | refine we_in_ret ?_
    | refine we_in_here ?_
    | (apply we_in_there; exact rfl))
  refine wc_loop (ι := Nat) (fun i => [(7, .int .i64 (i : Int)), (6, .pointer (some ⟨bd, 0, none⟩)), (3, .pointer (some ⟨bs0, 0, none⟩)), (2, .pointer (some ⟨br, 0, none⟩))])
    (fun i => [(bd, ((digP S).take i).map v8 ++ List.replicate (32 - i) (v8 0), 53), (bs0, S.v, 111), (br, List.replicate 32 (v8 0), 53)]) (fun i => i ≤ 32) (fun i => 32 - i) 0 (Nat.zero_le _) ⟨rfl, rfl, rfl, rfl, trivial⟩ (List.Sublist.cons_cons _ (List.Sublist.cons _ (List.Sublist.refl _))) ?_
  intro i hi
  by_cases hlt : i < 32
  · have htk := dig_take S i hlt
    have hvg := v_get S (i / 4) (by omega)
    have hq1 : IntKind.i64.wrap ((i : Int).tdiv 4) = ((i / 4 : Nat) : Int) := by
      rw [Int.tdiv_eq_ediv_of_nonneg (by omega), wrap_i64 (by omega) (by omega)]
      rfl
    have hr1 : (i : Int).tmod 4 = ((i % 4 : Nat) : Int) := by rw [Int.tmod_eq_emod_of_nonneg (by omega)]; rfl
    have hsub : (24 : Int) - 8 * ((i % 4 : Nat) : Int) = ((8 * (4 - 1 - i % 4) : Nat) : Int) := by omega
    have hsh : (wd S.l (i / 4) >>> (8 * (4 - 1 - i % 4))).toNat = (wd S.l (i / 4)).toNat / 2 ^ (8 * (4 - 1 - i % 4)) := by rw [BitVec.toNat_ushiftRight, Nat.shiftRight_eq_div_pow]
    have hd8 : 8 * (4 - 1 - i % 4) ≤ 32 := by omega
    have hle : 8 * (4 - 1 - i % 4) ≤ 24 := by omega
    repeat (first
      | (apply ws; exact rfl; exact rfl; exact rfl)
      | refine wl_still rfl rfl rfl (od_quo rfl rfl (by decide) hq1) ?_
      | refine wl_still rfl rfl rfl (od_rem rfl rfl (by decide) hr1) ?_
      | refine wl_still rfl rfl rfl (od_indexAddrA1 (i / 4) rfl rfl rfl rfl rfl (by omega)) ?_
      | (apply wlb (j := 1); exact rfl; exact rfl; exact rfl; exact hvg; exact rfl; exact rfl)
      | refine wc_seq ?_
      | refine wc_region ?_
      | refine wl_nil ?_
      | refine we_round ?_
      | refine we_then_wc ?_
      | (apply wi64; exact rfl; omega; omega; exact rfl; exact rfl)
      | (apply wfa; exact rfl; exact rfl; exact rfl; exact rfl)
      | (apply wct; exact rfl; omega; exact rfl; exact rfl)
      | (apply wcf; exact rfl; omega; exact rfl; exact rfl)
      | (apply wn; exact rfl; exact rfl)
      | (apply wlb (j := 0); exact rfl; exact rfl; exact rfl; exact rfl; exact rfl; exact rfl)
      | (apply wlb (j := 1); exact rfl; exact rfl; exact rfl; exact rfl; exact rfl; exact rfl)
      | (apply wlb (j := 2); exact rfl; exact rfl; exact rfl; exact rfl; exact rfl; exact rfl)
      | (apply wlb (j := 3); exact rfl; exact rfl; exact rfl; exact rfl; exact rfl; exact rfl)
      | (apply wln; exact rfl; exact rfl; exact rfl; exact rfl)
      | (apply wpu; exact rfl; exact rfl; exact rfl)
      | (apply wbx; exact rfl; exact rfl; exact rfl; intro _)
      | refine wc_block ?_
      | (apply wc_true; exact rfl)
      | (apply wc_false; exact rfl)
      | refine wc_skip ?_
      | refine wc_exit ?_
      | refine wc_ret ?_
      | refine we_then_exit ?_
      | refine we_then_ret ?_
      | refine we_in_normal ?_
      | refine we_in_ret ?_
      | refine we_in_here ?_
      | (apply we_in_there; exact rfl))
    rw [hsub]
    refine wl_still rfl rfl rfl (od_shr32 (8 * (4 - 1 - i % 4)) rfl rfl hd8) ?_
    refine wl_still rfl rfl rfl (od_conv328 rfl) ?_
    rw [hsh]
    refine wl_still rfl rfl rfl (od_indexAddrA1 i rfl rfl rfl rfl rfl (by omega)) ?_
    refine wst 0 rfl rfl rfl rfl rfl (by simp [hdl]; omega) rfl ?_
    have hset := set_next8 (l := (digP S).take i) (m := 32 - i) (UInt8.ofNat ((wd S.l (i / 4)).toNat / 2 ^ (8 * (4 - 1 - i % 4)))) (by omega) (0 + i) (by simp [hdl]; omega)
    rw [← htk, show 32 - i - 1 = 32 - (i + 1) by omega] at hset
    rw [hset]
    repeat (first
      | (apply ws; exact rfl; exact rfl; exact rfl)
      | refine wc_seq ?_
      | refine wc_region ?_
      | refine wl_nil ?_
      | refine we_round ?_
      | refine we_then_wc ?_
      | (apply wi64; exact rfl; omega; omega; exact rfl; exact rfl)
      | (apply wfa; exact rfl; exact rfl; exact rfl; exact rfl)
      | (apply wct; exact rfl; omega; exact rfl; exact rfl)
      | (apply wcf; exact rfl; omega; exact rfl; exact rfl)
      | (apply wn; exact rfl; exact rfl)
      | (apply wlb (j := 0); exact rfl; exact rfl; exact rfl; exact rfl; exact rfl; exact rfl)
      | (apply wlb (j := 1); exact rfl; exact rfl; exact rfl; exact rfl; exact rfl; exact rfl)
      | (apply wlb (j := 2); exact rfl; exact rfl; exact rfl; exact rfl; exact rfl; exact rfl)
      | (apply wlb (j := 3); exact rfl; exact rfl; exact rfl; exact rfl; exact rfl; exact rfl)
      | (apply wln; exact rfl; exact rfl; exact rfl; exact rfl)
      | (apply wpu; exact rfl; exact rfl; exact rfl)
      | (apply wbx; exact rfl; exact rfl; exact rfl; intro _)
      | refine wc_block ?_
      | (apply wc_true; exact rfl)
      | (apply wc_false; exact rfl)
      | refine wc_skip ?_
      | refine wc_exit ?_
      | refine wc_ret ?_
      | refine we_then_exit ?_
      | refine we_then_ret ?_
      | refine we_in_normal ?_
      | refine we_in_ret ?_
      | refine we_in_here ?_
      | (apply we_in_there; exact rfl))
    exact we_again (i + 1) (by omega) (by omega) ⟨rfl, rfl, rfl, rfl, trivial⟩ (List.Sublist.refl _)
  have hi32 : i = 32 := by omega
  subst hi32
  have hall : (digP S).take 32 = digP S := List.take_of_length_le (by omega)
  have h32 : ((digP S).map v8).length = 32 := by simp [hdl]
  rw [hall]
  refine wc_weaken (env' := [(7, .int .i64 ((32 : Nat) : Int)), (6, .pointer (some ⟨bd, 0, none⟩)), (3, .pointer (some ⟨bs0, 0, none⟩)), (2, .pointer (some ⟨br, 0, none⟩))]) (bs' := [(bd, (digP S).map v8, 53), (bs0, S.v, 111), (br, List.replicate 32 (v8 0), 53)]) ?_ ⟨rfl, rfl, rfl, rfl, trivial⟩ (by simp)
  repeat (first
    | (apply ws; exact rfl; exact rfl; exact rfl)
    | (apply wlab (j := 0); exact rfl; exact rfl; exact rfl; exact rfl; exact h32; exact rfl; exact rfl)
    | (apply wsw (j := 2); exact rfl; exact rfl; exact rfl; exact rfl; exact h32; exact plain8 _; exact rfl; exact rfl)
    | refine wc_seq ?_
    | refine wc_region ?_
    | refine wl_nil ?_
    | refine we_round ?_
    | refine we_then_wc ?_
    | (apply wi64; exact rfl; omega; omega; exact rfl; exact rfl)
    | (apply wfa; exact rfl; exact rfl; exact rfl; exact rfl)
    | (apply wct; exact rfl; omega; exact rfl; exact rfl)
    | (apply wcf; exact rfl; omega; exact rfl; exact rfl)
    | (apply wn; exact rfl; exact rfl)
    | (apply wlb (j := 0); exact rfl; exact rfl; exact rfl; exact rfl; exact rfl; exact rfl)
    | (apply wlb (j := 1); exact rfl; exact rfl; exact rfl; exact rfl; exact rfl; exact rfl)
    | (apply wlb (j := 2); exact rfl; exact rfl; exact rfl; exact rfl; exact rfl; exact rfl)
    | (apply wlb (j := 3); exact rfl; exact rfl; exact rfl; exact rfl; exact rfl; exact rfl)
    | (apply wln; exact rfl; exact rfl; exact rfl; exact rfl)
    | (apply wpu; exact rfl; exact rfl; exact rfl)
    | (apply wbx; exact rfl; exact rfl; exact rfl; intro _)
    | refine wc_block ?_
    | (apply wc_true; exact rfl)
    | (apply wc_false; exact rfl)
    | refine wc_skip ?_
    | refine wc_exit ?_
    | refine wc_ret ?_
    | refine we_then_exit ?_
    | refine we_then_ret ?_
    | refine we_in_normal ?_
    | refine we_in_ret ?_
    | refine we_in_here ?_
    | (apply we_in_there; exact rfl))
  exact we_retCA 2 (Or.inl rfl) rfl rfl rfl rfl rfl h32 fun w' h => ⟨rfl, h.ext_all⟩

theorem src_arr {w : World} {b : Nat} {T : List UInt8} (hT : T.length = 32) (h : ∀ i x, T[i]? = some x → w.cell? ⟨b, 0 + i, none⟩ = some (v8 x)) : Src w (.slice (some ⟨b, 0, none⟩) 32 32) 1 T.length (T.map v8) := by
  have := Src.rd (f := v8) (w := w) (l := T) ⟨b, 0, 32, rfl, by omega, h⟩
  rw [hT] at this ⊢
  exact this

theorem ref_Tagged (tag : List UInt8) (v : Value) (l : List UInt8) (ht : tag.length ≤ 2 ^ 40) (hlen : l.length ≤ 2 ^ 40) (w : World) (hv : ∀ w', Ext w w' → Src w' v 1 l.length (l.map v8)) : Fn 66 [strV tag, v] w (Quiet (digV (tagP tag l)) w) := by
  refine fn_of (args := [strV tag, v]) Tryd.func66 rfl Tryd.ntmps66 rfl (Hp.start w) ?_
  have h32 : ((sumP tag).map v8).length = 32 := by simp [sumP_length]
  have h32' : ((tagP tag l).map v8).length = 32 := by simp [tagP, sumP_length]
  have hl32 : (sumP tag).length = 32 := sumP_length _
  repeat (first
    | (apply ws; exact rfl; exact rfl; exact rfl)
    | (apply wal zero53 rfl; exact rfl; exact rfl; intro bd)
    | refine wc_seq ?_
    | refine wc_region ?_
    | refine wl_nil ?_
    | refine we_round ?_
    | refine we_then_wc ?_
    | (apply wi64; exact rfl; omega; omega; exact rfl; exact rfl)
    | (apply wfa; exact rfl; exact rfl; exact rfl; exact rfl)
    | (apply wct; exact rfl; omega; exact rfl; exact rfl)
    | (apply wcf; exact rfl; omega; exact rfl; exact rfl)
    | (apply wn; exact rfl; exact rfl)
    | (apply wlb (j := 0); exact rfl; exact rfl; exact rfl; exact rfl; exact rfl; exact rfl)
    | (apply wlb (j := 1); exact rfl; exact rfl; exact rfl; exact rfl; exact rfl; exact rfl)
    | (apply wlb (j := 2); exact rfl; exact rfl; exact rfl; exact rfl; exact rfl; exact rfl)
    | (apply wlb (j := 3); exact rfl; exact rfl; exact rfl; exact rfl; exact rfl; exact rfl)
    | (apply wln; exact rfl; exact rfl; exact rfl; exact rfl)
    | (apply wpu; exact rfl; exact rfl; exact rfl)
    | (apply wbx; exact rfl; exact rfl; exact rfl; intro _)
    | refine wc_block ?_
    | (apply wc_true; exact rfl)
    | (apply wc_false; exact rfl)
    | refine wc_skip ?_
    | refine wc_exit ?_
    | refine wc_ret ?_
    | refine we_then_exit ?_
    | refine we_then_ret ?_
    | refine we_in_normal ?_
    | refine we_in_ret ?_
    | refine we_in_here ?_
    | (apply we_in_there; exact rfl))
  refine wl_makes rfl rfl rfl (od_strBytes rfl rfl rfl) ?_
  rintro ⟨c, sp⟩ b ⟨h1, h2⟩
  simp only at h1 h2
  dsimp only
  refine wl_quiet rfl rfl rfl (od_call Tryd.call84 rfl (fun w' h => ref_Sum _ tag (by omega) w' (h.rd (j := 0) (o := 0) rfl h1 (cells_map 0 rfl)))) ?_
  unfold tagP
  generalize hT : sumP tag = T at *
  repeat (first
    | (apply ws; exact rfl; exact rfl; exact rfl)
    | (apply wal zero53 rfl; exact rfl; exact rfl; intro bt)
    | (apply wsw (j := 0); exact rfl; exact rfl; exact rfl; exact rfl; exact h32; exact plain8 _; exact rfl; exact rfl)
    | refine wc_seq ?_
    | refine wc_region ?_
    | refine wl_nil ?_
    | refine we_round ?_
    | refine we_then_wc ?_
    | (apply wi64; exact rfl; omega; omega; exact rfl; exact rfl)
    | (apply wfa; exact rfl; exact rfl; exact rfl; exact rfl)
    | (apply wct; exact rfl; omega; exact rfl; exact rfl)
    | (apply wcf; exact rfl; omega; exact rfl; exact rfl)
    | (apply wn; exact rfl; exact rfl)
    | (apply wlb (j := 0); exact rfl; exact rfl; exact rfl; exact rfl; exact rfl; exact rfl)
    | (apply wlb (j := 1); exact rfl; exact rfl; exact rfl; exact rfl; exact rfl; exact rfl)
    | (apply wlb (j := 2); exact rfl; exact rfl; exact rfl; exact rfl; exact rfl; exact rfl)
    | (apply wlb (j := 3); exact rfl; exact rfl; exact rfl; exact rfl; exact rfl; exact rfl)
    | (apply wln; exact rfl; exact rfl; exact rfl; exact rfl)
    | (apply wpu; exact rfl; exact rfl; exact rfl)
    | (apply wbx; exact rfl; exact rfl; exact rfl; intro _)
    | refine wc_block ?_
    | (apply wc_true; exact rfl)
    | (apply wc_false; exact rfl)
    | refine wc_skip ?_
    | refine wc_exit ?_
    | refine wc_ret ?_
    | refine we_then_exit ?_
    | refine we_then_ret ?_
    | refine we_in_normal ?_
    | refine we_in_ret ?_
    | refine we_in_here ?_
    | (apply we_in_there; exact rfl))
  refine wl_makes rfl rfl rfl (od_buildSlice (cs := []) rfl rfl ⟨_, Tryd.zeroValue5⟩ rfl rfl rfl (by simp) (by omega) rfl) ?_
  rintro _ b0 -
  refine wl_still rfl rfl rfl (od_sliceA 0 32 32 rfl rfl rfl rfl rfl rfl (by omega) (by omega) (by omega) (by simp)) ?_
  refine wl_moves 0 rfl rfl rfl rfl (od_grow (xs := []) (ys := T) (sp := []) 0 rfl rfl rfl rfl (by simp) rfl (fun w' h => src_arr hl32 (fun i x hx => h.cell_blk (j := 1) rfl (by rw [Nat.zero_add]; simp [hx]))) (by simp; omega)) ?_
  rintro ⟨c2, sp2⟩ b2 ⟨e1, e2⟩
  simp only [List.nil_append] at e1 e2
  dsimp only
  rw [List.nil_append]
  repeat (first
    | (apply ws; exact rfl; exact rfl; exact rfl)
    | refine wc_seq ?_
    | refine wc_region ?_
    | refine wl_nil ?_
    | refine we_round ?_
    | refine we_then_wc ?_
    | (apply wi64; exact rfl; omega; omega; exact rfl; exact rfl)
    | (apply wfa; exact rfl; exact rfl; exact rfl; exact rfl)
    | (apply wct; exact rfl; omega; exact rfl; exact rfl)
    | (apply wcf; exact rfl; omega; exact rfl; exact rfl)
    | (apply wn; exact rfl; exact rfl)
    | (apply wlb (j := 0); exact rfl; exact rfl; exact rfl; exact rfl; exact rfl; exact rfl)
    | (apply wlb (j := 1); exact rfl; exact rfl; exact rfl; exact rfl; exact rfl; exact rfl)
    | (apply wlb (j := 2); exact rfl; exact rfl; exact rfl; exact rfl; exact rfl; exact rfl)
    | (apply wlb (j := 3); exact rfl; exact rfl; exact rfl; exact rfl; exact rfl; exact rfl)
    | (apply wln; exact rfl; exact rfl; exact rfl; exact rfl)
    | (apply wpu; exact rfl; exact rfl; exact rfl)
    | (apply wbx; exact rfl; exact rfl; exact rfl; intro _)
    | refine wc_block ?_
    | (apply wc_true; exact rfl)
    | (apply wc_false; exact rfl)
    | refine wc_skip ?_
    | refine wc_exit ?_
    | refine wc_ret ?_
    | refine we_then_exit ?_
    | refine we_then_ret ?_
    | refine we_in_normal ?_
    | refine we_in_ret ?_
    | refine we_in_here ?_
    | (apply we_in_there; exact rfl))
  refine wl_moves 0 rfl rfl rfl rfl (od_grow (xs := T) (ys := l) (sp := sp2) 0 rfl rfl rfl rfl (by simp) e2 (fun w' h => hv w' h.ext_all) (by omega)) ?_
  rintro ⟨c3, sp3⟩ b3 ⟨e3, e4⟩
  simp only at e3 e4
  dsimp only
  refine wl_quiet rfl rfl rfl (od_call Tryd.call84 rfl (fun w' h => ref_Sum _ (T ++ l) (by simp; omega) w' (h.rd (j := 0) (o := 0) rfl e3 (cells_map 0 rfl)))) ?_
  have h33 : ((sumP (T ++ l)).map v8).length = 32 := by simp [sumP_length]
  generalize sumP (T ++ l) = D at *
  repeat (first
    | (apply ws; exact rfl; exact rfl; exact rfl)
    | (apply wsw (j := 3); exact rfl; exact rfl; exact rfl; exact rfl; exact h33; exact plain8 _; exact rfl; exact rfl)
    | refine wc_seq ?_
    | refine wc_region ?_
    | refine wl_nil ?_
    | refine we_round ?_
    | refine we_then_wc ?_
    | (apply wi64; exact rfl; omega; omega; exact rfl; exact rfl)
    | (apply wfa; exact rfl; exact rfl; exact rfl; exact rfl)
    | (apply wct; exact rfl; omega; exact rfl; exact rfl)
    | (apply wcf; exact rfl; omega; exact rfl; exact rfl)
    | (apply wn; exact rfl; exact rfl)
    | (apply wlb (j := 0); exact rfl; exact rfl; exact rfl; exact rfl; exact rfl; exact rfl)
    | (apply wlb (j := 1); exact rfl; exact rfl; exact rfl; exact rfl; exact rfl; exact rfl)
    | (apply wlb (j := 2); exact rfl; exact rfl; exact rfl; exact rfl; exact rfl; exact rfl)
    | (apply wlb (j := 3); exact rfl; exact rfl; exact rfl; exact rfl; exact rfl; exact rfl)
    | (apply wln; exact rfl; exact rfl; exact rfl; exact rfl)
    | (apply wpu; exact rfl; exact rfl; exact rfl)
    | (apply wbx; exact rfl; exact rfl; exact rfl; intro _)
    | refine wc_block ?_
    | (apply wc_true; exact rfl)
    | (apply wc_false; exact rfl)
    | refine wc_skip ?_
    | refine wc_exit ?_
    | refine wc_ret ?_
    | refine we_then_exit ?_
    | refine we_then_ret ?_
    | refine we_in_normal ?_
    | refine we_in_ret ?_
    | refine we_in_here ?_
    | (apply we_in_there; exact rfl))
  exact we_retCA 3 (Or.inl rfl) rfl rfl rfl rfl rfl h33 fun w' h => ⟨rfl, h.ext_all⟩
end Go.Proofs.YtielloijdkoeiaaDoor
