/- Layer 8: chain.Check. -/
import Derived.Test.YtielloijdkoeiaaDoorLd
namespace Go.Proofs.YtielloijdkoeiaaDoor
open Go Go.RowKit Go.Lib
set_option maxRecDepth 100000

/-- What lies where the loop of Check begins: the list's variable and the iterator's copy of it, the result, the count; the link's cells lie ahead of the call. -/
structure CkAt (w0 W : World) (bl bl2 bi be : Nat) (a : Option Addr) (c : Nat) (xs : List Lnk) : Prop where
  ext : Ext w0 W
  links : LkA w0 a c xs
  laid : Laid w0
  cl : W.cell? ⟨bl, 0, none⟩ = some (.slice a xs.length c)
  cl2 : W.cell? ⟨bl2, 0, none⟩ = some (.slice a xs.length c)
  ll : w0.heap.size ≤ bl
  ll2 : w0.heap.size ≤ bl2
  li : w0.heap.size ≤ bi
  le : w0.heap.size ≤ be
  lti : bi < W.heap.size
  lte : be < W.heap.size
  nli : bl ≠ bi
  nle : bl ≠ be
  nli2 : bl2 ≠ bi
  nle2 : bl2 ≠ be
  nie : bi ≠ be

/-- The worlds between two rounds. -/
theorem CkAt.ext2 {w0 W A : World} {bl bl2 bi be : Nat} {a : Option Addr} {c : Nat} {xs : List Lnk} {bs : Blks} (h : CkAt w0 W bl bl2 bi be a c xs) (k : Hp W [bi, be] A bs) : Ext w0 A := by
  have h0 : Hp w0 [] W [] := (Hp.start w0).ext h.ext
  exact h0.to_ext k (fun b hb => by simp only [List.mem_cons, List.not_mem_nil, or_false] at hb; rcases hb with rfl | rfl; exact h.li; exact h.le)

theorem CkAt.cellL {w0 W A : World} {bl bl2 bi be : Nat} {a : Option Addr} {c : Nat} {xs : List Lnk} {bs : Blks} (h : CkAt w0 W bl bl2 bi be a c xs) (k : Hp W [bi, be] A bs) : A.cell? ⟨bl, 0, none⟩ = some (.slice a xs.length c) :=
  k.cell_old h.cl (by simp [h.nli, h.nle])
theorem CkAt.cellL2 {w0 W A : World} {bl bl2 bi be : Nat} {a : Option Addr} {c : Nat} {xs : List Lnk} {bs : Blks} (h : CkAt w0 W bl bl2 bi be a c xs) (k : Hp W [bi, be] A bs) : A.cell? ⟨bl2, 0, none⟩ = some (.slice a xs.length c) :=
  k.cell_old h.cl2 (by simp [h.nli2, h.nle2])

theorem LkA.prevs {w : World} {a : Option Addr} {c : Nat} {xs : List Lnk} (h : LkA w a c xs) : ∀ x ∈ xs, x.prev.length = 32 := fun _ hx => (h.ok hx).prev

/-- The iterator's contract in the law's own form. -/
theorem ck_seq {w0 W : World} {bl bl2 bi be : Nat} {a : Option Addr} {c : Nat} {xs : List Lnk} (h : CkAt w0 W bl bl2 bi be a c xs) (hl : xs.length ≤ 2 ^ 20) (hd : ∀ x ∈ xs, x.data.length ≤ 2 ^ 20) :
    SeqStopsK (α := LH) Fence.wide 1 Tryd.prog 67 #[.pointer (some ⟨bl2, 0, none⟩)] (fun p => #[p.1.1.v, digV p.1.2]) (fun A B => Hp W [bi, be] A [] → Hp W [bi, be] B []) (fun ys => ys = begR xs 0 xs h.links.prevs) (fun pre => ∃ m, pre = (begR xs 0 xs h.links.prevs).take m) xs.length W := by
  intro l J Jx W1 hb hJ hJx hY h0
  generalize hB : begR xs 0 xs h.links.prevs = B at *
  have hBl : B.length = xs.length := by rw [← hB]; exact begR_length ..
  have hW1 : Hp W [bi, be] W1 [] := ⟨hb.os, hb.tape, hb.output, hb.size, fun k hk _ => hb.block k hk, fun _ hx => (by cases hx), List.nodup_nil⟩
  refine callsIn_wide.2 ?_
  have key := beg_calls l bl2 a c xs hl hd (fun k A => k ≤ xs.length ∧ J (B.take k) A ∧ Hp W [bi, be] A []) (fun A => ∃ m, Jx (B.take m) A) W1
    (fun k A B hA e => ⟨hA.1, hJ _ A B none hA.2.1 e.grown (fun r er => by cases er), hA.2.2.ext e⟩)
    (fun A B hA e => by obtain ⟨m, hp⟩ := hA; exact ⟨m, hJx _ A B none hp e.grown (fun r er => by cases er)⟩)
    (fun k A hA => ⟨h.cellL2 hA.2.2, h.links.ext (h.ext2 hA.2.2), h.laid.ext (h.ext2 hA.2.2)⟩)
    (fun k x A hx hA => by
      have hk : k < xs.length := (List.getElem?_eq_some_iff.1 hx).1
      have hlen : (B.take k).length = k := by simp [hBl]; omega
      obtain ⟨p, hg, hp⟩ := begR_get xs xs 0 h.links.prevs k x hx
      rw [hB] at hg
      rw [Nat.zero_add] at hp
      obtain ⟨fn, tmps, asg, bd, h1, h2⟩ := hY (B.take k) p A hA.2.1 (by rw [hlen]; exact hk)
      · dsimp only at h1
        rw [hp] at h1
        refine ⟨fn, tmps, asg, bd, h1, h2.mono fun e B' he => ?_⟩
        have htk : B.take k ++ [p] = B.take (k + 1) := by
          rw [List.take_add_one, hg]; rfl
        rcases he with ⟨rfl, hj, hk2⟩ | ⟨rfl, hj⟩
        · exact ⟨_, rfl, Or.inl ⟨rfl, by omega, htk ▸ hj, hk2 hA.2.2⟩⟩
        · exact ⟨_, rfl, Or.inr ⟨rfl, k + 1, htk ▸ hj⟩⟩)
    ⟨Nat.zero_le _, by simpa using h0, hW1⟩
  refine key.run.mono fun e A he => ?_
  obtain ⟨v, rfl, hv⟩ := he
  refine ⟨⟨v, rfl⟩, ?_⟩
  rcases hv with ⟨-, hj, -⟩ | ⟨m, hp⟩
  · left
    refine ⟨B, rfl, ?_⟩
    rw [List.take_of_length_le (by rw [hBl]; exact Nat.le_refl _)] at hj
    exact hj
  · exact Or.inr ⟨_, ⟨m, rfl⟩, hp⟩

/-- Between two rounds: the count, no finding yet, all links so far as a chain wants them. -/
def CkI (W : World) (bi be : Nat) (nd : Int) (pre : List LH) (A : World) : Prop :=
  Hp W [bi, be] A [(bi, [.int .i64 (pre.length : Int)], 3), (be, [.int .i64 0], 28)] ∧ ∀ k p, pre[k]? = some p → okP nd p.1 k
/-- A round has left. -/
def CkX (W : World) (bi be : Nat) (nd : Int) (c : Code) (pre : List LH) (A : World) : Prop :=
  c = .ret ∧ Hp W [bi, be] A [(be, [.int .i64 80], 28)] ∧ ∃ k p, pre[k]? = some p ∧ ¬ okP nd p.1 k
/-- The loop's variables, boxed. -/
def CkA (W : World) (bl bi be : Nat) (p : LH) (a' : Act) (A : World) : Prop :=
  ∃ bx bh, Sat a' 50 [] [(4, .pointer (some ⟨bx, 0, none⟩)), (5, .pointer (some ⟨bh, 0, none⟩)), (1, .pointer (some ⟨bl, 0, none⟩)), (2, .pointer (some ⟨be, 0, none⟩)), (3, .pointer (some ⟨bi, 0, none⟩))] ∧
    Blk A bx p.1.1.cells 55 ∧ Blk A bh (p.1.2.map v8) 53 ∧ W.heap.size ≤ bx ∧ W.heap.size ≤ bh ∧ bx ≠ bh

theorem ownFrom_I (W : World) (bi be : Nat) (nd : Int) : OwnFrom W.heap.size (CkI W bi be nd) := fun _ _ _ _ hs hg hr => ⟨hs.1.grown hg hr, hs.2⟩
theorem ownFrom_X (W : World) (bi be : Nat) (nd : Int) (c : Code) : OwnFrom W.heap.size (CkX W bi be nd c) := fun _ _ _ _ hs hg hr => ⟨hs.1, hs.2.1.grown hg hr, hs.2.2⟩
theorem ownFrom_A (W : World) (bl bi be : Nat) (p : LH) (a' : Act) : OwnFrom W.heap.size (fun (_ : Unit) A => CkA W bl bi be p a' A) := fun _ _ _ _ hs hg hr => by
  obtain ⟨bx, bh, h1, h2, h3, h4⟩ := hs
  exact ⟨bx, bh, h1, h2.grown hg (fun r e => (hr r e).2), h3.grown hg (fun r e => (hr r e).2), h4⟩

theorem chain_Check (a : Option Addr) (c : Nat) (xs : List Lnk) (hl : xs.length ≤ 2 ^ 20) (hd : ∀ x ∈ xs, x.data.length ≤ 2 ^ 20) (w : World) (hL : Laid w) (h : LkA w a c xs) : Fn 31 [.slice a xs.length c] w (Quiet (.int .i64 (chkP xs)) w) := by
  refine fn_of_marks (args := [.slice a xs.length c]) Tryd.func31 rfl Tryd.ntmps31 rfl (Hp.start w) ?_
  by_cases h1024 : 1024 < xs.length
  · have hc : chkP xs = 2 := by unfold chkP; rw [if_pos h1024]
    rw [hc]
    generalize hm : xs.length = m at *
    repeat (first
      | (apply ws; exact rfl; exact rfl; exact rfl)
      | (apply wal Tryd.zeroValue28 rfl; exact rfl; exact rfl; intro be)
      | (apply wst 0; exact rfl; exact rfl; exact rfl; exact rfl; exact rfl; exact (show (0 : Nat) < 1 from by decide); exact rfl)
      | refine wc_seq ?_
      | refine wc_region ?_
      | refine wl_nil ?_
      | refine we_round ?_
      | refine we_then_wc ?_
      | (apply wi64; exact rfl; omega; omega; exact rfl; exact rfl)
      | (apply wfa; exact rfl; exact rfl; exact rfl; exact rfl)
      | (apply wct; exact rfl; omega; exact rfl; exact rfl)
      | (apply wcf; exact rfl; omega; exact rfl; exact rfl)
      | (apply wn; exact rfl; exact rfl)
      | (apply wlb (j := 0); exact rfl; exact rfl; exact rfl; exact rfl; exact rfl; exact rfl)
      | (apply wlb (j := 1); exact rfl; exact rfl; exact rfl; exact rfl; exact rfl; exact rfl)
      | (apply wlb (j := 2); exact rfl; exact rfl; exact rfl; exact rfl; exact rfl; exact rfl)
      | (apply wlb (j := 3); exact rfl; exact rfl; exact rfl; exact rfl; exact rfl; exact rfl)
      | (apply wln; exact rfl; exact rfl; exact rfl; exact rfl)
      | (apply wpu; exact rfl; exact rfl; exact rfl)
      | (apply wbx; exact rfl; exact rfl; exact rfl; intro _)
      | refine wc_block ?_
      | (apply wc_true; exact rfl)
      | (apply wc_false; exact rfl)
      | refine wc_skip ?_
      | refine wc_exit ?_
      | refine wc_ret ?_
      | refine we_then_exit ?_
      | refine we_then_ret ?_
      | refine we_in_normal ?_
      | refine we_in_ret ?_
      | refine we_in_here ?_
      | (apply we_in_there; exact rfl))
    exact we_retM0 0 rfl rfl rfl rfl rfl fun w' h' => ⟨rfl, h'.ext_all⟩
  · have hxs : xs.length ≤ 1024 := by omega
    repeat (first
      | (apply ws; exact rfl; exact rfl; exact rfl)
      | (apply wal Tryd.zeroValue28 rfl; exact rfl; exact rfl; intro be)
      | (apply wal Tryd.zeroValue3 rfl; exact rfl; exact rfl; intro bi)
      | (apply wst 0; exact rfl; exact rfl; exact rfl; exact rfl; exact rfl; exact (show (0 : Nat) < 1 from by decide); exact rfl)
      | (apply wmk Tryd.call56; exact rfl; exact rfl; exact rfl; exact (fun w' _ => chain_beginnings a xs.length c w'); intro _ b2 _)
      | refine wc_seq ?_
      | refine wc_region ?_
      | refine wl_nil ?_
      | refine we_round ?_
      | refine we_then_wc ?_
      | (apply wi64; exact rfl; omega; omega; exact rfl; exact rfl)
      | (apply wfa; exact rfl; exact rfl; exact rfl; exact rfl)
      | (apply wct; exact rfl; omega; exact rfl; exact rfl)
      | (apply wcf; exact rfl; omega; exact rfl; exact rfl)
      | (apply wn; exact rfl; exact rfl)
      | (apply wlb (j := 0); exact rfl; exact rfl; exact rfl; exact rfl; exact rfl; exact rfl)
      | (apply wlb (j := 1); exact rfl; exact rfl; exact rfl; exact rfl; exact rfl; exact rfl)
      | (apply wlb (j := 2); exact rfl; exact rfl; exact rfl; exact rfl; exact rfl; exact rfl)
      | (apply wlb (j := 3); exact rfl; exact rfl; exact rfl; exact rfl; exact rfl; exact rfl)
      | (apply wln; exact rfl; exact rfl; exact rfl; exact rfl)
      | (apply wpu; exact rfl; exact rfl; exact rfl)
      | (apply wbx; exact rfl; exact rfl; exact rfl; intro _)
      | refine wc_block ?_
      | (apply wc_true; exact rfl)
      | (apply wc_false; exact rfl)
      | refine wc_skip ?_
      | refine wc_exit ?_
      | refine wc_ret ?_
      | refine we_then_exit ?_
      | refine we_then_ret ?_
      | refine we_in_normal ?_
      | refine we_in_ret ?_
      | refine we_in_here ?_
      | (apply we_in_there; exact rfl))
    rename_i bl _ _
    obtain ⟨nd, hnd⟩ : ∃ nd, ∀ y, xs[0]? = some y → y.node = nd := by
      cases hy : xs[0]? with
      | none => exact ⟨0, fun y e => by cases e⟩
      | some y => exact ⟨y.node, fun z e => by cases e; rfl⟩
    refine ⟨fun A W hs hh => ?_⟩
    have hb2 := hh.at (j := 0) rfl
    have hbi := hh.at (j := 1) rfl
    have hbe := hh.at (j := 2) rfl
    have hbl := hh.at (j := 3) rfl
    have nie : bi ≠ be := hh.ne (i := 1) (j := 2) rfl rfl rfl
    have hck : CkAt w W bl b2 bi be a c xs := { ext := hh.ext_all, links := h, laid := hL, cl := hh.cell_blk (j := 3) rfl rfl, cl2 := hh.cell_blk (j := 0) rfl rfl, ll := hbl.1.resolve_right (by simp), ll2 := hb2.1.resolve_right (by simp), li := hbi.1.resolve_right (by simp), le := hbe.1.resolve_right (by simp), lti := hbi.2.lt, lte := hbe.2.lt, nli := hh.ne (i := 3) (j := 1) rfl rfl rfl, nle := hh.ne (i := 3) (j := 2) rfl rfl rfl, nli2 := hh.ne (i := 0) (j := 1) rfl rfl rfl, nle2 := hh.ne (i := 0) (j := 2) rfl rfl rfl, nie := nie }
    have hW0 : Hp W [bi, be] W [(bi, [.int .i64 0], 3), (be, [.int .i64 0], 28)] := ⟨rfl, rfl, rfl, Nat.le_refl _, fun _ _ _ => rfl, fun x hx => (by
      simp only [List.mem_cons, List.not_mem_nil, or_false] at hx
      rcases hx with rfl | rfl
      · exact ⟨Or.inr (by simp), hbi.2⟩
      · exact ⟨Or.inr (by simp), hbe.2⟩), by simp [nie]⟩
    have hW00 : Hp w [] W [] := hh.sub (List.nil_sublist _)
    have hA : Sat A 50 [] [(1, .pointer (some ⟨bl, 0, none⟩)), (2, .pointer (some ⟨be, 0, none⟩)), (3, .pointer (some ⟨bi, 0, none⟩)), (10, .func (.func 67) #[] #[.pointer (some ⟨b2, 0, none⟩)])] := hs.weaken ⟨rfl, rfl, rfl, rfl, trivial⟩
    have lli := hck.lti
    have lle := hck.lte
    have llw := hh.size
    clear hs hh hb2 hbi hbe hbl
    refine (wpIn_wide (n := 0)).2 ((wpIn_wide (n := 2)).1 ?_)
    refine wpIn_rangeFunc_ownH (n := 2) rfl (by omega) (gf := 67) (lb := #[.pointer (some ⟨b2, 0, none⟩)]) (hA.agree _ _ rfl) trivial (fun args w => Tryd.call67 args w) (ck_seq hck hl hd) (fun hab hbc ha => hbc (hab ha)) (fun B l o o' hl' hB hc1 hc2 hB0 => hB0.putObj o' hl' hB hc1) (Below.refl _ _) (fun _ => rfl)
      (CkI W bi be nd) (CkX W bi be nd) (ownFrom_I W bi be nd) (fun c => ownFrom_X W bi be nd c) ⟨hW0, by simp⟩ (CkA W bl bi be) (fun x a' => ownFrom_A W bl bi be x a') ?assign ?body ?done ?stop
    case assign =>
      intro l pre x B K hi hK
      have hxsz : x.1.1.cells.toArray.size = 35 := by simp [Lnk.cells, x.2.1]
      have hhsz : (x.1.2.map v8).toArray.size = 32 := by simp [x.2.2]
      refine WC.go (r := some l) (n := 50) (ds := []) (env := [(12, digV x.1.2), (11, x.1.1.v), (1, .pointer (some ⟨bl, 0, none⟩)), (2, .pointer (some ⟨be, 0, none⟩)), (3, .pointer (some ⟨bi, 0, none⟩))]) (w0 := B) (ex := []) (bs := []) ?_ _ B ?_ (Hp.start B)
      · repeat (first
          | (apply ws; exact rfl; exact rfl; exact rfl)
          | (apply wal Tryd.zeroValue55 rfl; exact rfl; exact rfl; intro bx)
          | (apply wal zero53 rfl; exact rfl; exact rfl; intro bh)
          | (apply wsw (j := 0); exact rfl; exact rfl; exact rfl; exact rfl; exact hxsz; exact plainLnkA _; exact rfl; exact rfl)
          | (apply wsw (j := 0); exact rfl; exact rfl; exact rfl; exact rfl; exact hhsz; exact plain8 _; exact rfl; exact rfl)
          | refine wc_seq ?_
          | refine wc_region ?_
          | refine wl_nil ?_
          | refine we_round ?_
          | refine we_then_wc ?_
          | (apply wi64; exact rfl; omega; omega; exact rfl; exact rfl)
          | (apply wfa; exact rfl; exact rfl; exact rfl; exact rfl)
          | (apply wct; exact rfl; omega; exact rfl; exact rfl)
          | (apply wcf; exact rfl; omega; exact rfl; exact rfl)
          | (apply wn; exact rfl; exact rfl)
          | (apply wlb (j := 0); exact rfl; exact rfl; exact rfl; exact rfl; exact rfl; exact rfl)
          | (apply wlb (j := 1); exact rfl; exact rfl; exact rfl; exact rfl; exact rfl; exact rfl)
          | (apply wlb (j := 2); exact rfl; exact rfl; exact rfl; exact rfl; exact rfl; exact rfl)
          | (apply wlb (j := 3); exact rfl; exact rfl; exact rfl; exact rfl; exact rfl; exact rfl)
          | (apply wln; exact rfl; exact rfl; exact rfl; exact rfl)
          | (apply wpu; exact rfl; exact rfl; exact rfl)
          | (apply wbx; exact rfl; exact rfl; exact rfl; intro _)
          | refine wc_block ?_
          | (apply wc_true; exact rfl)
          | (apply wc_false; exact rfl)
          | refine wc_skip ?_
          | refine wc_exit ?_
          | refine wc_ret ?_
          | refine we_then_exit ?_
          | refine we_then_ret ?_
          | refine we_in_normal ?_
          | refine we_in_ret ?_
          | refine we_in_here ?_
          | (apply we_in_there; exact rfl))
        refine ⟨fun a' B' hs' hh' => hK a' B' (hh'.keepsFrom (by simp)) (fun h0 => h0.ext hh'.ext_all) ⟨hi.1.ext hh'.ext_all, hi.2⟩ ?_⟩
        have e1 := hh'.at (j := 1) rfl
        have e0 := hh'.at (j := 0) rfl
        have hsz := hi.1.size
        exact ⟨bx, bh, hs'.weaken ⟨rfl, rfl, rfl, rfl, rfl, trivial⟩, e1.2, e0.2, Nat.le_trans hsz (e1.1.resolve_right (by simp)), Nat.le_trans hsz (e0.1.resolve_right (by simp)), hh'.ne (i := 1) (j := 0) rfl rfl rfl⟩
      · have := (hA.put (d := 11) (by decide) x.1.1.v).put (d := 12) (by decide) (digV x.1.2)
        have hz : (#[11, 12].zip #[x.1.1.v, digV x.1.2]) = #[(11, x.1.1.v), (12, digV x.1.2)] := by simp
        simp only [hz]
        exact ⟨this.size, rfl, fun t v ht => this.vals t v (Env.le_get (e := [(12, digV x.1.2), (11, x.1.1.v), (1, .pointer (some ⟨bl, 0, none⟩)), (2, .pointer (some ⟨be, 0, none⟩)), (3, .pointer (some ⟨bi, 0, none⟩))]) ⟨rfl, rfl, rfl, rfl, rfl, trivial⟩ ht)⟩
    case body =>
      rintro l pre x A' B hlB - hi ⟨bx, bh, hsx, hBx, hBh, hlx, hlh, nxh⟩ hlen
      have hB0 := hi.1
      have hy : xs[0]? = some xs[0] := List.getElem?_eq_getElem (by omega)
      generalize xs[0] = y at hy
      have hndy := hnd y hy
      obtain ⟨b, o, hab, hoky, hcw⟩ := h.at hy
      subst hab
      have hbw : b < w.heap.size := cell_lt (hcw 0 _ rfl)
      have ebw := hck.ext2 hB0
      have hc0 : B.cell? ⟨b, o + 0 * 35 + 0, none⟩ = some (.int .i64 nd) := by
        rw [ebw.cell (p := ⟨b, o + 0 * 35 + 0, none⟩) hbw, ← hndy]; exact hcw 0 _ rfl
      have hcl := hck.cellL hB0
      have hlb := hck.ll
      have hbB := cell_lt hcl
      have l1 := hck.li
      have l2 := hck.le
      have l3 := hB0.size
      have n1 := hck.nli
      have n2 := hck.nle
      have nlx : bl ≠ bx := fun e => by have := cell_lt hck.cl; omega
      have nlh : bl ≠ bh := fun e => by have := cell_lt hck.cl; omega
      have hblx : bl ∉ [bi, be, bx, bh] := by simp [n1, n2, nlx, nlh]
      have hbx : b ∉ [bi, be, bx, bh] := by
        simp only [List.mem_cons, List.not_mem_nil, or_false, not_or]
        omega
      have hstart : Hp B [bi, be, bx, bh] B [(bx, x.1.1.cells, 55), (bh, x.1.2.map v8, 53), (bi, [.int .i64 (pre.length : Int)], 3), (be, [.int .i64 0], 28)] := ⟨rfl, rfl, rfl, Nat.le_refl _, fun _ _ _ => rfl, fun z hz => (by
        simp only [List.mem_cons, List.not_mem_nil, or_false] at hz
        rcases hz with rfl | rfl | rfl | rfl
        · exact ⟨Or.inr (by simp), hBx⟩
        · exact ⟨Or.inr (by simp), hBh⟩
        · exact ⟨Or.inr (by simp), (hB0.at (j := 0) rfl).2⟩
        · exact ⟨Or.inr (by simp), (hB0.at (j := 1) rfl).2⟩), by
          simp only [List.map_cons, List.map_nil, List.nodup_cons, List.mem_cons, List.not_mem_nil, or_false, not_or, not_false_eq_true, List.nodup_nil, and_true]
          omega⟩
      have hkf : ∀ {B2 : World} {bs : Blks}, Hp B [bi, be, bx, bh] B2 bs → KeepsFrom W.heap.size B B2 := fun h2 => h2.keepsFrom (fun z hz => by
        simp only [List.mem_cons, List.not_mem_nil, or_false] at hz
        rcases hz with rfl | rfl | rfl | rfl
        · exact Or.inl lli
        · exact Or.inl lle
        · obtain ⟨fr, e, -⟩ := hBx; exact Or.inr ⟨_, _, fr, e⟩
        · obtain ⟨fr, e, -⟩ := hBh; exact Or.inr ⟨_, _, fr, e⟩)
      have hjx : ∀ z ∈ [bi, be, bx, bh], z ∈ [bi, be] ∨ W.heap.size ≤ z := fun z hz => by
        simp only [List.mem_cons, List.not_mem_nil, or_false] at hz ⊢
        rcases hz with rfl | rfl | rfl | rfl
        · exact Or.inl (Or.inl rfl)
        · exact Or.inl (Or.inr rfl)
        · exact Or.inr hlx
        · exact Or.inr hlh
      have hgood : okP nd x.1 pre.length → ∀ a2 B2, Hp B [bi, be, bx, bh] B2 [(bx, x.1.1.cells, 55), (bh, x.1.2.map v8, 53), (bi, [.int .i64 ((pre.length : Int) + 1)], 3), (be, [.int .i64 0], 28)] →
          ownPostG W.heap.size (fun A B => Hp W [bi, be] A [] → Hp W [bi, be] B []) (CkI W bi be nd) (CkX W bi be nd) (pre ++ [x]) B .normal a2 B2 := fun hok a2 B2 h2 => by
        refine ⟨hkf h2, fun h3 => h3.join h2 hjx (fun _ hm => by cases hm) List.nodup_nil, hB0.join h2 hjx (fun z hz => ?_) (by simp [hck.nie]), fun k p hp => ?_⟩
        · simp only [List.mem_cons, List.not_mem_nil, or_false] at hz
          rcases hz with rfl | rfl
          · exact ⟨by simp, Or.inl (by simp)⟩
          · exact ⟨by simp, Or.inl (by simp)⟩
        · rcases Nat.lt_trichotomy k pre.length with hk | hk | hk
          · rw [List.getElem?_append_left hk] at hp
            exact hi.2 k p hp
          · subst hk
            rw [List.getElem?_append_right (Nat.le_refl _), Nat.sub_self] at hp
            simp at hp
            subst hp
            exact hok
          · rw [List.getElem?_eq_none (by simp; omega)] at hp
            cases hp
      have hbad : ¬ okP nd x.1 pre.length → ∀ a2 B2, Hp B [bi, be, bx, bh] B2 [(bx, x.1.1.cells, 55), (bh, x.1.2.map v8, 53), (bi, [.int .i64 (pre.length : Int)], 3), (be, [.int .i64 80], 28)] →
          ownPostG W.heap.size (fun A B => Hp W [bi, be] A [] → Hp W [bi, be] B []) (CkI W bi be nd) (CkX W bi be nd) (pre ++ [x]) B .ret a2 B2 := fun hok a2 B2 h2 => by
        refine ⟨hkf h2, rfl, hB0.join h2 hjx (fun z hz => ?_) (by simp), pre.length, x, by simp, hok⟩
        simp only [List.mem_cons, List.not_mem_nil, or_false] at hz
        subst hz
        exact ⟨by simp, Or.inl (by simp)⟩
      have hx32 := x.2.1
      have hh32 := x.2.2
      have hprevs : (x.1.1.cells.drop 2).take 32 = x.1.1.prev.map v8 := by
        simp only [Lnk.cells, List.drop_succ_cons, List.drop_zero]
        rw [List.take_append_of_le_length (by simp [hx32]), List.take_of_length_le (by simp [hx32])]
      have hc34 : x.1.1.cells[34]? = some x.1.1.dv := by
        simp only [Lnk.cells]
        rw [List.getElem?_cons_succ, List.getElem?_cons_succ, List.getElem?_append_right (by simp [hx32])]
        simp [hx32]
      have hml : (x.1.1.prev.map v8).length = 32 := by simp [hx32]
      have hmh : (x.1.2.map v8).length = 32 := by simp [hh32]
      clear ebw hcw hkf hjx hBx hBh
      refine WC.go (r := some l) (n := 50) (ds := []) (w0 := B) (ex := [bi, be, bx, bh]) ?_ A' B hsx hstart
      clear hB0 hstart hi hsx
      by_cases c1 : x.1.1.node = nd
      · by_cases c2 : x.1.1.node < 0
        · repeat (first
            | (apply ws; exact rfl; exact rfl; exact rfl)
            | refine wc_seq ?_
            | refine wc_region ?_
            | refine wl_nil ?_
            | refine we_round ?_
            | refine we_then_wc ?_
            | (apply wi64; exact rfl; omega; omega; exact rfl; exact rfl)
            | (apply wfa; exact rfl; exact rfl; exact rfl; exact rfl)
            | (apply wct; exact rfl; omega; exact rfl; exact rfl)
            | (apply wcf; exact rfl; omega; exact rfl; exact rfl)
            | (apply wn; exact rfl; exact rfl)
            | (apply wlb (j := 0); exact rfl; exact rfl; exact rfl; exact rfl; exact rfl; exact rfl)
            | (apply wlb (j := 1); exact rfl; exact rfl; exact rfl; exact rfl; exact rfl; exact rfl)
            | (apply wlb (j := 2); exact rfl; exact rfl; exact rfl; exact rfl; exact rfl; exact rfl)
            | (apply wlb (j := 3); exact rfl; exact rfl; exact rfl; exact rfl; exact rfl; exact rfl)
            | (apply wln; exact rfl; exact rfl; exact rfl; exact rfl)
            | (apply wpu; exact rfl; exact rfl; exact rfl)
            | (apply wbx; exact rfl; exact rfl; exact rfl; intro _)
            | refine wc_block ?_
            | (apply wc_true; exact rfl)
            | (apply wc_false; exact rfl)
            | refine wc_skip ?_
            | refine wc_exit ?_
            | refine wc_ret ?_
            | refine we_then_exit ?_
            | refine we_then_ret ?_
            | refine we_in_normal ?_
            | refine we_in_ret ?_
            | refine we_in_here ?_
            | (apply we_in_there; exact rfl))
          refine wc_plan _ none [(0, true), (1, true), (2, true), (3, true), (4, true), (5, true), (6, true), (7, true), (8, true), (9, true), (10, true), (11, true), (12, true), (13, true), (14, true), (15, true), (16, true), (17, true), (18, true), (19, true), (20, true), (21, true), (22, true), (23, true), (24, true), (25, true), (26, true), (27, true), (28, true), (29, true), (30, true), (31, true), (32, true), (33, true), (34, true)] (by kernel_rfl) (List.Sublist.refl _) ?_
          repeat (first
            | (apply ps; exact rfl; exact rfl; exact rfl; exact rfl)
            | (apply plb (j := 2); exact rfl; exact rfl; exact rfl; exact rfl; exact rfl; exact rfl; exact rfl)
            | (apply plb (j := 0); exact rfl; exact rfl; exact rfl; exact rfl; exact hc34; exact rfl; exact rfl)
            | (apply plo; exact rfl; exact rfl; exact rfl; exact hcl; exact hblx; exact rfl; exact rfl)
            | (apply plo; exact rfl; exact rfl; exact rfl; exact hc0; exact hbx; exact rfl; exact rfl)
            | (apply wp_still; exact rfl; exact rfl; exact rfl; exact (od_indexAddr 0 rfl rfl rfl rfl rfl (by omega)))
            | (apply wp_still; exact rfl; exact rfl; exact rfl; exact (od_loadAP 0 rfl rfl rfl rfl hml hprevs))
            | (apply wp_still; exact rfl; exact rfl; exact rfl; exact (od_loadAB 1 rfl rfl rfl rfl hmh))
            | (apply pfa; exact rfl; exact rfl; exact rfl; exact rfl; exact rfl)
            | (apply pi64; exact rfl; exact rfl; omega; omega; exact rfl; exact rfl)
            | (apply pct; exact rfl; exact rfl; omega; exact rfl; exact rfl)
            | (apply pcf; exact rfl; exact rfl; omega; exact rfl; exact rfl)
            | (apply wp_not; exact rfl; exact rfl; exact rfl)
            | (apply plb (j := 0); exact rfl; exact rfl; exact rfl; exact rfl; exact rfl; exact rfl; exact rfl)
            | (apply plb (j := 1); exact rfl; exact rfl; exact rfl; exact rfl; exact rfl; exact rfl; exact rfl)
            | (apply plb (j := 2); exact rfl; exact rfl; exact rfl; exact rfl; exact rfl; exact rfl; exact rfl)
            | (apply pln; exact rfl; exact rfl; exact rfl; exact rfl; exact rfl)
            | (apply ppu; exact rfl; exact rfl; exact rfl; exact rfl)
            | (apply pfs; exact rfl; exact rfl; exact rfl; exact rfl)
            | apply wp_nil)
          repeat (first
            | (apply ws; exact rfl; exact rfl; exact rfl)
            | (apply wst 3; exact rfl; exact rfl; exact rfl; exact rfl; exact rfl; exact (show (0 : Nat) < 1 from by decide); exact rfl)
            | (apply wst 2; exact rfl; exact rfl; exact rfl; exact rfl; exact rfl; exact (show (0 : Nat) < 1 from by decide); exact rfl)
            | refine wc_seq ?_
            | refine wc_region ?_
            | refine wl_nil ?_
            | refine we_round ?_
            | refine we_then_wc ?_
            | (apply wi64; exact rfl; omega; omega; exact rfl; exact rfl)
            | (apply wfa; exact rfl; exact rfl; exact rfl; exact rfl)
            | (apply wct; exact rfl; omega; exact rfl; exact rfl)
            | (apply wcf; exact rfl; omega; exact rfl; exact rfl)
            | (apply wn; exact rfl; exact rfl)
            | (apply wlb (j := 0); exact rfl; exact rfl; exact rfl; exact rfl; exact rfl; exact rfl)
            | (apply wlb (j := 1); exact rfl; exact rfl; exact rfl; exact rfl; exact rfl; exact rfl)
            | (apply wlb (j := 2); exact rfl; exact rfl; exact rfl; exact rfl; exact rfl; exact rfl)
            | (apply wlb (j := 3); exact rfl; exact rfl; exact rfl; exact rfl; exact rfl; exact rfl)
            | (apply wln; exact rfl; exact rfl; exact rfl; exact rfl)
            | (apply wpu; exact rfl; exact rfl; exact rfl)
            | (apply wbx; exact rfl; exact rfl; exact rfl; intro _)
            | refine wc_block ?_
            | (apply wc_true; exact rfl)
            | (apply wc_false; exact rfl)
            | refine wc_skip ?_
            | refine wc_exit ?_
            | refine wc_ret ?_
            | refine we_then_exit ?_
            | refine we_then_ret ?_
            | refine we_in_normal ?_
            | refine we_in_ret ?_
            | refine we_in_here ?_
            | (apply we_in_there; exact rfl))
          exact ⟨fun a2 B2 _ h2 => hbad (fun hok => by obtain ⟨k1, k2, k3, k4, k5, k6⟩ := hok; omega) a2 B2 h2⟩
        · by_cases c3 : 24 ≤ x.1.1.node
          · repeat (first
              | (apply ws; exact rfl; exact rfl; exact rfl)
              | refine wc_seq ?_
              | refine wc_region ?_
              | refine wl_nil ?_
              | refine we_round ?_
              | refine we_then_wc ?_
              | (apply wi64; exact rfl; omega; omega; exact rfl; exact rfl)
              | (apply wfa; exact rfl; exact rfl; exact rfl; exact rfl)
              | (apply wct; exact rfl; omega; exact rfl; exact rfl)
              | (apply wcf; exact rfl; omega; exact rfl; exact rfl)
              | (apply wn; exact rfl; exact rfl)
              | (apply wlb (j := 0); exact rfl; exact rfl; exact rfl; exact rfl; exact rfl; exact rfl)
              | (apply wlb (j := 1); exact rfl; exact rfl; exact rfl; exact rfl; exact rfl; exact rfl)
              | (apply wlb (j := 2); exact rfl; exact rfl; exact rfl; exact rfl; exact rfl; exact rfl)
              | (apply wlb (j := 3); exact rfl; exact rfl; exact rfl; exact rfl; exact rfl; exact rfl)
              | (apply wln; exact rfl; exact rfl; exact rfl; exact rfl)
              | (apply wpu; exact rfl; exact rfl; exact rfl)
              | (apply wbx; exact rfl; exact rfl; exact rfl; intro _)
              | refine wc_block ?_
              | (apply wc_true; exact rfl)
              | (apply wc_false; exact rfl)
              | refine wc_skip ?_
              | refine wc_exit ?_
              | refine wc_ret ?_
              | refine we_then_exit ?_
              | refine we_then_ret ?_
              | refine we_in_normal ?_
              | refine we_in_ret ?_
              | refine we_in_here ?_
              | (apply we_in_there; exact rfl))
            refine wc_plan _ none [(0, true), (1, true), (2, true), (3, true), (4, true), (5, true), (6, true), (7, true), (8, true), (9, true), (10, true), (11, true), (12, true), (13, true), (14, true), (15, true), (16, true), (17, true), (18, true), (19, true), (20, true), (21, true), (22, true), (23, true), (24, true), (25, true), (26, true), (27, true), (28, true), (29, true), (30, true), (31, true), (32, true), (33, true), (34, true)] (by kernel_rfl) (List.Sublist.refl _) ?_
            repeat (first
              | (apply ps; exact rfl; exact rfl; exact rfl; exact rfl)
              | (apply plb (j := 2); exact rfl; exact rfl; exact rfl; exact rfl; exact rfl; exact rfl; exact rfl)
              | (apply plb (j := 0); exact rfl; exact rfl; exact rfl; exact rfl; exact hc34; exact rfl; exact rfl)
              | (apply plo; exact rfl; exact rfl; exact rfl; exact hcl; exact hblx; exact rfl; exact rfl)
              | (apply plo; exact rfl; exact rfl; exact rfl; exact hc0; exact hbx; exact rfl; exact rfl)
              | (apply wp_still; exact rfl; exact rfl; exact rfl; exact (od_indexAddr 0 rfl rfl rfl rfl rfl (by omega)))
              | (apply wp_still; exact rfl; exact rfl; exact rfl; exact (od_loadAP 0 rfl rfl rfl rfl hml hprevs))
              | (apply wp_still; exact rfl; exact rfl; exact rfl; exact (od_loadAB 1 rfl rfl rfl rfl hmh))
              | (apply pfa; exact rfl; exact rfl; exact rfl; exact rfl; exact rfl)
              | (apply pi64; exact rfl; exact rfl; omega; omega; exact rfl; exact rfl)
              | (apply pct; exact rfl; exact rfl; omega; exact rfl; exact rfl)
              | (apply pcf; exact rfl; exact rfl; omega; exact rfl; exact rfl)
              | (apply wp_not; exact rfl; exact rfl; exact rfl)
              | (apply plb (j := 0); exact rfl; exact rfl; exact rfl; exact rfl; exact rfl; exact rfl; exact rfl)
              | (apply plb (j := 1); exact rfl; exact rfl; exact rfl; exact rfl; exact rfl; exact rfl; exact rfl)
              | (apply plb (j := 2); exact rfl; exact rfl; exact rfl; exact rfl; exact rfl; exact rfl; exact rfl)
              | (apply pln; exact rfl; exact rfl; exact rfl; exact rfl; exact rfl)
              | (apply ppu; exact rfl; exact rfl; exact rfl; exact rfl)
              | (apply pfs; exact rfl; exact rfl; exact rfl; exact rfl)
              | apply wp_nil)
            repeat (first
              | (apply ws; exact rfl; exact rfl; exact rfl)
              | (apply wst 3; exact rfl; exact rfl; exact rfl; exact rfl; exact rfl; exact (show (0 : Nat) < 1 from by decide); exact rfl)
              | (apply wst 2; exact rfl; exact rfl; exact rfl; exact rfl; exact rfl; exact (show (0 : Nat) < 1 from by decide); exact rfl)
              | refine wc_seq ?_
              | refine wc_region ?_
              | refine wl_nil ?_
              | refine we_round ?_
              | refine we_then_wc ?_
              | (apply wi64; exact rfl; omega; omega; exact rfl; exact rfl)
              | (apply wfa; exact rfl; exact rfl; exact rfl; exact rfl)
              | (apply wct; exact rfl; omega; exact rfl; exact rfl)
              | (apply wcf; exact rfl; omega; exact rfl; exact rfl)
              | (apply wn; exact rfl; exact rfl)
              | (apply wlb (j := 0); exact rfl; exact rfl; exact rfl; exact rfl; exact rfl; exact rfl)
              | (apply wlb (j := 1); exact rfl; exact rfl; exact rfl; exact rfl; exact rfl; exact rfl)
              | (apply wlb (j := 2); exact rfl; exact rfl; exact rfl; exact rfl; exact rfl; exact rfl)
              | (apply wlb (j := 3); exact rfl; exact rfl; exact rfl; exact rfl; exact rfl; exact rfl)
              | (apply wln; exact rfl; exact rfl; exact rfl; exact rfl)
              | (apply wpu; exact rfl; exact rfl; exact rfl)
              | (apply wbx; exact rfl; exact rfl; exact rfl; intro _)
              | refine wc_block ?_
              | (apply wc_true; exact rfl)
              | (apply wc_false; exact rfl)
              | refine wc_skip ?_
              | refine wc_exit ?_
              | refine wc_ret ?_
              | refine we_then_exit ?_
              | refine we_then_ret ?_
              | refine we_in_normal ?_
              | refine we_in_ret ?_
              | refine we_in_here ?_
              | (apply we_in_there; exact rfl))
            exact ⟨fun a2 B2 _ h2 => hbad (fun hok => by obtain ⟨k1, k2, k3, k4, k5, k6⟩ := hok; omega) a2 B2 h2⟩
          · by_cases c4 : x.1.1.no = (pre.length : Int)
            · by_cases c5 : x.1.1.data.length ≤ 65536
              · by_cases c6 : x.1.1.prev = x.1.2
                · repeat (first
                    | (apply ws; exact rfl; exact rfl; exact rfl)
                    | refine wc_seq ?_
                    | refine wc_region ?_
                    | refine wl_nil ?_
                    | refine we_round ?_
                    | refine we_then_wc ?_
                    | (apply wi64; exact rfl; omega; omega; exact rfl; exact rfl)
                    | (apply wfa; exact rfl; exact rfl; exact rfl; exact rfl)
                    | (apply wct; exact rfl; omega; exact rfl; exact rfl)
                    | (apply wcf; exact rfl; omega; exact rfl; exact rfl)
                    | (apply wn; exact rfl; exact rfl)
                    | (apply wlb (j := 0); exact rfl; exact rfl; exact rfl; exact rfl; exact rfl; exact rfl)
                    | (apply wlb (j := 1); exact rfl; exact rfl; exact rfl; exact rfl; exact rfl; exact rfl)
                    | (apply wlb (j := 2); exact rfl; exact rfl; exact rfl; exact rfl; exact rfl; exact rfl)
                    | (apply wlb (j := 3); exact rfl; exact rfl; exact rfl; exact rfl; exact rfl; exact rfl)
                    | (apply wln; exact rfl; exact rfl; exact rfl; exact rfl)
                    | (apply wpu; exact rfl; exact rfl; exact rfl)
                    | (apply wbx; exact rfl; exact rfl; exact rfl; intro _)
                    | refine wc_block ?_
                    | (apply wc_true; exact rfl)
                    | (apply wc_false; exact rfl)
                    | refine wc_skip ?_
                    | refine wc_exit ?_
                    | refine wc_ret ?_
                    | refine we_then_exit ?_
                    | refine we_then_ret ?_
                    | refine we_in_normal ?_
                    | refine we_in_ret ?_
                    | refine we_in_here ?_
                    | (apply we_in_there; exact rfl))
                  refine wc_plan _ none [(0, true), (1, true), (2, true), (3, true), (4, true), (5, true), (6, true), (7, true), (8, true), (9, true), (10, true), (11, true), (12, true), (13, true), (14, true), (15, true), (16, true), (17, true), (18, true), (19, true), (20, true), (21, true), (22, true), (23, true), (24, true), (25, true), (26, true), (27, true), (28, true), (29, true), (30, true), (31, true), (32, true), (33, true), (34, true)] (by kernel_rfl) (List.Sublist.refl _) ?_
                  repeat (first
                    | (apply ps; exact rfl; exact rfl; exact rfl; exact rfl)
                    | (apply plb (j := 2); exact rfl; exact rfl; exact rfl; exact rfl; exact rfl; exact rfl; exact rfl)
                    | (apply plb (j := 0); exact rfl; exact rfl; exact rfl; exact rfl; exact hc34; exact rfl; exact rfl)
                    | (apply plo; exact rfl; exact rfl; exact rfl; exact hcl; exact hblx; exact rfl; exact rfl)
                    | (apply plo; exact rfl; exact rfl; exact rfl; exact hc0; exact hbx; exact rfl; exact rfl)
                    | (apply wp_still; exact rfl; exact rfl; exact rfl; exact (od_indexAddr 0 rfl rfl rfl rfl rfl (by omega)))
                    | (apply wp_still; exact rfl; exact rfl; exact rfl; exact (od_loadAP 0 rfl rfl rfl rfl hml hprevs))
                    | (apply wp_still; exact rfl; exact rfl; exact rfl; exact (od_loadAB 1 rfl rfl rfl rfl hmh))
                    | (apply wp_still; exact rfl; exact rfl; exact rfl; exact (od_eqD (r := false) (Or.inr ⟨rfl, by simpa using c6⟩) rfl rfl hx32 hh32))
                    | (apply pfa; exact rfl; exact rfl; exact rfl; exact rfl; exact rfl)
                    | (apply pi64; exact rfl; exact rfl; omega; omega; exact rfl; exact rfl)
                    | (apply pct; exact rfl; exact rfl; omega; exact rfl; exact rfl)
                    | (apply pcf; exact rfl; exact rfl; omega; exact rfl; exact rfl)
                    | (apply wp_not; exact rfl; exact rfl; exact rfl)
                    | (apply plb (j := 0); exact rfl; exact rfl; exact rfl; exact rfl; exact rfl; exact rfl; exact rfl)
                    | (apply plb (j := 1); exact rfl; exact rfl; exact rfl; exact rfl; exact rfl; exact rfl; exact rfl)
                    | (apply plb (j := 2); exact rfl; exact rfl; exact rfl; exact rfl; exact rfl; exact rfl; exact rfl)
                    | (apply pln; exact rfl; exact rfl; exact rfl; exact rfl; exact rfl)
                    | (apply ppu; exact rfl; exact rfl; exact rfl; exact rfl)
                    | (apply pfs; exact rfl; exact rfl; exact rfl; exact rfl)
                    | apply wp_nil)
                  repeat (first
                    | (apply ws; exact rfl; exact rfl; exact rfl)
                    | (apply wst 3; exact rfl; exact rfl; exact rfl; exact rfl; exact rfl; exact (show (0 : Nat) < 1 from by decide); exact rfl)
                    | (apply wst 2; exact rfl; exact rfl; exact rfl; exact rfl; exact rfl; exact (show (0 : Nat) < 1 from by decide); exact rfl)
                    | refine wc_seq ?_
                    | refine wc_region ?_
                    | refine wl_nil ?_
                    | refine we_round ?_
                    | refine we_then_wc ?_
                    | (apply wi64; exact rfl; omega; omega; exact rfl; exact rfl)
                    | (apply wfa; exact rfl; exact rfl; exact rfl; exact rfl)
                    | (apply wct; exact rfl; omega; exact rfl; exact rfl)
                    | (apply wcf; exact rfl; omega; exact rfl; exact rfl)
                    | (apply wn; exact rfl; exact rfl)
                    | (apply wlb (j := 0); exact rfl; exact rfl; exact rfl; exact rfl; exact rfl; exact rfl)
                    | (apply wlb (j := 1); exact rfl; exact rfl; exact rfl; exact rfl; exact rfl; exact rfl)
                    | (apply wlb (j := 2); exact rfl; exact rfl; exact rfl; exact rfl; exact rfl; exact rfl)
                    | (apply wlb (j := 3); exact rfl; exact rfl; exact rfl; exact rfl; exact rfl; exact rfl)
                    | (apply wln; exact rfl; exact rfl; exact rfl; exact rfl)
                    | (apply wpu; exact rfl; exact rfl; exact rfl)
                    | (apply wbx; exact rfl; exact rfl; exact rfl; intro _)
                    | refine wc_block ?_
                    | (apply wc_true; exact rfl)
                    | (apply wc_false; exact rfl)
                    | refine wc_skip ?_
                    | refine wc_exit ?_
                    | refine wc_ret ?_
                    | refine we_then_exit ?_
                    | refine we_then_ret ?_
                    | refine we_in_normal ?_
                    | refine we_in_ret ?_
                    | refine we_in_here ?_
                    | (apply we_in_there; exact rfl))
                  exact ⟨fun a2 B2 _ h2 => hgood ⟨c1, c2, c3, c4, c5, c6⟩ a2 B2 h2⟩
                · repeat (first
                    | (apply ws; exact rfl; exact rfl; exact rfl)
                    | refine wc_seq ?_
                    | refine wc_region ?_
                    | refine wl_nil ?_
                    | refine we_round ?_
                    | refine we_then_wc ?_
                    | (apply wi64; exact rfl; omega; omega; exact rfl; exact rfl)
                    | (apply wfa; exact rfl; exact rfl; exact rfl; exact rfl)
                    | (apply wct; exact rfl; omega; exact rfl; exact rfl)
                    | (apply wcf; exact rfl; omega; exact rfl; exact rfl)
                    | (apply wn; exact rfl; exact rfl)
                    | (apply wlb (j := 0); exact rfl; exact rfl; exact rfl; exact rfl; exact rfl; exact rfl)
                    | (apply wlb (j := 1); exact rfl; exact rfl; exact rfl; exact rfl; exact rfl; exact rfl)
                    | (apply wlb (j := 2); exact rfl; exact rfl; exact rfl; exact rfl; exact rfl; exact rfl)
                    | (apply wlb (j := 3); exact rfl; exact rfl; exact rfl; exact rfl; exact rfl; exact rfl)
                    | (apply wln; exact rfl; exact rfl; exact rfl; exact rfl)
                    | (apply wpu; exact rfl; exact rfl; exact rfl)
                    | (apply wbx; exact rfl; exact rfl; exact rfl; intro _)
                    | refine wc_block ?_
                    | (apply wc_true; exact rfl)
                    | (apply wc_false; exact rfl)
                    | refine wc_skip ?_
                    | refine wc_exit ?_
                    | refine wc_ret ?_
                    | refine we_then_exit ?_
                    | refine we_then_ret ?_
                    | refine we_in_normal ?_
                    | refine we_in_ret ?_
                    | refine we_in_here ?_
                    | (apply we_in_there; exact rfl))
                  refine wc_plan _ none [(0, true), (1, true), (2, true), (3, true), (4, true), (5, true), (6, true), (7, true), (8, true), (9, true), (10, true), (11, true), (12, true), (13, true), (14, true), (15, true), (16, true), (17, true), (18, true), (19, true), (20, true), (21, true), (22, true), (23, true), (24, true), (25, true), (26, true), (27, true), (28, true), (29, true), (30, true), (31, true), (32, true), (33, true), (34, true)] (by kernel_rfl) (List.Sublist.refl _) ?_
                  repeat (first
                    | (apply ps; exact rfl; exact rfl; exact rfl; exact rfl)
                    | (apply plb (j := 2); exact rfl; exact rfl; exact rfl; exact rfl; exact rfl; exact rfl; exact rfl)
                    | (apply plb (j := 0); exact rfl; exact rfl; exact rfl; exact rfl; exact hc34; exact rfl; exact rfl)
                    | (apply plo; exact rfl; exact rfl; exact rfl; exact hcl; exact hblx; exact rfl; exact rfl)
                    | (apply plo; exact rfl; exact rfl; exact rfl; exact hc0; exact hbx; exact rfl; exact rfl)
                    | (apply wp_still; exact rfl; exact rfl; exact rfl; exact (od_indexAddr 0 rfl rfl rfl rfl rfl (by omega)))
                    | (apply wp_still; exact rfl; exact rfl; exact rfl; exact (od_loadAP 0 rfl rfl rfl rfl hml hprevs))
                    | (apply wp_still; exact rfl; exact rfl; exact rfl; exact (od_loadAB 1 rfl rfl rfl rfl hmh))
                    | (apply wp_still; exact rfl; exact rfl; exact rfl; exact (od_eqD (r := true) (Or.inr ⟨rfl, by simpa using c6⟩) rfl rfl hx32 hh32))
                    | (apply pfa; exact rfl; exact rfl; exact rfl; exact rfl; exact rfl)
                    | (apply pi64; exact rfl; exact rfl; omega; omega; exact rfl; exact rfl)
                    | (apply pct; exact rfl; exact rfl; omega; exact rfl; exact rfl)
                    | (apply pcf; exact rfl; exact rfl; omega; exact rfl; exact rfl)
                    | (apply wp_not; exact rfl; exact rfl; exact rfl)
                    | (apply plb (j := 0); exact rfl; exact rfl; exact rfl; exact rfl; exact rfl; exact rfl; exact rfl)
                    | (apply plb (j := 1); exact rfl; exact rfl; exact rfl; exact rfl; exact rfl; exact rfl; exact rfl)
                    | (apply plb (j := 2); exact rfl; exact rfl; exact rfl; exact rfl; exact rfl; exact rfl; exact rfl)
                    | (apply pln; exact rfl; exact rfl; exact rfl; exact rfl; exact rfl)
                    | (apply ppu; exact rfl; exact rfl; exact rfl; exact rfl)
                    | (apply pfs; exact rfl; exact rfl; exact rfl; exact rfl)
                    | apply wp_nil)
                  repeat (first
                    | (apply ws; exact rfl; exact rfl; exact rfl)
                    | (apply wst 3; exact rfl; exact rfl; exact rfl; exact rfl; exact rfl; exact (show (0 : Nat) < 1 from by decide); exact rfl)
                    | (apply wst 2; exact rfl; exact rfl; exact rfl; exact rfl; exact rfl; exact (show (0 : Nat) < 1 from by decide); exact rfl)
                    | refine wc_seq ?_
                    | refine wc_region ?_
                    | refine wl_nil ?_
                    | refine we_round ?_
                    | refine we_then_wc ?_
                    | (apply wi64; exact rfl; omega; omega; exact rfl; exact rfl)
                    | (apply wfa; exact rfl; exact rfl; exact rfl; exact rfl)
                    | (apply wct; exact rfl; omega; exact rfl; exact rfl)
                    | (apply wcf; exact rfl; omega; exact rfl; exact rfl)
                    | (apply wn; exact rfl; exact rfl)
                    | (apply wlb (j := 0); exact rfl; exact rfl; exact rfl; exact rfl; exact rfl; exact rfl)
                    | (apply wlb (j := 1); exact rfl; exact rfl; exact rfl; exact rfl; exact rfl; exact rfl)
                    | (apply wlb (j := 2); exact rfl; exact rfl; exact rfl; exact rfl; exact rfl; exact rfl)
                    | (apply wlb (j := 3); exact rfl; exact rfl; exact rfl; exact rfl; exact rfl; exact rfl)
                    | (apply wln; exact rfl; exact rfl; exact rfl; exact rfl)
                    | (apply wpu; exact rfl; exact rfl; exact rfl)
                    | (apply wbx; exact rfl; exact rfl; exact rfl; intro _)
                    | refine wc_block ?_
                    | (apply wc_true; exact rfl)
                    | (apply wc_false; exact rfl)
                    | refine wc_skip ?_
                    | refine wc_exit ?_
                    | refine wc_ret ?_
                    | refine we_then_exit ?_
                    | refine we_then_ret ?_
                    | refine we_in_normal ?_
                    | refine we_in_ret ?_
                    | refine we_in_here ?_
                    | (apply we_in_there; exact rfl))
                  exact ⟨fun a2 B2 _ h2 => hbad (fun hok => by obtain ⟨k1, k2, k3, k4, k5, k6⟩ := hok; exact c6 k6) a2 B2 h2⟩
              · repeat (first
                  | (apply ws; exact rfl; exact rfl; exact rfl)
                  | refine wc_seq ?_
                  | refine wc_region ?_
                  | refine wl_nil ?_
                  | refine we_round ?_
                  | refine we_then_wc ?_
                  | (apply wi64; exact rfl; omega; omega; exact rfl; exact rfl)
                  | (apply wfa; exact rfl; exact rfl; exact rfl; exact rfl)
                  | (apply wct; exact rfl; omega; exact rfl; exact rfl)
                  | (apply wcf; exact rfl; omega; exact rfl; exact rfl)
                  | (apply wn; exact rfl; exact rfl)
                  | (apply wlb (j := 0); exact rfl; exact rfl; exact rfl; exact rfl; exact rfl; exact rfl)
                  | (apply wlb (j := 1); exact rfl; exact rfl; exact rfl; exact rfl; exact rfl; exact rfl)
                  | (apply wlb (j := 2); exact rfl; exact rfl; exact rfl; exact rfl; exact rfl; exact rfl)
                  | (apply wlb (j := 3); exact rfl; exact rfl; exact rfl; exact rfl; exact rfl; exact rfl)
                  | (apply wln; exact rfl; exact rfl; exact rfl; exact rfl)
                  | (apply wpu; exact rfl; exact rfl; exact rfl)
                  | (apply wbx; exact rfl; exact rfl; exact rfl; intro _)
                  | refine wc_block ?_
                  | (apply wc_true; exact rfl)
                  | (apply wc_false; exact rfl)
                  | refine wc_skip ?_
                  | refine wc_exit ?_
                  | refine wc_ret ?_
                  | refine we_then_exit ?_
                  | refine we_then_ret ?_
                  | refine we_in_normal ?_
                  | refine we_in_ret ?_
                  | refine we_in_here ?_
                  | (apply we_in_there; exact rfl))
                refine wc_plan _ none [(0, true), (1, true), (2, true), (3, true), (4, true), (5, true), (6, true), (7, true), (8, true), (9, true), (10, true), (11, true), (12, true), (13, true), (14, true), (15, true), (16, true), (17, true), (18, true), (19, true), (20, true), (21, true), (22, true), (23, true), (24, true), (25, true), (26, true), (27, true), (28, true), (29, true), (30, true), (31, true), (32, true), (33, true), (34, true)] (by kernel_rfl) (List.Sublist.refl _) ?_
                repeat (first
                  | (apply ps; exact rfl; exact rfl; exact rfl; exact rfl)
                  | (apply plb (j := 2); exact rfl; exact rfl; exact rfl; exact rfl; exact rfl; exact rfl; exact rfl)
                  | (apply plb (j := 0); exact rfl; exact rfl; exact rfl; exact rfl; exact hc34; exact rfl; exact rfl)
                  | (apply plo; exact rfl; exact rfl; exact rfl; exact hcl; exact hblx; exact rfl; exact rfl)
                  | (apply plo; exact rfl; exact rfl; exact rfl; exact hc0; exact hbx; exact rfl; exact rfl)
                  | (apply wp_still; exact rfl; exact rfl; exact rfl; exact (od_indexAddr 0 rfl rfl rfl rfl rfl (by omega)))
                  | (apply wp_still; exact rfl; exact rfl; exact rfl; exact (od_loadAP 0 rfl rfl rfl rfl hml hprevs))
                  | (apply wp_still; exact rfl; exact rfl; exact rfl; exact (od_loadAB 1 rfl rfl rfl rfl hmh))
                  | (apply pfa; exact rfl; exact rfl; exact rfl; exact rfl; exact rfl)
                  | (apply pi64; exact rfl; exact rfl; omega; omega; exact rfl; exact rfl)
                  | (apply pct; exact rfl; exact rfl; omega; exact rfl; exact rfl)
                  | (apply pcf; exact rfl; exact rfl; omega; exact rfl; exact rfl)
                  | (apply wp_not; exact rfl; exact rfl; exact rfl)
                  | (apply plb (j := 0); exact rfl; exact rfl; exact rfl; exact rfl; exact rfl; exact rfl; exact rfl)
                  | (apply plb (j := 1); exact rfl; exact rfl; exact rfl; exact rfl; exact rfl; exact rfl; exact rfl)
                  | (apply plb (j := 2); exact rfl; exact rfl; exact rfl; exact rfl; exact rfl; exact rfl; exact rfl)
                  | (apply pln; exact rfl; exact rfl; exact rfl; exact rfl; exact rfl)
                  | (apply ppu; exact rfl; exact rfl; exact rfl; exact rfl)
                  | (apply pfs; exact rfl; exact rfl; exact rfl; exact rfl)
                  | apply wp_nil)
                repeat (first
                  | (apply ws; exact rfl; exact rfl; exact rfl)
                  | (apply wst 3; exact rfl; exact rfl; exact rfl; exact rfl; exact rfl; exact (show (0 : Nat) < 1 from by decide); exact rfl)
                  | (apply wst 2; exact rfl; exact rfl; exact rfl; exact rfl; exact rfl; exact (show (0 : Nat) < 1 from by decide); exact rfl)
                  | refine wc_seq ?_
                  | refine wc_region ?_
                  | refine wl_nil ?_
                  | refine we_round ?_
                  | refine we_then_wc ?_
                  | (apply wi64; exact rfl; omega; omega; exact rfl; exact rfl)
                  | (apply wfa; exact rfl; exact rfl; exact rfl; exact rfl)
                  | (apply wct; exact rfl; omega; exact rfl; exact rfl)
                  | (apply wcf; exact rfl; omega; exact rfl; exact rfl)
                  | (apply wn; exact rfl; exact rfl)
                  | (apply wlb (j := 0); exact rfl; exact rfl; exact rfl; exact rfl; exact rfl; exact rfl)
                  | (apply wlb (j := 1); exact rfl; exact rfl; exact rfl; exact rfl; exact rfl; exact rfl)
                  | (apply wlb (j := 2); exact rfl; exact rfl; exact rfl; exact rfl; exact rfl; exact rfl)
                  | (apply wlb (j := 3); exact rfl; exact rfl; exact rfl; exact rfl; exact rfl; exact rfl)
                  | (apply wln; exact rfl; exact rfl; exact rfl; exact rfl)
                  | (apply wpu; exact rfl; exact rfl; exact rfl)
                  | (apply wbx; exact rfl; exact rfl; exact rfl; intro _)
                  | refine wc_block ?_
                  | (apply wc_true; exact rfl)
                  | (apply wc_false; exact rfl)
                  | refine wc_skip ?_
                  | refine wc_exit ?_
                  | refine wc_ret ?_
                  | refine we_then_exit ?_
                  | refine we_then_ret ?_
                  | refine we_in_normal ?_
                  | refine we_in_ret ?_
                  | refine we_in_here ?_
                  | (apply we_in_there; exact rfl))
                exact ⟨fun a2 B2 _ h2 => hbad (fun hok => by obtain ⟨k1, k2, k3, k4, k5, k6⟩ := hok; omega) a2 B2 h2⟩
            · repeat (first
                | (apply ws; exact rfl; exact rfl; exact rfl)
                | refine wc_seq ?_
                | refine wc_region ?_
                | refine wl_nil ?_
                | refine we_round ?_
                | refine we_then_wc ?_
                | (apply wi64; exact rfl; omega; omega; exact rfl; exact rfl)
                | (apply wfa; exact rfl; exact rfl; exact rfl; exact rfl)
                | (apply wct; exact rfl; omega; exact rfl; exact rfl)
                | (apply wcf; exact rfl; omega; exact rfl; exact rfl)
                | (apply wn; exact rfl; exact rfl)
                | (apply wlb (j := 0); exact rfl; exact rfl; exact rfl; exact rfl; exact rfl; exact rfl)
                | (apply wlb (j := 1); exact rfl; exact rfl; exact rfl; exact rfl; exact rfl; exact rfl)
                | (apply wlb (j := 2); exact rfl; exact rfl; exact rfl; exact rfl; exact rfl; exact rfl)
                | (apply wlb (j := 3); exact rfl; exact rfl; exact rfl; exact rfl; exact rfl; exact rfl)
                | (apply wln; exact rfl; exact rfl; exact rfl; exact rfl)
                | (apply wpu; exact rfl; exact rfl; exact rfl)
                | (apply wbx; exact rfl; exact rfl; exact rfl; intro _)
                | refine wc_block ?_
                | (apply wc_true; exact rfl)
                | (apply wc_false; exact rfl)
                | refine wc_skip ?_
                | refine wc_exit ?_
                | refine wc_ret ?_
                | refine we_then_exit ?_
                | refine we_then_ret ?_
                | refine we_in_normal ?_
                | refine we_in_ret ?_
                | refine we_in_here ?_
                | (apply we_in_there; exact rfl))
              refine wc_plan _ none [(0, true), (1, true), (2, true), (3, true), (4, true), (5, true), (6, true), (7, true), (8, true), (9, true), (10, true), (11, true), (12, true), (13, true), (14, true), (15, true), (16, true), (17, true), (18, true), (19, true), (20, true), (21, true), (22, true), (23, true), (24, true), (25, true), (26, true), (27, true), (28, true), (29, true), (30, true), (31, true), (32, true), (33, true), (34, true)] (by kernel_rfl) (List.Sublist.refl _) ?_
              repeat (first
                | (apply ps; exact rfl; exact rfl; exact rfl; exact rfl)
                | (apply plb (j := 2); exact rfl; exact rfl; exact rfl; exact rfl; exact rfl; exact rfl; exact rfl)
                | (apply plb (j := 0); exact rfl; exact rfl; exact rfl; exact rfl; exact hc34; exact rfl; exact rfl)
                | (apply plo; exact rfl; exact rfl; exact rfl; exact hcl; exact hblx; exact rfl; exact rfl)
                | (apply plo; exact rfl; exact rfl; exact rfl; exact hc0; exact hbx; exact rfl; exact rfl)
                | (apply wp_still; exact rfl; exact rfl; exact rfl; exact (od_indexAddr 0 rfl rfl rfl rfl rfl (by omega)))
                | (apply wp_still; exact rfl; exact rfl; exact rfl; exact (od_loadAP 0 rfl rfl rfl rfl hml hprevs))
                | (apply wp_still; exact rfl; exact rfl; exact rfl; exact (od_loadAB 1 rfl rfl rfl rfl hmh))
                | (apply pfa; exact rfl; exact rfl; exact rfl; exact rfl; exact rfl)
                | (apply pi64; exact rfl; exact rfl; omega; omega; exact rfl; exact rfl)
                | (apply pct; exact rfl; exact rfl; omega; exact rfl; exact rfl)
                | (apply pcf; exact rfl; exact rfl; omega; exact rfl; exact rfl)
                | (apply wp_not; exact rfl; exact rfl; exact rfl)
                | (apply plb (j := 0); exact rfl; exact rfl; exact rfl; exact rfl; exact rfl; exact rfl; exact rfl)
                | (apply plb (j := 1); exact rfl; exact rfl; exact rfl; exact rfl; exact rfl; exact rfl; exact rfl)
                | (apply plb (j := 2); exact rfl; exact rfl; exact rfl; exact rfl; exact rfl; exact rfl; exact rfl)
                | (apply pln; exact rfl; exact rfl; exact rfl; exact rfl; exact rfl)
                | (apply ppu; exact rfl; exact rfl; exact rfl; exact rfl)
                | (apply pfs; exact rfl; exact rfl; exact rfl; exact rfl)
                | apply wp_nil)
              repeat (first
                | (apply ws; exact rfl; exact rfl; exact rfl)
                | (apply wst 3; exact rfl; exact rfl; exact rfl; exact rfl; exact rfl; exact (show (0 : Nat) < 1 from by decide); exact rfl)
                | (apply wst 2; exact rfl; exact rfl; exact rfl; exact rfl; exact rfl; exact (show (0 : Nat) < 1 from by decide); exact rfl)
                | refine wc_seq ?_
                | refine wc_region ?_
                | refine wl_nil ?_
                | refine we_round ?_
                | refine we_then_wc ?_
                | (apply wi64; exact rfl; omega; omega; exact rfl; exact rfl)
                | (apply wfa; exact rfl; exact rfl; exact rfl; exact rfl)
                | (apply wct; exact rfl; omega; exact rfl; exact rfl)
                | (apply wcf; exact rfl; omega; exact rfl; exact rfl)
                | (apply wn; exact rfl; exact rfl)
                | (apply wlb (j := 0); exact rfl; exact rfl; exact rfl; exact rfl; exact rfl; exact rfl)
                | (apply wlb (j := 1); exact rfl; exact rfl; exact rfl; exact rfl; exact rfl; exact rfl)
                | (apply wlb (j := 2); exact rfl; exact rfl; exact rfl; exact rfl; exact rfl; exact rfl)
                | (apply wlb (j := 3); exact rfl; exact rfl; exact rfl; exact rfl; exact rfl; exact rfl)
                | (apply wln; exact rfl; exact rfl; exact rfl; exact rfl)
                | (apply wpu; exact rfl; exact rfl; exact rfl)
                | (apply wbx; exact rfl; exact rfl; exact rfl; intro _)
                | refine wc_block ?_
                | (apply wc_true; exact rfl)
                | (apply wc_false; exact rfl)
                | refine wc_skip ?_
                | refine wc_exit ?_
                | refine wc_ret ?_
                | refine we_then_exit ?_
                | refine we_then_ret ?_
                | refine we_in_normal ?_
                | refine we_in_ret ?_
                | refine we_in_here ?_
                | (apply we_in_there; exact rfl))
              exact ⟨fun a2 B2 _ h2 => hbad (fun hok => by obtain ⟨k1, k2, k3, k4, k5, k6⟩ := hok; omega) a2 B2 h2⟩
      · repeat (first
          | (apply ws; exact rfl; exact rfl; exact rfl)
          | refine wc_seq ?_
          | refine wc_region ?_
          | refine wl_nil ?_
          | refine we_round ?_
          | refine we_then_wc ?_
          | (apply wi64; exact rfl; omega; omega; exact rfl; exact rfl)
          | (apply wfa; exact rfl; exact rfl; exact rfl; exact rfl)
          | (apply wct; exact rfl; omega; exact rfl; exact rfl)
          | (apply wcf; exact rfl; omega; exact rfl; exact rfl)
          | (apply wn; exact rfl; exact rfl)
          | (apply wlb (j := 0); exact rfl; exact rfl; exact rfl; exact rfl; exact rfl; exact rfl)
          | (apply wlb (j := 1); exact rfl; exact rfl; exact rfl; exact rfl; exact rfl; exact rfl)
          | (apply wlb (j := 2); exact rfl; exact rfl; exact rfl; exact rfl; exact rfl; exact rfl)
          | (apply wlb (j := 3); exact rfl; exact rfl; exact rfl; exact rfl; exact rfl; exact rfl)
          | (apply wln; exact rfl; exact rfl; exact rfl; exact rfl)
          | (apply wpu; exact rfl; exact rfl; exact rfl)
          | (apply wbx; exact rfl; exact rfl; exact rfl; intro _)
          | refine wc_block ?_
          | (apply wc_true; exact rfl)
          | (apply wc_false; exact rfl)
          | refine wc_skip ?_
          | refine wc_exit ?_
          | refine wc_ret ?_
          | refine we_then_exit ?_
          | refine we_then_ret ?_
          | refine we_in_normal ?_
          | refine we_in_ret ?_
          | refine we_in_here ?_
          | (apply we_in_there; exact rfl))
        refine wc_plan _ none [(0, true), (1, true), (2, true), (3, true), (4, true), (5, true), (6, true), (7, true), (8, true), (9, true), (10, true), (11, true), (12, true), (13, true), (14, true), (15, true), (16, true), (17, true), (18, true), (19, true), (20, true), (21, true), (22, true), (23, true), (24, true), (25, true), (26, true), (27, true), (28, true), (29, true), (30, true), (31, true), (32, true), (33, true), (34, true)] (by kernel_rfl) (List.Sublist.refl _) ?_
        repeat (first
          | (apply ps; exact rfl; exact rfl; exact rfl; exact rfl)
          | (apply plb (j := 2); exact rfl; exact rfl; exact rfl; exact rfl; exact rfl; exact rfl; exact rfl)
          | (apply plb (j := 0); exact rfl; exact rfl; exact rfl; exact rfl; exact hc34; exact rfl; exact rfl)
          | (apply plo; exact rfl; exact rfl; exact rfl; exact hcl; exact hblx; exact rfl; exact rfl)
          | (apply plo; exact rfl; exact rfl; exact rfl; exact hc0; exact hbx; exact rfl; exact rfl)
          | (apply wp_still; exact rfl; exact rfl; exact rfl; exact (od_indexAddr 0 rfl rfl rfl rfl rfl (by omega)))
          | (apply wp_still; exact rfl; exact rfl; exact rfl; exact (od_loadAP 0 rfl rfl rfl rfl hml hprevs))
          | (apply wp_still; exact rfl; exact rfl; exact rfl; exact (od_loadAB 1 rfl rfl rfl rfl hmh))
          | (apply pfa; exact rfl; exact rfl; exact rfl; exact rfl; exact rfl)
          | (apply pi64; exact rfl; exact rfl; omega; omega; exact rfl; exact rfl)
          | (apply pct; exact rfl; exact rfl; omega; exact rfl; exact rfl)
          | (apply pcf; exact rfl; exact rfl; omega; exact rfl; exact rfl)
          | (apply wp_not; exact rfl; exact rfl; exact rfl)
          | (apply plb (j := 0); exact rfl; exact rfl; exact rfl; exact rfl; exact rfl; exact rfl; exact rfl)
          | (apply plb (j := 1); exact rfl; exact rfl; exact rfl; exact rfl; exact rfl; exact rfl; exact rfl)
          | (apply plb (j := 2); exact rfl; exact rfl; exact rfl; exact rfl; exact rfl; exact rfl; exact rfl)
          | (apply pln; exact rfl; exact rfl; exact rfl; exact rfl; exact rfl)
          | (apply ppu; exact rfl; exact rfl; exact rfl; exact rfl)
          | (apply pfs; exact rfl; exact rfl; exact rfl; exact rfl)
          | apply wp_nil)
        repeat (first
          | (apply ws; exact rfl; exact rfl; exact rfl)
          | (apply wst 3; exact rfl; exact rfl; exact rfl; exact rfl; exact rfl; exact (show (0 : Nat) < 1 from by decide); exact rfl)
          | (apply wst 2; exact rfl; exact rfl; exact rfl; exact rfl; exact rfl; exact (show (0 : Nat) < 1 from by decide); exact rfl)
          | refine wc_seq ?_
          | refine wc_region ?_
          | refine wl_nil ?_
          | refine we_round ?_
          | refine we_then_wc ?_
          | (apply wi64; exact rfl; omega; omega; exact rfl; exact rfl)
          | (apply wfa; exact rfl; exact rfl; exact rfl; exact rfl)
          | (apply wct; exact rfl; omega; exact rfl; exact rfl)
          | (apply wcf; exact rfl; omega; exact rfl; exact rfl)
          | (apply wn; exact rfl; exact rfl)
          | (apply wlb (j := 0); exact rfl; exact rfl; exact rfl; exact rfl; exact rfl; exact rfl)
          | (apply wlb (j := 1); exact rfl; exact rfl; exact rfl; exact rfl; exact rfl; exact rfl)
          | (apply wlb (j := 2); exact rfl; exact rfl; exact rfl; exact rfl; exact rfl; exact rfl)
          | (apply wlb (j := 3); exact rfl; exact rfl; exact rfl; exact rfl; exact rfl; exact rfl)
          | (apply wln; exact rfl; exact rfl; exact rfl; exact rfl)
          | (apply wpu; exact rfl; exact rfl; exact rfl)
          | (apply wbx; exact rfl; exact rfl; exact rfl; intro _)
          | refine wc_block ?_
          | (apply wc_true; exact rfl)
          | (apply wc_false; exact rfl)
          | refine wc_skip ?_
          | refine wc_exit ?_
          | refine wc_ret ?_
          | refine we_then_exit ?_
          | refine we_then_ret ?_
          | refine we_in_normal ?_
          | refine we_in_ret ?_
          | refine we_in_here ?_
          | (apply we_in_there; exact rfl))
        exact ⟨fun a2 B2 _ h2 => hbad (fun hok => by obtain ⟨k1, k2, k3, k4, k5, k6⟩ := hok; omega) a2 B2 h2⟩
    case done =>
      rintro D ys B hD rfl hI hDf
      have hz : chkP xs = 0 := by
        unfold chkP
        rw [if_neg h1024, if_pos]
        rw [List.all_eq_true]
        intro k hk
        have hk' : k < xs.length := by simpa using hk
        have hx : xs[k]? = some xs[k] := List.getElem?_eq_getElem hk'
        have hy : xs[0]? = some xs[0] := List.getElem?_eq_getElem (by omega)
        obtain ⟨p, hp, hp2⟩ := begR_get xs xs 0 h.prevs k _ hx
        have := hI.2 k p hp
        rw [hp2, Nat.zero_add] at this
        rw [okB_iff hx hy, hnd _ hy]
        exact this
      rw [hz]
      have l2 := hck.le
      have hle := hck.lte
      have hB1 : Hp B [be] B [(be, [.int .i64 0], 28)] := Hp.start1 (hI.1.at (j := 1) rfl).2
      refine WE.go (e := .normal) (n := 50) (ds := [{ target := .collected D, args := #[] }]) (env := [(2, .pointer (some ⟨be, 0, none⟩))]) (w0 := B) (ex := [be]) (bs := [(be, [.int .i64 0], 28)]) ?_ _ B ⟨hA.size, by simp [hA.defers], fun t v ht => hA.vals t v (Env.le_get (e := [(2, .pointer (some ⟨be, 0, none⟩))]) ⟨rfl, trivial⟩ ht)⟩ hB1
      repeat (first
        | (apply ws; exact rfl; exact rfl; exact rfl)
        | (apply wst 0; exact rfl; exact rfl; exact rfl; exact rfl; exact rfl; exact (show (0 : Nat) < 1 from by decide); exact rfl)
        | refine wc_seq ?_
        | refine wc_region ?_
        | refine wl_nil ?_
        | refine we_round ?_
        | refine we_then_wc ?_
        | (apply wi64; exact rfl; omega; omega; exact rfl; exact rfl)
        | (apply wfa; exact rfl; exact rfl; exact rfl; exact rfl)
        | (apply wct; exact rfl; omega; exact rfl; exact rfl)
        | (apply wcf; exact rfl; omega; exact rfl; exact rfl)
        | (apply wn; exact rfl; exact rfl)
        | (apply wlb (j := 0); exact rfl; exact rfl; exact rfl; exact rfl; exact rfl; exact rfl)
        | (apply wlb (j := 1); exact rfl; exact rfl; exact rfl; exact rfl; exact rfl; exact rfl)
        | (apply wlb (j := 2); exact rfl; exact rfl; exact rfl; exact rfl; exact rfl; exact rfl)
        | (apply wlb (j := 3); exact rfl; exact rfl; exact rfl; exact rfl; exact rfl; exact rfl)
        | (apply wln; exact rfl; exact rfl; exact rfl; exact rfl)
        | (apply wpu; exact rfl; exact rfl; exact rfl)
        | (apply wbx; exact rfl; exact rfl; exact rfl; intro _)
        | refine wc_block ?_
        | (apply wc_true; exact rfl)
        | (apply wc_false; exact rfl)
        | refine wc_skip ?_
        | refine wc_exit ?_
        | refine wc_ret ?_
        | refine we_then_exit ?_
        | refine we_then_ret ?_
        | refine we_in_normal ?_
        | refine we_in_ret ?_
        | refine we_in_here ?_
        | (apply we_in_there; exact rfl))
      refine we_retM1 0 rfl rfl rfl rfl rfl hDf (by simp; omega) (fun B2 h2 => ⟨rfl, ?_⟩)
      have e1 : Hp W [bi, be] B2 [] := hI.1.join h2 (fun z hz => by simp at hz; subst hz; exact Or.inl (by simp)) (fun _ hm => by cases hm) List.nodup_nil
      have hDB : B2.heap[D]? = some (.deferred (some [])) := (h2.old D (Array.getElem?_eq_some_iff.1 hDf).1 (by simp; omega)).trans hDf
      exact hck.ext2 (e1.putObj _ hD hDB rfl)
    case stop =>
      rintro D cc pre B hD ⟨m, hm⟩ ⟨rfl, hB, k, p, hp, hbad⟩ hDf
      have hz : chkP xs = 80 := by
        unfold chkP
        rw [if_neg h1024, if_neg]
        rw [hm, List.getElem?_take] at hp
        split at hp
        · have hkl : k < xs.length := by
            have := (List.getElem?_eq_some_iff.1 hp).1
            rwa [begR_length] at this
          have hx : xs[k]? = some xs[k] := List.getElem?_eq_getElem hkl
          have hy : xs[0]? = some xs[0] := List.getElem?_eq_getElem (by omega)
          obtain ⟨p', hp', hp2⟩ := begR_get xs xs 0 h.prevs k _ hx
          rw [hp] at hp'
          cases hp'
          intro hall
          rw [List.all_eq_true] at hall
          have := hall k (by simpa using hkl)
          rw [okB_iff hx hy, hnd _ hy] at this
          rw [hp2, Nat.zero_add] at hbad
          exact hbad this
        · cases hp
      rw [hz]
      have l2 := hck.le
      have hle := hck.lte
      have hB1 : Hp B [be] B [(be, [.int .i64 80], 28)] := Hp.start1 (hB.at (j := 0) rfl).2
      refine wpIn_ret ?_
      refine WE.go (e := .ret) (n := 50) (ds := [{ target := .collected D, args := #[] }]) (env := [(2, .pointer (some ⟨be, 0, none⟩))]) (w0 := B) (ex := [be]) (bs := [(be, [.int .i64 80], 28)]) ?_ _ B ⟨hA.size, by simp [hA.defers], fun t v ht => hA.vals t v (Env.le_get (e := [(2, .pointer (some ⟨be, 0, none⟩))]) ⟨rfl, trivial⟩ ht)⟩ hB1
      repeat (first
        | (apply ws; exact rfl; exact rfl; exact rfl)
        | refine wc_seq ?_
        | refine wc_region ?_
        | refine wl_nil ?_
        | refine we_round ?_
        | refine we_then_wc ?_
        | (apply wi64; exact rfl; omega; omega; exact rfl; exact rfl)
        | (apply wfa; exact rfl; exact rfl; exact rfl; exact rfl)
        | (apply wct; exact rfl; omega; exact rfl; exact rfl)
        | (apply wcf; exact rfl; omega; exact rfl; exact rfl)
        | (apply wn; exact rfl; exact rfl)
        | (apply wlb (j := 0); exact rfl; exact rfl; exact rfl; exact rfl; exact rfl; exact rfl)
        | (apply wlb (j := 1); exact rfl; exact rfl; exact rfl; exact rfl; exact rfl; exact rfl)
        | (apply wlb (j := 2); exact rfl; exact rfl; exact rfl; exact rfl; exact rfl; exact rfl)
        | (apply wlb (j := 3); exact rfl; exact rfl; exact rfl; exact rfl; exact rfl; exact rfl)
        | (apply wln; exact rfl; exact rfl; exact rfl; exact rfl)
        | (apply wpu; exact rfl; exact rfl; exact rfl)
        | (apply wbx; exact rfl; exact rfl; exact rfl; intro _)
        | refine wc_block ?_
        | (apply wc_true; exact rfl)
        | (apply wc_false; exact rfl)
        | refine wc_skip ?_
        | refine wc_exit ?_
        | refine wc_ret ?_
        | refine we_then_exit ?_
        | refine we_then_ret ?_
        | refine we_in_normal ?_
        | refine we_in_ret ?_
        | refine we_in_here ?_
        | (apply we_in_there; exact rfl))
      refine we_retM1 0 rfl rfl rfl rfl rfl hDf (by simp; omega) (fun B2 h2 => ⟨rfl, ?_⟩)
      have e1 : Hp W [bi, be] B2 [] := hB.join h2 (fun z hz => by simp at hz; subst hz; exact Or.inl (by simp)) (fun _ hm => by cases hm) List.nodup_nil
      have hDB : B2.heap[D]? = some (.deferred (some [])) := (h2.old D (Array.getElem?_eq_some_iff.1 hDf).1 (by simp; omega)).trans hDf
      exact hck.ext2 (e1.putObj _ hD hDB rfl)

end Go.Proofs.YtielloijdkoeiaaDoor
