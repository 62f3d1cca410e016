/- Layer 8: chain.beginnings, chain.Check: a range over the iterator. -/
import Derived.Test.YtielloijdkoeiaaDoorLc
namespace Go.Proofs.YtielloijdkoeiaaDoor
open Go Go.RowKit Go.Lib
set_option maxRecDepth 100000

/-! ### A function that holds a range over a function -/
theorem fn_of_marks {f : FuncId} {fn : Func} {c : Code} {args : List Value} {n : Nat} {w0 : World} {ex : List Nat} {bs : Blks} {Φ : Value → World → Prop} (hf : Tryd.prog.funcs[f]? = some fn) (hb : fn.body = some c) (hn : fn.ntmps = n)
    (hl : Nat.ble args.length n = true) (hh : Hp w0 ex w0 bs) (h : WC none c (bodyPostM Fence.wide 0 Tryd.prog fn (Ret Φ)) n [] (argsEnv 0 args) w0 ex bs) : Fn f args w0 Φ := by
  refine ⟨callsIn_wide.1 (callsIn_of_wp_marks (F := Fence.wide) (n := 0) hf hb trivial ?_)⟩
  rw [hn]
  exact h.go _ _ (sat_start (by simpa using hl)) hh

section
variable {fn : Func} {n : Nat} {env : Env} {w0 : World} {ex : List Nat} {bs : Blks} {Φ : Value → World → Prop}
/-- Back without a mark: one result, in a cell. -/
theorem we_retM0 {t ty b : Nat} {v : Value} {cs : List Value} {T : TypeId} (j : Nat) (hres : fn.results = #[.cell t ty]) (ht : get env t = some (.pointer (some ⟨b, 0, none⟩))) (hj : bs[j]? = some (b, cs, T)) (ha : agg? ty = some false) (hv : cs[0]? = some v)
    (hΦ : ∀ w, Hp w0 ex w bs → Φ v w) : WE (bodyPostM Fence.wide 0 Tryd.prog fn (Ret Φ)) .ret n [] env w0 ex bs := by
  refine ⟨fun a w hs hh => ?_⟩
  have h1 := hs.vals _ _ ht
  have h2 := hh.cell_blk hj hv
  show LeavesInM _ _ _ _ _ _ a.defers _ _
  rw [hs.defers]
  exact ⟨v, by simp [results, hres, h1, asAddr, loadVar, run_isAgg ha, h2], v, rfl, hΦ w hh⟩
/-- Back with one mark, whose block holds no deferred call. -/
theorem we_retM1 {t ty b D : Nat} {v : Value} {cs : List Value} {T : TypeId} (j : Nat) (hres : fn.results = #[.cell t ty]) (ht : get env t = some (.pointer (some ⟨b, 0, none⟩))) (hj : bs[j]? = some (b, cs, T)) (ha : agg? ty = some false) (hv : cs[0]? = some v)
    (hD : w0.heap[D]? = some (.deferred (some []))) (hDx : D ∉ ex) (hΦ : ∀ w, Hp w0 ex w bs → Φ v (w.putObj D (.deferred none))) :
    WE (bodyPostM Fence.wide 0 Tryd.prog fn (Ret Φ)) .ret n [{ target := .collected D, args := #[] }] env w0 ex bs := by
  refine ⟨fun a w hs hh => ?_⟩
  have h1 := hs.vals _ _ ht
  have hlt : D < w0.heap.size := (Array.getElem?_eq_some_iff.1 hD).1
  have hD' : w.heap[D]? = some (.deferred (some [])) := (hh.old D hlt hDx).trans hD
  have hB := (hh.at hj).2
  have hne : b ≠ D := fun e => by
    obtain ⟨fr, hb, -⟩ := hB
    rw [e, hD'] at hb
    cases hb
  have h2 : (w.putObj D (.deferred none)).cell? ⟨b, 0, none⟩ = some v := by
    rw [World.cell?_of_block (w := w) (w' := w.putObj D (.deferred none)) (a := ⟨b, 0, none⟩) (World.putObj_heap_other hne), hB.cell]; exact hv
  show LeavesInM _ _ _ _ _ _ a.defers _ _
  rw [hs.defers]
  refine ⟨by simp, Or.inl ⟨D, _, rfl, run_takeDeferred hD', ?_⟩⟩
  exact ⟨v, by simp [results, hres, h1, asAddr, loadVar, run_isAgg ha, h2], v, rfl, hΦ w hh⟩
end

/-! ### The heap across a step that turns what holds no cells -/
theorem Ext.grown {w w' : World} (h : Ext w w') : w.grownBy w' none := ⟨h.os, h.tape, h.output, h.size, fun k hk _ => h.block k hk⟩

theorem Blk.grown {A B : World} {row : Option Nat} {b : Nat} {cs : List Value} {T : TypeId} (h : Blk A b cs T) (hg : A.grownBy B row) (hr : ∀ r, row = some r → ∃ o : Obj, A.heap[r]? = some o ∧ o.isCells = false) : Blk B b cs T := by
  refine h.of_heap (hg.block b h.lt (fun e => ?_))
  obtain ⟨o, ho, hc⟩ := hr b e.symm
  obtain ⟨fr, hb, -⟩ := h
  rw [hb] at ho
  cases ho
  cases hc

theorem Hp.grown {W A B : World} {ex : List Nat} {bs : Blks} {row : Option Nat} (h : Hp W ex A bs) (hg : A.grownBy B row) (hr : ∀ r, row = some r → W.heap.size ≤ r ∧ ∃ o : Obj, A.heap[r]? = some o ∧ o.isCells = false) : Hp W ex B bs :=
  ⟨hg.os.trans h.os, hg.tape.trans h.tape, hg.output.trans h.output, Nat.le_trans h.size hg.size,
   fun k hk hx => (hg.block k (Nat.lt_of_lt_of_le hk h.size) (fun e => by have := (hr k e.symm).1; omega)).trans (h.old k hk hx),
   fun x hx => ⟨(h.blk x hx).1, (h.blk x hx).2.grown hg (fun r e => (hr r e).2)⟩, h.nodup⟩

theorem Hp.putObj {W A : World} {ex : List Nat} {bs : Blks} {l : Nat} {o : Obj} (o' : Obj) (h : Hp W ex A bs) (hl : W.heap.size ≤ l) (ho : A.heap[l]? = some o) (hc : o.isCells = false) : Hp W ex (A.putObj l o') bs :=
  h.grown (grownBy_putObj' A l o') (fun r e => by cases e; exact ⟨hl, o, ho, hc⟩)

/-- Two stretches of a walk, the second with more blocks that may turn, joined: of those none lay in the first world, or they are the first's own. -/
theorem Hp.join {W A B : World} {ex ex2 : List Nat} {bs bs2 bs3 : Blks} (h : Hp W ex A bs) (k : Hp A ex2 B bs2) (hx : ∀ b ∈ ex2, b ∈ ex ∨ W.heap.size ≤ b) (h3 : ∀ x ∈ bs3, x ∈ bs2 ∧ (x.1 ∈ ex ∨ W.heap.size ≤ x.1)) (hn : (bs3.map (·.1)).Nodup) : Hp W ex B bs3 :=
  ⟨k.os.trans h.os, k.tape.trans h.tape, k.output.trans h.output, Nat.le_trans h.size k.size,
   fun i hi hix => (k.old i (Nat.lt_of_lt_of_le hi h.size) (fun hm => by rcases hx i hm with h1 | h1; exact hix h1; omega)).trans (h.old i hi hix),
   fun x hm => ⟨(h3 x hm).2.symm, (k.blk x (h3 x hm).1).2⟩, hn⟩

theorem Hp.to_ext {w0 W A : World} {bs0 : Blks} {ex : List Nat} {bs : Blks} (h : Hp w0 [] W bs0) (k : Hp W ex A bs) (hx : ∀ b ∈ ex, w0.heap.size ≤ b) : Ext w0 A :=
  (h.join k (fun b hb => Or.inr (hx b hb)) (bs3 := []) (fun _ hm => by cases hm) List.nodup_nil).ext_all

theorem Hp.keepsFrom {W A : World} {ex : List Nat} {bs : Blks} {B : Nat} (h : Hp W ex A bs) (hx : ∀ b ∈ ex, b < B ∨ ∃ cs T fr, W.heap[b]? = some (.cells cs T fr)) : KeepsFrom B W A := by
  refine ⟨h.size, fun k o hB hk hc => ?_⟩
  rw [h.old k (Array.getElem?_eq_some_iff.1 hk).1 (fun hm => ?_)]
  · exact hk
  · rcases hx k hm with h1 | ⟨cs, T, fr, h1⟩
    · omega
    · rw [h1] at hk
      cases hk
      cases hc

/-! ### What Check finds -/
def okB (xs : List Lnk) (k : Nat) : Bool :=
  match xs[k]?, xs[0]? with
  | some x, some y => decide (x.node = y.node ∧ ¬ x.node < 0 ∧ ¬ 24 ≤ x.node ∧ x.no = (k : Int) ∧ x.data.length ≤ 65536 ∧ x.prev = headP (xs.take k))
  | _, _ => false
def chkP (xs : List Lnk) : Int := if 1024 < xs.length then 2 else if (List.range xs.length).all (okB xs) then 0 else 80

theorem okB_iff {xs : List Lnk} {k : Nat} {x y : Lnk} (hx : xs[k]? = some x) (hy : xs[0]? = some y) :
    okB xs k = true ↔ (x.node = y.node ∧ ¬ x.node < 0 ∧ ¬ 24 ≤ x.node ∧ x.no = (k : Int) ∧ x.data.length ≤ 65536 ∧ x.prev = headP (xs.take k)) := by
  unfold okB
  rw [hx, hy]
  simp

/-- A link, and a head beside it. -/
abbrev LH := { p : Lnk × List UInt8 // p.1.prev.length = 32 ∧ p.2.length = 32 }
/-- What the iterator hands out. -/
def begR (all : List Lnk) : (k : Nat) → (xs : List Lnk) → (∀ x ∈ xs, x.prev.length = 32) → List LH
  | _, [], _ => []
  | k, x :: r, h => ⟨(x, headP (all.take k)), h x (by simp), headP_length _⟩ :: begR all (k + 1) r (fun y hy => h y (by simp [hy]))
theorem begR_length (all : List Lnk) : ∀ (xs : List Lnk) (k : Nat) (h : ∀ x ∈ xs, x.prev.length = 32), (begR all k xs h).length = xs.length
  | [], _, _ => rfl
  | x :: r, k, h => by simp [begR, begR_length all r]
theorem begR_get (all : List Lnk) : ∀ (xs : List Lnk) (k : Nat) (h : ∀ x ∈ xs, x.prev.length = 32) (i : Nat) (x : Lnk), xs[i]? = some x → ∃ p, (begR all k xs h)[i]? = some p ∧ p.1 = (x, headP (all.take (k + i)))
  | [], _, _, i, x, hx => by simp at hx
  | y :: r, k, h, 0, x, hx => by
    simp at hx; subst hx
    exact ⟨_, rfl, rfl⟩
  | y :: r, k, h, i + 1, x, hx => by
    simp only [List.getElem?_cons_succ] at hx
    obtain ⟨p, e, e2⟩ := begR_get all r (k + 1) (fun z hz => h z (by simp [hz])) i x hx
    rw [show k + 1 + i = k + (i + 1) by omega] at e2
    exact ⟨p, by simp only [begR, List.getElem?_cons_succ]; exact e, e2⟩
/-- Link p, at place k of a chain whose first link is of this node, is as a chain wants it. -/
def okP (nd : Int) (p : Lnk × List UInt8) (k : Nat) : Prop := p.1.node = nd ∧ ¬ p.1.node < 0 ∧ ¬ 24 ≤ p.1.node ∧ p.1.no = (k : Int) ∧ p.1.data.length ≤ 65536 ∧ p.1.prev = p.2

theorem chain_beginnings (a : Option Addr) (n c : Nat) (w : World) : Fn 56 [.slice a n c] w (Makes (ι := Unit) (fun _ b => .func (.func 67) #[] #[.pointer (some ⟨b, 0, none⟩)]) (fun _ => True) (fun _ => [.slice a n c]) 42 w) := by
  refine fn_of (args := [.slice a n c]) Tryd.func56 rfl Tryd.ntmps56 rfl (Hp.start w) ?_
  repeat (first
    | (apply ws; exact rfl; exact rfl; exact rfl)
    | refine wc_seq ?_
    | refine wc_region ?_
    | refine wl_nil ?_
    | refine we_round ?_
    | refine we_then_wc ?_
    | (apply wi64; exact rfl; omega; omega; exact rfl; exact rfl)
    | (apply wfa; exact rfl; exact rfl; exact rfl; exact rfl)
    | (apply wct; exact rfl; omega; exact rfl; exact rfl)
    | (apply wcf; exact rfl; omega; exact rfl; exact rfl)
    | (apply wn; exact rfl; exact rfl)
    | (apply wlb (j := 0); exact rfl; exact rfl; exact rfl; exact rfl; exact rfl; exact rfl)
    | (apply wlb (j := 1); exact rfl; exact rfl; exact rfl; exact rfl; exact rfl; exact rfl)
    | (apply wlb (j := 2); exact rfl; exact rfl; exact rfl; exact rfl; exact rfl; exact rfl)
    | (apply wlb (j := 3); exact rfl; exact rfl; exact rfl; exact rfl; exact rfl; exact rfl)
    | (apply wln; exact rfl; exact rfl; exact rfl; exact rfl)
    | (apply wpu; exact rfl; exact rfl; exact rfl)
    | (apply wbx; exact rfl; exact rfl; exact rfl; intro _)
    | refine wc_block ?_
    | (apply wc_true; exact rfl)
    | (apply wc_false; exact rfl)
    | refine wc_skip ?_
    | refine wc_exit ?_
    | refine wc_ret ?_
    | refine we_then_exit ?_
    | refine we_then_ret ?_
    | refine we_in_normal ?_
    | refine we_in_ret ?_
    | refine we_in_here ?_
    | (apply we_in_there; exact rfl))
  refine we_ret1 (Or.inl rfl) rfl rfl fun w' h => ?_
  have hb := h.at (j := 0) rfl
  exact ⟨(), _, rfl, trivial, hb.1.resolve_right (by simp), h.ext_all, hb.2⟩
end Go.Proofs.YtielloijdkoeiaaDoor
