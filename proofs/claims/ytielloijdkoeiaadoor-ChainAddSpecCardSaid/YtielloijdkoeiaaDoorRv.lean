/- Arguments opened: bytes, links, lists of them. -/
import Derived.Deep.Slices
import Derived.Test.YtielloijdkoeiaaDoorRu
import Derived.Test.YtielloijdkoeiaaDoorLa
namespace Go.Proofs.YtielloijdkoeiaaDoor
open Go.ChangeShapes Go.WideShapes Go.ChangeAt Go.RowKit
set_option maxRecDepth 100000

theorem list_of {α : Type} (P : Nat → α → Prop) : ∀ (n : Nat), (∀ i, i < n → ∃ c, P i c) → ∃ l : List α, l.length = n ∧ ∀ (i : Nat) (x : α), l[i]? = some x → P i x
  | 0, _ => ⟨[], rfl, fun i x h => by simp at h⟩
  | n + 1, h => by
    obtain ⟨l, hl, hp⟩ := list_of P n (fun i hi => h i (by omega))
    obtain ⟨c, hc⟩ := h n (by omega)
    refine ⟨l ++ [c], by simp [hl], fun i x hx => ?_⟩
    rcases Nat.lt_trichotomy i n with hi | hi | hi
    · rw [List.getElem?_append_left (by omega)] at hx
      exact hp i x hx
    · subst hi
      rw [List.getElem?_append_right (by omega), hl, Nat.sub_self] at hx
      simp at hx
      subst hx
      exact hc
    · rw [List.getElem?_eq_none (by simp; omega)] at hx
      cases hx

theorem cells5 : Tryd.prog.cellsOf 5 = 1 := by kernel_rfl
theorem cells43 : Tryd.prog.cellsOf 43 = 1 := by kernel_rfl
theorem cells53 : Tryd.prog.cellsOf 53 = 32 := by kernel_rfl
theorem cells55 : Tryd.prog.cellsOf 55 = 35 := by kernel_rfl

section
variable {H : Type} {enc : TypeId × Value → H} {W : World} {fuel : Nat} {cs : List Value} {x : DataW H × List MemPlace} {base : Nat} {spare : Nat → Bool} {held : Bool}

theorem trod_u8 (h : DataW.trod enc Tryd.prog W base spare held fuel 5 cs = some x) : ∃ c : UInt8, cs = [v8 c] := by
  obtain ⟨n, rfl, _, hw⟩ := DataW.trod_int (U_ok (t := 5) rfl) h
  have hb : 0 ≤ n ∧ n ≤ 255 := by
    simp [Lit.wf, IntKind.min, IntKind.max, IntKind.signed, IntKind.bits] at hw
    omega
  refine ⟨UInt8.ofNat n.toNat, ?_⟩
  have : ((UInt8.ofNat n.toNat).toNat : Int) = n := by
    simp only [UInt8.toNat_ofNat']
    omega
  rw [v8, this]

theorem spot_none {a : Addr} {v : Value} (h : W.cell? a = some v) : a = ⟨a.block, a.off, none⟩ := by
  obtain ⟨b, o, s⟩ := a
  cases s with
  | none => rfl
  | some s =>
    unfold World.cell? at h
    split at h <;> simp at h

theorem trod_bytes (h : DataW.trod enc Tryd.prog W base (fun _ => true) held fuel 43 cs = some x) : ∃ a c l, cs = [.slice a l.length c] ∧ ByA W a c l := by
  rcases Go.Deep.open_slice1 (U_ok (t := 43) rfl) cells5 h with ⟨rfl, _⟩ | ⟨a, len, cap, m, n, V, D, Pl, rfl, _, hlc, _, hm, _, hx⟩
  · exact ⟨none, 0, [], rfl, ByA.nil W⟩
  · simp at hm
    subst hm
    obtain ⟨l, hl, hp⟩ := list_of (fun i (c : UInt8) => W.cell? (a.add i) = some (v8 c)) len (fun i hi => by
      obtain ⟨h1, h2⟩ := hx i (by omega)
      obtain ⟨c, hc⟩ := trod_u8 h2
      simp at hc
      exact ⟨c, by rw [h1, hc]⟩)
    subst hl
    refine ⟨some a, m, l, rfl, hlc, by simp, ?_⟩
    cases hl0 : l with
    | nil => exact Or.inl rfl
    | cons y r =>
      right
      have h0 : W.cell? (a.add 0) = some (v8 y) := hp 0 y (by rw [hl0]; rfl)
      have ha := spot_none (a := a) h0
      refine ⟨a.block, a.off, by rw [← ha], fun i z hz => ?_⟩
      have := hp i z (by rw [hl0]; exact hz)
      rw [ha] at this
      rwa [addr_add] at this

theorem take1 {l : List Value} {k : Nat} {v : Value} (h : (l.drop k).take 1 = [v]) : l[k]? = some v := by
  have : ((l.drop k).take 1)[0]? = some v := by rw [h]; rfl
  rw [List.getElem?_take, if_pos (by omega), List.getElem?_drop, Nat.add_zero] at this
  exact this

theorem trod_digest (h : DataW.trod enc Tryd.prog W base spare held fuel 53 cs = some x) : ∃ l : List UInt8, l.length = 32 ∧ cs = l.map v8 := by
  obtain ⟨xs, m, rfl, hx, hl, hn, hel⟩ := DataW.trod_array (U_ok (t := 53) rfl) h
  rw [cells53] at hl
  obtain ⟨l, hll, hp⟩ := list_of (fun i (c : UInt8) => cs[i]? = some (v8 c)) 32 (fun i hi => by
    have h1 := hel i hi
    rw [cells5, Nat.mul_one] at h1
    have hxi : xs[i]? = some xs[i] := List.getElem?_eq_getElem (by omega)
    rw [hxi] at h1
    obtain ⟨c, hc⟩ := trod_u8 h1
    exact ⟨c, take1 hc⟩)
  refine ⟨l, hll, List.ext_getElem? fun i => ?_⟩
  rcases Nat.lt_or_ge i 32 with hi | hi
  · have hli : l[i]? = some l[i] := List.getElem?_eq_getElem (by omega)
    rw [hp i _ hli, List.getElem?_map, hli]
    rfl
  · rw [List.getElem?_eq_none (by omega), List.getElem?_eq_none (by simp; omega)]

theorem trod_lnk (h : DataW.trod enc Tryd.prog W base (fun _ => true) held fuel 55 cs = some x) : ∃ y : Lnk, y.ok W ∧ cs = y.cells := by
  obtain ⟨xs, n, rfl, hx, hl, hn, hel⟩ := DataW.trod_struct (U_ok (t := 55) rfl) h
  rw [cells55] at hl
  match xs, hn with
  | [x0, x1, x2, x3], _ =>
    have h0 := hel 0 _ rfl
    have h1 := hel 1 _ rfl
    have h2 := hel 2 _ rfl
    have h3 := hel 3 _ rfl
    simp only [fl] at h0 h1 h2 h3
    obtain ⟨a, ea, _, wa⟩ := DataW.trod_int (U_ok (t := 3) rfl) (show DataW.trod enc Tryd.prog W base (fun _ => true) held n 3 ((cs.drop 0).take 1) = some x0 from h0)
    obtain ⟨b, eb, _, wb⟩ := DataW.trod_int (U_ok (t := 3) rfl) (show DataW.trod enc Tryd.prog W base (fun _ => true) held n 3 ((cs.drop 1).take 1) = some x1 from h1)
    obtain ⟨p, hp, ep⟩ := trod_digest (show DataW.trod enc Tryd.prog W base (fun _ => true) held n 53 ((cs.drop 2).take 32) = some x2 from h2)
    obtain ⟨da, dc, l, el, hby⟩ := trod_bytes (show DataW.trod enc Tryd.prog W base (fun _ => true) held n 43 ((cs.drop 34).take 1) = some x3 from h3)
    refine ⟨{ node := a, no := b, prev := p, data := l, da := da, dc := dc }, ⟨wf64 wa, wf64 wb, hp, hby⟩, ?_⟩
    have e1 : cs = cs.take 1 ++ ((cs.drop 1).take 1 ++ ((cs.drop 2).take 32 ++ (cs.drop 34).take 1)) := by
      have d1 : cs = cs.take 1 ++ cs.drop 1 := (List.take_append_drop 1 cs).symm
      have d2 : cs.drop 1 = (cs.drop 1).take 1 ++ cs.drop 2 := by
        have := (List.take_append_drop 1 (cs.drop 1)).symm
        rwa [List.drop_drop] at this
      have d3 : cs.drop 2 = (cs.drop 2).take 32 ++ cs.drop 34 := by
        have := (List.take_append_drop 32 (cs.drop 2)).symm
        rwa [List.drop_drop] at this
      have d4 : (cs.drop 34).take 1 = cs.drop 34 := List.take_of_length_le (by simp; omega)
      rw [d4, ← d3, ← d2, ← d1]
    rw [e1, eb, ep, el]
    have ea' : cs.take 1 = [.int .i64 a] := ea
    rw [ea']
    rfl
end

section
variable {H : Type} {enc : TypeId × Value → H} {W : World} {base : Nat} {v : Value} {d : DataW H} {ps : List MemPlace}

theorem open_bytesA (hval : Value.okWide Tryd.prog W .any base 43 v) (hd : DataW.Trod enc Tryd.prog W 0 (fun _ => true) true 43 v d ps) : ∃ a c l, v = .slice a l.length c ∧ ByA W a c l := by
  obtain ⟨a, n, c, rfl⟩ := okWide_slice (U_ok (t := 43) rfl) hval
  obtain ⟨fuel, hf⟩ := hd
  obtain ⟨a', c', l, e, hb⟩ := trod_bytes hf
  simp only [Value.cells] at e
  cases e
  exact ⟨a, c, l, rfl, hb⟩

theorem open_lnk (hval : Value.okWide Tryd.prog W .any base 55 v) (hd : DataW.Trod enc Tryd.prog W 0 (fun _ => true) true 55 v d ps) : ∃ y : Lnk, v = y.v ∧ y.ok W := by
  obtain ⟨cs, rfl, hsz⟩ := okWide_struct (U_ok (t := 55) rfl) hval
  obtain ⟨fuel, hf⟩ := hd
  obtain ⟨y, hy, e⟩ := trod_lnk hf
  simp only [Value.cells] at e
  exact ⟨y, by rw [Lnk.v, ← e], hy⟩

theorem open_u8 (hval : Value.okWide Tryd.prog W .any base 5 v) (hd : DataW.Trod enc Tryd.prog W 0 (fun _ => true) true 5 v d ps) : ∃ c : UInt8, v = v8 c := by
  obtain ⟨n, rfl⟩ := okWide_int (U_ok (t := 5) rfl) hval
  obtain ⟨fuel, hf⟩ := hd
  obtain ⟨c, e⟩ := trod_u8 hf
  simp only [Value.cells] at e
  cases e
  exact ⟨c, rfl⟩

theorem open_links (hval : Value.okWide Tryd.prog W .any base 42 v) (hd : DataW.Trod enc Tryd.prog W 0 (fun _ => true) true 42 v d ps) : ∃ a c xs, v = .slice a xs.length c ∧ LkA W a c xs := by
  obtain ⟨a, n, c, rfl⟩ := okWide_slice (U_ok (t := 42) rfl) hval
  obtain ⟨fuel, hf⟩ := hd
  rcases Go.Deep.open_slice (U_ok (t := 42) rfl) hf with ⟨e, _⟩ | ⟨a', len, cap, m, k, D, Pl, e, _, hlc, _, hm, _, hx⟩
  · simp only [Value.cells] at e
    cases e
    exact ⟨none, 0, [], rfl, LkA.nil W⟩
  · simp only [Value.cells] at e
    cases e
    simp at hm
    subst hm
    rw [cells55] at hx
    obtain ⟨xs, hl, hp⟩ := list_of (fun i (y : Lnk) => y.ok W ∧ ∀ j v, y.cells[j]? = some v → W.cell? ((a'.add (i * 35)).add j) = some v) n (fun i hi => by
      obtain ⟨cs', h1, h2⟩ := hx i (by omega)
      obtain ⟨y, hy, rfl⟩ := trod_lnk h2
      obtain ⟨_, hlen, hc⟩ := World.cells?_some h1
      exact ⟨y, hy, fun j v hv => by
        rw [hc j (by have := (List.getElem?_eq_some_iff.1 hv).1; omega)]; exact hv⟩)
    subst hl
    refine ⟨some a', m, xs, rfl, hlc, by simp, ?_⟩
    cases hl0 : xs with
    | nil => exact Or.inl rfl
    | cons y r =>
      right
      have h0 : W.cell? ((a'.add (0 * 35)).add 0) = some (.int .i64 y.node) := (hp 0 y (by rw [hl0]; rfl)).2 0 _ rfl
      have ha := spot_none (a := a') h0
      refine ⟨a'.block, a'.off, by rw [← ha], fun i z hz => ?_⟩
      obtain ⟨h1, h2⟩ := hp i z (by rw [hl0]; exact hz)
      refine ⟨h1, fun j v hv => ?_⟩
      have := h2 j v hv
      rw [ha] at this
      rwa [addr_add, addr_add] at this
end

/-! ### A list of bytes -/
structure Bd where
  data : List UInt8
  da : Option Addr
  dc : Nat
def Bd.v (x : Bd) : Value := .slice x.da x.data.length x.dc
def BdA (w : World) (a : Option Addr) (c : Nat) (xs : List Bd) : Prop :=
  xs.length ≤ c ∧ (a = none → c = 0) ∧ (xs = [] ∨ ∃ b o, a = some ⟨b, o, none⟩ ∧ ∀ k x, xs[k]? = some x → ByA w x.da x.dc x.data ∧ w.cell? ⟨b, o + k, none⟩ = some x.v)
theorem BdA.ext {w w' : World} {a : Option Addr} {c : Nat} {xs : List Bd} (h : BdA w a c xs) (k : Ext w w') : BdA w' a c xs := by
  obtain ⟨h1, h2, h3⟩ := h
  refine ⟨h1, h2, h3.imp id ?_⟩
  rintro ⟨b, o, e, h⟩
  exact ⟨b, o, e, fun j x hx => ⟨(h j x hx).1.ext k, by rw [k.cell (p := ⟨b, o + j, none⟩) (cell_lt (h j x hx).2)]; exact (h j x hx).2⟩⟩
theorem BdA.get {w : World} {a : Option Addr} {c : Nat} {xs : List Bd} (h : BdA w a c xs) (k : Nat) (hk : k < xs.length) : ∃ x b o, xs[k]? = some x ∧ a = some ⟨b, o, none⟩ ∧ ByA w x.da x.dc x.data ∧ w.cell? ⟨b, o + k, none⟩ = some x.v := by
  have hx : xs[k]? = some xs[k] := List.getElem?_eq_getElem hk
  obtain ⟨-, -, e | ⟨b, o, e, h⟩⟩ := h
  · rw [e] at hk; simp at hk
  · exact ⟨_, b, o, hx, e, h k _ hx⟩

section
variable {H : Type} {enc : TypeId × Value → H} {W : World} {base : Nat} {v : Value} {d : DataW H} {ps : List MemPlace}
theorem open_bytess (hval : Value.okWide Tryd.prog W .any base 51 v) (hd : DataW.Trod enc Tryd.prog W 0 (fun _ => true) true 51 v d ps) : ∃ a c xs, v = .slice a xs.length c ∧ BdA W a c xs := by
  obtain ⟨a, n, c, rfl⟩ := okWide_slice (U_ok (t := 51) rfl) hval
  obtain ⟨fuel, hf⟩ := hd
  rcases Go.Deep.open_slice1 (U_ok (t := 51) rfl) cells43 hf with ⟨e, _⟩ | ⟨a', len, cap, m, k, V, D, Pl, e, _, hlc, _, hm, _, hx⟩
  · simp only [Value.cells] at e
    cases e
    exact ⟨none, 0, [], rfl, Nat.le_refl _, fun _ => rfl, Or.inl rfl⟩
  · simp only [Value.cells] at e
    cases e
    simp at hm
    subst hm
    obtain ⟨xs, hl, hp⟩ := list_of (fun i (y : Bd) => ByA W y.da y.dc y.data ∧ W.cell? (a'.add i) = some y.v) n (fun i hi => by
      obtain ⟨h1, h2⟩ := hx i (by omega)
      obtain ⟨da, dc, l, e, hb⟩ := trod_bytes h2
      simp at e
      exact ⟨{ data := l, da := da, dc := dc }, hb, by rw [h1, e]; rfl⟩)
    subst hl
    refine ⟨some a', m, xs, rfl, hlc, by simp, ?_⟩
    cases hl0 : xs with
    | nil => exact Or.inl rfl
    | cons y r =>
      right
      have h0 : W.cell? (a'.add 0) = some y.v := (hp 0 y (by rw [hl0]; rfl)).2
      have ha := spot_none (a := a') h0
      refine ⟨a'.block, a'.off, by rw [← ha], fun i z hz => ?_⟩
      obtain ⟨h1, h2⟩ := hp i z (by rw [hl0]; exact hz)
      rw [ha] at h2
      rw [addr_add] at h2
      exact ⟨h1, h2⟩
end
end Go.Proofs.YtielloijdkoeiaaDoor
