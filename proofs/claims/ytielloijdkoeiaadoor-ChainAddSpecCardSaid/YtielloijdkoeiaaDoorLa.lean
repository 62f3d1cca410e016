/- Links of a chain as memory holds them: how they read, that the reading stays, and the laws of the operations on them. -/
import Derived.Laws.Cover3
import Derived.Test.YtielloijdkoeiaaDoorGd
import Derived.Test.YtielloijdkoeiaaDoorKk
namespace Go.Proofs.YtielloijdkoeiaaDoor
open Go Go.RowKit Go.Lib
set_option maxRecDepth 100000

/-! ### Bytes -/
/-- Bytes behind a slice's place (nil or not). -/
def ByA (w : World) (a : Option Addr) (c : Nat) (l : List UInt8) : Prop :=
  l.length ≤ c ∧ (a = none → c = 0) ∧ (l = [] ∨ ∃ b o, a = some ⟨b, o, none⟩ ∧ ∀ i x, l[i]? = some x → w.cell? ⟨b, o + i, none⟩ = some (v8 x))

theorem ByA.ext {w w' : World} {a : Option Addr} {c : Nat} {l : List UInt8} (h : ByA w a c l) (k : Ext w w') : ByA w' a c l := by
  obtain ⟨h1, h2, h3⟩ := h
  refine ⟨h1, h2, h3.imp id ?_⟩
  rintro ⟨b, o, e, h⟩
  exact ⟨b, o, e, fun i x hx => by rw [k.cell (p := ⟨b, o + i, none⟩) (cell_lt (h i x hx))]; exact h i x hx⟩

theorem ByA.bs {w : World} {a : Option Addr} {c : Nat} {l : List UInt8} (h : ByA w a c l) : Bs w (.slice a l.length c) l := by
  obtain ⟨h1, h2, h3⟩ := h
  rcases h3 with rfl | ⟨b, o, rfl, h⟩
  · refine ⟨a, c, rfl, Nat.zero_le _, Or.inl rfl, fun w' _ => ?_⟩
    cases a with
    | none => rfl
    | some a => simp [Builtin.firstCells, loadCells, loadCellsFrom]
  · exact Bs.rd ⟨b, o, c, rfl, h1, h⟩

theorem ByA.of_rd {w : World} {b o c : Nat} {l : List UInt8} (hc : l.length ≤ c) (h : ∀ i x, l[i]? = some x → w.cell? ⟨b, o + i, none⟩ = some (v8 x)) : ByA w (some ⟨b, o, none⟩) c l :=
  ⟨hc, by simp, Or.inr ⟨b, o, rfl, h⟩⟩
theorem ByA.nil (w : World) : ByA w none 0 [] := ⟨Nat.le_refl _, fun _ => rfl, Or.inl rfl⟩

section
variable {env : Env} {w0 : World} {ex : List Nat} {bs : Blks} {d : Option Nat} {ty : TypeId} {pos : String} {af : Array Edge} {g : Option (Nat × Bool)}

theorem run_toStr {w : World} {a : Option Addr} {c src dst : Nat} {l : List UInt8} (hs : lk tU src = some (.slice 5)) (hd : lk tU dst = some .string) (h : ByA w a c l) :
    (convert src dst (.slice a l.length c)).run Tryd.prog w = .ok (strV l) w := by
  obtain ⟨h1, h2, h3⟩ := h
  cases a with
  | none =>
    have h0 := h2 rfl
    have hl : l = [] := List.eq_nil_of_length_eq_zero (by omega)
    subst hl
    rw [run_convert_bytes_string (P := Tryd.prog) w src dst 5 none _ _ (U_ok hs) (U_ok (t := 5) rfl) (U_ok hd)]
    simp [strV, Conv.bytesToString, ByteArray.empty, ByteArray.emptyWithCapacity]
    try rfl
  | some a =>
    refine run_convert_bytes_back (P := Tryd.prog) w src dst 5 a c l (U_ok hs) (U_ok (t := 5) rfl) (U_ok hd) (fun j hj => ?_)
    rcases h3 with rfl | ⟨b, o, e, h⟩
    · simp at hj
    · cases e
      rw [addr_add]; exact h j _ (by simp [hj])

/-- string(b). -/
theorem od_toStr {x : Operand} {a : Option Addr} {c src dst : Nat} {l : List UInt8} (hx : ev env x = some (.slice a l.length c)) (hs : lk tU src = some (.slice 5)) (hd : lk tU dst = some .string) (h : ∀ w, Hp w0 ex w bs → ByA w a c l) :
    OD env w0 ex bs ⟨d, .convert src dst x, ty, pos, af, g⟩ (Still (strV l)) := by
  refine od_still fun ρ w hρ hw => ?_
  simp [execOp, hρ _ _ hx, run_toStr hs hd (h w hw)]

/-- x[:k]: the same place. -/
theorem od_sliceTo {t e s : Nat} {x : Operand} {hi : Option Operand} {a : Option Addr} {len cap : Nat} (k : Nat) (hx : ev env x = some (.slice a len cap)) (ht : lk tU t = some (.slice e)) (hs : lk tS e = some s)
    (hh : bnd env hi len k) (h1 : k ≤ cap) :
    OD env w0 ex bs ⟨d, .slice t x none hi none, ty, pos, af, g⟩ (Still (.slice a k cap)) := by
  refine od_still fun ρ w hρ _ => ?_
  have hb := run_bounds (isS := true) hρ (show bnd env none cap cap from rfl) hh (show bnd env none 0 0 from rfl) (Nat.zero_le _) h1 (Nat.le_refl _) (by simp) w
  simp only [Option.map_none] at hb
  simp only [execOp, Instr.sliceAt, Sem.run_bind, run_U ht, Result.andThen_ok, hρ _ _ hx, Instr.slice, hb, S_ok hs, Sem.run_pure, Option.map_none]
  split
  · rfl
  · cases a with
    | none => rfl
    | some a => simp [Addr.add]

/-- x[:k:m]: the same place. -/
theorem od_sliceTo3 {t e s : Nat} {x y z : Operand} {a : Option Addr} {len cap : Nat} {k1 k2 : IntKind} (k m : Nat) (hx : ev env x = some (.slice a len cap)) (ht : lk tU t = some (.slice e)) (hs : lk tS e = some s)
    (hy : ev env y = some (.int k1 (k : Int))) (hz : ev env z = some (.int k2 (m : Int))) (h1 : k ≤ m) (h2 : m ≤ cap) :
    OD env w0 ex bs ⟨d, .slice t x none (some y) (some z), ty, pos, af, g⟩ (Still (.slice a k m)) := by
  refine od_still fun ρ w hρ _ => ?_
  have hb := run_bounds (isS := true) (len := len) hρ (show bnd env (some z) cap m from ⟨_, _, hz, rfl⟩) (show bnd env (some y) len k from ⟨_, _, hy, rfl⟩) (show bnd env none 0 0 from rfl) (Nat.zero_le _) h1 h2 (by simp) w
  simp only [Option.map_none, Option.map_some] at hb
  simp only [execOp, Instr.sliceAt, Sem.run_bind, run_U ht, Result.andThen_ok, hρ _ _ hx, Instr.slice, hb, S_ok hs, Sem.run_pure, Option.map_none, Option.map_some]
  split
  · rfl
  · cases a with
    | none => rfl
    | some a => simp [Addr.add]

/-- '== nil' of a slice. -/
theorem od_isNil {x : Operand} {t t' : TypeId} {a : Option Addr} {m c : Nat} {e : TypeId} (hx : ev env x = some (.slice a m c)) (ht : lk tU t = some (.slice e)) :
    OD env w0 ex bs ⟨d, .binOp .eql t x (.const (.slice none 0 0)) t', ty, pos, af, g⟩ (Still (.bool a.isNone)) := by
  refine od_still fun ρ w hρ _ => ?_
  have hy : ρ (.const (.slice none 0 0)) = .slice none 0 0 := hρ _ _ rfl
  have h : (Op.equal t (.slice a m c) (.slice none 0 0)).run Tryd.prog w = .ok a.isNone w := _root_.Go.run_equal_slice_nil w t e a m c (U_ok ht)
  simp only [execOp, hρ _ _ hx, hy, run_eqGuard_slice, Sem.run_bind, Result.andThen_ok, binOp, h, Sem.run_pure]
end

/-! ### Links -/
structure Lnk where
  node : Int
  no : Int
  prev : List UInt8
  data : List UInt8
  da : Option Addr
  dc : Nat
def Lnk.dv (x : Lnk) : Value := .slice x.da x.data.length x.dc
def Lnk.cells (x : Lnk) : List Value := .int .i64 x.node :: .int .i64 x.no :: (x.prev.map v8 ++ [x.dv])
def Lnk.v (x : Lnk) : Value := .agg x.cells.toArray

/-- A link's own words: its numbers fit, its digest has 32 bytes, its data can be read. -/
structure Lnk.ok (w : World) (x : Lnk) : Prop where
  node : in64 x.node
  no : in64 x.no
  prev : x.prev.length = 32
  data : ByA w x.da x.dc x.data
theorem Lnk.ok.ext {w w' : World} {x : Lnk} (h : x.ok w) (k : Ext w w') : x.ok w' := ⟨h.node, h.no, h.prev, h.data.ext k⟩
theorem Lnk.ok.len {w : World} {x : Lnk} (h : x.ok w) : x.cells.length = 35 := by simp [Lnk.cells, h.prev]
theorem Lnk.ok.c34 {w : World} {x : Lnk} (h : x.ok w) : x.cells[34]? = some x.dv := by
  simp only [Lnk.cells]
  rw [List.getElem?_cons_succ, List.getElem?_cons_succ, List.getElem?_append_right (by simp [h.prev])]
  simp [h.prev]
theorem Lnk.ok.prevs {w : World} {x : Lnk} (h : x.ok w) : (x.cells.drop 2).take 32 = x.prev.map v8 := by
  simp only [Lnk.cells, List.drop_succ_cons, List.drop_zero]
  rw [List.take_append_of_le_length (by simp [h.prev]), List.take_of_length_le (by simp [h.prev])]
theorem plainLnk (x : Lnk) : ∀ v ∈ x.cells, plainV v = true := by
  intro v hv
  simp only [Lnk.cells, List.mem_cons, List.mem_append, List.mem_map, List.not_mem_nil, or_false] at hv
  rcases hv with rfl | rfl | ⟨y, _, rfl⟩ | rfl <;> rfl
theorem plainLnkA (x : Lnk) : ∀ v ∈ x.cells.toArray.toList, plainV v = true := by simpa using plainLnk x

/-- A list of links behind a slice's place. -/
def LkA (w : World) (a : Option Addr) (c : Nat) (xs : List Lnk) : Prop :=
  xs.length ≤ c ∧ (a = none → c = 0) ∧ (xs = [] ∨ ∃ b o, a = some ⟨b, o, none⟩ ∧ ∀ k x, xs[k]? = some x → x.ok w ∧ ∀ i v, x.cells[i]? = some v → w.cell? ⟨b, o + k * 35 + i, none⟩ = some v)

theorem LkA.ext {w w' : World} {a : Option Addr} {c : Nat} {xs : List Lnk} (h : LkA w a c xs) (k : Ext w w') : LkA w' a c xs := by
  obtain ⟨h1, h2, h3⟩ := h
  refine ⟨h1, h2, h3.imp id ?_⟩
  rintro ⟨b, o, e, h⟩
  refine ⟨b, o, e, fun j x hx => ⟨(h j x hx).1.ext k, fun i v hv => ?_⟩⟩
  have := (h j x hx).2 i v hv
  rw [k.cell (p := ⟨b, o + j * 35 + i, none⟩) (cell_lt this)]; exact this

theorem LkA.take {w : World} {a : Option Addr} {c : Nat} {xs : List Lnk} (h : LkA w a c xs) (n : Nat) : LkA w a c (xs.take n) := by
  obtain ⟨h1, h2, h3⟩ := h
  refine ⟨by simp; omega, h2, ?_⟩
  rcases h3 with rfl | ⟨b, o, e, h⟩
  · left; simp
  · refine Or.inr ⟨b, o, e, fun k x hx => h k x ?_⟩
    rw [List.getElem?_take] at hx
    split at hx
    · exact hx
    · cases hx

theorem LkA.nil (w : World) : LkA w none 0 [] := ⟨Nat.le_refl _, fun _ => rfl, Or.inl rfl⟩
theorem LkA.ok {w : World} {a : Option Addr} {c : Nat} {xs : List Lnk} (h : LkA w a c xs) {x : Lnk} (hx : x ∈ xs) : x.ok w := by
  obtain ⟨k, hk⟩ := List.getElem?_of_mem hx
  obtain ⟨-, -, rfl | ⟨b, o, e, h⟩⟩ := h
  · cases hx
  · exact (h k x hk).1

/-- Where element k lies. -/
theorem LkA.at {w : World} {a : Option Addr} {c : Nat} {xs : List Lnk} (h : LkA w a c xs) {k : Nat} {x : Lnk} (hx : xs[k]? = some x) :
    ∃ b o, a = some ⟨b, o, none⟩ ∧ x.ok w ∧ ∀ i v, x.cells[i]? = some v → w.cell? ⟨b, o + k * 35 + i, none⟩ = some v := by
  obtain ⟨-, -, rfl | ⟨b, o, e, h⟩⟩ := h
  · simp at hx
  · exact ⟨b, o, e, h k x hx⟩

/-! ### Heads -/
def headP (xs : List Lnk) : List UInt8 :=
  match xs.getLast? with
  | none => tagP [110, 111, 110, 101] []
  | some x => tagP [108, 105, 110, 107] (encL [.I x.node, .I x.no, .T x.prev, .T x.data])
theorem headP_length (xs : List Lnk) : (headP xs).length = 32 := by
  unfold headP
  split <;> exact sumP_length _

theorem LkA.src {w : World} {a : Option Addr} {c : Nat} {xs : List Lnk} (h : LkA w a c xs) : Src w (.slice a xs.length c) 35 xs.length (xs.flatMap Lnk.cells) := by
  obtain ⟨h1, h2, rfl | ⟨b, o, rfl, h⟩⟩ := h
  · refine ⟨rfl, fun w' _ => ?_⟩
    cases a with
    | none => rfl
    | some a => simp [Builtin.firstCells, loadCells, loadCellsFrom]
  · have hlen : ∀ (ys : List Lnk), (∀ y ∈ ys, y.cells.length = 35) → (ys.flatMap Lnk.cells).length = ys.length * 35 := by
      intro ys
      induction ys with
      | nil => simp
      | cons y ys ih => intro hy; simp only [List.flatMap_cons, List.length_append, hy y (by simp), ih (fun z hz => hy z (by simp [hz])), List.length_cons, Nat.add_mul]; omega
    have hok : ∀ y ∈ xs, y.cells.length = 35 := fun y hy => by
      obtain ⟨k, hk⟩ := List.getElem?_of_mem hy
      exact (h k y hk).1.len
    refine Src.cells (hlen xs hok) (fun i v hv => ?_)
    have key : ∀ (ys : List Lnk) (i : Nat) (v : Value), (∀ y ∈ ys, y.cells.length = 35) → (ys.flatMap Lnk.cells)[i]? = some v → ∃ k y j, ys[k]? = some y ∧ y.cells[j]? = some v ∧ i = k * 35 + j := by
      intro ys
      induction ys with
      | nil => intro i v _ hv; simp at hv
      | cons y ys ih =>
        intro i v hy hv
        simp only [List.flatMap_cons] at hv
        have hy0 := hy y (by simp)
        rcases Nat.lt_or_ge i 35 with hi | hi
        · rw [List.getElem?_append_left (by omega)] at hv
          exact ⟨0, y, i, rfl, hv, by omega⟩
        · rw [List.getElem?_append_right (by omega), hy0] at hv
          obtain ⟨k, z, j, e1, e2, e3⟩ := ih _ _ (fun z hz => hy z (by simp [hz])) hv
          exact ⟨k + 1, z, j, by simpa using e1, e2, by omega⟩
    obtain ⟨k, y, j, e1, e2, rfl⟩ := key xs i v hok hv
    have := (h k y e1).2 j v e2
    rwa [Nat.add_assoc] at this

section
variable {env : Env} {w0 : World} {ex : List Nat} {bs : Blks} {d : Option Nat} {ty : TypeId} {pos : String} {af : Array Edge} {g : Option (Nat × Bool)}
/-- An element read whole, out of what was there. -/
theorem od_loadLk {x : Operand} {b o : Nat} {y : Lnk} (hx : ev env x = some (.pointer (some ⟨b, o, none⟩))) (hy : y.ok w0) (hc : ∀ i v, y.cells[i]? = some v → w0.cell? ⟨b, o + i, none⟩ = some v) (hb : b ∉ ex) :
    OD env w0 ex bs ⟨d, .load 55 x, ty, pos, af, g⟩ (Still y.v) :=
  od_loadAO hx rfl rfl hy.len hc hb
end
end Go.Proofs.YtielloijdkoeiaaDoor
