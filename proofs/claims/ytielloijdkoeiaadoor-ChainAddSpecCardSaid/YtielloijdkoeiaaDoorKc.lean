/- The laws of operations that touch memory: places, loads, stores, new blocks. -/
import Derived.Test.YtielloijdkoeiaaDoorKb
namespace Go.Proofs.YtielloijdkoeiaaDoor
open Go Go.RowKit

theorem addr_add (b o k : Nat) : (⟨b, o, none⟩ : Addr).add k = ⟨b, o + k, none⟩ := by
  unfold Addr.add
  split
  · rename_i h; subst h; rfl
  · rfl

def plainV : Value → Bool
  | .agg _ => false
  | .tuple _ => false
  | _ => true

theorem plain_cells {v : Value} (h : plainV v = true) : v.cells = #[v] := by
  cases v <;> simp [plainV] at h <;> rfl

/-- One store into a private block. -/
theorem run_store1 {w : World} {b o : Nat} {cs : List Value} {T : TypeId} {v : Value} (hB : Blk w b cs T) (ho : o < cs.length) (hv : plainV v = true) :
    (store ⟨b, o, none⟩ v).run Tryd.prog w = .ok () (w.setCell ⟨b, o, none⟩ v) ∧ Only w (w.setCell ⟨b, o, none⟩ v) b ∧ Blk (w.setCell ⟨b, o, none⟩ v) b (cs.set o v) T := by
  have hc : w.cell? ⟨b, o, none⟩ = some cs[o] := by rw [hB.cell]; simp [ho]
  have hf := hB.free ho
  refine ⟨?_, ⟨rfl, rfl, rfl, by simp [World.setCell], fun k hk hne => ?_⟩, ?_⟩
  · cases v <;> simp [plainV] at hv <;> simp [store, Sem.run, hc, hf]
  · exact Below.heap_setCell _ _ _ _ hne
  · obtain ⟨fr, h, hfr⟩ := hB
    refine ⟨fr, ?_, by simpa using hfr⟩
    simp [World.setCell, Array.getElem?_modify, h]

theorem run_stores {b : Nat} {T : TypeId} : ∀ (vs : List Value) (i o : Nat) (w : World) (cs : List Value), Blk w b cs T → o + i + vs.length ≤ cs.length → (∀ v ∈ vs, plainV v = true) →
    ∃ w', (storeCells ⟨b, o, none⟩ vs i).run Tryd.prog w = .ok () w' ∧ Only w w' b ∧ Blk w' b (cs.take (o + i) ++ vs ++ cs.drop (o + i + vs.length)) T
  | [], i, o, w, cs, hB, hl, hp => ⟨w, by simp [storeCells], (Ext.refl w).only b, by simpa using hB⟩
  | v :: vs, i, o, w, cs, hB, hl, hp => by
    simp only [List.length_cons] at hl
    obtain ⟨h1, h2, h3⟩ := run_store1 (o := o + i) (v := v) hB (by omega) (hp v (by simp))
    obtain ⟨w', e1, e2, e3⟩ := run_stores vs (i + 1) o _ _ h3 (by simp; omega) (fun x hx => hp x (by simp [hx]))
    refine ⟨w', ?_, h2.trans e2, ?_⟩
    · simp only [storeCells, Sem.run_bind, addr_add, h1, Result.andThen_ok]
      exact e1
    · have hlist : (cs.set (o + i) v).take (o + (i + 1)) ++ vs ++ (cs.set (o + i) v).drop (o + (i + 1) + vs.length) = cs.take (o + i) ++ (v :: vs) ++ cs.drop (o + i + (vs.length + 1)) := by
        have h4 : (cs.set (o + i) v).take (o + (i + 1)) = cs.take (o + i) ++ [v] := by
          rw [show o + (i + 1) = (o + i) + 1 by omega, List.take_succ_eq_append_getElem (by simp; omega)]
          rw [List.take_set, List.set_eq_of_length_le (by simp; omega)]
          simp
        have h5 : (cs.set (o + i) v).drop (o + (i + 1) + vs.length) = cs.drop (o + i + (vs.length + 1)) := by
          rw [List.drop_set_of_lt (by omega)]
          congr 1; omega
        rw [h4, h5]; simp
      rw [hlist] at e3
      simpa using e3

theorem run_new {w : World} (cs : List Value) (T : TypeId) : (newRow T cs.toArray).run Tryd.prog w = .ok ⟨w.heap.size, 0, none⟩ (w.alloc (.cells cs.toArray T)) ∧
    Ext w (w.alloc (.cells cs.toArray T)) ∧ Blk (w.alloc (.cells cs.toArray T)) w.heap.size cs T := by
  refine ⟨rfl, (Below.refl _ _).alloc (Nat.le_refl _) _, ⟨(0, 0), ?_, by simp⟩⟩
  exact World.alloc_heap_new w _

section
variable {env : Env} {w0 : World} {ex : List Nat} {bs : Blks} {d : Option Nat} {ty : TypeId} {pos : String} {af : Array Edge} {g : Option (Nat × Bool)}

/-! ### Lengths, conversions -/
theorem od_len {x : Operand} {t : TypeId} {e : TypeId} {a : Option Addr} {m c : Nat} (hx : ev env x = some (.slice a m c)) (ht : lk tU t = some (.slice e)) :
    OD env w0 ex bs ⟨d, .call { callee := .builtin .len, args := #[x], argTypes := #[t] }, ty, pos, af, g⟩ (Still (.int .i64 (m : Int))) := by
  refine od_still fun ρ w hρ _ => ?_
  simp [execOp, resolve, invoke, builtin, Builtin.len_, hρ _ _ hx, run_U ht, goInt]

theorem od_lenS {x : Operand} {t : TypeId} {s : ByteArray} (hx : ev env x = some (.string s)) (ht : lk tU t = some .string) :
    OD env w0 ex bs ⟨d, .call { callee := .builtin .len, args := #[x], argTypes := #[t] }, ty, pos, af, g⟩ (Still (.int .i64 (s.size : Int))) := by
  refine od_still fun ρ w hρ _ => ?_
  simp [execOp, resolve, invoke, builtin, Builtin.len_, hρ _ _ hx, run_U ht, goInt]

theorem od_cap {x : Operand} {t : TypeId} {e : TypeId} {a : Option Addr} {m c : Nat} (hx : ev env x = some (.slice a m c)) (ht : lk tU t = some (.slice e)) :
    OD env w0 ex bs ⟨d, .call { callee := .builtin .cap, args := #[x], argTypes := #[t] }, ty, pos, af, g⟩ (Still (.int .i64 (c : Int))) := by
  refine od_still fun ρ w hρ _ => ?_
  simp [execOp, resolve, invoke, builtin, Builtin.cap_, hρ _ _ hx, run_U ht, goInt]

theorem od_min {x y : Operand} {t t' : TypeId} {k : IntKind} {m n : Int} (hx : ev env x = some (.int k m)) (hy : ev env y = some (.int k n)) :
    OD env w0 ex bs ⟨d, .call { callee := .builtin .min, args := #[x, y], argTypes := #[t, t'] }, ty, pos, af, g⟩ (Still (.int k (if n < m then n else m))) := by
  refine od_still fun ρ w hρ _ => ?_
  simp [execOp, resolve, invoke, builtin, Builtin.min_, Builtin.min2, hρ _ _ hx, hρ _ _ hy]

theorem od_max {x y : Operand} {t t' : TypeId} {k : IntKind} {m n : Int} (hx : ev env x = some (.int k m)) (hy : ev env y = some (.int k n)) :
    OD env w0 ex bs ⟨d, .call { callee := .builtin .max, args := #[x, y], argTypes := #[t, t'] }, ty, pos, af, g⟩ (Still (.int k (if m < n then n else m))) := by
  refine od_still fun ρ w hρ _ => ?_
  simp [execOp, resolve, invoke, builtin, Builtin.max_, Builtin.max2, hρ _ _ hx, hρ _ _ hy]

theorem od_conv {src dst : TypeId} {x : Operand} {k k' : IntKind} {n : Int} {d1 : TypeDesc} (hx : ev env x = some (.int k' n)) (h1 : lk tU src = some d1) (h2 : lk tU dst = some (.int k)) :
    OD env w0 ex bs ⟨d, .convert src dst x, ty, pos, af, g⟩ (Still (.int k (k.wrap n))) := by
  refine od_still fun ρ w hρ _ => ?_
  simp [execOp, convert, run_U h1, run_U h2, hρ _ _ hx, Conv.intToInt]

/-! ### Places -/
def fo (t f : Nat) : Option Nat :=
  match lk tU t with
  | some (.struct fs) => match fs[f]? with
    | some f => match lk tS f.type with
      | some (_ + 1) => some f.offset
      | _ => none
    | none => none
  | _ => none

theorem run_fieldAt {t f k : Nat} (h : fo t f = some k) (b o : Nat) (w : World) : (Instr.fieldAt t (.pointer (some ⟨b, o, none⟩)) f).run Tryd.prog w = .ok (.pointer (some ⟨b, o + k, none⟩)) w := by
  unfold fo at h
  split at h
  · rename_i fs hfs
    split at h
    · rename_i fd hfd
      split at h
      · rename_i m hm
        cases h
        simp [Instr.fieldAt, run_U hfs, hfd, Instr.sureAddr, fieldPlace, S_ok hm, addr_add]
      · cases h
    · cases h
  · cases h

theorem od_fieldAddr {t f : Nat} {x : Operand} {b o k : Nat} (hx : ev env x = some (.pointer (some ⟨b, o, none⟩))) (hf : fo t f = some k) :
    OD env w0 ex bs ⟨d, .fieldAddr t x f, ty, pos, af, g⟩ (Still (.pointer (some ⟨b, o + k, none⟩))) := by
  refine od_still fun ρ w hρ _ => ?_
  simp [execOp, hρ _ _ hx, run_fieldAt hf]

/-- An element of a slice; its place. -/
theorem od_indexAddr {t e s : Nat} {x ix : Operand} {b o m c : Nat} {kk : IntKind} {i : Int} (k : Nat) (hx : ev env x = some (.slice (some ⟨b, o, none⟩) m c)) (hi : ev env ix = some (.int kk i)) (ht : lk tU t = some (.slice e)) (hs : lk tS e = some s)
    (hk : i = (k : Int)) (hlt : k < m) : OD env w0 ex bs ⟨d, .indexAddr t x ix, ty, pos, af, g⟩ (Still (.pointer (some ⟨b, o + k * s, none⟩))) := by
  refine od_still fun ρ w hρ _ => ?_
  subst hk
  have h2 : ¬ (m ≤ k) := by omega
  simp [execOp, hρ _ _ hx, hρ _ _ hi, Instr.indexAt, asIntOf, run_U ht, S_ok hs, h2, addr_add]

theorem od_indexAddr1 {t e : Nat} {x ix : Operand} {b o m c : Nat} {kk : IntKind} {i : Int} (k : Nat) (hx : ev env x = some (.slice (some ⟨b, o, none⟩) m c)) (hi : ev env ix = some (.int kk i)) (ht : lk tU t = some (.slice e)) (hs : lk tS e = some 1)
    (hk : i = (k : Int)) (hlt : k < m) : OD env w0 ex bs ⟨d, .indexAddr t x ix, ty, pos, af, g⟩ (Still (.pointer (some ⟨b, o + k, none⟩))) := by
  have := od_indexAddr (d := d) (ty := ty) (pos := pos) (af := af) (g := g) (w0 := w0) (ex := ex) (bs := bs) k hx hi ht hs hk hlt
  simpa using this

/-- The same of an array's variable. -/
theorem od_indexAddrA {t e s n : Nat} {x ix : Operand} {b o : Nat} {kk : IntKind} {i : Int} (k : Nat) (hx : ev env x = some (.pointer (some ⟨b, o, none⟩))) (hi : ev env ix = some (.int kk i)) (ht : lk tU t = some (.array n e)) (hs : lk tS e = some s)
    (hk : i = (k : Int)) (hlt : k < n) : OD env w0 ex bs ⟨d, .indexAddr t x ix, ty, pos, af, g⟩ (Still (.pointer (some ⟨b, o + k * s, none⟩))) := by
  refine od_still fun ρ w hρ _ => ?_
  subst hk
  have h2 : ¬ (n ≤ k) := by omega
  simp [execOp, hρ _ _ hx, hρ _ _ hi, Instr.indexAt, Instr.sureAddr, asIntOf, run_U ht, S_ok hs, h2, addr_add]

theorem od_indexAddrA1 {t e n : Nat} {x ix : Operand} {b o : Nat} {kk : IntKind} {i : Int} (k : Nat) (hx : ev env x = some (.pointer (some ⟨b, o, none⟩))) (hi : ev env ix = some (.int kk i)) (ht : lk tU t = some (.array n e)) (hs : lk tS e = some 1)
    (hk : i = (k : Int)) (hlt : k < n) : OD env w0 ex bs ⟨d, .indexAddr t x ix, ty, pos, af, g⟩ (Still (.pointer (some ⟨b, o + k, none⟩))) := by
  have := od_indexAddrA (d := d) (ty := ty) (pos := pos) (af := af) (g := g) (w0 := w0) (ex := ex) (bs := bs) k hx hi ht hs hk hlt
  simpa using this

/-- An element of an array by value (elements of one cell). -/
theorem od_index {t e n : Nat} {x ix : Operand} {cs : Array Value} {kk : IntKind} {i : Int} {v : Value} (k : Nat) (hx : ev env x = some (.agg cs)) (hi : ev env ix = some (.int kk i)) (ht : lk tU t = some (.array n e)) (hs : lk tS e = some 1) (ha : agg? e = some false)
    (hk : i = (k : Int)) (hlt : k < n) (hv : cs[k]? = some v) : OD env w0 ex bs ⟨d, .index t x ix, ty, pos, af, g⟩ (Still v) := by
  refine od_still fun ρ w hρ _ => ?_
  subst hk
  have h2 : ¬ (n ≤ k) := by omega
  simp [execOp, hρ _ _ hx, hρ _ _ hi, Instr.index, asIntOf, run_U ht, S_ok hs, h2, part, run_isAgg ha, hv]

theorem od_indexS {t : Nat} {x ix : Operand} {s : ByteArray} {kk : IntKind} {i : Int} (k : Nat) (hx : ev env x = some (.string s)) (hi : ev env ix = some (.int kk i)) (ht : lk tU t = some .string) (hk : i = (k : Int)) (hlt : k < s.size) :
    OD env w0 ex bs ⟨d, .index t x ix, ty, pos, af, g⟩ (Still (.int .u8 (s[k].toNat : Int))) := by
  refine od_still fun ρ w hρ _ => ?_
  subst hk
  simp [execOp, hρ _ _ hx, hρ _ _ hi, Instr.index, asIntOf, run_U ht, hlt]

/-! ### Loads -/
theorem od_load {t : Nat} {x : Operand} {b o : Nat} {v : Value} (hx : ev env x = some (.pointer (some ⟨b, o, none⟩))) (ha : agg? t = some false) (hc : ∀ w, Hp w0 ex w bs → w.cell? ⟨b, o, none⟩ = some v) :
    OD env w0 ex bs ⟨d, .load t x, ty, pos, af, g⟩ (Still v) := by
  refine od_still fun ρ w hρ hw => ?_
  simp [execOp, hρ _ _ hx, Instr.loadAt, Instr.sureAddr, loadVar, run_isAgg ha, hc w hw]

theorem od_loadB {t : Nat} {x : Operand} {b o : Nat} {v : Value} {cs : List Value} {T : TypeId} (j : Nat) (hx : ev env x = some (.pointer (some ⟨b, o, none⟩))) (hj : bs[j]? = some (b, cs, T)) (ha : agg? t = some false) (hv : cs[o]? = some v) :
    OD env w0 ex bs ⟨d, .load t x, ty, pos, af, g⟩ (Still v) := od_load hx ha fun _ hw => hw.cell_blk hj hv

theorem od_loadO {t : Nat} {x : Operand} {b o : Nat} {v : Value} (hx : ev env x = some (.pointer (some ⟨b, o, none⟩))) (ha : agg? t = some false) (hc : w0.cell? ⟨b, o, none⟩ = some v) (hb : b ∉ ex) :
    OD env w0 ex bs ⟨d, .load t x, ty, pos, af, g⟩ (Still v) := od_load hx ha fun _ hw => hw.cell_old hc hb

theorem run_loadAgg {t n b o : Nat} {w : World} {cs : List Value} (ha : agg? t = some true) (hs : lk tS t = some n) (hl : cs.length = n) (hc : ∀ i v, cs[i]? = some v → w.cell? ⟨b, o + i, none⟩ = some v) :
    (loadVar t ⟨b, o, none⟩).run Tryd.prog w = .ok (.agg cs.toArray) w := by
  have h1 : (loadCells ⟨b, o, none⟩ n).run Tryd.prog w = .ok cs.toArray w := by
    rw [← hl]
    exact run_loadCells_list (P := Tryd.prog) (w := w) ⟨b, o, none⟩ cs (fun j v hv => by rw [addr_add]; exact hc j v hv)
  simp [loadVar, run_isAgg ha, S_ok hs, h1]

theorem od_loadA {t n : Nat} {x : Operand} {b o : Nat} {cs : List Value} (hx : ev env x = some (.pointer (some ⟨b, o, none⟩))) (ha : agg? t = some true) (hs : lk tS t = some n) (hl : cs.length = n)
    (hc : ∀ w, Hp w0 ex w bs → ∀ i v, cs[i]? = some v → w.cell? ⟨b, o + i, none⟩ = some v) : OD env w0 ex bs ⟨d, .load t x, ty, pos, af, g⟩ (Still (.agg cs.toArray)) := by
  refine od_still fun ρ w hρ hw => ?_
  simp [execOp, hρ _ _ hx, Instr.loadAt, Instr.sureAddr, run_loadAgg ha hs hl (hc w hw)]

/-- A whole private block. -/
theorem od_loadAB {t n : Nat} {x : Operand} {b : Nat} {cs : List Value} {T : TypeId} (j : Nat) (hx : ev env x = some (.pointer (some ⟨b, 0, none⟩))) (hj : bs[j]? = some (b, cs, T)) (ha : agg? t = some true) (hs : lk tS t = some n) (hl : cs.length = n) :
    OD env w0 ex bs ⟨d, .load t x, ty, pos, af, g⟩ (Still (.agg cs.toArray)) :=
  od_loadA hx ha hs hl fun w hw i v hv => by rw [Nat.zero_add]; exact hw.cell_blk hj hv

/-- Part of a private block. -/
theorem od_loadAP {t n : Nat} {x : Operand} {b o : Nat} {cs cs' : List Value} {T : TypeId} (j : Nat) (hx : ev env x = some (.pointer (some ⟨b, o, none⟩))) (hj : bs[j]? = some (b, cs, T)) (ha : agg? t = some true) (hs : lk tS t = some n) (hl : cs'.length = n)
    (hc : (cs.drop o).take n = cs') : OD env w0 ex bs ⟨d, .load t x, ty, pos, af, g⟩ (Still (.agg cs'.toArray)) :=
  od_loadA hx ha hs hl fun w hw i v hv => hw.cell_blk hj (by
    subst hc
    rw [List.getElem?_take, List.getElem?_drop] at hv
    split at hv
    · exact hv
    · cases hv)

theorem od_loadAO {t n : Nat} {x : Operand} {b o : Nat} {cs : List Value} (hx : ev env x = some (.pointer (some ⟨b, o, none⟩))) (ha : agg? t = some true) (hs : lk tS t = some n) (hl : cs.length = n)
    (hc : ∀ i v, cs[i]? = some v → w0.cell? ⟨b, o + i, none⟩ = some v) (hb : b ∉ ex) : OD env w0 ex bs ⟨d, .load t x, ty, pos, af, g⟩ (Still (.agg cs.toArray)) :=
  od_loadA hx ha hs hl fun _ hw i v hv => hw.cell_old (hc i v hv) hb

/-! ### Stores -/
theorem od_store {t : Nat} {x y : Operand} {b o : Nat} {v : Value} {cs : List Value} {T : TypeId} (j : Nat) (hx : ev env x = some (.pointer (some ⟨b, o, none⟩))) (hy : ev env y = some v) (hj : bs[j]? = some (b, cs, T)) (hs : lk tS t = some 1) (hv : plainV v = true)
    (ho : o < cs.length) : OD env w0 ex bs ⟨d, .store t x y, ty, pos, af, g⟩ (Turns undef b (cs.set o v) T) := by
  refine ⟨fun ρ w hρ hw => ?_⟩
  obtain ⟨h1, h2, h3⟩ := run_store1 (v := v) (hw.at hj).2 ho hv
  have hst : (Instr.storeAt t (.pointer (some ⟨b, o, none⟩)) v).run Tryd.prog w = .ok () (w.setCell ⟨b, o, none⟩ v) := by
    simp [Instr.storeAt, Instr.sureAddr, storeVar, plain_cells hv, S_ok hs, storeCells, addr_add, h1]
  refine does_skip (w' := w.setCell ⟨b, o, none⟩ v) ?_ ⟨rfl, h2, h3⟩
  simp only [execOp, hρ _ _ hx, hρ _ _ hy, Sem.run_bind, hst, Result.andThen_ok, Sem.run_pure]

theorem od_storeA {t n : Nat} {x y : Operand} {b o : Nat} {vs : Array Value} {cs : List Value} {T : TypeId} (j : Nat) (hx : ev env x = some (.pointer (some ⟨b, o, none⟩))) (hy : ev env y = some (.agg vs)) (hj : bs[j]? = some (b, cs, T)) (hs : lk tS t = some n) (hl : vs.size = n)
    (hv : ∀ v ∈ vs.toList, plainV v = true) (ho : o + n ≤ cs.length) : OD env w0 ex bs ⟨d, .store t x y, ty, pos, af, g⟩ (Turns undef b (cs.take o ++ vs.toList ++ cs.drop (o + n)) T) := by
  refine ⟨fun ρ w hρ hw => ?_⟩
  obtain ⟨w', h1, h2, h3⟩ := run_stores (b := b) (T := T) vs.toList 0 o w cs (hw.at hj).2 (by simp [hl]; omega) hv
  have hst : (Instr.storeAt t (.pointer (some ⟨b, o, none⟩)) (.agg vs)).run Tryd.prog w = .ok () w' := by
    simp [Instr.storeAt, Instr.sureAddr, storeVar, Value.cells, S_ok hs, hl, h1]
  refine does_skip (w' := w') ?_ ⟨rfl, h2, by simpa [hl] using h3⟩
  simp only [execOp, hρ _ _ hx, hρ _ _ hy, Sem.run_bind, hst, Result.andThen_ok, Sem.run_pure]

/-- A store of the whole block. -/
theorem od_storeW {t n : Nat} {x y : Operand} {b : Nat} {vs : Array Value} {cs : List Value} {T : TypeId} (j : Nat) (hx : ev env x = some (.pointer (some ⟨b, 0, none⟩))) (hy : ev env y = some (.agg vs)) (hj : bs[j]? = some (b, cs, T)) (hs : lk tS t = some n) (hl : vs.size = n)
    (hv : ∀ v ∈ vs.toList, plainV v = true) (ho : cs.length = n) : OD env w0 ex bs ⟨d, .store t x y, ty, pos, af, g⟩ (Turns undef b vs.toList T) := by
  have := od_storeA (w0 := w0) (ex := ex) (d := d) (ty := ty) (pos := pos) (af := af) (g := g) j hx hy hj hs hl hv (by omega : 0 + n ≤ cs.length)
  have e : cs.take 0 ++ vs.toList ++ cs.drop (0 + n) = vs.toList := by simp [ho]
  rw [e] at this
  exact this

/-! ### New blocks -/
theorem od_box {t : Nat} {x : Operand} {v : Value} (hx : ev env x = some v) : OD env w0 ex bs ⟨d, .box t x, ty, pos, af, g⟩ (Makes (ι := Unit) (fun _ b => .pointer (some ⟨b, 0, none⟩)) (fun _ => True) (fun _ => v.cells.toList) t) := by
  refine ⟨fun ρ w hρ hw => ?_⟩
  obtain ⟨h1, h2, h3⟩ := run_new (w := w) v.cells.toList t
  refine does_value (w' := w.alloc (.cells v.cells.toList.toArray t)) (v := .pointer (some ⟨w.heap.size, 0, none⟩)) ?_ ⟨(), w.heap.size, rfl, trivial, Nat.le_refl _, h2, h3⟩
  simp only [Array.toArray_toList] at h1
  simp [execOp, Instr.box, newVar, hρ _ _ hx, h1]

theorem od_alloc {t : Nat} {z : Value} {cs : List Value} (hz : ∀ w, (zeroValue t).run Tryd.prog w = .ok z w) (hc : z.cells.toList = cs) : OD env w0 ex bs ⟨d, .alloc t, ty, pos, af, g⟩ (Makes (ι := Unit) (fun _ b => .pointer (some ⟨b, 0, none⟩)) (fun _ => True) (fun _ => cs) t) := by
  subst hc
  refine ⟨fun ρ w hρ hw => ?_⟩
  have h1 := (run_new (w := w) z.cells.toList t).1
  have h2 := (run_new (w := w) z.cells.toList t).2.1
  have h3 := (run_new (w := w) z.cells.toList t).2.2
  simp only [Array.toArray_toList] at h1 h2 h3
  have hr : (execOp ρ ⟨d, .alloc t, ty, pos, af, g⟩).run Tryd.prog w = .ok (.value (.pointer (some ⟨w.heap.size, 0, none⟩))) (w.alloc (.cells z.cells t)) := by
    simp only [execOp, Instr.alloc, newVar, Sem.run_bind, hz, Result.andThen_ok, h1, Sem.run_pure]
  exact does_value hr ⟨(), w.heap.size, rfl, trivial, Nat.le_refl _, h2, h3⟩

theorem od_makeInterface {t : Nat} {x : Operand} {v : Value} {td : TypeDesc} (hx : ev env x = some v) (ht : lk tU t = some td) (hn : ∀ ms, td ≠ .interface ms) :
    OD env w0 ex bs ⟨d, .makeInterface t x, ty, pos, af, g⟩ (Still (.iface t v)) := by
  refine od_still fun ρ w hρ _ => ?_
  cases td <;> first | exact absurd rfl (hn _) | simp [execOp, hρ _ _ hx, Instr.makeInterface, run_U ht]
end

end Go.Proofs.YtielloijdkoeiaaDoor
