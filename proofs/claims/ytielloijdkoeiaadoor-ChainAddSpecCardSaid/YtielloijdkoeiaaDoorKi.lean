/- The laws of copy and append on private blocks. -/
import Derived.Lib.AppendStr
import Derived.Test.YtielloijdkoeiaaDoorDb
import Derived.Test.YtielloijdkoeiaaDoorKh
namespace Go.Proofs.YtielloijdkoeiaaDoor
open Go Go.RowKit Go.Lib

/-- What a call of append or copy takes its new cells from: so many elements of so many cells. -/
def Src (w : World) (v : Value) (size n : Nat) (news : List Value) : Prop :=
  (Builtin.lenOf v).run Tryd.prog w = .ok n w ∧ ∀ w', Ext w w' → (Builtin.firstCells size n v).run Tryd.prog w' = .ok news.toArray w'

theorem Src.cells {w : World} {b o m c size : Nat} {news : List Value} (hl : news.length = m * size) (h : ∀ i v, news[i]? = some v → w.cell? ⟨b, o + i, none⟩ = some v) : Src w (.slice (some ⟨b, o, none⟩) m c) size m news := by
  refine ⟨rfl, fun w' k => ?_⟩
  refine run_firstCells_some (P := Tryd.prog) w' size m ⟨b, o, none⟩ m c news hl (fun j v hj => ?_)
  rw [addr_add, k.cell (p := ⟨b, o + j, none⟩) (cell_lt (h j v hj))]
  exact h j v hj

theorem Src.nil {w : World} {size : Nat} : Src w (.slice none 0 0) size 0 [] := ⟨rfl, fun _ _ => rfl⟩
theorem Src.str {w : World} {size : Nat} (s : ByteArray) : Src w (.string s) size s.size (strCells s) := ⟨rfl, fun w' _ => run_firstCells_string (P := Tryd.prog) w' size s⟩
theorem Src.rd {α : Type} {f : α → Value} {w : World} {v : Value} {l : List α} (h : Rd f w v l) : Src w v 1 l.length (l.map f) := by
  obtain ⟨b, o, c, rfl, hc, hl⟩ := h
  refine Src.cells (by simp) (fun i v hv => ?_)
  rw [List.getElem?_map] at hv
  cases hx : l[i]? with
  | none => simp [hx] at hv
  | some x => simp [hx] at hv; subst hv; exact hl i x hx

section
variable {env : Env} {w0 : World} {ex : List Nat} {bs : Blks} {d : Option Nat} {ty : TypeId} {pos : String} {af : Array Edge} {g : Option (Nat × Bool)}

/-- copy into a private block (elements of one cell). -/
theorem od_copy {x y : Operand} {t t2 e n : Nat} {b o m c m' : Nat} {sv : Value} {cs news : List Value} {T : TypeId} (j : Nat) (hx : ev env x = some (.slice (some ⟨b, o, none⟩) m c)) (hy : ev env y = some sv) (hj : bs[j]? = some (b, cs, T))
    (ht : lk tU t = some (.slice e)) (hs : lk tS e = some 1) (hlen : ∀ w, Hp w0 ex w bs → (Builtin.lenOf sv).run Tryd.prog w = .ok m' w) (hn : Nat.min m' m = n) (hnews : ∀ w, Hp w0 ex w bs → (Builtin.firstCells 1 n sv).run Tryd.prog w = .ok news.toArray w)
    (hl : news.length = n) (hv : ∀ v ∈ news, plainV v = true) (ho : o + n ≤ cs.length) :
    OD env w0 ex bs ⟨d, .call { callee := .builtin .copy, args := #[x, y], argTypes := #[t, t2] }, ty, pos, af, g⟩ (Turns (.int .i64 (n : Int)) b (cs.take o ++ news ++ cs.drop (o + n)) T) := by
  refine ⟨fun ρ w hρ hw => ?_⟩
  obtain ⟨w', h1, h2, h3⟩ := run_stores (b := b) (T := T) news 0 o w cs (hw.at hj).2 (by omega) hv
  rw [hl] at h3
  refine does_value (w' := w') (v := .int .i64 (n : Int)) ?_ ⟨rfl, h2, by simpa using h3⟩
  have h4 := hnews w hw
  rw [← hn] at h4
  simp only [execOp, resolve, Sem.run_bind, Sem.run_pure, Result.andThen_ok, invoke, builtin]
  simp [Builtin.copy_, hρ _ _ hx, hρ _ _ hy, run_U ht, S_ok hs, hlen w hw]
  rw [h4]
  simp [h1, goInt, hn]
end

/-! ### append -/
/-- An element type, as the table has it: its cells, its bytes, its zero. -/
structure Elem (e size bytes : Nat) where
  i : TypeInfo
  z : Value
  hi : Tryd.prog.info? e = some i
  hz : i.zero = some z
  hs : i.size = size
  hb : i.bytes = bytes
  hc : z.cells.size = size

theorem elem_of {e : TypeId} {z : Value} {size bytes : Nat} (h : (Tryd.prog.info? e).map (fun i => (i.zero, i.size, i.bytes)) = some (some z, size, bytes)) (hc : z.cells.size = size) : Nonempty (Elem e size bytes) := by
  obtain ⟨i, h1, h2, h3, h4⟩ := info_parts h
  exact ⟨⟨i, z, h1, h2, h3, h4, hc⟩⟩

theorem elem5 : Nonempty (Elem 5 1 1) := elem_of (z := .int .u8 0) (by kernel_rfl) rfl

theorem run_app_grow {w : World} {t t2 ty e size bytes : Nat} {d2 : TypeDesc} {a : Option Addr} {n cap m : Nat} {sv : Value} {olds news : List Value} (hE : Nonempty (Elem e size bytes)) (ht : lk tU t = some (.slice e)) (ht2 : lk tU t2 = some d2) (hd2 : ∀ k, d2 ≠ .int k)
    (ho : ∀ w', Ext w w' → (Builtin.firstCells size n (.slice a n cap)).run Tryd.prog w' = .ok olds.toArray w') (hol : olds.length = n * size) (hsrc : Src w sv size m news) (hl : news.length = m * size) (hg : cap < n + m) (h47 : (n + m) * bytes ≤ 140737488355328) (h63 : n + m ≤ maxLen) :
    ∃ cap' sp w', (Builtin.append_ #[t, t2] ty #[.slice a n cap, sv]).run Tryd.prog w = .ok (.slice (some ⟨w.heap.size, 0, none⟩) (n + m) cap') w' ∧ Ext w w' ∧ Blk w' w.heap.size (olds ++ news ++ sp) e ∧ n + m ≤ cap' ∧ (olds ++ news ++ sp).length = cap' * size := by
  obtain ⟨E⟩ := hE
  have hge := grownCap_ge w (n + m) cap e
  have hfit : Builtin.nextslicecap (n + m) cap * bytes ≤ 281474976710656 := growslice_fits hg h47
  have hn : ¬ (n + m ≤ cap) := by omega
  have hm0 : (n + m : Nat) ≤ 9223372036854775807 := by simp only [maxLen] at h63; omega
  have h63' : ¬ (9223372036854775807 < ((n : Int) + (m : Int))) := by omega
  have h48' : ¬ (281474976710656 < Builtin.nextslicecap (n + m) cap * E.i.bytes) := by rw [E.hb]; omega
  have hint : (d2 matches .int _) = false := by
    cases d2 <;> first | rfl | exact absurd rfl (hd2 _)
  have hf := hsrc.2 w.drew (Ext.drew w)
  have hfo := ho w.drew (Ext.drew w)
  refine ⟨grownCap w (n + m) cap e, (Builtin.zeroCells E.z.cells (grownCap w (n + m) cap e - (n + m))).toList, w.drew.alloc (.cells (olds ++ news ++ (Builtin.zeroCells E.z.cells (grownCap w (n + m) cap e - (n + m))).toList).toArray e), ?_, (Ext.drew w).trans ((Below.refl _ _).alloc (Nat.le_refl _) _), ⟨(0, 0), World.alloc_heap_new w.drew _, by simp⟩, hge, ?_⟩
  · simp only [Builtin.append_, Sem.run_bind, run_U ht, run_U ht2, Result.andThen_ok, List.getElem?_toArray, List.getElem?_cons_zero, List.getElem?_cons_succ]
    simp [hsrc.1, sizeOf, typeInfo, zeroValue, E.hi, E.hz, hn, h63', h48', Question.forced, newRow, grownCap, E.hs, hf, hfo]
    congr 2
    apply Array.ext'
    simp
  · simp only [List.length_append, Array.length_toList, size_zeroCells, E.hc, hol, hl]
    rw [← Nat.add_mul, ← Nat.add_mul]; congr 1; omega

/-- With room: into the slice's own block. -/
theorem run_app_room {w : World} {t t2 ty e size bytes : Nat} {d2 : TypeDesc} {b n cap m : Nat} {sv : Value} {xs news sp : List Value} (hE : Nonempty (Elem e size bytes)) (ht : lk tU t = some (.slice e)) (ht2 : lk tU t2 = some d2) (hd2 : ∀ k, d2 ≠ .int k)
    (hB : Blk w b (xs ++ sp) e) (hx : xs.length = n * size) (hcap : (xs ++ sp).length = cap * size) (hsrc : Src w sv size m news) (hl : news.length = m * size) (hp : ∀ v ∈ news, plainV v = true) (hg : n + m ≤ cap) :
    ∃ w', (Builtin.append_ #[t, t2] ty #[.slice (some ⟨b, 0, none⟩) n cap, sv]).run Tryd.prog w = .ok (.slice (some ⟨b, 0, none⟩) (n + m) cap) w' ∧ Only w w' b ∧ Blk w' b (xs ++ news ++ sp.drop (m * size)) e := by
  obtain ⟨E⟩ := hE
  have hint : (d2 matches .int _) = false := by
    cases d2 <;> first | rfl | exact absurd rfl (hd2 _)
  have hle : (n + m) * size ≤ cap * size := Nat.mul_le_mul_right _ hg
  rw [Nat.add_mul] at hle
  obtain ⟨w', h1, h2, h3⟩ := run_stores (b := b) (T := e) news 0 (n * size) w _ hB (by omega) hp
  refine ⟨w', ?_, h2, ?_⟩
  · simp only [Builtin.append_, Sem.run_bind, run_U ht, run_U ht2, Result.andThen_ok, List.getElem?_toArray, List.getElem?_cons_zero, List.getElem?_cons_succ]
    simp [hsrc.1, sizeOf, typeInfo, E.hi, E.hs, hg, hsrc.2 w (Ext.refl w), addr_add, h1]
  · rw [hl] at h3
    have e1 : (xs ++ sp).take (n * size + 0) = xs := by rw [Nat.add_zero, ← hx]; simp
    have e2 : (xs ++ sp).drop (n * size + 0 + m * size) = sp.drop (m * size) := by rw [Nat.add_zero, ← hx, ← List.drop_drop]; simp
    rw [e1, e2] at h3
    exact h3

section
variable {env : Env} {w0 : World} {ex : List Nat} {bs : Blks} {d : Option Nat} {ty : TypeId} {pos : String} {af : Array Edge} {g : Option (Nat × Bool)}

/-- append onto a slice whose block is private: the block itself, or a new one. -/
theorem od_append {t t2 e size bytes : Nat} {d2 : TypeDesc} {x y : Operand} {b n cap m : Nat} {sv : Value} {xs news sp : List Value} (j : Nat) (hx : ev env x = some (.slice (some ⟨b, 0, none⟩) n cap)) (hy : ev env y = some sv) (hj : bs[j]? = some (b, xs ++ sp, e))
    (hE : Nonempty (Elem e size bytes)) (ht : lk tU t = some (.slice e)) (ht2 : lk tU t2 = some d2) (hd2 : ∀ k, d2 ≠ .int k) (hxl : xs.length = n * size) (hcap : (xs ++ sp).length = cap * size)
    (hsrc : ∀ w, Hp w0 ex w bs → Src w sv size m news) (hl : news.length = m * size) (hp : ∀ v ∈ news, plainV v = true) (h47 : (n + m) * bytes ≤ 140737488355328) (h63 : n + m ≤ maxLen) :
    OD env w0 ex bs ⟨d, .call { callee := .builtin .append, args := #[x, y], argTypes := #[t, t2] }, ty, pos, af, g⟩
      (Moves (ι := Nat × List Value) b (fun i b' => .slice (some ⟨b', 0, none⟩) (n + m) i.1) (fun i => n + m ≤ i.1 ∧ (xs ++ news ++ i.2).length = i.1 * size) (fun i => xs ++ news ++ i.2) e) := by
  refine ⟨fun ρ w hρ hw => ?_⟩
  have hB := (hw.at hj).2
  by_cases hg : n + m ≤ cap
  · obtain ⟨w', h1, h2, h3⟩ := run_app_room (ty := ty) hE ht ht2 hd2 hB hxl hcap (hsrc w hw) hl hp hg
    refine does_value (w' := w') (v := .slice (some ⟨b, 0, none⟩) (n + m) cap) ?_ ⟨(cap, sp.drop (m * size)), b, rfl, ⟨hg, ?_⟩, Or.inl rfl, h2, h3⟩
    · simp [execOp, resolve, invoke, builtin, hρ _ _ hx, hρ _ _ hy, h1]
    · have hle : (n + m) * size ≤ cap * size := Nat.mul_le_mul_right _ hg
      rw [Nat.add_mul] at hle
      simp only [List.length_append, List.length_drop, hxl, hl] at hcap ⊢
      omega
  · obtain ⟨cap', sp', w', h1, h2, h3, h4, h5⟩ := run_app_grow (ty := ty) (a := some ⟨b, 0, none⟩) (cap := cap) (olds := xs) hE ht ht2 hd2 (fun w' k => by
      refine run_firstCells_some (P := Tryd.prog) w' size n ⟨b, 0, none⟩ n cap xs hxl (fun i v hi => ?_)
      rw [addr_add, k.cell (p := ⟨b, 0 + i, none⟩) hB.lt, Nat.zero_add, hB.cell]
      rw [List.getElem?_append_left (List.getElem?_eq_some_iff.1 hi).1]; exact hi) hxl (hsrc w hw) hl (by omega) h47 h63
    refine does_value (w' := w') (v := .slice (some ⟨w.heap.size, 0, none⟩) (n + m) cap') ?_ ⟨(cap', sp'), w.heap.size, rfl, ⟨h4, h5⟩, Or.inr (Nat.le_refl _), h2.only b, h3⟩
    simp [execOp, resolve, invoke, builtin, hρ _ _ hx, hρ _ _ hy, h1]

/-- append that must grow (onto nil, or onto a slice cut at its length): a new block. -/
theorem od_appendN {t t2 e size bytes : Nat} {d2 : TypeDesc} {x y : Operand} {a : Option Addr} {n cap m : Nat} {sv : Value} {olds news : List Value} (hx : ev env x = some (.slice a n cap)) (hy : ev env y = some sv)
    (hE : Nonempty (Elem e size bytes)) (ht : lk tU t = some (.slice e)) (ht2 : lk tU t2 = some d2) (hd2 : ∀ k, d2 ≠ .int k)
    (ho : ∀ w, Hp w0 ex w bs → (Builtin.firstCells size n (.slice a n cap)).run Tryd.prog w = .ok olds.toArray w) (hol : olds.length = n * size)
    (hsrc : ∀ w, Hp w0 ex w bs → Src w sv size m news) (hl : news.length = m * size) (hg : cap < n + m) (h47 : (n + m) * bytes ≤ 140737488355328) (h63 : n + m ≤ maxLen) :
    OD env w0 ex bs ⟨d, .call { callee := .builtin .append, args := #[x, y], argTypes := #[t, t2] }, ty, pos, af, g⟩
      (Makes (ι := Nat × List Value) (fun i b' => .slice (some ⟨b', 0, none⟩) (n + m) i.1) (fun i => n + m ≤ i.1 ∧ (olds ++ news ++ i.2).length = i.1 * size) (fun i => olds ++ news ++ i.2) e) := by
  refine ⟨fun ρ w hρ hw => ?_⟩
  obtain ⟨cap', sp', w', h1, h2, h3, h4, h5⟩ := run_app_grow (ty := ty) (a := a) (cap := cap) (olds := olds) hE ht ht2 hd2 (fun w' k => ho w' (hw.ext k)) hol (hsrc w hw) hl hg h47 h63
  refine does_value (w' := w') (v := .slice (some ⟨w.heap.size, 0, none⟩) (n + m) cap') ?_ ⟨(cap', sp'), w.heap.size, rfl, ⟨h4, h5⟩, Nat.le_refl _, h2, h3⟩
  simp [execOp, resolve, invoke, builtin, hρ _ _ hx, hρ _ _ hy, h1]

/-- make([]T, len, cap), both given. -/
theorem od_makeSlice {t e size bytes l c : Nat} {x y : Operand} {k1 k2 : IntKind} {zc : List Value} (hx : ev env x = some (.int k1 (l : Int))) (hy : ev env y = some (.int k2 (c : Int))) (hE : Nonempty (Elem e size bytes)) (ht : lk tU t = some (.slice e)) (hlc : l ≤ c) (hc : c ≤ 9223372036854775807)
    (hb : bytes * c ≤ 140737488355328) (hzc : ∀ E : Elem e size bytes, (Array.range (c * size)).map (E.z.cells[· % E.z.cells.size]!) = zc.toArray) :
    OD env w0 ex bs ⟨d, .makeSlice t x y, ty, pos, af, g⟩ (Makes (ι := Unit) (fun _ b => .slice (some ⟨b, 0, none⟩) l c) (fun _ => True) (fun _ => zc) e) := by
  obtain ⟨E⟩ := hE
  refine ⟨fun ρ w hρ hw => ?_⟩
  have h1 := (run_new (w := w) zc e).1
  have h2 := (run_new (w := w) zc e).2.1
  have h3 := (run_new (w := w) zc e).2.2
  have hz1 := hzc E
  have wl : IntKind.i64.wrap (l : Int) = (l : Int) := wrap_i64 (by omega) (by omega)
  have wc : IntKind.i64.wrap (c : Int) = (c : Int) := wrap_i64 (by omega) (by omega)
  have n1 : ¬ ((c : Int) < 0) := by omega
  have n2 : ¬ ((l : Int) < 0) := by omega
  have n3 : ¬ (c < l) := by omega
  have e4 : ((bytes * c : Nat) : Int) = (bytes : Int) * (c : Int) := by simp
  have n4 : ¬ ((281474976710656 : Int) < (E.i.bytes : Int) * (c : Int)) := by rw [E.hb]; omega
  have hr : (execOp ρ ⟨d, .makeSlice t x y, ty, pos, af, g⟩).run Tryd.prog w = .ok (.value (.slice (some ⟨w.heap.size, 0, none⟩) l c)) (w.alloc (.cells zc.toArray e)) := by
    by_cases h0 : c * size = 0
    · have : zc = [] := by
        have h5 := congrArg Array.size hz1
        simp [h0] at h5
        exact List.eq_nil_of_length_eq_zero h5.symm
      subst this
      simp [execOp, Instr.makeSlice, hρ _ _ hx, hρ _ _ hy, asInt, asIntOf, run_U ht, typeInfo, sizeOf, E.hi, E.hs, wl, wc, n1, n2, n3, n4, h0, askRoom, roomBytes, newRow]
      rw [show Array.range 0 = #[] from rfl]
      simp
    · simp [execOp, Instr.makeSlice, hρ _ _ hx, hρ _ _ hy, asInt, asIntOf, run_U ht, typeInfo, sizeOf, E.hi, E.hs, wl, wc, n1, n2, n3, n4, h0, askRoom, roomBytes, newRow, zeroValue, E.hz]
      rw [hz1]
  exact does_value hr ⟨(), w.heap.size, rfl, trivial, Nat.le_refl _, h2, h3⟩
end

end Go.Proofs.YtielloijdkoeiaaDoor
