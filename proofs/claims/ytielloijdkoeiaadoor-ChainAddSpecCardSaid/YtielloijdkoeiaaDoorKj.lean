/- The laws of strings and bytes, and of results that lie in memory. -/
import Derived.Laws.IdiomStrings
import Derived.LoopNIn
import Derived.Test.YtielloijdkoeiaaDoorKi
namespace Go.Proofs.YtielloijdkoeiaaDoor
open Go Go.RowKit Go.Lib

theorem Hp.ne {w0 : World} {ex : List Nat} {w : World} {bs : Blks} (h : Hp w0 ex w bs) {i j b b' : Nat} {cs cs' : List Value} {T T' : TypeId} (hi : bs[i]? = some (b, cs, T)) (hj : bs[j]? = some (b', cs', T')) (hne : Nat.beq i j = false) : b ≠ b' := by
  intro e
  have := nodup_idx h.nodup (i := i) (j := j) (x := b) (by simp [hi]) (by simp [hj, e])
  subst this
  simp at hne

/-- A private block is none of the old ones. -/
theorem Hp.ne_old {w0 : World} {w : World} {bs : Blks} (h : Hp w0 [] w bs) {j b k : Nat} {cs : List Value} {T : TypeId} (hj : bs[j]? = some (b, cs, T)) (hk : k < w0.heap.size) : k ≠ b := by
  rcases (h.at hj).1 with h1 | h1
  · omega
  · cases h1

theorem Hp.newN {w0 : World} {ex : List Nat} {w w' : World} {bs : Blks} (h : Hp w0 ex w bs) (k : Ext w w') : ∀ (bn : Blks), (∀ x ∈ bn, w.heap.size ≤ x.1 ∧ Blk w' x.1 x.2.1 x.2.2) → (bn.map (·.1)).Nodup → Hp w0 ex w' (bn ++ bs)
  | bn, hb, hnd => by
    have h' := h.ext k
    refine ⟨h'.os, h'.tape, h'.output, h'.size, h'.old, fun x hx => ?_, ?_⟩
    · rcases List.mem_append.1 hx with hx | hx
      · exact ⟨Or.inl (Nat.le_trans h.size (hb x hx).1), (hb x hx).2⟩
      · exact h'.blk x hx
    · rw [List.map_append, List.nodup_append]
      refine ⟨hnd, h.nodup, fun a ha b hb' e => ?_⟩
      obtain ⟨x, hx, rfl⟩ := List.mem_map.1 ha
      obtain ⟨y, hy, rfl⟩ := List.mem_map.1 hb'
      have h1 := (hb x hx).1
      have h2 := (h.blk y hy).2.lt
      omega

/-- Some new blocks are laid: which, and what is handed back, F says. -/
def Lays (F : Value → Blks → Prop) : World → Value → World → Prop :=
  fun w v w' => ∃ bn, F v bn ∧ Ext w w' ∧ (∀ x ∈ bn, w.heap.size ≤ x.1 ∧ Blk w' x.1 x.2.1 x.2.2) ∧ (bn.map (·.1)).Nodup

/-- Out of a walk's end. -/
theorem Hp.lays {w0 w : World} {bs : Blks} {F : Value → Blks → Prop} {v : Value} (h : Hp w0 [] w bs) (hF : F v bs) : Lays F w0 v w :=
  ⟨bs, hF, h.ext_all, fun x hx => ⟨(h.blk x hx).1.elim id (fun h1 => by cases h1), (h.blk x hx).2⟩, h.nodup⟩

section
variable {r : Option Nat} {Q : Exit → Act → World → Prop} {n : Nat} {ds : List Deferred} {env : Env} {w0 : World} {ex : List Nat} {bs : Blks}

theorem wl_lays {ops : Array Oper} {op : Op} {rest : List Oper} {d : Nat} {ty : TypeId} {pos : String} {af : Array Edge} {g : Option (Nat × Bool)} {F : Value → Blks → Prop}
    (hg : wantE ops env g = some true) (hdn : Nat.blt d n = true) (hd : Op.noDefer op = true)
    (h : OD env w0 ex bs ⟨some d, op, ty, pos, af, g⟩ (Lays F)) (next : ∀ v bn, F v bn → WL r ops Q rest n ds ((d, v) :: env) w0 ex (bn ++ bs)) :
    WL r ops Q (⟨some d, op, ty, pos, af, g⟩ :: rest) n ds env w0 ex bs :=
  wl_gen (o := ⟨some d, op, ty, pos, af, g⟩) hg hd h fun a w v w' hs hh hv => by
    obtain ⟨bn, hF, hx, hB, hnd⟩ := hv
    exact (next v bn hF).go _ _ (hs.put (by simpa using hdn) _) (hh.newN hx bn hB hnd)

theorem wp_lays {ops : Array Oper} {C : Blks} {brk : Option Nat} {plan : List (Nat × Bool)} {Q : Act → World → Prop} {i : Nat} {op : Op} {d : Nat} {ty : TypeId} {pos : String} {af : Array Edge} {g : Option (Nat × Bool)} {F : Value → Blks → Prop}
    (hi : ops[i]? = some ⟨some d, op, ty, pos, af, g⟩) (hg : wantE ops env g = some true) (hdn : Nat.blt d n = true) (h : OD env w0 ex bs ⟨some d, op, ty, pos, af, g⟩ (Lays F))
    (next : ∀ v bn, F v bn → WP ops C brk Q plan n ds ((d, v) :: env) w0 ex (bn ++ bs)) : WP ops C brk Q ((i, false) :: plan) n ds env w0 ex bs := by
  refine ⟨fun listed fuel hp hs hf => ?_⟩
  simp only [okPlan, Bool.and_eq_true, beq_iff_eq] at hp
  obtain ⟨f, rfl, hf'⟩ := fuel_succ hf rfl
  refine wm_sole i hi hp.1 hg h fun a w v w' hs' hh hc hv => ?_
  obtain ⟨bn, hF, hx, hB, hnd⟩ := hv
  exact ⟨fun _ => hc.ext hx, ((next v bn hF).go _ _ hp.2 hs hf').go _ _ (hs'.put (by simpa using hdn) _) (hh.newN hx bn hB hnd) (hc.ext hx)⟩
end

section
variable {r : Option Nat} {Q : Exit → Act → World → Prop} {n : Nat} {ds : List Deferred} {env : Env} {w0 : World} {ex : List Nat} {bs : Blks}

/-- A loop of at most m rounds, each walked. -/
theorem wc_rounds {c : Code} (m : Nat) (h : WC r c (Exit.then (Code.roundsIn (FF r) 0 Tryd.prog c Q m) Q) n ds env w0 ex bs) : WC r (.loop c) Q n ds env w0 ex bs :=
  ⟨fun a w hs hh => wpIn_loop_rounds (m + 1) (h.go a w hs hh)⟩
theorem we_round {c : Code} {m : Nat} (h : WC r c (Exit.then (Code.roundsIn (FF r) 0 Tryd.prog c Q m) Q) n ds env w0 ex bs) : WE (Exit.then (Code.roundsIn (FF r) 0 Tryd.prog c Q (m + 1)) Q) .normal n ds env w0 ex bs :=
  ⟨fun a w hs hh => h.go a w hs hh⟩

/-- Between two parts: what is known there, for some index. -/
def Mid {ι : Type} (n : Nat) (ds : List Deferred) (w0 : World) (ex : List Nat) (E : ι → Env) (B : ι → Blks) (pre : ι → Prop) : Act → World → Prop :=
  fun a w => ∃ i, pre i ∧ Sat a n ds (E i) ∧ Hp w0 ex w (B i)

theorem wc_cut {ι : Type} {x y : Code} (E : ι → Env) (B : ι → Blks) (pre : ι → Prop) (h1 : WC r x (Exit.then (Mid n ds w0 ex E B pre) Q) n ds env w0 ex bs) (h2 : ∀ i, pre i → WC r y Q n ds (E i) w0 ex (B i)) : WC r (.seq x y) Q n ds env w0 ex bs := by
  refine wc_seq ⟨fun a w hs hh => wpIn_mono (h1.go a w hs hh) ?_⟩
  intro e a' w' hq
  cases e with
  | normal =>
    obtain ⟨i, hi, hs', hh'⟩ := hq
    exact (h2 i hi).go a' w' hs' hh'
  | exit id => exact hq
  | goto l => exact hq
  | ret => exact hq
  | panic ch => exact hq
  | outgrown => exact hq

theorem we_mid {ι : Type} {E : ι → Env} {B : ι → Blks} {pre : ι → Prop} (i : ι) (hi : pre i) (hE : Env.le (E i) env) (hB : List.Sublist (B i) bs) : WE (Exit.then (Mid n ds w0 ex E B pre) Q) .normal n ds env w0 ex bs :=
  ⟨fun _ _ hs hh => ⟨i, hi, hs.weaken hE, hh.sub hB⟩⟩
end

section
variable {env : Env} {w0 : World} {ex : List Nat} {bs : Blks} {d : Option Nat} {ty : TypeId} {pos : String} {af : Array Edge} {g : Option (Nat × Bool)}

/-- A string of these bytes. -/
def strV (l : List UInt8) : Value := .string ⟨l.toArray⟩

theorem strCells_list (l : List UInt8) : strCells ⟨l.toArray⟩ = l.map v8 := by
  simp [strCells, v8]

theorem size_list (l : List UInt8) : (⟨l.toArray⟩ : ByteArray).size = l.length := by
  simp [ByteArray.size]

/-- Bytes that can be read: a slice, nil or not. -/
def Bs (w : World) (v : Value) (l : List UInt8) : Prop := ∃ a c, v = .slice a l.length c ∧ l.length ≤ c ∧ (l = [] ∨ a ≠ none) ∧ ∀ w', Ext w w' → (Builtin.firstCells 1 l.length v).run Tryd.prog w' = .ok (l.map v8).toArray w'

theorem Bs.src {w : World} {v : Value} {l : List UInt8} (h : Bs w v l) : Src w v 1 l.length (l.map v8) := by
  obtain ⟨a, c, rfl, -, -, h⟩ := h
  exact ⟨rfl, h⟩
theorem Bs.ext {w w' : World} {v : Value} {l : List UInt8} (h : Bs w v l) (k : Ext w w') : Bs w' v l := by
  obtain ⟨a, c, e, hc, hn, h⟩ := h
  exact ⟨a, c, e, hc, hn, fun w'' k' => h w'' (k.trans k')⟩
theorem Bs.rd {w : World} {v : Value} {l : List UInt8} (h : Rd v8 w v l) : Bs w v l := by
  have h2 := (Src.rd h).2
  obtain ⟨b, o, c, rfl, hc, hl⟩ := h
  exact ⟨_, c, rfl, hc, Or.inr (by simp), h2⟩
theorem Bs.nil (w : World) : Bs w (.slice none 0 0) [] := ⟨none, 0, rfl, Nat.le_refl _, Or.inl rfl, fun _ _ => rfl⟩

/-- append(nil, make([]T, n)...). -/
theorem od_appendZ {t e size bytes n : Nat} {x y : Operand} {t2 : TypeId} {k : IntKind} (hx : ev env x = some (.slice none 0 0)) (hy : ev env y = some (.int k (n : Int))) (hE : Nonempty (Elem e size bytes)) (ht : lk tU t = some (.slice e)) (ht2 : lk tU t2 = some (.int .i64))
    (hs : 0 < size) (hn : 0 < n) (h47 : n * bytes ≤ 140737488355328) (h63 : n ≤ maxLen) :
    OD env w0 ex bs ⟨d, .call { callee := .builtin .append, args := #[x, y], argTypes := #[t, t2] }, ty, pos, af, g⟩
      (Makes (ι := Nat × List Value) (fun i b' => .slice (some ⟨b', 0, none⟩) n i.1) (fun i => n ≤ i.1 ∧ i.2.length = i.1 * size) (fun i => i.2) e) := by
  obtain ⟨E⟩ := hE
  refine ⟨fun ρ w hρ hw => ?_⟩
  have hge := grownCap_ge w n 0 e
  have hfit : Builtin.nextslicecap n 0 * bytes ≤ 281474976710656 := growslice_fits hn h47
  have h63a : n ≤ 9223372036854775807 := by simp only [maxLen] at h63; omega
  have wl : IntKind.i64.wrap (n : Int) = (n : Int) := wrap_i64 (by omega) (by omega)
  have n1 : ¬ ((n : Int) < 0) := by omega
  have e4 : ((n * bytes : Nat) : Int) = (n : Int) * (bytes : Int) := by simp
  have n2 : ¬ ((281474976710656 : Int) < (n : Int) * (E.i.bytes : Int)) := by rw [E.hb]; omega
  have n3 : ¬ (n ≤ 0) := by omega
  have n4 : ¬ ((9223372036854775807 : Int) < (n : Int)) := by omega
  have n5 : ¬ (281474976710656 < Builtin.nextslicecap n 0 * E.i.bytes) := by rw [E.hb]; omega
  have n6 : n ≠ 0 := by omega
  have n7 : size ≠ 0 := by omega
  have n8 : ¬ (n * size = 0) := Nat.mul_ne_zero n6 n7
  have hr : (Builtin.append_ #[t, t2] ty #[.slice none 0 0, .int k (n : Int)]).run Tryd.prog w = .ok (.slice (some ⟨w.heap.size, 0, none⟩) n (grownCap w n 0 e))
      (w.drew.alloc (.cells (Builtin.zeroCells E.z.cells n ++ Builtin.zeroCells E.z.cells (grownCap w n 0 e - n)) e)) := by
    simp only [Builtin.append_, Sem.run_bind, run_U ht, run_U ht2, Result.andThen_ok, List.getElem?_toArray, List.getElem?_cons_zero, List.getElem?_cons_succ]
    simp [asInt, asIntOf, wl, n1, n2, n4, n5, n6, n8, sizeOf, typeInfo, zeroValue, E.hi, E.hz, E.hs, Question.forced, Builtin.firstCells, newRow, grownCap]
  have hl : (Builtin.zeroCells E.z.cells n ++ Builtin.zeroCells E.z.cells (grownCap w n 0 e - n)).toList.length = grownCap w n 0 e * size := by
    simp only [Array.toList_append, List.length_append, Array.length_toList, size_zeroCells, E.hc]
    rw [← Nat.add_mul, Nat.add_sub_cancel' hge]
  refine does_value (v := .slice (some ⟨w.heap.size, 0, none⟩) n (grownCap w n 0 e)) (w' := w.drew.alloc (.cells (Builtin.zeroCells E.z.cells n ++ Builtin.zeroCells E.z.cells (grownCap w n 0 e - n)) e)) ?_
    ⟨(grownCap w n 0 e, (Builtin.zeroCells E.z.cells n ++ Builtin.zeroCells E.z.cells (grownCap w n 0 e - n)).toList), w.heap.size, rfl, ⟨hge, hl⟩, Nat.le_refl _, (Ext.drew w).trans ((Below.refl _ _).alloc (Nat.le_refl _) _), ⟨(0, 0), ?_, by simp⟩⟩
  · simp [execOp, resolve, invoke, builtin, hρ _ _ hx, hρ _ _ hy, hr]
  · have := World.alloc_heap_new w.drew (.cells (Builtin.zeroCells E.z.cells n ++ Builtin.zeroCells E.z.cells (grownCap w n 0 e - n)) e)
    rw [Array.toArray_toList]
    exact this

theorem od_eqS {op : BinOp} {t t' : TypeId} {x y : Operand} {a b : List UInt8} {r : Bool} (hop : op = .eql ∧ decide (a = b) = r ∨ op = .neq ∧ decide (a ≠ b) = r) (hx : ev env x = some (strV a)) (hy : ev env y = some (strV b)) :
    OD env w0 ex bs ⟨d, .binOp op t x y t', ty, pos, af, g⟩ (Still (.bool r)) := by
  refine od_still fun ρ w hρ _ => ?_
  have hx' : ρ x = .string ⟨a.toArray⟩ := hρ _ _ hx
  have hy' : ρ y = .string ⟨b.toArray⟩ := hρ _ _ hy
  have he : ((⟨a.toArray⟩ : ByteArray).toList == (⟨b.toArray⟩ : ByteArray).toList) = decide (a = b) := by
    rw [ByteArray.toList_eq, ByteArray.toList_eq]
    rw [Bool.eq_iff_iff]
    simp
  rcases hop with ⟨rfl, rfl⟩ | ⟨rfl, rfl⟩
  · simp only [execOp, hx', hy', run_eqGuard_string, Sem.run_bind, Result.andThen_ok, binOp, Op.stringOp, he, Sem.run_pure]
  · simp only [execOp, hx', hy', run_eqGuard_string, Sem.run_bind, Result.andThen_ok, binOp, Op.stringOp, he, Sem.run_pure, decide_not]

/-- bytes of a string: a new block, with some zeros behind. -/
theorem od_strBytes {x : Operand} {l : List UInt8} {src dst : TypeId} (hx : ev env x = some (strV l)) (hs : lk tU src = some .string) (hd : lk tU dst = some (.slice 5)) :
    OD env w0 ex bs ⟨d, .convert src dst x, ty, pos, af, g⟩ (Makes (ι := Nat × List Value) (fun i b => .slice (some ⟨b, 0, none⟩) l.length i.1) (fun i => l.length ≤ i.1 ∧ (l.map v8 ++ i.2).length = i.1) (fun i => l.map v8 ++ i.2) 5) := by
  refine ⟨fun ρ w hρ hw => ?_⟩
  have hr := run_bytes_of_string (P := Tryd.prog) w src dst 5 ⟨l.toArray⟩ (U_ok hs) (U_ok hd) (U_ok (t := 5) rfl)
  have hge := grownCap_ge w l.length 0 5
  rw [size_list] at hr
  have hrow : bytesRow ⟨l.toArray⟩ (grownCap w l.length 0 5) = (l.map v8 ++ List.replicate (grownCap w l.length 0 5 - l.length) (v8 0)).toArray := by
    unfold bytesRow
    rw [size_list]
    apply Array.ext'
    simp [v8]
  rw [hrow] at hr
  have h1 : (execOp ρ ⟨d, .convert src dst x, ty, pos, af, g⟩).run Tryd.prog w = .ok (.value (.slice (some ⟨w.heap.size, 0, none⟩) l.length (grownCap w l.length 0 5)))
      (w.drew.alloc (.cells (l.map v8 ++ List.replicate (grownCap w l.length 0 5 - l.length) (v8 0)).toArray 5 ((l.map v8 ++ List.replicate (grownCap w l.length 0 5 - l.length) (v8 0)).toArray.size, (l.map v8 ++ List.replicate (grownCap w l.length 0 5 - l.length) (v8 0)).toArray.size + 1))) := by
    have hx' : ρ x = .string ⟨l.toArray⟩ := hρ _ _ hx
    simp only [execOp, hx', Sem.run_bind, hr, Result.andThen_ok, Sem.run_pure]
  refine does_value h1 ⟨(grownCap w l.length 0 5, List.replicate (grownCap w l.length 0 5 - l.length) (v8 0)), w.heap.size, rfl, ⟨hge, by simp; omega⟩, Nat.le_refl _, (Ext.drew w).trans ((Below.refl _ _).alloc (Nat.le_refl _) _), ⟨_, World.alloc_heap_new w.drew _, ?_⟩⟩
  intro i hi
  have hi' : i < (l.map v8 ++ List.replicate (grownCap w l.length 0 5 - l.length) (v8 0)).length := hi
  simp only [List.size_toArray]
  omega

theorem od_bytesStr {x : Operand} {v : Value} {l : List UInt8} {src dst : TypeId} (hx : ev env x = some v) (hs : lk tU src = some (.slice 5)) (hd : lk tU dst = some .string) (hv : ∀ w, Hp w0 ex w bs → Rd v8 w v l) :
    OD env w0 ex bs ⟨d, .convert src dst x, ty, pos, af, g⟩ (Still (strV l)) := by
  refine od_still fun ρ w hρ hw => ?_
  obtain ⟨b, o, c, rfl, hc, hl⟩ := hv w hw
  have hr := run_convert_bytes_back (P := Tryd.prog) w src dst 5 ⟨b, o, none⟩ c l (U_ok hs) (U_ok (t := 5) rfl) (U_ok hd) (fun j hj => by rw [addr_add]; exact hl j _ (by simp [hj]))
  simp [execOp, hρ _ _ hx, hr, strV]

theorem od_bytesStrN {x : Operand} {src dst : TypeId} (hx : ev env x = some (.slice none 0 0)) (hs : lk tU src = some (.slice 5)) (hd : lk tU dst = some .string) :
    OD env w0 ex bs ⟨d, .convert src dst x, ty, pos, af, g⟩ (Still (strV [])) := by
  refine od_still fun ρ w hρ hw => ?_
  have hr := run_convert_bytes_string (P := Tryd.prog) w src dst 5 none 0 0 (U_ok hs) (U_ok (t := 5) rfl) (U_ok hd)
  simp [execOp, hρ _ _ hx, hr, strV, Conv.bytesToString, ByteArray.empty, ByteArray.emptyWithCapacity]
  try rfl
end

section
variable {fn : Func} {n : Nat} {env : Env} {w0 : World} {ex : List Nat} {bs : Blks} {Φ : Value → World → Prop} {e : Exit}

theorem we_retCA {t ty m b : Nat} {cs : List Value} {T : TypeId} (j : Nat) (he : e = .ret ∨ e = .normal) (hres : fn.results = #[.cell t ty]) (ht : get env t = some (.pointer (some ⟨b, 0, none⟩))) (hj : bs[j]? = some (b, cs, T)) (ha : agg? ty = some true) (hs : lk tS ty = some m) (hl : cs.length = m)
    (hΦ : ∀ w, Hp w0 ex w bs → Φ (.agg cs.toArray) w) : WE (bodyPost Tryd.prog fn (Ret Φ)) e n [] env w0 ex bs :=
  we_post he _ (fun a w hs' hh => by
    have h1 := hs'.vals _ _ ht
    have h2 := run_loadAgg (b := b) (o := 0) (w := w) ha hs hl (fun i v hi => by rw [Nat.zero_add]; exact hh.cell_blk hj hi)
    simp [results, hres, h1, asAddr, h2]) hΦ

theorem we_retC1 {t ty b : Nat} {v : Value} {cs : List Value} {T : TypeId} (j : Nat) (he : e = .ret ∨ e = .normal) (hres : fn.results = #[.cell t ty]) (ht : get env t = some (.pointer (some ⟨b, 0, none⟩))) (hj : bs[j]? = some (b, cs, T)) (ha : agg? ty = some false) (hv : cs[0]? = some v)
    (hΦ : ∀ w, Hp w0 ex w bs → Φ v w) : WE (bodyPost Tryd.prog fn (Ret Φ)) e n [] env w0 ex bs :=
  we_post he _ (fun a w hs' hh => by
    have h1 := hs'.vals _ _ ht
    have h2 := hh.cell_blk hj hv
    simp [results, hres, h1, asAddr, loadVar, run_isAgg ha, h2]) hΦ

theorem we_retC3 {t ty m b u s : Nat} {x y : Value} {cs : List Value} {T : TypeId} (j : Nat) (he : e = .ret ∨ e = .normal) (hres : fn.results = #[.cell t ty, .tmp u, .tmp s]) (ht : get env t = some (.pointer (some ⟨b, 0, none⟩))) (hj : bs[j]? = some (b, cs, T)) (ha : agg? ty = some true) (hs : lk tS ty = some m) (hl : cs.length = m)
    (hu : get env u = some x) (hy : get env s = some y) (hΦ : ∀ w, Hp w0 ex w bs → Φ (.tuple #[.agg cs.toArray, x, y]) w) : WE (bodyPost Tryd.prog fn (Ret Φ)) e n [] env w0 ex bs :=
  we_post he _ (fun a w hs' hh => by
    have h1 := hs'.vals _ _ ht; have h3 := hs'.vals _ _ hu; have h4 := hs'.vals _ _ hy
    have h2 := run_loadAgg (b := b) (o := 0) (w := w) ha hs hl (fun i v hi => by rw [Nat.zero_add]; exact hh.cell_blk hj hi)
    simp [results, hres, h1, h3, h4, asAddr, h2]) hΦ
end

end Go.Proofs.YtielloijdkoeiaaDoor
