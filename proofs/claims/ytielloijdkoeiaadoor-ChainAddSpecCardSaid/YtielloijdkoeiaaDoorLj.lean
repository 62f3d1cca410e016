/- Plain laws of chains; a step of a walk that only leaves facts of the world. -/
import Derived.Lib.SlBytesConst
import Derived.Test.YtielloijdkoeiaaDoorLi
namespace Go.Proofs.YtielloijdkoeiaaDoor
open Go Go.RowKit Go.Lib
set_option maxRecDepth 100000

theorem chkP_zero {xs : List Lnk} : chkP xs = 0 ↔ xs.length ≤ 1024 ∧ ∀ k, k < xs.length → okB xs k = true := by
  unfold chkP
  by_cases h : 1024 < xs.length
  · rw [if_pos h]
    exact ⟨fun e => (by cases e), fun e => (by omega)⟩
  · rw [if_neg h]
    have hall : (List.range xs.length).all (okB xs) = true ↔ ∀ k, k < xs.length → okB xs k = true := by
      rw [List.all_eq_true]
      exact ⟨fun e k hk => e k (by simpa using hk), fun e k hk => e k (by simpa using hk)⟩
    by_cases h2 : (List.range xs.length).all (okB xs) = true
    · rw [if_pos h2]
      exact ⟨fun _ => ⟨by omega, hall.1 h2⟩, fun _ => rfl⟩
    · rw [if_neg h2]
      exact ⟨fun e => (by cases e), fun e => absurd (hall.2 e.2) h2⟩
theorem chkP_range (xs : List Lnk) : chkP xs = 0 ∨ chkP xs = 2 ∨ chkP xs = 80 := by
  unfold chkP
  split
  · exact Or.inr (Or.inl rfl)
  · split
    · exact Or.inl rfl
    · exact Or.inr (Or.inr rfl)
theorem chkP_nil : chkP [] = 0 := rfl
theorem okB_append {xs ys : List Lnk} {k : Nat} (hk : k < xs.length) : okB (xs ++ ys) k = okB xs k := by
  unfold okB
  rw [List.getElem?_append_left hk, List.getElem?_append_left (by omega), List.take_append_of_le_length (by omega)]
theorem chkP_snoc {xs : List Lnk} {x : Lnk} (h : chkP xs = 0) (h0 : xs.length < 1024) (hn : ∀ y, xs[0]? = some y → x.node = y.node) (h1 : ¬ x.node < 0) (h2 : ¬ 24 ≤ x.node) (h3 : x.no = (xs.length : Int)) (h4 : x.data.length ≤ 65536) (h5 : x.prev = headP xs) : chkP (xs ++ [x]) = 0 := by
  rw [chkP_zero] at h ⊢
  refine ⟨by simp; omega, fun k hk => ?_⟩
  simp only [List.length_append, List.length_cons, List.length_nil, Nat.zero_add] at hk
  rcases Nat.lt_or_ge k xs.length with hk' | hk'
  · rw [okB_append hk']; exact h.2 k hk'
  · have e : k = xs.length := by omega
    subst e
    have hx : (xs ++ [x])[xs.length]? = some x := by simp
    have htk : (xs ++ [x]).take xs.length = xs := by simp
    cases hx0 : xs[0]? with
    | none =>
      have hxs : xs = [] := by
        cases xs with
        | nil => rfl
        | cons z zs => simp at hx0
      subst hxs
      rw [okB_iff hx (y := x) rfl, htk]
      exact ⟨rfl, h1, h2, h3, h4, h5⟩
    | some y =>
      have hlt : 0 < xs.length := (List.getElem?_eq_some_iff.1 hx0).1
      have hy : (xs ++ [x])[0]? = some y := by rw [List.getElem?_append_left hlt]; exact hx0
      rw [okB_iff hx hy, htk]
      exact ⟨hn y hx0, h1, h2, h3, h4, h5⟩
theorem chkP_take {xs : List Lnk} (n : Nat) (h : chkP xs = 0) : chkP (xs.take n) = 0 := by
  rw [chkP_zero] at h ⊢
  refine ⟨by simp; omega, fun k hk => ?_⟩
  have hk' : k < xs.length := by simp at hk; omega
  have := okB_append (xs := xs.take n) (ys := xs.drop n) hk
  rw [List.take_append_drop] at this
  rw [← this]; exact h.2 k hk'
theorem addE_chk {xs : List Lnk} {x : Lnk} {node : Int} {data : List UInt8} (h : addE xs node data.length = 0) (hs : xs.length ≤ 1024) (h1 : x.node = node) (h2 : x.no = (xs.length : Int)) (h3 : x.prev = headP xs) (h4 : x.data = data) : chkP (xs ++ [x]) = 0 := by
  obtain ⟨c1, n1, n2, n3, n4, n5⟩ := addE_zero h
  refine chkP_snoc c1 (by omega) (fun y hy => ?_) (by rw [h1]; exact n1) (by rw [h1]; exact n2) h2 (by rw [h4]; omega) h3
  unfold offB at n3
  rw [hy] at n3
  simp only [decide_eq_false_iff_not, ne_eq, Decidable.not_not] at n3
  rw [h1]; exact n3

theorem LkA.drop1 {w : World} {b o c : Nat} {x : Lnk} {xs : List Lnk} (h : LkA w (some ⟨b, o, none⟩) c (x :: xs)) : LkA w (some ⟨b, o + 35, none⟩) (c - 1) xs := by
  obtain ⟨h1, -, h3 | ⟨b', o', e, h3⟩⟩ := h
  · cases h3
  · cases e
    refine ⟨by simp at h1; omega, by simp, Or.inr ⟨b, o + 35, rfl, fun k y hy => ?_⟩⟩
    obtain ⟨h4, h5⟩ := h3 (k + 1) y (by simpa using hy)
    refine ⟨h4, fun i v hv => ?_⟩
    have := h5 i v hv
    rwa [show o + (k + 1) * 35 + i = o + 35 + k * 35 + i by omega] at this

section
variable {r : Option Nat} {Q : Exit → Act → World → Prop} {n : Nat} {ds : List Deferred} {env : Env} {w0 : World} {ex : List Nat} {bs : Blks}
/-- An operation of which only facts of the world are kept: the walk starts anew from that world. -/
theorem wl_fact {ops : Array Oper} {op : Op} {rest : List Oper} {d : Nat} {ty : TypeId} {pos : String} {af : Array Edge} {g : Option (Nat × Bool)} {Φ : World → Value → World → Prop} (hg : wantE ops env g = some true) (hdn : Nat.blt d n = true) (hd : Op.noDefer op = true)
    (h : OD env w0 ex bs ⟨some d, op, ty, pos, af, g⟩ Φ) (next : ∀ w v w', Hp w0 ex w bs → Φ w v w' → WL r ops Q rest n ds ((d, v) :: env) w' [] []) : WL r ops Q (⟨some d, op, ty, pos, af, g⟩ :: rest) n ds env w0 ex bs :=
  wl_gen (o := ⟨some d, op, ty, pos, af, g⟩) hg hd h fun _ w v w' hs hh hv => (next w v w' hh hv).go _ _ (hs.put (by simpa using hdn) _) (Hp.start w')
end

section
variable {env : Env} {w0 : World} {ex : List Nat} {bs : Blks} {d : Option Nat} {ty : TypeId} {pos : String} {af : Array Edge} {g : Option (Nat × Bool)}
/-- A slice written out: the world behind it, by name. -/
theorem od_buildSliceZ {t e size len : Nat} {parts : Array (Nat × Operand)} {ps : List (Nat × Value)} {cs : List Value} (ht : lk tU t = some (.slice e)) (hs : lk tS e = some size) (hz : ∃ z, ∀ w, (zeroValue e).run Tryd.prog w = .ok z w)
    (hp : evP env parts.toList = some ps) (hi : idx 0 (ps.map (·.2)) = ps) (hl : ps.length = len) (hsz : ∀ v ∈ ps.map (·.2), v.cells.toList.length = size) (hb : len * size ≤ 16777216) (hcs : ((ps.map (·.2)).flatMap fun v => v.cells.toList) = cs) :
    OD env w0 ex bs ⟨d, .buildSlice t len parts, ty, pos, af, g⟩ (fun w v w' => v = .slice (some ⟨w.heap.size, 0, none⟩) len len ∧ w' = w.alloc (.cells cs.toArray e)) := by
  obtain ⟨z, hz⟩ := hz
  refine ⟨fun ρ w hρ hw => ?_⟩
  have h1 := (run_new (w := w) cs e).1
  have hm : (parts.map fun x => (x.1, ρ x.2)).toList = ps := by simpa using evP_map hρ hp
  have hfill : ∀ zs : Array Value, Instr.fill (fun i => some (i * size, size)) ((Array.range (len * size)).map (zs[· % zs.size]!)) ps = some cs.toArray := by
    intro zs
    have e1 : (Array.range (len * size)).map (zs[· % zs.size]!) = (((Array.range (len * size)).map (zs[· % zs.size]!)).toList).toArray := (Array.toArray_toList).symm
    rw [e1]
    refine fill_list _ _ _ _ ?_
    have := fillL_all size (ps.map (·.2)) [] (((Array.range (len * size)).map (zs[· % zs.size]!)).toList) 0 hsz (by simp) (by simp [hl])
    rw [hi, hcs] at this
    simpa using this
  have hr : (execOp ρ ⟨d, .buildSlice t len parts, ty, pos, af, g⟩).run Tryd.prog w = .ok (.value (.slice (some ⟨w.heap.size, 0, none⟩) len len)) (w.alloc (.cells cs.toArray e)) := by
    have hno : ¬ (len * size > 2 ^ 24) := by omega
    by_cases h0 : len * size = 0
    · simp only [execOp, Instr.buildSlice, Sem.run_bind, run_U ht, Result.andThen_ok, S_ok hs, if_neg hno, Sem.run_pure, if_pos h0, hm, hfill, h1]
    · simp only [execOp, Instr.buildSlice, Sem.run_bind, run_U ht, Result.andThen_ok, S_ok hs, if_neg hno, Sem.run_pure, if_neg h0, hz, hm, hfill, h1]
  exact does_value hr ⟨rfl, rfl⟩
end

section
variable {r : Option Nat} {Q : Exit → Act → World → Prop} {n : Nat} {ds : List Deferred} {env : Env} {w0 : World} {ex : List Nat} {bs : Blks}
/-- Bytes of a constant text: the row and, behind it, its mark. -/
theorem wl_lit {ops : Array Oper} {rest : List Oper} {d1 d2 len : Nat} {parts : Array (Nat × Operand)} {ps : List (Nat × Value)} {ty1 ty2 : TypeId} {pos1 pos2 : String} {af1 af2 : Array Edge} (cs : List Value) (hn1 : Nat.blt d1 n = true) (hn2 : Nat.blt d2 n = true)
    (hp : evP env parts.toList = some ps) (hi : idx 0 (ps.map (·.2)) = ps) (hl : ps.length = len) (hsz : ∀ v ∈ ps.map (·.2), v.cells.toList.length = 1) (hb : len * 1 ≤ 16777216) (hcs : ((ps.map (·.2)).flatMap fun v => v.cells.toList) = cs)
    (next : ∀ b, WL r ops Q rest n ds ((d2, .slice (some ⟨b, 0, none⟩) len len) :: (d1, .slice (some ⟨b, 0, none⟩) len len) :: env) w0 ex ((b, cs, 5) :: bs)) :
    WL r ops Q (⟨some d1, .buildSlice 43 len parts, ty1, pos1, af1, none⟩ :: ⟨some d2, .convert 43 43 (.tmp d1), ty2, pos2, af2, none⟩ :: rest) n ds env w0 ex bs := by
  refine wl_gen (o := ⟨some d1, .buildSlice 43 len parts, ty1, pos1, af1, none⟩) rfl rfl (od_buildSliceZ (cs := cs) rfl rfl ⟨_, Tryd.zeroValue5⟩ hp hi hl hsz hb hcs) fun a w v w' hs hh hv => ?_
  obtain ⟨rfl, rfl⟩ := hv
  have hs1 := hs.put (d := d1) (by simpa using hn1) (.slice (some ⟨w.heap.size, 0, none⟩) len len)
  refine wpListIn_step fun K hK => ?_
  rw [wanted_of (o := ⟨some d2, .convert 43 43 (.tmp d1), ty2, pos2, af2, none⟩) (b := true) hs1 rfl, if_pos rfl]
  have hρ : (a.put (some d1) (.slice (some ⟨w.heap.size, 0, none⟩) len len)).eval (.tmp d1) = .slice (some ⟨w.heap.size, 0, none⟩) len len := hs1.agree (.tmp d1) _ (by simp [ev, get])
  refine Does.wpIn rfl (does_value (v := .slice (some ⟨w.heap.size, 0, none⟩) len len) (w' := w.alloc (.cells cs.toArray 5 (cs.toArray.size, cs.toArray.size + 1))) ?_ (hK _ _ ?_))
  · simp only [execOp, hρ, Sem.run_bind, run_convert_bytes_const w 43 5 cs.toArray len len (U_ok rfl) (U_ok rfl), Result.andThen_ok, Sem.run_pure]
  · have hx : Ext w (w.alloc (.cells cs.toArray 5 (cs.toArray.size, cs.toArray.size + 1))) := (Below.refl _ _).alloc (Nat.le_refl _) _
    exact (next w.heap.size).go _ _ (hs1.put (by simpa using hn2) _) (hh.new hx (Nat.le_refl _) ⟨_, World.alloc_heap_new w _, fun i hi => by simp; omega⟩)
end
end Go.Proofs.YtielloijdkoeiaaDoor
