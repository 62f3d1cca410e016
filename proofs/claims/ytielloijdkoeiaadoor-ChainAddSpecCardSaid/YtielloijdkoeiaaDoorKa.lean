/- The frame of the walks: an activation known by a list of slots, memory known by what was there and by a list of private blocks; one rule for each form of code; a rule for regions whose order is drawn. Nothing of the program is said here but its tables' name. -/
import Derived.WalkKit
import Derived.OrdersIn
import Derived.RangeFuncLeaves
import Derived.Deep.LoopGhost
import Derived.RangeFuncRecord
import Derived.Test.YtielloijdkoeiaaDoorChecked
namespace Go.Proofs.YtielloijdkoeiaaDoor
open Go Go.RowKit

/-! ### Slots -/
abbrev Env := List (Nat × Value)

def get : Env → Nat → Option Value
  | [], _ => none
  | (d, v) :: r, t => bif Nat.beq d t then some v else get r t

def ev (env : Env) : Operand → Option Value
  | .tmp t => get env t
  | .const v => some v
  | .global g => some (.pointer (some ⟨g, 0, none⟩))
  | .func f => some (.func (.func f) #[] #[])

def Agree (ρ : Operand → Value) (env : Env) : Prop := ∀ x v, ev env x = some v → ρ x = v

structure Sat (a : Act) (n : Nat) (ds : List Deferred) (env : Env) : Prop where
  size : a.tmps.size = n
  defers : a.defers = ds
  vals : ∀ t v, get env t = some v → a.tmps[t]? = some v

theorem Sat.agree {a : Act} {n : Nat} {ds : List Deferred} {env : Env} (h : Sat a n ds env) : Agree a.eval env := by
  intro x v hx
  cases x with
  | tmp t =>
    have := h.vals t v hx
    simp [Act.eval, this]
  | const u => simpa [ev, Act.eval] using hx
  | global g => simpa [ev, Act.eval] using hx
  | func f => simpa [ev, Act.eval] using hx

theorem Sat.put {a : Act} {n : Nat} {ds : List Deferred} {env : Env} (h : Sat a n ds env) {d : Nat} (hd : d < n) (v : Value) :
    Sat (a.put (some d) v) n ds ((d, v) :: env) := by
  refine ⟨by simp [Act.put, h.size], by simp [Act.put, h.defers], fun t u ht => ?_⟩
  simp only [get] at ht
  by_cases e : d = t
  · subst e
    simp at ht
    subst ht
    simp [Act.put, h.size, hd]
  · have hb : Nat.beq d t = false := by
      cases hb : Nat.beq d t with
      | false => rfl
      | true => exact absurd (Nat.eq_of_beq_eq_true hb) e
    simp [hb] at ht
    simp [Act.put, Array.getElem?_setIfInBounds_ne e, h.vals t u ht]

theorem Sat.put_none {a : Act} {n : Nat} {ds : List Deferred} {env : Env} (h : Sat a n ds env) (v : Value) : Sat (a.put none v) n ds env := h

def Env.le : Env → Env → Prop
  | [], _ => True
  | (d, v) :: r, env => get env d = some v ∧ Env.le r env

theorem Env.le_get {e env : Env} (h : Env.le e env) {t : Nat} {v : Value} (ht : get e t = some v) : get env t = some v := by
  induction e with
  | nil => simp [get] at ht
  | cons x r ih =>
    obtain ⟨d, u⟩ := x
    obtain ⟨h1, h2⟩ := h
    simp only [get] at ht
    cases hb : Nat.beq d t with
    | true =>
      simp [hb] at ht
      have := Nat.eq_of_beq_eq_true hb
      subst this
      rw [h1, ht]
    | false =>
      simp [hb] at ht
      exact ih h2 ht

theorem Sat.weaken {a : Act} {n : Nat} {ds : List Deferred} {env env' : Env} (h : Sat a n ds env) (hle : Env.le env' env) : Sat a n ds env' :=
  ⟨h.size, h.defers, fun t v ht => h.vals t v (Env.le_get hle ht)⟩

def wantE (ops : Array Oper) (env : Env) : Option (Nat × Bool) → Option Bool
  | none => some true
  | some (j, want) =>
    match ((ops[j]?).bind (·.dst)).bind (get env) with
    | some (.bool b) => some (b == want)
    | some (.tuple _) => some false
    | _ => none

theorem wanted_of {ops : Array Oper} {env : Env} {o : Oper} {b : Bool} {a : Act} {n : Nat} {ds : List Deferred} (hs : Sat a n ds env) (h : wantE ops env o.guard = some b) :
    Region.wanted o (yielded ops a.tmps) = b := by
  unfold Region.wanted
  cases hg : o.guard with
  | none => simpa [hg, wantE] using h
  | some jw =>
    obtain ⟨j, want⟩ := jw
    simp only [hg, wantE] at h
    cases hx : ((ops[j]?).bind (·.dst)) with
    | none => simp [hx] at h
    | some d =>
      simp only [hx, Option.bind_some] at h
      cases hv : get env d with
      | none => simp [hv] at h
      | some v =>
        have hz := hs.vals d v hv
        simp only [yielded, hx, Option.bind_some, hz]
        cases v <;> simp [hv] at h ⊢
        · rename_i b'
          rw [← h]
        · exact h

/-! ### Memory -/
/-- All that was there is as it was. -/
def Ext (w w' : World) : Prop := Below w.heap.size w w'
theorem Ext.refl (w : World) : Ext w w := Below.refl _ _
theorem Ext.trans {a b c : World} (h : Ext a b) (k : Ext b c) : Ext a c := Below.trans h (k.mono h.size)
theorem Ext.drew (w : World) : Ext w { w with drawn := w.drawn + 1 } := ⟨rfl, rfl, rfl, Nat.le_refl _, fun _ _ => rfl⟩

/-- Block b holds these cells, of this element type; none of them is marked. -/
def Blk (w : World) (b : Nat) (cs : List Value) (T : TypeId) : Prop :=
  ∃ fr : Nat × Nat, w.heap[b]? = some (.cells cs.toArray T fr) ∧ ∀ i, i < cs.length → ¬ (fr.1 ≤ i ∧ i < fr.2)

theorem Blk.lt {w : World} {b : Nat} {cs : List Value} {T : TypeId} (h : Blk w b cs T) : b < w.heap.size := by
  obtain ⟨fr, h, _⟩ := h
  rcases Nat.lt_or_ge b w.heap.size with h' | h'
  · exact h'
  · rw [Array.getElem?_eq_none h'] at h; cases h

theorem Blk.cell {w : World} {b : Nat} {cs : List Value} {T : TypeId} (h : Blk w b cs T) (i : Nat) : w.cell? ⟨b, i, none⟩ = cs[i]? := by
  obtain ⟨fr, h, _⟩ := h
  simp [World.cell?, h]

theorem Blk.free {w : World} {b : Nat} {cs : List Value} {T : TypeId} (h : Blk w b cs T) {i : Nat} (hi : i < cs.length) : w.frozen? ⟨b, i, none⟩ = false := by
  obtain ⟨fr, h, hf⟩ := h
  obtain ⟨lo, hi'⟩ := fr
  have := hf i hi
  simp only [World.frozen?, h]
  simp at this ⊢
  exact this

theorem Blk.of_heap {w w' : World} {b : Nat} {cs : List Value} {T : TypeId} (h : Blk w b cs T) (e : w'.heap[b]? = w.heap[b]?) : Blk w' b cs T := by
  obtain ⟨fr, h, hf⟩ := h
  exact ⟨fr, by rw [e]; exact h, hf⟩

theorem Blk.ext {w w' : World} {b : Nat} {cs : List Value} {T : TypeId} (h : Blk w b cs T) (k : Ext w w') : Blk w' b cs T :=
  h.of_heap (k.block b h.lt)

/-- Of what was there block b alone may have turned. -/
structure Only (w w' : World) (b : Nat) : Prop where
  os : w'.os = w.os
  tape : w'.tape = w.tape
  output : w'.output = w.output
  size : w.heap.size ≤ w'.heap.size
  block : ∀ k, k < w.heap.size → k ≠ b → w'.heap[k]? = w.heap[k]?

theorem Ext.only {w w' : World} (h : Ext w w') (b : Nat) : Only w w' b := ⟨h.os, h.tape, h.output, h.size, fun k hk _ => h.block k hk⟩
theorem Only.trans {a b c : World} {x : Nat} (h : Only a b x) (k : Only b c x) : Only a c x :=
  ⟨k.os.trans h.os, k.tape.trans h.tape, k.output.trans h.output, Nat.le_trans h.size k.size, fun i hi hx => (k.block i (Nat.lt_of_lt_of_le hi h.size) hx).trans (h.block i hi hx)⟩

abbrev Blks := List (Nat × List Value × TypeId)

/-- The heap as the walk knows it: of what was there in w0 only the blocks of 'ex' may have turned; the private blocks, with all their cells. -/
structure Hp (w0 : World) (ex : List Nat) (w : World) (bs : Blks) : Prop where
  os : w.os = w0.os
  tape : w.tape = w0.tape
  output : w.output = w0.output
  size : w0.heap.size ≤ w.heap.size
  old : ∀ k, k < w0.heap.size → k ∉ ex → w.heap[k]? = w0.heap[k]?
  blk : ∀ x ∈ bs, (w0.heap.size ≤ x.1 ∨ x.1 ∈ ex) ∧ Blk w x.1 x.2.1 x.2.2
  nodup : (bs.map (·.1)).Nodup

theorem Hp.start (w : World) : Hp w [] w [] := ⟨rfl, rfl, rfl, Nat.le_refl _, fun _ _ _ => rfl, fun _ h => (by cases h), List.nodup_nil⟩

theorem Hp.start1 {w : World} {b : Nat} {cs : List Value} {T : TypeId} (h : Blk w b cs T) : Hp w [b] w [(b, cs, T)] :=
  ⟨rfl, rfl, rfl, Nat.le_refl _, fun _ _ _ => rfl, fun x hx => by (simp at hx; subst hx; exact ⟨Or.inr (by simp), h⟩), by simp⟩

theorem Hp.ext_all {w0 w : World} {bs : Blks} (h : Hp w0 [] w bs) : Ext w0 w := ⟨h.os, h.tape, h.output, h.size, fun k hk => h.old k hk (by simp)⟩
theorem Hp.only_all {w0 w : World} {b : Nat} {bs : Blks} (h : Hp w0 [b] w bs) : Only w0 w b := ⟨h.os, h.tape, h.output, h.size, fun k hk hb => h.old k hk (by simpa using hb)⟩

theorem Hp.ext {w0 : World} {ex : List Nat} {w w' : World} {bs : Blks} (h : Hp w0 ex w bs) (k : Ext w w') : Hp w0 ex w' bs :=
  ⟨k.os.trans h.os, k.tape.trans h.tape, k.output.trans h.output, Nat.le_trans h.size k.size,
   fun i hi hx => (k.block i (Nat.lt_of_lt_of_le hi h.size)).trans (h.old i hi hx), fun x hx => ⟨(h.blk x hx).1, (h.blk x hx).2.ext k⟩, h.nodup⟩

theorem Hp.new {w0 : World} {ex : List Nat} {w w' : World} {bs : Blks} (h : Hp w0 ex w bs) (k : Ext w w') {b : Nat} {cs : List Value} {T : TypeId} (hb : w.heap.size ≤ b) (hB : Blk w' b cs T) :
    Hp w0 ex w' ((b, cs, T) :: bs) := by
  have h' := h.ext k
  refine ⟨h'.os, h'.tape, h'.output, h'.size, h'.old, fun x hx => ?_, ?_⟩
  · rcases List.mem_cons.1 hx with rfl | hx
    · exact ⟨Or.inl (Nat.le_trans h.size hb), hB⟩
    · exact h'.blk x hx
  · simp only [List.map_cons, List.nodup_cons]
    refine ⟨fun hm => ?_, h.nodup⟩
    obtain ⟨x, hx, e⟩ := List.mem_map.1 hm
    have := (h.blk x hx).2.lt
    omega

theorem nodup_idx {α : Type} {l : List α} (h : l.Nodup) {i j : Nat} {x : α} (hi : l[i]? = some x) (hj : l[j]? = some x) : i = j := by
  obtain ⟨hi', ei⟩ := List.getElem?_eq_some_iff.1 hi
  obtain ⟨hj', ej⟩ := List.getElem?_eq_some_iff.1 hj
  have hp := List.pairwise_iff_getElem.1 h
  rcases Nat.lt_trichotomy i j with hlt | e | hlt
  · exact absurd (ei.trans ej.symm) (hp i j hi' hj' hlt)
  · exact e
  · exact absurd (ej.trans ei.symm) (hp j i hj' hi' hlt)

theorem Hp.at {w0 : World} {ex : List Nat} {w : World} {bs : Blks} (h : Hp w0 ex w bs) {j b : Nat} {cs : List Value} {T : TypeId} (hj : bs[j]? = some (b, cs, T)) :
    (w0.heap.size ≤ b ∨ b ∈ ex) ∧ Blk w b cs T := h.blk (b, cs, T) (List.mem_of_getElem? hj)

theorem Hp.lt {w0 : World} {ex : List Nat} {w : World} {bs : Blks} (h : Hp w0 ex w bs) {j b : Nat} {cs : List Value} {T : TypeId} (hj : bs[j]? = some (b, cs, T)) : b < w.heap.size := (h.at hj).2.lt

/-- One private block has turned. -/
theorem Hp.upd {w0 : World} {ex : List Nat} {w w' : World} {bs : Blks} (h : Hp w0 ex w bs) {j b : Nat} {cs cs' : List Value} {T T' : TypeId} (hj : bs[j]? = some (b, cs, T))
    (ho : Only w w' b) (hB : Blk w' b cs' T') : Hp w0 ex w' (bs.set j (b, cs', T')) := by
  have hb := h.at hj
  refine ⟨ho.os.trans h.os, ho.tape.trans h.tape, ho.output.trans h.output, Nat.le_trans h.size ho.size, fun k hk hx => ?_, fun x hx => ?_, ?_⟩
  · rw [ho.block k (Nat.lt_of_lt_of_le hk h.size) (fun e => ?_)]
    · exact h.old k hk hx
    · subst e
      rcases hb.1 with h1 | h1
      · omega
      · exact hx h1
  · obtain ⟨i, hi⟩ := List.getElem?_of_mem hx
    by_cases e : i = j
    · subst e
      have hlt : i < bs.length := (List.getElem?_eq_some_iff.1 hj).1
      rw [List.getElem?_set_self hlt] at hi
      cases hi
      exact ⟨hb.1, hB⟩
    · rw [List.getElem?_set_ne (Ne.symm e)] at hi
      have hxx := h.blk x (List.mem_of_getElem? hi)
      refine ⟨hxx.1, hxx.2.of_heap (ho.block _ hxx.2.lt (fun e2 => ?_))⟩
      exact e (nodup_idx h.nodup (i := i) (j := j) (x := b) (by simp [hi, e2]) (by simp [hj]))
  · have : (bs.set j (b, cs', T')).map (·.1) = bs.map (·.1) := by
      rw [List.map_set]
      refine List.ext_getElem? fun i => ?_
      by_cases e : i = j
      · subst e
        have hlt : i < bs.length := (List.getElem?_eq_some_iff.1 hj).1
        rw [List.getElem?_set_self (by simpa using hlt)]
        simp [hj]
      · rw [List.getElem?_set_ne (Ne.symm e)]
    rw [this]; exact h.nodup

/-- What is known of some blocks may be dropped. -/
theorem Hp.sub {w0 : World} {ex : List Nat} {w : World} {bs bs' : Blks} (h : Hp w0 ex w bs) (hs : List.Sublist bs' bs) : Hp w0 ex w bs' :=
  ⟨h.os, h.tape, h.output, h.size, h.old, fun x hx => h.blk x (hs.subset hx), List.Nodup.sublist (hs.map _) h.nodup⟩

/-- Block j of the list is given up, another (or the same) with new contents comes in. -/
theorem Hp.swap {w0 : World} {ex : List Nat} {w w' : World} {bs : Blks} (h : Hp w0 ex w bs) {j b b' : Nat} {cs cs' : List Value} {T T' : TypeId} (hj : bs[j]? = some (b, cs, T))
    (ho : Only w w' b) (hB : Blk w' b' cs' T') (hbb : b' = b ∨ w.heap.size ≤ b') : Hp w0 ex w' ((b', cs', T') :: bs.eraseIdx j) := by
  have hb := h.at hj
  have hne : ∀ x ∈ bs.eraseIdx j, x ∈ bs ∧ x.1 ≠ b := by
    intro x hx
    have hm : x ∈ bs := (List.eraseIdx_sublist bs j).subset hx
    refine ⟨hm, fun e2 => ?_⟩
    obtain ⟨i, hi⟩ := List.getElem?_of_mem hx
    rw [List.getElem?_eraseIdx] at hi
    split at hi
    · rename_i hlt
      have := nodup_idx h.nodup (i := i) (j := j) (x := b) (by simp [hi, e2]) (by simp [hj])
      omega
    · rename_i hlt
      have := nodup_idx h.nodup (i := i + 1) (j := j) (x := b) (by simp [hi, e2]) (by simp [hj])
      omega
  refine ⟨ho.os.trans h.os, ho.tape.trans h.tape, ho.output.trans h.output, Nat.le_trans h.size ho.size, fun k hk hx => ?_, fun x hx => ?_, ?_⟩
  · rw [ho.block k (Nat.lt_of_lt_of_le hk h.size) (fun e => ?_)]
    · exact h.old k hk hx
    · subst e
      rcases hb.1 with h1 | h1
      · omega
      · exact hx h1
  · rcases List.mem_cons.1 hx with rfl | hx
    · refine ⟨?_, hB⟩
      rcases hbb with e | e
      · simp only; rw [e]; exact hb.1
      · exact Or.inl (Nat.le_trans h.size e)
    · obtain ⟨hm, hn⟩ := hne x hx
      have hxx := h.blk x hm
      exact ⟨hxx.1, hxx.2.of_heap (ho.block _ hxx.2.lt hn)⟩
  · simp only [List.map_cons, List.nodup_cons]
    refine ⟨fun hm => ?_, List.Nodup.sublist ((List.eraseIdx_sublist bs j).map _) h.nodup⟩
    obtain ⟨x, hx, e⟩ := List.mem_map.1 hm
    obtain ⟨hm', hn⟩ := hne x hx
    rcases hbb with e2 | e2
    · exact hn (e.trans e2)
    · have := (h.blk x hm').2.lt
      omega

/-- A cell of what was there. -/
theorem Hp.cell_old {w0 : World} {ex : List Nat} {w : World} {bs : Blks} (h : Hp w0 ex w bs) {b o : Nat} {v : Value} (hc : w0.cell? ⟨b, o, none⟩ = some v) (hx : b ∉ ex) :
    w.cell? ⟨b, o, none⟩ = some v := by
  have hlt : b < w0.heap.size := by
    rcases Nat.lt_or_ge b w0.heap.size with h' | h'
    · exact h'
    · simp [World.cell?, Array.getElem?_eq_none h'] at hc
  simp only [World.cell?] at hc ⊢
  rw [h.old b hlt hx]
  exact hc

theorem Hp.cell_blk {w0 : World} {ex : List Nat} {w : World} {bs : Blks} (h : Hp w0 ex w bs) {j b o : Nat} {cs : List Value} {T : TypeId} {v : Value} (hj : bs[j]? = some (b, cs, T)) (hv : cs[o]? = some v) :
    w.cell? ⟨b, o, none⟩ = some v := by rw [(h.at hj).2.cell]; exact hv

/-! ### The fence and an operation -/
def FF : Option Nat → Fence
  | none => Fence.wide
  | some l => Fence.wide.inRound l

theorem FF_fn (r : Option Nat) (f : FuncId) : (FF r).fn f := by cases r <;> exact trivial
theorem FF_depth (r : Option Nat) : (FF r).depth = none := by cases r <;> rfl
theorem FF_round (r : Option Nat) : (FF r).round = r := by cases r <;> rfl
theorem FF_callsIn {r : Option Nat} {n : Nat} {f : FuncId} {args : Array Value} {w : World} {R : Ending → World → Prop} (h : Calls Tryd.prog f args w R) : CallsIn (FF r) n Tryd.prog f args w R := by
  cases r with
  | none => exact callsIn_wide.2 h
  | some l => exact (callsIn_wide.2 h : CallsIn Fence.wide n Tryd.prog f args w R)
theorem FF_roundIn {r : Option Nat} {n l : Nat} {f : FuncId} {tmps : Array Value} {asg bd : Code} {w : World} {R : Ending → World → Prop} (h : RoundIn Fence.wide n Tryd.prog l f tmps asg bd w R) :
    RoundIn (FF r) n Tryd.prog l f tmps asg bd w R := by
  cases r <;> exact h

/-- What an operation does, in whatever frame reads its operands so: the value that it hands back and the world behind it. -/
def DoesD (o : Oper) (ρ : Operand → Value) (w : World) (Φ : Value → World → Prop) : Prop :=
  match (execOp ρ o).run Tryd.prog w with
  | .ok (.value v) w' => Φ v w'
  | .ok .skip w' => Φ undef w'
  | .ok (.enter f args) w' => Calls Tryd.prog f args w' fun e w'' => ∃ v, e = .returned v ∧ Φ v w''
  | .ok (.round l f tmps asg bd) w' => RoundIn Fence.wide 0 Tryd.prog l f tmps asg bd w' fun e w'' => ∃ v, e = .returned v ∧ Φ v w''
  | _ => False

structure Does (o : Oper) (ρ : Operand → Value) (w : World) (Φ : Value → World → Prop) : Prop where
  run : DoesD o ρ w Φ

theorem DoesD.mono {o : Oper} {ρ : Operand → Value} {w : World} {Φ Ψ : Value → World → Prop} (h : DoesD o ρ w Φ) (hk : ∀ v w', Φ v w' → Ψ v w') : DoesD o ρ w Ψ := by
  unfold DoesD at *
  generalize (execOp ρ o).run Tryd.prog w = r at *
  cases r with
  | ok x w' =>
    cases x <;> first
      | exact h.elim
      | exact hk _ _ h
      | exact Calls.mono h fun e w'' he => (let ⟨v, he, hv⟩ := he; ⟨v, he, hk _ _ hv⟩)
      | exact RoundIn.mono h fun e w'' he => (let ⟨v, he, hv⟩ := he; ⟨v, he, hk _ _ hv⟩)
  | halt x w' => exact h

theorem Does.mono {o : Oper} {ρ : Operand → Value} {w : World} {Φ Ψ : Value → World → Prop} (h : Does o ρ w Φ) (hk : ∀ v w', Φ v w' → Ψ v w') : Does o ρ w Ψ := ⟨h.run.mono hk⟩

def Op.noDefer : Op → Bool
  | .defer _ => false
  | _ => true

theorem Does.wpIn {o : Oper} {r : Option Nat} {a : Act} {w : World} {next : Act → World → Prop} {Q : Exit → Act → World → Prop} (hd : Op.noDefer o.op = true)
    (h : Does o a.eval w fun v w' => next (a.put o.dst v) w') : o.wpIn (FF r) 0 Tryd.prog a w next Q := by
  refine ⟨fun f _ => FF_fn r f, ?_⟩
  have hsem : Oper.semAt (FF r).round a.eval o = execOp a.eval o := by
    rw [FF_round]
    cases r with
    | none => exact Oper.semAt_none ..
    | some l =>
      refine Oper.semAt_some l _ o fun c hc => ?_
      simp [hc, Op.noDefer] at hd
  rw [hsem]
  replace h := h.run
  unfold DoesD at h
  generalize (execOp a.eval o).run Tryd.prog w = res at *
  have hdep : (FF r).depth.isSome = true → 1 ≤ 0 := by rw [FF_depth]; simp
  cases res with
  | ok x w' =>
    cases x <;> first
      | exact h.elim
      | exact h
      | exact ⟨hdep, FF_callsIn (Calls.mono h fun e w'' he => (by obtain ⟨v, rfl, hv⟩ := he; exact hv))⟩
      | exact ⟨hdep, FF_roundIn (RoundIn.mono h fun e w'' he => (by obtain ⟨v, rfl, hv⟩ := he; exact hv))⟩
  | halt x w' => exact h.elim

/-- An operation's law: read in any frame that agrees with the slots, in any world of this kind. -/
structure OD (env : Env) (w0 : World) (ex : List Nat) (bs : Blks) (o : Oper) (Φ : World → Value → World → Prop) : Prop where
  law : ∀ ρ w, Agree ρ env → Hp w0 ex w bs → Does o ρ w (Φ w)

/-- The three commonest effects. -/
def Still (v0 : Value) : World → Value → World → Prop := fun w v w' => v = v0 ∧ w' = w
def Quiet (v0 : Value) : World → Value → World → Prop := fun w v w' => v = v0 ∧ Ext w w'

theorem OD.mono {env : Env} {w0 : World} {ex : List Nat} {bs : Blks} {o : Oper} {Φ Ψ : World → Value → World → Prop} (h : OD env w0 ex bs o Φ) (hk : ∀ w v w', Hp w0 ex w bs → Φ w v w' → Ψ w v w') : OD env w0 ex bs o Ψ :=
  ⟨fun ρ w hρ hw => (h.law ρ w hρ hw).mono fun v w' => hk w v w' hw⟩

theorem OD.quiet {env : Env} {w0 : World} {ex : List Nat} {bs : Blks} {o : Oper} {v0 : Value} (h : OD env w0 ex bs o (Still v0)) : OD env w0 ex bs o (Quiet v0) :=
  h.mono fun w _ _ _ ⟨e1, e2⟩ => ⟨e1, e2 ▸ Ext.refl w⟩

/-! ### Judgements -/
structure WE (Q : Exit → Act → World → Prop) (e : Exit) (n : Nat) (ds : List Deferred) (env : Env) (w0 : World) (ex : List Nat) (bs : Blks) : Prop where
  go : ∀ a w, Sat a n ds env → Hp w0 ex w bs → Q e a w
structure WC (r : Option Nat) (c : Code) (Q : Exit → Act → World → Prop) (n : Nat) (ds : List Deferred) (env : Env) (w0 : World) (ex : List Nat) (bs : Blks) : Prop where
  go : ∀ a w, Sat a n ds env → Hp w0 ex w bs → c.wpIn (FF r) 0 Tryd.prog Q a w
structure WL (r : Option Nat) (ops : Array Oper) (Q : Exit → Act → World → Prop) (l : List Oper) (n : Nat) (ds : List Deferred) (env : Env) (w0 : World) (ex : List Nat) (bs : Blks) : Prop where
  go : ∀ a w, Sat a n ds env → Hp w0 ex w bs → wpListIn (FF r) 0 Tryd.prog ops Q l a w

section rules
variable {r : Option Nat} {Q : Exit → Act → World → Prop} {n : Nat} {ds : List Deferred} {env : Env} {w0 : World} {ex : List Nat} {bs : Blks}

theorem wc_seq {x y : Code} (h : WC r x (Exit.then (y.wpIn (FF r) 0 Tryd.prog Q) Q) n ds env w0 ex bs) : WC r (.seq x y) Q n ds env w0 ex bs := ⟨fun a w hs hh => wpIn_seq (h.go a w hs hh)⟩
theorem wc_block {id : Nat} {c : Code} (h : WC r c (Exit.inBlock id Q) n ds env w0 ex bs) : WC r (.block id c) Q n ds env w0 ex bs := ⟨fun a w hs hh => wpIn_block (h.go a w hs hh)⟩
theorem wc_skip (h : WE Q .normal n ds env w0 ex bs) : WC r .skip Q n ds env w0 ex bs := ⟨fun a w hs hh => wpIn_skip (h.go a w hs hh)⟩
theorem wc_exit {id : Nat} (h : WE Q (.exit id) n ds env w0 ex bs) : WC r (.exit id) Q n ds env w0 ex bs := ⟨fun a w hs hh => wpIn_exit (h.go a w hs hh)⟩
theorem wc_ret (h : WE Q .ret n ds env w0 ex bs) : WC r .ret Q n ds env w0 ex bs := ⟨fun a w hs hh => wpIn_ret (h.go a w hs hh)⟩
theorem wc_true {c : Operand} {x y : Code} (hc : ev env c = some (.bool true)) (h : WC r x Q n ds env w0 ex bs) : WC r (.cond c x y) Q n ds env w0 ex bs :=
  ⟨fun a w hs hh => wpIn_cond_true (hs.agree c _ hc) (h.go a w hs hh)⟩
theorem wc_false {c : Operand} {x y : Code} (hc : ev env c = some (.bool false)) (h : WC r y Q n ds env w0 ex bs) : WC r (.cond c x y) Q n ds env w0 ex bs :=
  ⟨fun a w hs hh => wpIn_cond_false (hs.agree c _ hc) (h.go a w hs hh)⟩
theorem wc_if {c : Operand} {x y : Code} {t : Bool} (hc : ev env c = some (.bool t)) (h1 : t = true → WC r x Q n ds env w0 ex bs) (h2 : t = false → WC r y Q n ds env w0 ex bs) : WC r (.cond c x y) Q n ds env w0 ex bs :=
  ⟨fun a w hs hh => wpIn_cond_split (hs.agree c _ hc) (fun e => (h1 e).go a w hs hh) (fun e => (h2 e).go a w hs hh)⟩
theorem wc_region {id : Nat} {l : List Oper} (h : WL r l.toArray Q l n ds env w0 ex bs) : WC r (.region id l.toArray false) Q n ds env w0 ex bs :=
  ⟨fun a w hs hh => wpIn_region_lit (h.go a w hs hh)⟩

theorem we_then {N : Act → World → Prop} (h : ∀ a w, Sat a n ds env → Hp w0 ex w bs → N a w) : WE (Exit.then N Q) .normal n ds env w0 ex bs := ⟨h⟩
theorem we_then_wc {y : Code} (h : WC r y Q n ds env w0 ex bs) : WE (Exit.then (y.wpIn (FF r) 0 Tryd.prog Q) Q) .normal n ds env w0 ex bs := ⟨h.go⟩
theorem we_then_exit {N : Act → World → Prop} {id : Nat} (h : WE Q (.exit id) n ds env w0 ex bs) : WE (Exit.then N Q) (.exit id) n ds env w0 ex bs := ⟨h.go⟩
theorem we_then_ret {N : Act → World → Prop} (h : WE Q .ret n ds env w0 ex bs) : WE (Exit.then N Q) .ret n ds env w0 ex bs := ⟨h.go⟩
theorem we_in_normal {id : Nat} (h : WE Q .normal n ds env w0 ex bs) : WE (Exit.inBlock id Q) .normal n ds env w0 ex bs := ⟨h.go⟩
theorem we_in_ret {id : Nat} (h : WE Q .ret n ds env w0 ex bs) : WE (Exit.inBlock id Q) .ret n ds env w0 ex bs := ⟨h.go⟩
theorem we_in_here {id : Nat} (h : WE Q .normal n ds env w0 ex bs) : WE (Exit.inBlock id Q) (.exit id) n ds env w0 ex bs := by
  refine ⟨fun a w hs hh => ?_⟩
  show (if id = id then _ else _)
  rw [if_pos rfl]; exact h.go a w hs hh
theorem we_in_there {id id' : Nat} (hne : Nat.beq id' id = false) (h : WE Q (.exit id') n ds env w0 ex bs) : WE (Exit.inBlock id Q) (.exit id') n ds env w0 ex bs := by
  refine ⟨fun a w hs hh => ?_⟩
  have : id' ≠ id := fun e => by rw [e, Nat.beq_refl] at hne; cases hne
  show (if id' = id then _ else _)
  rw [if_neg this]; exact h.go a w hs hh

theorem we_weaken {e : Exit} {env' : Env} {bs' : Blks} (h : WE Q e n ds env' w0 ex bs') (hle : Env.le env' env) (hbs : List.Sublist bs' bs) : WE Q e n ds env w0 ex bs :=
  ⟨fun a w hs hh => h.go a w (hs.weaken hle) (hh.sub hbs)⟩
theorem wc_weaken {c : Code} {env' : Env} {bs' : Blks} (h : WC r c Q n ds env' w0 ex bs') (hle : Env.le env' env) (hbs : List.Sublist bs' bs) : WC r c Q n ds env w0 ex bs :=
  ⟨fun a w hs hh => h.go a w (hs.weaken hle) (hh.sub hbs)⟩

/-- A loop: at each round's head the slots and the private blocks are those of some index; each round goes to a smaller one. -/
def Again {ι : Type} (n : Nat) (ds : List Deferred) (w0 : World) (ex : List Nat) (E : ι → Env) (B : ι → Blks) (pre : ι → Prop) (μ : ι → Nat) (i : ι) : Act → World → Prop :=
  fun a w => ∃ j, pre j ∧ μ j < μ i ∧ Sat a n ds (E j) ∧ Hp w0 ex w (B j)

theorem loop_by_index {F : Fence} {m : Nat} {P : Program} {Q : Exit → Act → World → Prop} {a : Act} {w : World} {c : Code} (I : Nat → Act → World → Prop) (k : Nat) (h0 : I k a w)
    (round : ∀ k a w, I k a w → c.wpIn F m P (Exit.then (fun a' w' => ∃ k', k' < k ∧ I k' a' w') Q) a w) : (Code.loop c).wpIn F m P Q a w := by
  refine wpIn_loop (fun a w => ∃ k, I k a w) (fun a w => leastOf (fun k => I k a w)) ⟨k, h0⟩ fun a w hI => ?_
  refine wpIn_mono (round _ a w (leastOf_spec hI).1) fun e a' w' hq => ?_
  cases e with
  | normal =>
    obtain ⟨k', hlt, hI'⟩ := hq
    exact show (∃ k, I k a' w') ∧ leastOf (fun k => I k a' w') < leastOf (fun k => I k a w) from ⟨⟨k', hI'⟩, Nat.lt_of_le_of_lt ((leastOf_spec ⟨k', hI'⟩).2 k' hI') hlt⟩
  | exit id => exact hq
  | goto l => exact hq
  | ret => exact hq
  | panic ch => exact hq
  | outgrown => exact hq

theorem wc_loop {ι : Type} {c : Code} (E : ι → Env) (B : ι → Blks) (pre : ι → Prop) (μ : ι → Nat) (i0 : ι) (h0 : pre i0) (hE : Env.le (E i0) env) (hB : List.Sublist (B i0) bs)
    (round : ∀ i, pre i → WC r c (Exit.then (Again n ds w0 ex E B pre μ i) Q) n ds (E i) w0 ex (B i)) : WC r (.loop c) Q n ds env w0 ex bs := by
  refine ⟨fun a w hs hh => ?_⟩
  refine loop_by_index (fun m a w => ∃ i, pre i ∧ μ i = m ∧ Sat a n ds (E i) ∧ Hp w0 ex w (B i)) (μ i0) ⟨i0, h0, rfl, hs.weaken hE, hh.sub hB⟩ ?_
  rintro m a w ⟨i, hi, rfl, hs, hh⟩
  refine wpIn_mono ((round i hi).go a w hs hh) ?_
  intro e a' w' hq
  cases e with
  | normal =>
    obtain ⟨j, hj, hlt, hsj, hhj⟩ := hq
    exact ⟨μ j, hlt, j, hj, rfl, hsj, hhj⟩
  | exit id => exact hq
  | goto l => exact hq
  | ret => exact hq
  | panic ch => exact hq
  | outgrown => exact hq

/-- A round's end. -/
theorem we_again {ι : Type} {E : ι → Env} {B : ι → Blks} {pre : ι → Prop} {μ : ι → Nat} {i : ι} (j : ι) (hj : pre j) (hlt : μ j < μ i) (hE : Env.le (E j) env) (hB : List.Sublist (B j) bs) :
    WE (Exit.then (Again n ds w0 ex E B pre μ i) Q) .normal n ds env w0 ex bs := ⟨fun _ _ hs hh => ⟨j, hj, hlt, hs.weaken hE, hh.sub hB⟩⟩

/-! ### Lists of operations, in the text's order -/
theorem wl_nil {ops : Array Oper} (h : WE Q .normal n ds env w0 ex bs) : WL r ops Q [] n ds env w0 ex bs := ⟨fun a w hs hh => wpListIn_nil (h.go a w hs hh)⟩

theorem wl_gen {ops : Array Oper} {o : Oper} {rest : List Oper} {Φ : World → Value → World → Prop} (hg : wantE ops env o.guard = some true) (hd : Op.noDefer o.op = true) (h : OD env w0 ex bs o Φ)
    (next : ∀ a w v w', Sat a n ds env → Hp w0 ex w bs → Φ w v w' → wpListIn (FF r) 0 Tryd.prog ops Q rest (a.put o.dst v) w') : WL r ops Q (o :: rest) n ds env w0 ex bs := by
  refine ⟨fun a w hs hh => wpListIn_step fun K hK => ?_⟩
  rw [wanted_of hs hg, if_pos rfl]
  exact Does.wpIn hd ((h.law a.eval w hs.agree hh).mono fun v w' hv => hK _ _ (next a w v w' hs hh hv))

/-- The operation's guard says no. -/
theorem wl_not {ops : Array Oper} {op : Op} {rest : List Oper} {d : Nat} {ty : TypeId} {pos : String} {af : Array Edge} {g : Option (Nat × Bool)} (hg : wantE ops env g = some false) (hdn : Nat.blt d n = true)
    (next : WL r ops Q rest n ds ((d, undef) :: env) w0 ex bs) : WL r ops Q (⟨some d, op, ty, pos, af, g⟩ :: rest) n ds env w0 ex bs := by
  refine ⟨fun a w hs hh => wpListIn_step fun K hK => ?_⟩
  rw [wanted_of (o := ⟨some d, op, ty, pos, af, g⟩) hs hg, if_neg (by simp)]
  exact ⟨fun f _ => FF_fn r f, hK _ _ (next.go _ w (hs.put (by simpa using hdn) _) hh)⟩

/-- One value, all that was there as it was. -/
theorem wl_quiet {ops : Array Oper} {op : Op} {rest : List Oper} {d : Nat} {ty : TypeId} {pos : String} {af : Array Edge} {g : Option (Nat × Bool)} {v0 : Value} (hg : wantE ops env g = some true) (hdn : Nat.blt d n = true) (hd : Op.noDefer op = true)
    (h : OD env w0 ex bs ⟨some d, op, ty, pos, af, g⟩ (Quiet v0)) (next : WL r ops Q rest n ds ((d, v0) :: env) w0 ex bs) : WL r ops Q (⟨some d, op, ty, pos, af, g⟩ :: rest) n ds env w0 ex bs :=
  wl_gen (o := ⟨some d, op, ty, pos, af, g⟩) hg hd h fun a w v w' hs hh hv => by
    obtain ⟨rfl, hx⟩ := hv
    exact next.go _ _ (hs.put (by simpa using hdn) _) (hh.ext hx)

theorem wl_still {ops : Array Oper} {op : Op} {rest : List Oper} {d : Nat} {ty : TypeId} {pos : String} {af : Array Edge} {g : Option (Nat × Bool)} {v0 : Value} (hg : wantE ops env g = some true) (hdn : Nat.blt d n = true) (hd : Op.noDefer op = true)
    (h : OD env w0 ex bs ⟨some d, op, ty, pos, af, g⟩ (Still v0)) (next : WL r ops Q rest n ds ((d, v0) :: env) w0 ex bs) : WL r ops Q (⟨some d, op, ty, pos, af, g⟩ :: rest) n ds env w0 ex bs :=
  wl_quiet hg hdn hd h.quiet next

end rules

/-- A new block (one of a family) is made, and its place handed back. -/
def Makes {ι : Type} (f : ι → Nat → Value) (pre : ι → Prop) (cs : ι → List Value) (T : TypeId) : World → Value → World → Prop :=
  fun w v w' => ∃ i b, v = f i b ∧ pre i ∧ w.heap.size ≤ b ∧ Ext w w' ∧ Blk w' b (cs i) T
/-- The cells of one block turn. -/
def Turns (v0 : Value) (b : Nat) (cs : List Value) (T : TypeId) : World → Value → World → Prop :=
  fun w v w' => v = v0 ∧ Only w w' b ∧ Blk w' b cs T
/-- A block is given up for another, or is it still. -/
def Moves {ι : Type} (b : Nat) (f : ι → Nat → Value) (pre : ι → Prop) (cs : ι → List Value) (T : TypeId) : World → Value → World → Prop :=
  fun w v w' => ∃ i b', v = f i b' ∧ pre i ∧ (b' = b ∨ w.heap.size ≤ b') ∧ Only w w' b ∧ Blk w' b' (cs i) T

section rules2
variable {r : Option Nat} {Q : Exit → Act → World → Prop} {n : Nat} {ds : List Deferred} {env : Env} {w0 : World} {ex : List Nat} {bs : Blks}

theorem wl_makes {ops : Array Oper} {op : Op} {rest : List Oper} {d : Nat} {ty : TypeId} {pos : String} {af : Array Edge} {g : Option (Nat × Bool)} {ι : Type} {f : ι → Nat → Value} {pre : ι → Prop} {cs : ι → List Value} {T : TypeId}
    (hg : wantE ops env g = some true) (hdn : Nat.blt d n = true) (hd : Op.noDefer op = true)
    (h : OD env w0 ex bs ⟨some d, op, ty, pos, af, g⟩ (Makes f pre cs T)) (next : ∀ i b, pre i → WL r ops Q rest n ds ((d, f i b) :: env) w0 ex ((b, cs i, T) :: bs)) :
    WL r ops Q (⟨some d, op, ty, pos, af, g⟩ :: rest) n ds env w0 ex bs :=
  wl_gen (o := ⟨some d, op, ty, pos, af, g⟩) hg hd h fun a w v w' hs hh hv => by
    obtain ⟨i, b, rfl, hi, hb, hx, hB⟩ := hv
    exact (next i b hi).go _ _ (hs.put (by simpa using hdn) _) (hh.new hx hb hB)

theorem wl_turns {ops : Array Oper} {op : Op} {rest : List Oper} {d : Nat} {ty : TypeId} {pos : String} {af : Array Edge} {g : Option (Nat × Bool)} {v0 : Value} {b : Nat} {cs cs' : List Value} {T T' : TypeId} (j : Nat)
    (hg : wantE ops env g = some true) (hdn : Nat.blt d n = true) (hd : Op.noDefer op = true) (hj : bs[j]? = some (b, cs, T))
    (h : OD env w0 ex bs ⟨some d, op, ty, pos, af, g⟩ (Turns v0 b cs' T')) (next : WL r ops Q rest n ds ((d, v0) :: env) w0 ex (bs.set j (b, cs', T'))) :
    WL r ops Q (⟨some d, op, ty, pos, af, g⟩ :: rest) n ds env w0 ex bs :=
  wl_gen (o := ⟨some d, op, ty, pos, af, g⟩) hg hd h fun a w v w' hs hh hv => by
    obtain ⟨rfl, ho, hB⟩ := hv
    exact next.go _ _ (hs.put (by simpa using hdn) _) (hh.upd hj ho hB)

/-- The same, of an operation without a slot (a store). -/
theorem wl_store {ops : Array Oper} {op : Op} {rest : List Oper} {ty : TypeId} {pos : String} {af : Array Edge} {g : Option (Nat × Bool)} {v0 : Value} {b : Nat} {cs cs' : List Value} {T T' : TypeId} (j : Nat)
    (hg : wantE ops env g = some true) (hd : Op.noDefer op = true) (hj : bs[j]? = some (b, cs, T))
    (h : OD env w0 ex bs ⟨none, op, ty, pos, af, g⟩ (Turns v0 b cs' T')) (next : WL r ops Q rest n ds env w0 ex (bs.set j (b, cs', T'))) :
    WL r ops Q (⟨none, op, ty, pos, af, g⟩ :: rest) n ds env w0 ex bs :=
  wl_gen (o := ⟨none, op, ty, pos, af, g⟩) hg hd h fun a w v w' hs hh hv => by
    obtain ⟨rfl, ho, hB⟩ := hv
    exact next.go _ _ (hs.put_none _) (hh.upd hj ho hB)

theorem wl_moves {ops : Array Oper} {op : Op} {rest : List Oper} {d : Nat} {ty : TypeId} {pos : String} {af : Array Edge} {g : Option (Nat × Bool)} {ι : Type} {f : ι → Nat → Value} {pre : ι → Prop} {cs : ι → List Value} {b : Nat} {cs0 : List Value} {T T0 : TypeId} (j : Nat)
    (hg : wantE ops env g = some true) (hdn : Nat.blt d n = true) (hd : Op.noDefer op = true) (hj : bs[j]? = some (b, cs0, T0))
    (h : OD env w0 ex bs ⟨some d, op, ty, pos, af, g⟩ (Moves b f pre cs T)) (next : ∀ i b', pre i → WL r ops Q rest n ds ((d, f i b') :: env) w0 ex ((b', cs i, T) :: bs.eraseIdx j)) :
    WL r ops Q (⟨some d, op, ty, pos, af, g⟩ :: rest) n ds env w0 ex bs :=
  wl_gen (o := ⟨some d, op, ty, pos, af, g⟩) hg hd h fun a w v w' hs hh hv => by
    obtain ⟨i, b', rfl, hi, hb, ho, hB⟩ := hv
    exact (next i b' hi).go _ _ (hs.put (by simpa using hdn) _) (hh.swap hj ho hB hb)
end rules2

end Go.Proofs.YtielloijdkoeiaaDoor
