/- The laws of integers that fit, of calls, and of slices built in place. -/
import Derived.Test.YtielloijdkoeiaaDoorKc
namespace Go.Proofs.YtielloijdkoeiaaDoor
open Go Go.RowKit

theorem wrap_i64 {n : Int} (h1 : -9223372036854775808 ≤ n) (h2 : n ≤ 9223372036854775807) : IntKind.i64.wrap n = n := IntWalk.i64_in n ⟨h1, h2⟩

/-- The sum itself, before it is wrapped. -/
def arith (env : Env) : Op → Option Int
  | .binOp .add _ x y _ => match ev env x, ev env y with
    | some (.int .i64 a), some (.int .i64 b) => some (a + b)
    | _, _ => none
  | .binOp .sub _ x y _ => match ev env x, ev env y with
    | some (.int .i64 a), some (.int .i64 b) => some (a - b)
    | _, _ => none
  | .binOp .mul _ x y _ => match ev env x, ev env y with
    | some (.int .i64 a), some (.int .i64 b) => some (a * b)
    | _, _ => none
  | .unOp .neg _ x => match ev env x with
    | some (.int .i64 a) => some (-a)
    | _ => none
  | _ => none

section
variable {env : Env} {w0 : World} {ex : List Nat} {bs : Blks} {d : Option Nat} {ty : TypeId} {pos : String} {af : Array Edge} {g : Option (Nat × Bool)}

theorem od_i64 {op : Op} {x : Int} (h : arith env op = some x) (h1 : -9223372036854775808 ≤ x) (h2 : x ≤ 9223372036854775807) : OD env w0 ex bs ⟨d, op, ty, pos, af, g⟩ (Still (.int .i64 x)) := by
  have hw := wrap_i64 h1 h2
  refine od_pure ?_
  unfold arith at h
  split at h
  · split at h
    · rename_i e1 e2; cases h; simp only [pureOp, e1, e2, binV, if_true]; rw [hw]
    · cases h
  · split at h
    · rename_i e1 e2; cases h; simp only [pureOp, e1, e2, binV, if_true]; rw [hw]
    · cases h
  · split at h
    · rename_i e1 e2; cases h; simp only [pureOp, e1, e2, binV, if_true]; rw [hw]
    · cases h
  · split at h
    · rename_i e1; cases h; simp only [pureOp, e1, Int.zero_sub]; rw [hw]
    · cases h
  · cases h

theorem od_bool {op : Op} {b c : Bool} (h : pureOp env op = some (.bool b)) (hb : b = c) : OD env w0 ex bs ⟨d, op, ty, pos, af, g⟩ (Still (.bool c)) := by
  subst hb; exact od_pure h

/-- What a comparison of whole numbers asks. -/
def cmpP (env : Env) : Op → Option Prop
  | .binOp op _ x y _ => match ev env x, ev env y with
    | some (.int k a), some (.int k' c) => if k = k' then
        match op with
        | .lss => some (a < c)
        | .leq => some (a ≤ c)
        | .gtr => some (a > c)
        | .geq => some (a ≥ c)
        | .eql => some (a = c)
        | .neq => some (a ≠ c)
        | _ => none
      else none
    | _, _ => none
  | _ => none

theorem cmpP_pure {op : Op} {p : Prop} (h : cmpP env op = some p) : ∃ b : Bool, pureOp env op = some (.bool b) ∧ (b = true ↔ p) := by
  unfold cmpP at h
  split at h
  · rename_i bop t x y t'
    split at h
    · rename_i k a k' c hx hy
      split at h
      · rename_i hk
        subst hk
        cases bop <;> (try simp only at h) <;> cases h <;> simp only [pureOp, hx, hy, binV, if_true, cmpB, Option.map_some] <;> exact ⟨_, rfl, by simp⟩
      · cases h
    · cases h
  · cases h

theorem od_cmp_t {op : Op} {p : Prop} (h : cmpP env op = some p) (hp : p) : OD env w0 ex bs ⟨d, op, ty, pos, af, g⟩ (Still (.bool true)) := by
  obtain ⟨b, h1, h2⟩ := cmpP_pure h
  have := h2.2 hp
  subst this
  exact od_pure h1
theorem od_cmp_f {op : Op} {p : Prop} (h : cmpP env op = some p) (hp : ¬ p) : OD env w0 ex bs ⟨d, op, ty, pos, af, g⟩ (Still (.bool false)) := by
  obtain ⟨b, h1, h2⟩ := cmpP_pure h
  have : b = false := by cases b <;> simp_all
  subst this
  exact od_pure h1

/-- The operations that only hand on. -/
def simpleOp (env : Env) : Op → Option Value
  | .move x => ev env x
  | .assign x => ev env x
  | .pick c a b => match ev env c with
    | some (.bool true) => ev env a
    | some (.bool false) => ev env b
    | _ => none
  | .extract x i => match ev env x with
    | some (.tuple vs) => vs[i]?
    | _ => none
  | .unOp .not _ x => match ev env x with
    | some (.bool b) => some (.bool !b)
    | _ => none
  | .nilCheck x => match ev env x with
    | some (.pointer (some a)) => some (.pointer (some a))
    | _ => none
  | _ => none

theorem od_simple {op : Op} {v : Value} (h : simpleOp env op = some v) : OD env w0 ex bs ⟨d, op, ty, pos, af, g⟩ (Still v) := by
  refine od_pure ?_
  cases op with
  | move x => exact h
  | assign x => exact h
  | pick c a b => exact h
  | extract x i => exact h
  | unOp o t x => cases o <;> first | exact h | simp [simpleOp] at h
  | nilCheck x =>
    simp only [simpleOp] at h
    simp only [pureOp]
    split at h
    · rename_i hx; rw [hx]; exact h
    · cases h
  | _ => simp [simpleOp] at h

theorem od_int {op : Op} {k : IntKind} {x y : Int} (h : pureOp env op = some (.int k x)) (hb : x = y) : OD env w0 ex bs ⟨d, op, ty, pos, af, g⟩ (Still (.int k y)) := by
  subst hb; exact od_pure h

theorem od_rem {t t' : TypeId} {x y : Operand} {k : IntKind} {a c r : Int} (hx : ev env x = some (.int k a)) (hy : ev env y = some (.int k c)) (hc : c ≠ 0) (hr : a.tmod c = r) :
    OD env w0 ex bs ⟨d, .binOp .rem t x y t', ty, pos, af, g⟩ (Still (.int k r)) := by
  subst hr
  refine od_still fun ρ w hρ _ => ?_
  simp [execOp, hρ _ _ hx, hρ _ _ hy, run_eqGuard_int, binOp, Op.intDiv, hc]

theorem od_quo {t t' : TypeId} {x y : Operand} {k : IntKind} {a c r : Int} (hx : ev env x = some (.int k a)) (hy : ev env y = some (.int k c)) (hc : c ≠ 0) (hr : k.wrap (a.tdiv c) = r) :
    OD env w0 ex bs ⟨d, .binOp .quo t x y t', ty, pos, af, g⟩ (Still (.int k r)) := by
  subst hr
  refine od_still fun ρ w hρ _ => ?_
  simp [execOp, hρ _ _ hx, hρ _ _ hy, run_eqGuard_int, binOp, Op.intDiv, hc]

theorem od_shl {t t' : TypeId} {x y : Operand} {k k' : IntKind} {a c r : Int} (hx : ev env x = some (.int k a)) (hy : ev env y = some (.int k' c)) (hc : ¬ c < 0) (hr : k.wrap (a * 2 ^ (min c.toNat k.bits)) = r) :
    OD env w0 ex bs ⟨d, .binOp .shl t x y t', ty, pos, af, g⟩ (Still (.int k r)) := by
  subst hr
  refine od_still fun ρ w hρ _ => ?_
  simp [execOp, hρ _ _ hx, hρ _ _ hy, run_eqGuard_int, binOp, Op.shift, hc]

theorem od_shr {t t' : TypeId} {x y : Operand} {k k' : IntKind} {a c r : Int} (hx : ev env x = some (.int k a)) (hy : ev env y = some (.int k' c)) (hc : ¬ c < 0) (hr : a.fdiv (2 ^ (min c.toNat k.bits)) = r) :
    OD env w0 ex bs ⟨d, .binOp .shr t x y t', ty, pos, af, g⟩ (Still (.int k r)) := by
  subst hr
  refine od_still fun ρ w hρ _ => ?_
  simp [execOp, hρ _ _ hx, hρ _ _ hy, run_eqGuard_int, binOp, Op.shift, hc]

def bitsV (op : BinOp) (k : IntKind) (a c : Int) : Option Int :=
  match op with
  | .and => some (k.wrap ((BitVec.ofInt k.bits a &&& BitVec.ofInt k.bits c).toNat : Int))
  | .or => some (k.wrap ((BitVec.ofInt k.bits a ||| BitVec.ofInt k.bits c).toNat : Int))
  | .xor => some (k.wrap ((BitVec.ofInt k.bits a ^^^ BitVec.ofInt k.bits c).toNat : Int))
  | _ => none

theorem od_bits {op : BinOp} {t t' : TypeId} {x y : Operand} {k : IntKind} {a c r : Int} (hx : ev env x = some (.int k a)) (hy : ev env y = some (.int k c)) (hr : bitsV op k a c = some r) :
    OD env w0 ex bs ⟨d, .binOp op t x y t', ty, pos, af, g⟩ (Still (.int k r)) := by
  refine od_still fun ρ w hρ _ => ?_
  cases op <;> simp [bitsV] at hr <;> subst hr <;> simp [execOp, hρ _ _ hx, hρ _ _ hy, run_eqGuard_int, binOp, Op.intBits]

/-! ### Calls -/
theorem od_call {f : FuncId} {args : Array Operand} {ats : Array TypeId} {vs : List Value} {Φ : World → Value → World → Prop} (hc : ∀ args w, (callFunc f args).run Tryd.prog w = .ok (.enter f args) w) (hargs : evL env args.toList = some vs)
    (h : ∀ w, Hp w0 ex w bs → Fn f vs w (Φ w)) : OD env w0 ex bs ⟨d, .call { callee := .value (.func f), args := args, argTypes := ats }, ty, pos, af, g⟩ Φ := by
  refine ⟨fun ρ w hρ hw => does_enter (f := f) (args := vs.toArray) (w' := w) ?_ (h w hw).run⟩
  have h1 : ρ (.func f) = .func (.func f) #[] #[] := hρ _ _ rfl
  simp [execOp, resolve, h1, Deferred.ofValue, invoke, evL_arr hρ hargs, hc]

theorem od_callv {x : Operand} {f : FuncId} {first cap : Array Value} {args : Array Operand} {ats : Array TypeId} {vs : List Value} {Φ : World → Value → World → Prop} (hx : ev env x = some (.func (.func f) first cap)) (hc : ∀ args w, (callFunc f args).run Tryd.prog w = .ok (.enter f args) w)
    (hargs : evL env args.toList = some vs) (h : ∀ w, Hp w0 ex w bs → Fn f (first.toList ++ vs ++ cap.toList) w (Φ w)) :
    OD env w0 ex bs ⟨d, .call { callee := .value x, args := args, argTypes := ats }, ty, pos, af, g⟩ Φ := by
  refine ⟨fun ρ w hρ hw => does_enter (f := f) (args := (first.toList ++ vs ++ cap.toList).toArray) (w' := w) ?_ (h w hw).run⟩
  simp [execOp, resolve, hρ _ _ hx, Deferred.ofValue, invoke, evL_arr hρ hargs, hc]

/-! ### Slices of given length, written out -/
def evP (env : Env) : List (Nat × Operand) → Option (List (Nat × Value))
  | [] => some []
  | (i, x) :: r => match ev env x, evP env r with
    | some v, some vs => some ((i, v) :: vs)
    | _, _ => none

theorem evP_map {ρ : Operand → Value} (hρ : Agree ρ env) : ∀ {l : List (Nat × Operand)} {vs : List (Nat × Value)}, evP env l = some vs → l.map (fun x => (x.1, ρ x.2)) = vs
  | [], vs, h => by cases h; rfl
  | (i, x) :: r, vs, h => by
    simp only [evP] at h
    split at h
    · rename_i v us hv hus
      cases h
      simp [hρ _ _ hv, evP_map hρ hus]
    · cases h

/-- 'fill' on lists: each part's cells laid at its place. -/
def fillL (place : Nat → Option (Nat × Nat)) (cells : List Value) : List (Nat × Value) → Option (List Value)
  | [] => some cells
  | (i, v) :: rest =>
    match place i with
    | none => none
    | some (off, size) =>
      if v.cells.toList.length = size ∧ off + size ≤ cells.length then fillL place (cells.take off ++ v.cells.toList ++ cells.drop (off + size)) rest else none

theorem fold_set (vs : List Value) : ∀ (cs : List Value) (off : Nat) (k : Nat), off + k + vs.length ≤ cs.length →
    (vs.zipIdx k).foldl (fun (c : Array Value) (x : Value × Nat) => c.setIfInBounds (off + x.2) x.1) cs.toArray = (cs.take (off + k) ++ vs ++ cs.drop (off + k + vs.length)).toArray := by
  induction vs with
  | nil => intro cs off k h; simp
  | cons v vs ih =>
    intro cs off k h
    simp only [List.length_cons] at h
    simp only [List.zipIdx_cons, List.foldl_cons]
    have e : (cs.toArray).setIfInBounds (off + k) v = (cs.set (off + k) v).toArray := by simp
    rw [e, ih (cs.set (off + k) v) off (k + 1) (by simp; omega)]
    congr 1
    have h4 : (cs.set (off + k) v).take (off + (k + 1)) = cs.take (off + k) ++ [v] := by
      rw [show off + (k + 1) = (off + k) + 1 by omega, List.take_succ_eq_append_getElem (by simp; omega)]
      rw [List.take_set, List.set_eq_of_length_le (by simp; omega)]
      simp
    have h5 : (cs.set (off + k) v).drop (off + (k + 1) + vs.length) = cs.drop (off + k + (vs.length + 1)) := by
      rw [List.drop_set_of_lt (by omega)]
      congr 1; omega
    rw [h4, h5]; simp

theorem fill_list (place : Nat → Option (Nat × Nat)) : ∀ (parts : List (Nat × Value)) (cells r : List Value), fillL place cells parts = some r → Instr.fill place cells.toArray parts = some r.toArray
  | [], cells, r, h => by cases h; rfl
  | (i, v) :: rest, cells, r, h => by
    simp only [fillL] at h
    simp only [Instr.fill]
    split at h
    · cases h
    · rename_i off size hp
      simp only [hp]
      split at h
      · rename_i hc
        have hs : v.cells.size = size := by rw [← hc.1]; simp
        rw [if_neg (by simp; omega)]
        have := fold_set v.cells.toList cells off 0 (by simp only [Nat.add_zero, hc.1]; exact hc.2)
        simp only [Nat.add_zero, hc.1] at this
        rw [← fill_list place rest _ r h]
        congr 1
        rw [← this, ← Array.foldl_toList, Array.toList_zipIdx]
      · cases h

def idx : Nat → List Value → List (Nat × Value)
  | _, [] => []
  | k, v :: r => (k, v) :: idx (k + 1) r

theorem fillL_all (size : Nat) : ∀ (vs : List Value) (pre zc : List Value) (k : Nat), (∀ v ∈ vs, v.cells.toList.length = size) → pre.length = k * size → zc.length = vs.length * size →
    fillL (fun i => some (i * size, size)) (pre ++ zc) (idx k vs) = some (pre ++ vs.flatMap fun v => v.cells.toList)
  | [], pre, zc, k, _, _, hz => by
    have : zc = [] := List.eq_nil_of_length_eq_zero (by simpa using hz)
    simp [idx, fillL, this]
  | v :: vs, pre, zc, k, hv, hp, hz => by
    have hv0 := hv v (by simp)
    simp only [List.length_cons, Nat.add_mul, Nat.one_mul] at hz
    simp only [idx, fillL]
    rw [if_pos ⟨hv0, by simp [hp, hz]⟩]
    have e1 : (pre ++ zc).take (k * size) = pre := by rw [← hp]; simp
    have e2 : (pre ++ zc).drop (k * size + size) = zc.drop size := by rw [← hp]; simp
    rw [e1, e2]
    rw [fillL_all size vs (pre ++ v.cells.toList) (zc.drop size) (k + 1) (fun x hx => hv x (by simp [hx])) (by simp only [List.length_append, hp, hv0]; rw [Nat.add_mul]; omega) (by simp [hz])]
    simp

theorem od_buildSlice {t e size len : Nat} {parts : Array (Nat × Operand)} {ps : List (Nat × Value)} {cs : List Value} (ht : lk tU t = some (.slice e)) (hs : lk tS e = some size) (hz : ∃ z, ∀ w, (zeroValue e).run Tryd.prog w = .ok z w)
    (hp : evP env parts.toList = some ps) (hi : idx 0 (ps.map (·.2)) = ps) (hl : ps.length = len) (hsz : ∀ v ∈ ps.map (·.2), v.cells.toList.length = size) (hb : len * size ≤ 16777216) (hcs : ((ps.map (·.2)).flatMap fun v => v.cells.toList) = cs) :
    OD env w0 ex bs ⟨d, .buildSlice t len parts, ty, pos, af, g⟩ (Makes (ι := Unit) (fun _ b => .slice (some ⟨b, 0, none⟩) len len) (fun _ => True) (fun _ => cs) e) := by
  obtain ⟨z, hz⟩ := hz
  refine ⟨fun ρ w hρ hw => ?_⟩
  have h1 := (run_new (w := w) cs e).1
  have h2 := (run_new (w := w) cs e).2.1
  have h3 := (run_new (w := w) cs e).2.2
  have hm : (parts.map fun x => (x.1, ρ x.2)).toList = ps := by simpa using evP_map hρ hp
  have hfill : ∀ zs : Array Value, Instr.fill (fun i => some (i * size, size)) ((Array.range (len * size)).map (zs[· % zs.size]!)) ps = some cs.toArray := by
    intro zs
    have e1 : (Array.range (len * size)).map (zs[· % zs.size]!) = (((Array.range (len * size)).map (zs[· % zs.size]!)).toList).toArray := (Array.toArray_toList).symm
    rw [e1]
    refine fill_list _ _ _ _ ?_
    have := fillL_all size (ps.map (·.2)) [] (((Array.range (len * size)).map (zs[· % zs.size]!)).toList) 0 hsz (by simp) (by simp [hl])
    rw [hi, hcs] at this
    simpa using this
  have hr : (execOp ρ ⟨d, .buildSlice t len parts, ty, pos, af, g⟩).run Tryd.prog w = .ok (.value (.slice (some ⟨w.heap.size, 0, none⟩) len len)) (w.alloc (.cells cs.toArray e)) := by
    have hno : ¬ (len * size > 2 ^ 24) := by omega
    by_cases h0 : len * size = 0
    · simp only [execOp, Instr.buildSlice, Sem.run_bind, run_U ht, Result.andThen_ok, S_ok hs, if_neg hno, Sem.run_pure, if_pos h0, hm, hfill, h1]
    · simp only [execOp, Instr.buildSlice, Sem.run_bind, run_U ht, Result.andThen_ok, S_ok hs, if_neg hno, Sem.run_pure, if_neg h0, hz, hm, hfill, h1]
  exact does_value hr ⟨(), w.heap.size, rfl, trivial, Nat.le_refl _, h2, h3⟩

/-- A struct or array put together by value. -/
theorem od_build {t : Nat} {parts : Array (Nat × Operand)} {ps : List (Nat × Value)} {fs : Array Field} {pls : Array (Nat × Nat)} {z cs : List Value} (ht : lk tU t = some (.struct fs))
    (hpl : ∀ w, (fs.mapM (m := Sem) fun f => do pure (f.offset, ← sizeOf f.type)).run Tryd.prog w = .ok pls w) (hz : ∀ w, (zeroValue t).run Tryd.prog w = .ok (.agg z.toArray) w)
    (hp : evP env parts.toList = some ps) (hf : fillL (pls[·]?) z ps = some cs) : OD env w0 ex bs ⟨d, .build t parts, ty, pos, af, g⟩ (Still (.agg cs.toArray)) := by
  refine od_still fun ρ w hρ _ => ?_
  have hm : (parts.map fun x => (x.1, ρ x.2)).toList = ps := by simpa using evP_map hρ hp
  have hfl := fill_list _ _ _ _ hf
  simp only [execOp, Instr.build, Sem.run_bind, run_U ht, Result.andThen_ok, hz, Sem.run_pure, hm, hpl, Value.cells, hfl]

theorem od_buildA {t n e s : Nat} {parts : Array (Nat × Operand)} {ps : List (Nat × Value)} {z cs : List Value} (ht : lk tU t = some (.array n e)) (hs : lk tS e = some s) (hz : ∀ w, (zeroValue t).run Tryd.prog w = .ok (.agg z.toArray) w)
    (hp : evP env parts.toList = some ps) (hf : fillL (fun i => some (i * s, s)) z ps = some cs) : OD env w0 ex bs ⟨d, .build t parts, ty, pos, af, g⟩ (Still (.agg cs.toArray)) := by
  refine od_still fun ρ w hρ _ => ?_
  have hm : (parts.map fun x => (x.1, ρ x.2)).toList = ps := by simpa using evP_map hρ hp
  have hfl := fill_list _ _ _ _ hf
  simp only [execOp, Instr.build, Sem.run_bind, run_U ht, Result.andThen_ok, hz, Sem.run_pure, hm, S_ok hs, Value.cells, hfl]
end

end Go.Proofs.YtielloijdkoeiaaDoor
