/- Drawn regions by a plan: the order that is walked, checked once; then one step an operation. -/
import Derived.Test.YtielloijdkoeiaaDoorKg
namespace Go.Proofs.YtielloijdkoeiaaDoor
open Go Go.RowKit

/-- The order in which the walk takes the operations; true: it only answers, and is taken first; false: it is the only one that is ready. -/
def okPlan (ops : Array Oper) (brk : Option Nat) : Array Bool → List (Nat × Bool) → Bool
  | listed, [] => (Region.ready .any ops listed).isEmpty
  | listed, (i, true) :: r => Region.free .any ops listed i && waitsB ops brk listed i && (Region.ready .any ops listed).contains i && okPlan ops brk (listed.setIfInBounds i true) r
  | listed, (i, false) :: r => Region.ready .any ops listed == [i] && okPlan ops brk (listed.setIfInBounds i true) r

structure WP (ops : Array Oper) (C : Blks) (brk : Option Nat) (Q : Act → World → Prop) (plan : List (Nat × Bool)) (n : Nat) (ds : List Deferred) (env : Env) (w0 : World) (ex : List Nat) (bs : Blks) : Prop where
  go : ∀ listed fuel, okPlan ops brk listed plan = true → Region.noSelect ops = true → plan.length ≤ fuel → WM ops C brk Q fuel listed n ds env w0 ex bs

section
variable {r : Option Nat} {n : Nat} {ds : List Deferred} {env : Env} {w0 : World} {ex : List Nat} {bs : Blks} {ops : Array Oper} {C : Blks} {brk : Option Nat} {plan : List (Nat × Bool)}

def okRegion (ops : Array Oper) (brk : Option Nat) (plan : List (Nat × Bool)) : Bool := okPlan ops brk (Array.replicate ops.size false) plan && Region.noSelect ops && noDefers ops && (plan.length == ops.size)

theorem wc_plan {Q : Exit → Act → World → Prop} {id : Nat} (C : Blks) (brk : Option Nat) (plan : List (Nat × Bool)) (hk : okRegion ops brk plan = true) (hC : List.Sublist C bs)
    (h : WP ops C brk (Q .normal) plan n ds env w0 ex bs) : WC r (.region id ops true) Q n ds env w0 ex bs := by
  simp only [okRegion, Bool.and_eq_true, beq_iff_eq] at hk
  obtain ⟨⟨⟨h1, h2⟩, h3⟩, h4⟩ := hk
  exact wc_draw C ops.size rfl h3 hC (h.go _ _ h1 h2 (by omega))

theorem fuel_succ {k m fuel : Nat} (h : k + 1 ≤ fuel) (hm : m = k) : ∃ f, fuel = f + 1 ∧ m ≤ f := ⟨fuel - 1, by omega, by omega⟩

theorem wp_quiet {Q : Act → World → Prop} {i : Nat} {op : Op} {d : Nat} {ty : TypeId} {pos : String} {af : Array Edge} {g : Option (Nat × Bool)} {v0 : Value} (hi : ops[i]? = some ⟨some d, op, ty, pos, af, g⟩) (hg : wantE ops env g = some true) (hdn : Nat.blt d n = true)
    (h : OD env w0 ex C ⟨some d, op, ty, pos, af, g⟩ (Quiet v0)) (next : WP ops C brk Q plan n ds ((d, v0) :: env) w0 ex bs) : WP ops C brk Q ((i, true) :: plan) n ds env w0 ex bs := by
  refine ⟨fun listed fuel hp hs hf => ?_⟩
  simp only [okPlan, Bool.and_eq_true] at hp
  obtain ⟨f, rfl, hf'⟩ := fuel_succ hf rfl
  exact wm_quiet i hi hs hp.1.1.1 hp.1.1.2 hp.1.2 hg hdn h (next.go _ _ hp.2 hs hf')

theorem wp_still {Q : Act → World → Prop} {i : Nat} {op : Op} {d : Nat} {ty : TypeId} {pos : String} {af : Array Edge} {g : Option (Nat × Bool)} {v0 : Value} (hi : ops[i]? = some ⟨some d, op, ty, pos, af, g⟩) (hg : wantE ops env g = some true) (hdn : Nat.blt d n = true)
    (h : OD env w0 ex C ⟨some d, op, ty, pos, af, g⟩ (Still v0)) (next : WP ops C brk Q plan n ds ((d, v0) :: env) w0 ex bs) : WP ops C brk Q ((i, true) :: plan) n ds env w0 ex bs := wp_quiet hi hg hdn h.quiet next

theorem wp_not {Q : Act → World → Prop} {i : Nat} {op : Op} {d j : Nat} {wb : Bool} {ty : TypeId} {pos : String} {af : Array Edge} (hi : ops[i]? = some ⟨some d, op, ty, pos, af, some (j, wb)⟩) (hg : wantE ops env (some (j, wb)) = some false) (hdn : Nat.blt d n = true)
    (next : WP ops C brk Q plan n ds ((d, undef) :: env) w0 ex bs) : WP ops C brk Q ((i, true) :: plan) n ds env w0 ex bs := by
  refine ⟨fun listed fuel hp hs hf => ?_⟩
  simp only [okPlan, Bool.and_eq_true] at hp
  obtain ⟨f, rfl, hf'⟩ := fuel_succ hf rfl
  exact wm_not i hi hs hp.1.1.1 hp.1.1.2 hp.1.2 hg hdn (next.go _ _ hp.2 hs hf')

theorem wp_quietS {Q : Act → World → Prop} {i : Nat} {op : Op} {d : Nat} {ty : TypeId} {pos : String} {af : Array Edge} {g : Option (Nat × Bool)} {v0 : Value} (hi : ops[i]? = some ⟨some d, op, ty, pos, af, g⟩) (hg : wantE ops env g = some true) (hdn : Nat.blt d n = true)
    (h : OD env w0 ex bs ⟨some d, op, ty, pos, af, g⟩ (Quiet v0)) (next : WP ops C brk Q plan n ds ((d, v0) :: env) w0 ex bs) : WP ops C brk Q ((i, false) :: plan) n ds env w0 ex bs := by
  refine ⟨fun listed fuel hp hs hf => ?_⟩
  simp only [okPlan, Bool.and_eq_true, beq_iff_eq] at hp
  obtain ⟨f, rfl, hf'⟩ := fuel_succ hf rfl
  exact wm_quiet_sole i hi hp.1 hg hdn h (next.go _ _ hp.2 hs hf')

theorem wp_makes {Q : Act → World → Prop} {i : Nat} {op : Op} {d : Nat} {ty : TypeId} {pos : String} {af : Array Edge} {g : Option (Nat × Bool)} {ι : Type} {f : ι → Nat → Value} {pre : ι → Prop} {cs : ι → List Value} {T : TypeId} (hi : ops[i]? = some ⟨some d, op, ty, pos, af, g⟩)
    (hg : wantE ops env g = some true) (hdn : Nat.blt d n = true) (h : OD env w0 ex bs ⟨some d, op, ty, pos, af, g⟩ (Makes f pre cs T))
    (next : ∀ x b, pre x → WP ops C brk Q plan n ds ((d, f x b) :: env) w0 ex ((b, cs x, T) :: bs)) : WP ops C brk Q ((i, false) :: plan) n ds env w0 ex bs := by
  refine ⟨fun listed fuel hp hs hf => ?_⟩
  simp only [okPlan, Bool.and_eq_true, beq_iff_eq] at hp
  obtain ⟨f, rfl, hf'⟩ := fuel_succ hf rfl
  exact wm_makes i hi hp.1 hg hdn h fun x b hx => (next x b hx).go _ _ hp.2 hs hf'

theorem wp_turns {Q : Act → World → Prop} {i : Nat} (j : Nat) {op : Op} {od : Option Nat} {ty : TypeId} {pos : String} {af : Array Edge} {g : Option (Nat × Bool)} {v0 : Value} {b : Nat} {cs cs' : List Value} {T T' : TypeId} (hi : ops[i]? = some ⟨od, op, ty, pos, af, g⟩)
    (hg : wantE ops env g = some true) (hj : bs[j]? = some (b, cs, T)) (hC : List.Sublist C (bs.eraseIdx j))
    (h : OD env w0 ex bs ⟨od, op, ty, pos, af, g⟩ (Turns v0 b cs' T')) (hod : ∀ d, od = some d → get env d = none) (next : WP ops C brk Q plan n ds env w0 ex (bs.set j (b, cs', T'))) : WP ops C brk Q ((i, false) :: plan) n ds env w0 ex bs := by
  refine ⟨fun listed fuel hp hs hf => ?_⟩
  simp only [okPlan, Bool.and_eq_true, beq_iff_eq] at hp
  obtain ⟨f, rfl, hf'⟩ := fuel_succ hf rfl
  exact wm_turns i j hi hp.1 hg hj hC h (next.go _ _ hp.2 hs hf') hod

theorem wp_moves {Q : Act → World → Prop} {i : Nat} (j : Nat) {op : Op} {d : Nat} {ty : TypeId} {pos : String} {af : Array Edge} {g : Option (Nat × Bool)} {ι : Type} {f : ι → Nat → Value} {pre : ι → Prop} {cs : ι → List Value} {b : Nat} {cs0 : List Value} {T T0 : TypeId} (hi : ops[i]? = some ⟨some d, op, ty, pos, af, g⟩)
    (hg : wantE ops env g = some true) (hdn : Nat.blt d n = true) (hj : bs[j]? = some (b, cs0, T0)) (hC : List.Sublist C (bs.eraseIdx j))
    (h : OD env w0 ex bs ⟨some d, op, ty, pos, af, g⟩ (Moves b f pre cs T)) (next : ∀ x b', pre x → WP ops C brk Q plan n ds ((d, f x b') :: env) w0 ex ((b', cs x, T) :: bs.eraseIdx j)) : WP ops C brk Q ((i, false) :: plan) n ds env w0 ex bs := by
  refine ⟨fun listed fuel hp hs hf => ?_⟩
  simp only [okPlan, Bool.and_eq_true, beq_iff_eq] at hp
  obtain ⟨f, rfl, hf'⟩ := fuel_succ hf rfl
  exact wm_moves i j hi hp.1 hg hdn hj hC h fun x b hx => (next x b hx).go _ _ hp.2 hs hf'

/-- The last operation, a store, which may turn what the others have read. -/
theorem wp_store {Q : Exit → Act → World → Prop} {i : Nat} (j : Nat) {op : Op} {ty : TypeId} {pos : String} {af : Array Edge} {g : Option (Nat × Bool)} {v0 : Value} {b : Nat} {cs cs' : List Value} {T T' : TypeId} (hi : ops[i]? = some ⟨none, op, ty, pos, af, g⟩)
    (hg : wantE ops env g = some true) (hj : bs[j]? = some (b, cs, T)) (h : OD env w0 ex bs ⟨none, op, ty, pos, af, g⟩ (Turns v0 b cs' T')) (next : WE Q .normal n ds env w0 ex (bs.set j (b, cs', T'))) : WP ops C (some i) (Q .normal) [(i, false)] n ds env w0 ex bs := by
  refine ⟨fun listed fuel hp hs hf => ?_⟩
  simp only [okPlan, Bool.and_eq_true, beq_iff_eq, List.isEmpty_iff] at hp
  obtain ⟨f, rfl, hf'⟩ := fuel_succ hf rfl
  refine wm_last i rfl hi hp.1 hp.2 hg h fun a w v w' w'' hs hh hv k => ?_
  obtain ⟨rfl, ho, hB⟩ := hv
  exact next.go _ _ (hs.put_none _) ((hh.upd hj ho hB).ext k)

/-- The same of an operation with a slot. -/
theorem wp_storeV {Q : Exit → Act → World → Prop} {i : Nat} (j : Nat) {op : Op} {d : Nat} {ty : TypeId} {pos : String} {af : Array Edge} {g : Option (Nat × Bool)} {v0 : Value} {b : Nat} {cs cs' : List Value} {T T' : TypeId} (hi : ops[i]? = some ⟨some d, op, ty, pos, af, g⟩)
    (hg : wantE ops env g = some true) (hdn : Nat.blt d n = true) (hj : bs[j]? = some (b, cs, T)) (h : OD env w0 ex bs ⟨some d, op, ty, pos, af, g⟩ (Turns v0 b cs' T')) (next : WE Q .normal n ds ((d, v0) :: env) w0 ex (bs.set j (b, cs', T'))) : WP ops C (some i) (Q .normal) [(i, false)] n ds env w0 ex bs := by
  refine ⟨fun listed fuel hp hs hf => ?_⟩
  simp only [okPlan, Bool.and_eq_true, beq_iff_eq, List.isEmpty_iff] at hp
  obtain ⟨f, rfl, hf'⟩ := fuel_succ hf rfl
  refine wm_last i rfl hi hp.1 hp.2 hg h fun a w v w' w'' hs hh hv k => ?_
  obtain ⟨rfl, ho, hB⟩ := hv
  exact next.go _ _ (hs.put (by simpa using hdn) _) ((hh.upd hj ho hB).ext k)

theorem wp_nil {Q : Exit → Act → World → Prop} (h : WE Q .normal n ds env w0 ex bs) : WP ops C brk (Q .normal) [] n ds env w0 ex bs := by
  refine ⟨fun listed fuel hp hs hf => ?_⟩
  simp only [okPlan, List.isEmpty_iff] at hp
  exact wm_done_we hp h

/-! ### The steps, each with its operation's form -/
variable {Q : Act → World → Prop} {i d : Nat} {ty : TypeId} {pos : String} {af : Array Edge} {g : Option (Nat × Bool)}
theorem ps {op : Op} {v : Value} (hi : ops[i]? = some ⟨some d, op, ty, pos, af, g⟩) (h : simpleOp env op = some v) (hg : wantE ops env g = some true) (hdn : Nat.blt d n = true)
    (next : WP ops C brk Q plan n ds ((d, v) :: env) w0 ex bs) : WP ops C brk Q ((i, true) :: plan) n ds env w0 ex bs := wp_still hi hg hdn (od_simple h) next
theorem ppu {op : Op} {v : Value} (hi : ops[i]? = some ⟨some d, op, ty, pos, af, g⟩) (h : pureOp env op = some v) (hg : wantE ops env g = some true) (hdn : Nat.blt d n = true)
    (next : WP ops C brk Q plan n ds ((d, v) :: env) w0 ex bs) : WP ops C brk Q ((i, true) :: plan) n ds env w0 ex bs := wp_still hi hg hdn (od_pure h) next
theorem pi64 {op : Op} {x : Int} (hi : ops[i]? = some ⟨some d, op, ty, pos, af, g⟩) (h : arith env op = some x) (h1 : -9223372036854775808 ≤ x) (h2 : x ≤ 9223372036854775807) (hg : wantE ops env g = some true) (hdn : Nat.blt d n = true)
    (next : WP ops C brk Q plan n ds ((d, .int .i64 x) :: env) w0 ex bs) : WP ops C brk Q ((i, true) :: plan) n ds env w0 ex bs := wp_still hi hg hdn (od_i64 h h1 h2) next
theorem pct {op : Op} {p : Prop} (hi : ops[i]? = some ⟨some d, op, ty, pos, af, g⟩) (h : cmpP env op = some p) (hp : p) (hg : wantE ops env g = some true) (hdn : Nat.blt d n = true)
    (next : WP ops C brk Q plan n ds ((d, .bool true) :: env) w0 ex bs) : WP ops C brk Q ((i, true) :: plan) n ds env w0 ex bs := wp_still hi hg hdn (od_cmp_t h hp) next
theorem pcf {op : Op} {p : Prop} (hi : ops[i]? = some ⟨some d, op, ty, pos, af, g⟩) (h : cmpP env op = some p) (hp : ¬ p) (hg : wantE ops env g = some true) (hdn : Nat.blt d n = true)
    (next : WP ops C brk Q plan n ds ((d, .bool false) :: env) w0 ex bs) : WP ops C brk Q ((i, true) :: plan) n ds env w0 ex bs := wp_still hi hg hdn (od_cmp_f h hp) next
theorem pfa {t f : Nat} {x : Operand} {b o k : Nat} (hi : ops[i]? = some ⟨some d, .fieldAddr t x f, ty, pos, af, g⟩) (hx : ev env x = some (.pointer (some ⟨b, o, none⟩))) (hf : fo t f = some k) (hg : wantE ops env g = some true) (hdn : Nat.blt d n = true)
    (next : WP ops C brk Q plan n ds ((d, .pointer (some ⟨b, o + k, none⟩)) :: env) w0 ex bs) : WP ops C brk Q ((i, true) :: plan) n ds env w0 ex bs := wp_still hi hg hdn (od_fieldAddr hx hf) next
theorem pln {x : Operand} {t e : Nat} {a : Option Addr} {m c : Nat} (hi : ops[i]? = some ⟨some d, .call { callee := .builtin .len, args := #[x], argTypes := #[t] }, ty, pos, af, g⟩) (hx : ev env x = some (.slice a m c)) (ht : lk tU t = some (.slice e)) (hg : wantE ops env g = some true) (hdn : Nat.blt d n = true)
    (next : WP ops C brk Q plan n ds ((d, .int .i64 (m : Int)) :: env) w0 ex bs) : WP ops C brk Q ((i, true) :: plan) n ds env w0 ex bs := wp_still hi hg hdn (od_len hx ht) next
theorem plb {t : Nat} {x : Operand} {b o : Nat} {v : Value} {cs : List Value} {T : TypeId} (j : Nat) (hi : ops[i]? = some ⟨some d, .load t x, ty, pos, af, g⟩) (hx : ev env x = some (.pointer (some ⟨b, o, none⟩))) (hj : C[j]? = some (b, cs, T)) (ha : agg? t = some false) (hv : cs[o]? = some v) (hg : wantE ops env g = some true) (hdn : Nat.blt d n = true)
    (next : WP ops C brk Q plan n ds ((d, v) :: env) w0 ex bs) : WP ops C brk Q ((i, true) :: plan) n ds env w0 ex bs := wp_still hi hg hdn (od_loadB j hx hj ha hv) next
theorem plo {t : Nat} {x : Operand} {b o : Nat} {v : Value} (hi : ops[i]? = some ⟨some d, .load t x, ty, pos, af, g⟩) (hx : ev env x = some (.pointer (some ⟨b, o, none⟩))) (ha : agg? t = some false) (hc : w0.cell? ⟨b, o, none⟩ = some v) (hb : b ∉ ex) (hg : wantE ops env g = some true) (hdn : Nat.blt d n = true)
    (next : WP ops C brk Q plan n ds ((d, v) :: env) w0 ex bs) : WP ops C brk Q ((i, true) :: plan) n ds env w0 ex bs := wp_still hi hg hdn (od_loadO hx ha hc hb) next
theorem pia {t e m : Nat} {x ix : Operand} {b o : Nat} {kk : IntKind} {z : Int} (k : Nat) (hi : ops[i]? = some ⟨some d, .indexAddr t x ix, ty, pos, af, g⟩) (hx : ev env x = some (.pointer (some ⟨b, o, none⟩))) (hz : ev env ix = some (.int kk z)) (ht : lk tU t = some (.array m e)) (hs : lk tS e = some 1)
    (hk : z = (k : Int)) (hlt : k < m) (hg : wantE ops env g = some true) (hdn : Nat.blt d n = true) (next : WP ops C brk Q plan n ds ((d, .pointer (some ⟨b, o + k, none⟩)) :: env) w0 ex bs) : WP ops C brk Q ((i, true) :: plan) n ds env w0 ex bs := wp_still hi hg hdn (od_indexAddrA1 k hx hz ht hs hk hlt) next
theorem pq {f : FuncId} {args : Array Operand} {ats : Array TypeId} {vs : List Value} {v0 : Value} (hc : ∀ args w, (callFunc f args).run Tryd.prog w = .ok (.enter f args) w) (hi : ops[i]? = some ⟨some d, .call { callee := .value (.func f), args := args, argTypes := ats }, ty, pos, af, g⟩) (hargs : evL env args.toList = some vs)
    (hg : wantE ops env g = some true) (hdn : Nat.blt d n = true) (h : ∀ w, Hp w0 ex w C → Fn f vs w (Quiet v0 w))
    (next : WP ops C brk Q plan n ds ((d, v0) :: env) w0 ex bs) : WP ops C brk Q ((i, true) :: plan) n ds env w0 ex bs := wp_quiet hi hg hdn (od_call hc hargs h) next
theorem pfs {op : Op} {v : Value} (hi : ops[i]? = some ⟨some d, op, ty, pos, af, g⟩) (h : simpleOp env op = some v) (hg : wantE ops env g = some true) (hdn : Nat.blt d n = true)
    (next : WP ops C brk Q plan n ds ((d, v) :: env) w0 ex bs) : WP ops C brk Q ((i, false) :: plan) n ds env w0 ex bs := wp_quietS hi hg hdn (od_simple h).quiet next
end

end Go.Proofs.YtielloijdkoeiaaDoor
