/- The laws of single operations, over the tables of this program: each says, of slots and private blocks alone, what the operation hands back. -/
import Derived.Test.YtielloijdkoeiaaDoorKd
namespace Go.Proofs.YtielloijdkoeiaaDoor
open Go Go.RowKit

/-! ### The tables that the laws ask -/
def lk {α : Type} : List (Nat × α) → Nat → Option α
  | [], _ => none
  | (d, v) :: r, t => bif Nat.beq d t then some v else lk r t

theorem lk_mem {α : Type} {l : List (Nat × α)} {t : Nat} {v : α} (h : lk l t = some v) : (t, v) ∈ l := by
  induction l with
  | nil => simp [lk] at h
  | cons x r ih =>
    obtain ⟨d, u⟩ := x
    simp only [lk] at h
    cases hb : Nat.beq d t with
    | true =>
      have := Nat.eq_of_beq_eq_true hb
      subst this
      simp at h
      simp [h]
    | false =>
      simp [hb] at h
      exact List.mem_cons_of_mem _ (ih h)

def fl (name : String) (type offset : Nat) (embedded : Bool) (pkgPath : String) (byteOffset : Nat) : Field :=
  { name, type, offset, embedded, tag := "", pkgPath, byteOffset }

def tU : List (Nat × TypeDesc) := [
  (3, (TypeDesc.int IntKind.i64)),
  (4, TypeDesc.bool),
  (5, (TypeDesc.int IntKind.u8)),
  (9, TypeDesc.string),
  (22, (TypeDesc.struct #[fl "A" 3 0 false "" 0, fl "B" 3 1 false "" 8, fl "C" 3 2 false "" 16])),
  (23, (TypeDesc.struct #[fl "A" 3 0 false "" 0, fl "B" 3 1 false "" 8, fl "C" 3 2 false "" 16])),
  (28, (TypeDesc.int IntKind.i64)),
  (34, (TypeDesc.array 2 3)),
  (35, (TypeDesc.array 2 4)),
  (42, (TypeDesc.slice 55)),
  (43, (TypeDesc.slice 5)),
  (51, (TypeDesc.slice 43)),
  (52, (TypeDesc.array 32 5)),
  (53, (TypeDesc.array 32 5)),
  (54, (TypeDesc.struct #[fl "Node" 3 0 false "" 0, fl "No" 3 1 false "" 8, fl "Prev" 53 2 false "" 16, fl "Data" 43 34 false "" 48])),
  (55, (TypeDesc.struct #[fl "Node" 3 0 false "" 0, fl "No" 3 1 false "" 8, fl "Prev" 53 2 false "" 16, fl "Data" 43 34 false "" 48])),
  (64, (TypeDesc.interface #[("signatory/duress.read", 69), ("signatory/duress.tag", 90)])),
  (65, (TypeDesc.interface #[("signatory/duress.read", 69), ("signatory/duress.tag", 90)])),
  (73, (TypeDesc.slice 75)),
  (74, (TypeDesc.struct #[fl "Kind" 3 0 false "" 0, fl "N" 3 1 false "" 8, fl "S" 9 2 false "" 16, fl "L" 73 3 false "" 32])),
  (75, (TypeDesc.struct #[fl "Kind" 3 0 false "" 0, fl "N" 3 1 false "" 8, fl "S" 9 2 false "" 16, fl "L" 73 3 false "" 32])),
  (85, (TypeDesc.func #[103] #[] false)),
  (86, (TypeDesc.func #[103] #[] false)),
  (91, (TypeDesc.struct #[fl "Silent" 23 0 true "" 0, fl "hash" 3 3 false "signatory/duress" 24])),
  (92, (TypeDesc.struct #[fl "Silent" 23 0 true "" 0, fl "hash" 3 3 false "signatory/duress" 24])),
  (93, (TypeDesc.slice 3)),
  (95, (TypeDesc.func #[43, 75] #[43] false)),
  (96, (TypeDesc.struct #[fl "write" 95 0 false "signatory/codec" 0])),
  (97, (TypeDesc.struct #[fl "write" 95 0 false "signatory/codec" 0])),
  (98, (TypeDesc.pointer 106)),
  (100, (TypeDesc.int IntKind.u64)),
  (103, (TypeDesc.func #[55, 53] #[4] false)),
  (105, (TypeDesc.array 4 97)),
  (106, (TypeDesc.array 4 97)),
  (108, (TypeDesc.int IntKind.u64)),
  (110, (TypeDesc.int IntKind.u32)),
  (111, (TypeDesc.array 8 110)),
  (112, (TypeDesc.array 8 110)),
  (117, (TypeDesc.array 4 4)),
  (118, (TypeDesc.pointer 112)),
  (119, (TypeDesc.array 64 110)),
  (123, (TypeDesc.slice 110))]
def tS : List (Nat × Nat) := [(3, 1), (4, 1), (5, 1), (9, 1), (22, 3), (23, 3), (28, 1), (34, 2), (35, 2), (42, 1), (43, 1), (51, 1), (52, 32), (53, 32), (54, 35), (55, 35), (64, 1), (65, 1), (73, 1), (74, 4), (75, 4), (85, 1), (86, 1), (91, 4), (92, 4), (93, 1), (95, 1), (96, 1), (97, 1), (98, 1), (100, 1), (103, 1), (105, 4), (106, 4), (108, 1), (110, 1), (111, 8), (112, 8), (117, 4), (118, 1), (119, 64), (123, 1)]
theorem tU_ok : ∀ x ∈ tU, Tryd.prog.underlying x.1 = some x.2 := by
  simp only [tU, List.forall_mem_cons]
  exact ⟨Tryd.underlying3, Tryd.underlying4, Tryd.underlying5, Tryd.underlying9, Tryd.underlying22, Tryd.underlying23, Tryd.underlying28, Tryd.underlying34, Tryd.underlying35, Tryd.underlying42, Tryd.underlying43, Tryd.underlying51, Tryd.underlying52, Tryd.underlying53, Tryd.underlying54, Tryd.underlying55, Tryd.underlying64, Tryd.underlying65, Tryd.underlying73, Tryd.underlying74, Tryd.underlying75, Tryd.underlying85, Tryd.underlying86, Tryd.underlying91, Tryd.underlying92, Tryd.underlying93, Tryd.underlying95, Tryd.underlying96, Tryd.underlying97, Tryd.underlying98, Tryd.underlying100, Tryd.underlying103, Tryd.underlying105, Tryd.underlying106, Tryd.underlying108, Tryd.underlying110, Tryd.underlying111, Tryd.underlying112, Tryd.underlying117, Tryd.underlying118, Tryd.underlying119, Tryd.underlying123, fun _ h => (by cases h)⟩
theorem tS_ok : ∀ x ∈ tS, ∀ w, (sizeOf x.1).run Tryd.prog w = .ok x.2 w := by
  simp only [tS, List.forall_mem_cons]
  exact ⟨Tryd.sizeOf3, Tryd.sizeOf4, Tryd.sizeOf5, Tryd.sizeOf9, Tryd.sizeOf22, Tryd.sizeOf23, Tryd.sizeOf28, Tryd.sizeOf34, Tryd.sizeOf35, Tryd.sizeOf42, Tryd.sizeOf43, Tryd.sizeOf51, Tryd.sizeOf52, Tryd.sizeOf53, Tryd.sizeOf54, Tryd.sizeOf55, Tryd.sizeOf64, Tryd.sizeOf65, Tryd.sizeOf73, Tryd.sizeOf74, Tryd.sizeOf75, Tryd.sizeOf85, Tryd.sizeOf86, Tryd.sizeOf91, Tryd.sizeOf92, Tryd.sizeOf93, Tryd.sizeOf95, Tryd.sizeOf96, Tryd.sizeOf97, Tryd.sizeOf98, Tryd.sizeOf100, Tryd.sizeOf103, Tryd.sizeOf105, Tryd.sizeOf106, Tryd.sizeOf108, Tryd.sizeOf110, Tryd.sizeOf111, Tryd.sizeOf112, Tryd.sizeOf117, Tryd.sizeOf118, Tryd.sizeOf119, Tryd.sizeOf123, fun _ h => (by cases h)⟩

theorem U_ok {t : Nat} {d : TypeDesc} (h : lk tU t = some d) : Tryd.prog.underlying t = some d := tU_ok (t, d) (lk_mem h)
theorem S_ok {t n : Nat} (h : lk tS t = some n) (w : World) : (sizeOf t).run Tryd.prog w = .ok n w := tS_ok (t, n) (lk_mem h) w
theorem run_U {t : Nat} {d : TypeDesc} (h : lk tU t = some d) (w : World) : (underlying t).run Tryd.prog w = .ok d w := by
  simp [underlying, program, Sem.run, U_ok h]

def isA : TypeDesc → Bool
  | .struct _ => true
  | .array _ _ => true
  | _ => false
def agg? (t : Nat) : Option Bool := (lk tU t).map isA
theorem run_isAgg {t : Nat} {b : Bool} (h : agg? t = some b) (w : World) : (isAgg t).run Tryd.prog w = .ok b w := by
  unfold agg? at h
  cases hd : lk tU t with
  | none => simp [hd] at h
  | some d =>
    simp [hd] at h
    simp only [isAgg, Sem.run_bind, run_U hd, Result.andThen_ok]
    cases d <;> simp [isA] at h <;> simp [← h]

/-! ### What needs no memory -/
def cmpB (op : BinOp) (x y : Int) : Option Bool :=
  match op with
  | .eql => some (x == y)
  | .neq => some (x != y)
  | .lss => some (decide (x < y))
  | .leq => some (decide (x ≤ y))
  | .gtr => some (decide (x > y))
  | .geq => some (decide (x ≥ y))
  | _ => none

def binV (op : BinOp) : Value → Value → Option Value
  | .int k x, .int k' y =>
    if k = k' then
      match op with
      | .add => some (.int k (k.wrap (x + y)))
      | .sub => some (.int k (k.wrap (x - y)))
      | .mul => some (.int k (k.wrap (x * y)))
      | .shl => none
      | .shr => none
      | _ => (cmpB op x y).map .bool
    else none
  | _, _ => none

def evL (env : Env) : List Operand → Option (List Value)
  | [] => some []
  | x :: r => match ev env x, evL env r with
    | some v, some vs => some (v :: vs)
    | _, _ => none

theorem evL_map {env : Env} {ρ : Operand → Value} (hρ : Agree ρ env) : ∀ {l : List Operand} {vs : List Value}, evL env l = some vs → l.map ρ = vs
  | [], vs, h => by cases h; rfl
  | x :: r, vs, h => by
    simp only [evL] at h
    split at h
    · rename_i v us hv hus
      cases h
      simp [hρ _ _ hv, evL_map hρ hus]
    · cases h

theorem evL_arr {env : Env} {ρ : Operand → Value} (hρ : Agree ρ env) {l : Array Operand} {vs : List Value} (h : evL env l.toList = some vs) : l.map ρ = vs.toArray := by
  have := evL_map hρ h
  apply Array.toList_inj.1
  simpa using this

def pureOp (env : Env) : Op → Option Value
  | .move x => ev env x
  | .assign x => ev env x
  | .pick c a b => match ev env c with
    | some (.bool true) => ev env a
    | some (.bool false) => ev env b
    | _ => none
  | .binOp op _ x y _ => match ev env x, ev env y with
    | some u, some v => binV op u v
    | _, _ => none
  | .unOp .not _ x => match ev env x with
    | some (.bool b) => some (.bool !b)
    | _ => none
  | .unOp .neg _ x => match ev env x with
    | some (.int k n) => some (.int k (k.wrap (0 - n)))
    | _ => none
  | .extract x i => match ev env x with
    | some (.tuple vs) => vs[i]?
    | _ => none
  | .nilCheck x => match ev env x with
    | some (.pointer (some a)) => some (.pointer (some a))
    | some (.func (.func f) a b) => some (.func (.func f) a b)
    | _ => none
  | .makeFunc fn first captured => match evL env first.toList, evL env captured.toList with
    | some f, some c => some (.func fn f.toArray c.toArray)
    | _, _ => none
  | _ => none

theorem does_value {o : Oper} {ρ : Operand → Value} {w w' : World} {v : Value} {Φ : Value → World → Prop} (h : (execOp ρ o).run Tryd.prog w = .ok (.value v) w') (hΦ : Φ v w') : Does o ρ w Φ := by
  constructor; unfold DoesD; rw [h]; exact hΦ

theorem does_skip {o : Oper} {ρ : Operand → Value} {w w' : World} {Φ : Value → World → Prop} (h : (execOp ρ o).run Tryd.prog w = .ok .skip w') (hΦ : Φ undef w') : Does o ρ w Φ := by
  constructor; unfold DoesD; rw [h]; exact hΦ
theorem does_enter {o : Oper} {ρ : Operand → Value} {w w' : World} {f : FuncId} {args : Array Value} {Φ : Value → World → Prop} (h : (execOp ρ o).run Tryd.prog w = .ok (.enter f args) w') (hΦ : Calls Tryd.prog f args w' (Ret Φ)) : Does o ρ w Φ := by
  constructor; unfold DoesD; rw [h]; exact hΦ
theorem does_round {o : Oper} {ρ : Operand → Value} {w w' : World} {l : Nat} {f : FuncId} {tmps : Array Value} {asg bd : Code} {Φ : Value → World → Prop} (h : (execOp ρ o).run Tryd.prog w = .ok (.round l f tmps asg bd) w') (hΦ : RoundIn Fence.wide 0 Tryd.prog l f tmps asg bd w' (Ret Φ)) : Does o ρ w Φ := by
  constructor; unfold DoesD; rw [h]; exact hΦ

section
variable {env : Env} {w0 : World} {ex : List Nat} {bs : Blks} {d : Option Nat} {ty : TypeId} {pos : String} {af : Array Edge} {g : Option (Nat × Bool)}

theorem od_still {o : Oper} {v : Value} (h : ∀ ρ w, Agree ρ env → Hp w0 ex w bs → (execOp ρ o).run Tryd.prog w = .ok (.value v) w) : OD env w0 ex bs o (Still v) :=
  ⟨fun ρ w hρ hw => does_value (h ρ w hρ hw) ⟨rfl, rfl⟩⟩

theorem run_cmp {op : BinOp} {x y : Int} {b : Bool} (h : cmpB op x y = some b) (w : World) : (Op.intCmp op x y).run Tryd.prog w = .ok (.bool b) w := by
  cases op <;> simp [cmpB] at h <;> subst h <;> rfl

theorem run_binV {op : BinOp} {t : TypeId} {u v z : Value} (h : binV op u v = some z) (w : World) : (binOp op t u v).run Tryd.prog w = .ok z w := by
  cases u <;> cases v <;> simp only [binV] at h <;> try (cases h)
  rename_i k x k' y
  split at h
  · rename_i hk
    subst hk
    cases op <;> simp [cmpB] at h <;> subst h <;> simp [binOp, Op.intArith, Op.intCmp]
  · cases h

theorem run_eqGuard_int {op : BinOp} {t : TypeId} {x y : Operand} {k : IntKind} {n : Int} {b : Value} (w : World) : (eqGuard op t x y (.int k n) b).run Tryd.prog w = .ok () w := by
  unfold eqGuard
  cases op <;> rfl
theorem run_eqGuard_string {op : BinOp} {t : TypeId} {x y : Operand} {s : ByteArray} {b : Value} (w : World) : (eqGuard op t x y (.string s) b).run Tryd.prog w = .ok () w := by
  unfold eqGuard
  cases op <;> rfl
theorem run_eqGuard_slice {op : BinOp} {t : TypeId} {x y : Operand} {a : Option Addr} {m c : Nat} {b : Value} (w : World) : (eqGuard op t x y (.slice a m c) b).run Tryd.prog w = .ok () w := by
  unfold eqGuard
  cases op <;> rfl
theorem run_eqGuard_bool {op : BinOp} {t : TypeId} {x y : Operand} {c : Bool} {b : Value} (w : World) : (eqGuard op t x y (.bool c) b).run Tryd.prog w = .ok () w := by
  unfold eqGuard
  cases op <;> rfl

theorem od_pure {op : Op} {v : Value} (h : pureOp env op = some v) : OD env w0 ex bs ⟨d, op, ty, pos, af, g⟩ (Still v) := by
  refine od_still fun ρ w hρ _ => ?_
  unfold pureOp at h
  split at h
  · rename_i x; simp [execOp, hρ _ _ h]
  · rename_i x; simp [execOp, hρ _ _ h]
  · rename_i c a b
    split at h
    · rename_i hc; simp [execOp, hρ _ _ hc, hρ _ _ h, asBool]
    · rename_i hc; simp [execOp, hρ _ _ hc, hρ _ _ h, asBool]
    · cases h
  · rename_i op t x y t'
    split at h
    · rename_i u z hu hz
      have h1 : ∃ k x, u = .int k x := by
        cases u <;> simp [binV] at h
        exact ⟨_, _, rfl⟩
      obtain ⟨k, n, rfl⟩ := h1
      simp only [execOp, hρ _ _ hu, hρ _ _ hz, Sem.run_bind]
      simp [run_eqGuard_int, run_binV h]
    · cases h
  · rename_i t x
    split at h
    · rename_i b hb; cases h; simp [execOp, hρ _ _ hb, Op.unary]
    · cases h
  · rename_i t x
    split at h
    · rename_i k m hb; cases h; simp [execOp, hρ _ _ hb, Op.unary, Op.intArith]
    · cases h
  · rename_i x i
    split at h
    · rename_i vs hv; simp [execOp, hρ _ _ hv, Instr.extract, h]
    · cases h
  · rename_i x
    split at h
    · rename_i a hv; cases h; simp [execOp, hρ _ _ hv]
    · rename_i f a b hv; cases h; simp [execOp, hρ _ _ hv]
    · cases h
  · rename_i fn first captured
    split at h
    · rename_i f c hf hc
      cases h
      simp [execOp, Instr.makeFunc, evL_arr hρ hf, evL_arr hρ hc]
    · cases h
  · cases h
end

end Go.Proofs.YtielloijdkoeiaaDoor
