/- The laws of '==' on structs of three numbers, on digests, on truth values. -/
import Derived.Laws.StructEq
import Derived.Stop.BytesEq
import Derived.Test.YtielloijdkoeiaaDoorKj
namespace Go.Proofs.YtielloijdkoeiaaDoor
open Go Go.RowKit Go.Lib
set_option maxRecDepth 100000

theorem held23 : Tryd.prog.stoodInHeld 23 = false := by kernel_rfl
theorem eqg23 : Tryd.prog.eqGuardType Tryd.prog.depth 23 = false := by kernel_rfl
theorem eqg53 : Tryd.prog.eqGuardType Tryd.prog.depth 53 = false := by kernel_rfl
theorem part_cell {t : Nat} {cs : Array Value} {o : Nat} {v : Value} (ha : agg? t = some false) (hv : cs[o]? = some v) (w : World) : (part t cs o).run Tryd.prog w = .ok v w := by
  simp [part, run_isAgg ha, hv]
def fsA (t : Nat) : Array Go.Field := match lk tU t with
  | some (.struct fs) => fs
  | _ => #[]
theorem fieldsOf_fsA {t : Nat} (h : lk tU t = some (.struct (fsA t))) : Tryd.prog.fieldsOf t = fsA t := by
  simp [Program.fieldsOf, U_ok h]
theorem run_eqField {d : Nat} {xs ys : Array Value} {f : Go.Field} {r : List Go.Field} {a b : Value} {p q : Bool} (w : World) (hn : (f.name == "_") = false) (ha : (part f.type xs f.offset).run Tryd.prog w = .ok a w) (hb : (part f.type ys f.offset).run Tryd.prog w = .ok b w)
    (he : (Op.equalIn d f.type a b).run Tryd.prog w = .ok p w) (hr : (Op.eqFields d xs ys r).run Tryd.prog w = .ok q w) : (Op.eqFields d xs ys (f :: r)).run Tryd.prog w = .ok (p && q) w := by
  have hn' : f.name ≠ "_" := by simpa using hn
  rw [Op.eqFields]
  simp only [if_pos hn', Sem.run_bind, ha, hb, he, Result.andThen_ok]
  cases p
  · simp
  · simpa using hr
theorem eqInt {d t : Nat} {a b : Int} (ht : lk tU t = some (.int .i64)) (w : World) : (Op.equalIn (d + 1) t (.int .i64 a) (.int .i64 b)).run Tryd.prog w = .ok (a == b) w := run_equalIn_int w d t .i64 .i64 a b (U_ok ht)
theorem equal23 (a b c x y z : Int) (w : World) : (Op.equal 23 (.agg #[.int .i64 a, .int .i64 b, .int .i64 c]) (.agg #[.int .i64 x, .int .i64 y, .int .i64 z])).run Tryd.prog w = .ok (decide (a = x ∧ b = y ∧ c = z)) w := by
  have hf := fieldsOf_fsA (t := 23) rfl
  have e : decide (a = x ∧ b = y ∧ c = z) = (a == x && (b == y && (c == z && true))) := by
    rw [Bool.eq_iff_iff]
    simp
  rw [e]
  unfold Op.equal
  show (Op.equalIn (9999 + 1) _ _ _).run _ _ = _
  rw [run_equalIn_struct w 9999 23 _ _ (by rw [hf]; exact U_ok rfl) held23, hf]
  show (Op.eqFields 9999 _ _ [_, _, _]).run _ _ = _
  refine run_eqField w rfl (part_cell rfl rfl w) (part_cell rfl rfl w) (eqInt rfl w) ?_
  refine run_eqField w rfl (part_cell rfl rfl w) (part_cell rfl rfl w) (eqInt rfl w) ?_
  refine run_eqField w rfl (part_cell rfl rfl w) (part_cell rfl rfl w) (eqInt rfl w) ?_
  simp [Op.eqFields]

theorem run_eqGuard_agg {op : BinOp} {t : TypeId} {x y : Operand} {cs : Array Value} {b : Value} (ht : Tryd.prog.eqGuardType Tryd.prog.depth t = false) (w : World) : (eqGuard op t x y (.agg cs) b).run Tryd.prog w = .ok () w := by
  unfold eqGuard
  cases op <;> (try rfl) <;> cases b <;> first | rfl | simp [program, Sem.run, ht]

section
variable {env : Env} {w0 : World} {ex : List Nat} {bs : Blks} {d : Option Nat} {ty : TypeId} {pos : String} {af : Array Edge} {g : Option (Nat × Bool)}

theorem od_eq23 {x y : Operand} {t' : TypeId} {a b c a' b' c' : Int} {r : Bool} (hx : ev env x = some (.agg #[.int .i64 a, .int .i64 b, .int .i64 c])) (hy : ev env y = some (.agg #[.int .i64 a', .int .i64 b', .int .i64 c'])) (hr : decide (a = a' ∧ b = b' ∧ c = c') = r) :
    OD env w0 ex bs ⟨d, .binOp .eql 23 x y t', ty, pos, af, g⟩ (Still (.bool r)) := by
  refine od_still fun ρ w hρ _ => ?_
  subst hr
  simp only [execOp, hρ _ _ hx, hρ _ _ hy, run_eqGuard_agg eqg23, Sem.run_bind, Result.andThen_ok, binOp, equal23, Sem.run_pure]

theorem run_eqD {xs ys : List UInt8} (hx : xs.length = 32) (hy : ys.length = 32) (w : World) : (Op.equal 53 (.agg (xs.map v8).toArray) (.agg (ys.map v8).toArray)).run Tryd.prog w = .ok (decide (xs = ys)) w := by
  have h := run_equalIn_bytes (P := Tryd.prog) w 9998 53 5 32 (U_ok rfl) (U_ok rfl) (S_ok rfl) xs ys hx hy
  have e : decide (xs = ys) = (xs == ys) := by rw [Bool.eq_iff_iff]; simp
  rw [e]
  exact h

/-- Digests. -/
theorem od_eqD {x y : Operand} {t' : TypeId} {xs ys : List UInt8} {op : BinOp} {r : Bool} (hop : op = .eql ∧ decide (xs = ys) = r ∨ op = .neq ∧ decide (xs ≠ ys) = r) (hx : ev env x = some (.agg (xs.map v8).toArray)) (hy : ev env y = some (.agg (ys.map v8).toArray)) (hlx : xs.length = 32) (hly : ys.length = 32) :
    OD env w0 ex bs ⟨d, .binOp op 53 x y t', ty, pos, af, g⟩ (Still (.bool r)) := by
  refine od_still fun ρ w hρ _ => ?_
  rcases hop with ⟨rfl, rfl⟩ | ⟨rfl, rfl⟩
  · simp only [execOp, hρ _ _ hx, hρ _ _ hy, run_eqGuard_agg eqg53, Sem.run_bind, Result.andThen_ok, binOp, run_eqD hlx hly, Sem.run_pure]
  · simp only [execOp, hρ _ _ hx, hρ _ _ hy, run_eqGuard_agg eqg53, Sem.run_bind, Result.andThen_ok, binOp, run_eqD hlx hly, Sem.run_pure, decide_not]

theorem od_eqBool {t t' : TypeId} {x y : Operand} {a b : Bool} {op : BinOp} {r : Bool} (hop : op = .eql ∧ (a == b) = r ∨ op = .neq ∧ (a != b) = r) (hx : ev env x = some (.bool a)) (hy : ev env y = some (.bool b)) (ht : lk tU t = some .bool) :
    OD env w0 ex bs ⟨d, .binOp op t x y t', ty, pos, af, g⟩ (Still (.bool r)) := by
  refine od_still fun ρ w hρ _ => ?_
  have h : (Op.equal t (.bool a) (.bool b)).run Tryd.prog w = .ok (a == b) w := run_equalIn_bool w 9999 t a b (U_ok ht)
  rcases hop with ⟨rfl, rfl⟩ | ⟨rfl, rfl⟩
  · simp only [execOp, hρ _ _ hx, hρ _ _ hy, run_eqGuard_bool, Sem.run_bind, Result.andThen_ok, binOp, h, Sem.run_pure]
  · simp only [execOp, hρ _ _ hx, hρ _ _ hy, run_eqGuard_bool, Sem.run_bind, Result.andThen_ok, binOp, h, Sem.run_pure]
    rfl
end
end Go.Proofs.YtielloijdkoeiaaDoor
