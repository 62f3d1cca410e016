/- The steps of a walk, each with its operation's form in sight, so that one that does not fit is passed over at once. -/
import Derived.Test.YtielloijdkoeiaaDoorKe
namespace Go.Proofs.YtielloijdkoeiaaDoor
open Go Go.RowKit

section
variable {r : Option Nat} {Q : Exit → Act → World → Prop} {n : Nat} {ds : List Deferred} {env : Env} {w0 : World} {ex : List Nat} {bs : Blks} {ops : Array Oper} {rest : List Oper} {d : Nat} {ty : TypeId} {pos : String} {af : Array Edge} {g : Option (Nat × Bool)}

theorem simple_noDefer {op : Op} {v : Value} (h : simpleOp env op = some v) : Op.noDefer op = true := by
  cases op <;> simp [simpleOp] at h <;> rfl
theorem pure_noDefer {op : Op} {v : Value} (h : pureOp env op = some v) : Op.noDefer op = true := by
  cases op <;> simp [pureOp] at h <;> rfl
theorem arith_noDefer {op : Op} {x : Int} (h : arith env op = some x) : Op.noDefer op = true := by
  cases op <;> simp [arith] at h <;> rfl
theorem cmp_noDefer {op : Op} {p : Prop} (h : cmpP env op = some p) : Op.noDefer op = true := by
  cases op <;> simp [cmpP] at h <;> rfl

theorem ws {op : Op} {v : Value} (h : simpleOp env op = some v) (hg : wantE ops env g = some true) (hdn : Nat.blt d n = true)
    (next : WL r ops Q rest n ds ((d, v) :: env) w0 ex bs) : WL r ops Q (⟨some d, op, ty, pos, af, g⟩ :: rest) n ds env w0 ex bs := wl_still hg hdn (simple_noDefer h) (od_simple h) next
theorem wpu {op : Op} {v : Value} (h : pureOp env op = some v) (hg : wantE ops env g = some true) (hdn : Nat.blt d n = true)
    (next : WL r ops Q rest n ds ((d, v) :: env) w0 ex bs) : WL r ops Q (⟨some d, op, ty, pos, af, g⟩ :: rest) n ds env w0 ex bs := wl_still hg hdn (pure_noDefer h) (od_pure h) next
theorem wi64 {op : Op} {x : Int} (h : arith env op = some x) (h1 : -9223372036854775808 ≤ x) (h2 : x ≤ 9223372036854775807) (hg : wantE ops env g = some true) (hdn : Nat.blt d n = true)
    (next : WL r ops Q rest n ds ((d, .int .i64 x) :: env) w0 ex bs) : WL r ops Q (⟨some d, op, ty, pos, af, g⟩ :: rest) n ds env w0 ex bs := wl_still hg hdn (arith_noDefer h) (od_i64 h h1 h2) next
theorem wct {op : Op} {p : Prop} (h : cmpP env op = some p) (hp : p) (hg : wantE ops env g = some true) (hdn : Nat.blt d n = true)
    (next : WL r ops Q rest n ds ((d, .bool true) :: env) w0 ex bs) : WL r ops Q (⟨some d, op, ty, pos, af, g⟩ :: rest) n ds env w0 ex bs := wl_still hg hdn (cmp_noDefer h) (od_cmp_t h hp) next
theorem wcf {op : Op} {p : Prop} (h : cmpP env op = some p) (hp : ¬ p) (hg : wantE ops env g = some true) (hdn : Nat.blt d n = true)
    (next : WL r ops Q rest n ds ((d, .bool false) :: env) w0 ex bs) : WL r ops Q (⟨some d, op, ty, pos, af, g⟩ :: rest) n ds env w0 ex bs := wl_still hg hdn (cmp_noDefer h) (od_cmp_f h hp) next
theorem wn {op : Op} {j : Nat} {wb : Bool} (hg : wantE ops env (some (j, wb)) = some false) (hdn : Nat.blt d n = true)
    (next : WL r ops Q rest n ds ((d, undef) :: env) w0 ex bs) : WL r ops Q (⟨some d, op, ty, pos, af, some (j, wb)⟩ :: rest) n ds env w0 ex bs := wl_not hg hdn next
theorem wfa {t f : Nat} {x : Operand} {b o k : Nat} (hx : ev env x = some (.pointer (some ⟨b, o, none⟩))) (hf : fo t f = some k) (hg : wantE ops env g = some true) (hdn : Nat.blt d n = true)
    (next : WL r ops Q rest n ds ((d, .pointer (some ⟨b, o + k, none⟩)) :: env) w0 ex bs) : WL r ops Q (⟨some d, .fieldAddr t x f, ty, pos, af, g⟩ :: rest) n ds env w0 ex bs := wl_still hg hdn rfl (od_fieldAddr hx hf) next
theorem wln {x : Operand} {t e : Nat} {a : Option Addr} {m c : Nat} (hx : ev env x = some (.slice a m c)) (ht : lk tU t = some (.slice e)) (hg : wantE ops env g = some true) (hdn : Nat.blt d n = true)
    (next : WL r ops Q rest n ds ((d, .int .i64 (m : Int)) :: env) w0 ex bs) : WL r ops Q (⟨some d, .call { callee := .builtin .len, args := #[x], argTypes := #[t] }, ty, pos, af, g⟩ :: rest) n ds env w0 ex bs := wl_still hg hdn rfl (od_len hx ht) next
theorem wlb {t : Nat} {x : Operand} {b o : Nat} {v : Value} {cs : List Value} {T : TypeId} (j : Nat) (hx : ev env x = some (.pointer (some ⟨b, o, none⟩))) (hj : bs[j]? = some (b, cs, T)) (ha : agg? t = some false) (hv : cs[o]? = some v) (hg : wantE ops env g = some true) (hdn : Nat.blt d n = true)
    (next : WL r ops Q rest n ds ((d, v) :: env) w0 ex bs) : WL r ops Q (⟨some d, .load t x, ty, pos, af, g⟩ :: rest) n ds env w0 ex bs := wl_still hg hdn rfl (od_loadB j hx hj ha hv) next
theorem wlo {t : Nat} {x : Operand} {b o : Nat} {v : Value} (hx : ev env x = some (.pointer (some ⟨b, o, none⟩))) (ha : agg? t = some false) (hc : w0.cell? ⟨b, o, none⟩ = some v) (hb : b ∉ ex) (hg : wantE ops env g = some true) (hdn : Nat.blt d n = true)
    (next : WL r ops Q rest n ds ((d, v) :: env) w0 ex bs) : WL r ops Q (⟨some d, .load t x, ty, pos, af, g⟩ :: rest) n ds env w0 ex bs := wl_still hg hdn rfl (od_loadO hx ha hc hb) next
theorem wlab {t m : Nat} {x : Operand} {b : Nat} {cs : List Value} {T : TypeId} (j : Nat) (hx : ev env x = some (.pointer (some ⟨b, 0, none⟩))) (hj : bs[j]? = some (b, cs, T)) (ha : agg? t = some true) (hs : lk tS t = some m) (hl : cs.length = m) (hg : wantE ops env g = some true) (hdn : Nat.blt d n = true)
    (next : WL r ops Q rest n ds ((d, .agg cs.toArray) :: env) w0 ex bs) : WL r ops Q (⟨some d, .load t x, ty, pos, af, g⟩ :: rest) n ds env w0 ex bs := wl_still hg hdn rfl (od_loadAB j hx hj ha hs hl) next
theorem wbx {t : Nat} {x : Operand} {v : Value} (hx : ev env x = some v) (hg : wantE ops env g = some true) (hdn : Nat.blt d n = true)
    (next : ∀ b, WL r ops Q rest n ds ((d, .pointer (some ⟨b, 0, none⟩)) :: env) w0 ex ((b, v.cells.toList, t) :: bs)) : WL r ops Q (⟨some d, .box t x, ty, pos, af, g⟩ :: rest) n ds env w0 ex bs :=
  wl_makes hg hdn rfl (od_box hx) fun _ b _ => next b
theorem wal {t : Nat} {z : Value} {cs : List Value} (hz : ∀ w, (zeroValue t).run Tryd.prog w = .ok z w) (hc : z.cells.toList = cs) (hg : wantE ops env g = some true) (hdn : Nat.blt d n = true)
    (next : ∀ b, WL r ops Q rest n ds ((d, .pointer (some ⟨b, 0, none⟩)) :: env) w0 ex ((b, cs, t) :: bs)) : WL r ops Q (⟨some d, .alloc t, ty, pos, af, g⟩ :: rest) n ds env w0 ex bs :=
  wl_makes hg hdn rfl (od_alloc hz hc) fun _ b _ => next b
theorem wst {t : Nat} {x y : Operand} {b o : Nat} {v : Value} {cs : List Value} {T : TypeId} (j : Nat) (hx : ev env x = some (.pointer (some ⟨b, o, none⟩))) (hy : ev env y = some v) (hj : bs[j]? = some (b, cs, T)) (hs : lk tS t = some 1) (hv : plainV v = true) (ho : o < cs.length)
    (hg : wantE ops env g = some true) (next : WL r ops Q rest n ds env w0 ex (bs.set j (b, cs.set o v, T))) : WL r ops Q (⟨none, .store t x y, ty, pos, af, g⟩ :: rest) n ds env w0 ex bs :=
  wl_store j hg rfl hj (od_store (d := none) j hx hy hj hs hv ho) next
/-- A store of a whole block. -/
theorem wsw {t m : Nat} {x y : Operand} {b : Nat} {vs : Array Value} {cs : List Value} {T : TypeId} (j : Nat) (hx : ev env x = some (.pointer (some ⟨b, 0, none⟩))) (hy : ev env y = some (.agg vs)) (hj : bs[j]? = some (b, cs, T)) (hs : lk tS t = some m) (hl : vs.size = m)
    (hv : ∀ v ∈ vs.toList, plainV v = true) (ho : cs.length = m) (hg : wantE ops env g = some true) (next : WL r ops Q rest n ds env w0 ex (bs.set j (b, vs.toList, T))) : WL r ops Q (⟨none, .store t x y, ty, pos, af, g⟩ :: rest) n ds env w0 ex bs :=
  wl_store j hg rfl hj (od_storeW (d := none) j hx hy hj hs hl hv ho) next
theorem wq {f : FuncId} {args : Array Operand} {ats : Array TypeId} {vs : List Value} {v0 : Value} (hc : ∀ args w, (callFunc f args).run Tryd.prog w = .ok (.enter f args) w) (hargs : evL env args.toList = some vs)
    (hg : wantE ops env g = some true) (hdn : Nat.blt d n = true) (h : ∀ w, Hp w0 ex w bs → Fn f vs w (Quiet v0 w))
    (next : WL r ops Q rest n ds ((d, v0) :: env) w0 ex bs) : WL r ops Q (⟨some d, .call { callee := .value (.func f), args := args, argTypes := ats }, ty, pos, af, g⟩ :: rest) n ds env w0 ex bs :=
  wl_quiet hg hdn rfl (od_call hc hargs h) next
theorem wmk {f : FuncId} {args : Array Operand} {ats : Array TypeId} {vs : List Value} {ι : Type} {fv : ι → Nat → Value} {pre : ι → Prop} {cs : ι → List Value} {T : TypeId} (hc : ∀ args w, (callFunc f args).run Tryd.prog w = .ok (.enter f args) w) (hargs : evL env args.toList = some vs)
    (hg : wantE ops env g = some true) (hdn : Nat.blt d n = true) (h : ∀ w, Hp w0 ex w bs → Fn f vs w (Makes fv pre cs T w))
    (next : ∀ i b, pre i → WL r ops Q rest n ds ((d, fv i b) :: env) w0 ex ((b, cs i, T) :: bs)) : WL r ops Q (⟨some d, .call { callee := .value (.func f), args := args, argTypes := ats }, ty, pos, af, g⟩ :: rest) n ds env w0 ex bs :=
  wl_makes hg hdn rfl (od_call hc hargs h) next
theorem wtu {f : FuncId} {args : Array Operand} {ats : Array TypeId} {vs : List Value} {v0 : Value} {b : Nat} {cs cs' : List Value} {T T' : TypeId} (j : Nat) (hc : ∀ args w, (callFunc f args).run Tryd.prog w = .ok (.enter f args) w) (hargs : evL env args.toList = some vs)
    (hj : bs[j]? = some (b, cs, T)) (hg : wantE ops env g = some true) (hdn : Nat.blt d n = true) (h : ∀ w, Hp w0 ex w bs → Fn f vs w (Turns v0 b cs' T' w))
    (next : WL r ops Q rest n ds ((d, v0) :: env) w0 ex (bs.set j (b, cs', T'))) : WL r ops Q (⟨some d, .call { callee := .value (.func f), args := args, argTypes := ats }, ty, pos, af, g⟩ :: rest) n ds env w0 ex bs :=
  wl_turns j hg hdn rfl hj (od_call hc hargs h) next
end

end Go.Proofs.YtielloijdkoeiaaDoor
