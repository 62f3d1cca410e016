/- The laws of slicing, of strings and bytes, of append and copy, and of '==' on what is no whole number. -/
import Derived.Test.YtielloijdkoeiaaDoorKf
namespace Go.Proofs.YtielloijdkoeiaaDoor
open Go Go.RowKit

/-- A bound of a slice expression: left out, or a number that fits. -/
def bnd (env : Env) (x : Option Operand) (dflt k : Nat) : Prop :=
  match x with
  | none => k = dflt
  | some x => ∃ kk i, ev env x = some (.int kk i) ∧ i = (k : Int)

def bval (ρ : Operand → Value) (x : Option Operand) : Option Value := x.map ρ

theorem run_bound {kk : IntKind} {k m : Nat} {code : BoundsCode} (h : k ≤ m) (w : World) : (Instr.sliceBound (.int kk (k : Int)) m code).run Tryd.prog w = .ok k w := by
  simp [Instr.sliceBound, asIntOf, h]

theorem run_bounds {env : Env} {ρ : Operand → Value} (hρ : Agree ρ env) {isS : Bool} {len cap l h m : Nat} {lo hi mx : Option Operand} (hm : bnd env mx cap m) (hh : bnd env hi len h) (hl : bnd env lo 0 l) (h1 : l ≤ h) (h2 : h ≤ m) (h3 : m ≤ cap)
    (hmx : mx.isSome = true → hi.isSome = true) (w : World) : (Instr.sliceBounds isS len cap (lo.map ρ) (hi.map ρ) (mx.map ρ)).run Tryd.prog w = .ok (l, h, m) w := by
  unfold Instr.sliceBounds
  cases mx with
  | none =>
    simp only [bnd] at hm
    subst hm
    cases hi with
    | none =>
      simp only [bnd] at hh
      subst hh
      cases lo with
      | none => simp only [bnd] at hl; subst hl; simp
      | some x =>
        obtain ⟨kk, i, e, rfl⟩ := hl
        simp [hρ _ _ e, run_bound h1]
    | some y =>
      obtain ⟨kk', i', e', rfl⟩ := hh
      cases lo with
      | none => simp only [bnd] at hl; subst hl; simp [hρ _ _ e', run_bound h2]
      | some x =>
        obtain ⟨kk, i, e, rfl⟩ := hl
        simp [hρ _ _ e, hρ _ _ e', run_bound h1, run_bound h2]
  | some z =>
    obtain ⟨k3, i3, e3, rfl⟩ := hm
    cases hi with
    | none => simp at hmx
    | some y =>
      obtain ⟨kk', i', e', rfl⟩ := hh
      cases lo with
      | none => simp only [bnd] at hl; subst hl; simp [hρ _ _ e', hρ _ _ e3, run_bound h2, run_bound h3]
      | some x =>
        obtain ⟨kk, i, e, rfl⟩ := hl
        simp [hρ _ _ e, hρ _ _ e', hρ _ _ e3, run_bound h1, run_bound h2, run_bound h3]

section
variable {env : Env} {w0 : World} {ex : List Nat} {bs : Blks} {d : Option Nat} {ty : TypeId} {pos : String} {af : Array Edge} {g : Option (Nat × Bool)}

/-- A slice of a slice. -/
theorem od_slice {t e s : Nat} {x : Operand} {lo hi mx : Option Operand} {b o len cap : Nat} (l h m : Nat) (hx : ev env x = some (.slice (some ⟨b, o, none⟩) len cap)) (ht : lk tU t = some (.slice e)) (hs : lk tS e = some s)
    (hm : bnd env mx cap m) (hh : bnd env hi len h) (hl : bnd env lo 0 l) (h1 : l ≤ h) (h2 : h ≤ m) (h3 : m ≤ cap) (hmx : mx.isSome = true → hi.isSome = true) :
    OD env w0 ex bs ⟨d, .slice t x lo hi mx, ty, pos, af, g⟩ (Still (.slice (some ⟨b, if m = l then o else o + l * s, none⟩) (h - l) (m - l))) := by
  refine od_still fun ρ w hρ _ => ?_
  have hb := run_bounds (isS := true) hρ hm hh hl h1 h2 h3 hmx
  simp only [execOp, Instr.sliceAt, Sem.run_bind, run_U ht, Result.andThen_ok, hρ _ _ hx, Instr.slice, hb, S_ok hs, Sem.run_pure]
  split
  · rfl
  · simp [addr_add]

/-- A nil slice, sliced. -/
theorem od_sliceN {t e s : Nat} {x : Operand} {lo hi mx : Option Operand} (hx : ev env x = some (.slice none 0 0)) (ht : lk tU t = some (.slice e)) (hs : lk tS e = some s)
    (hm : bnd env mx 0 0) (hh : bnd env hi 0 0) (hl : bnd env lo 0 0) (hmx : mx.isSome = true → hi.isSome = true) :
    OD env w0 ex bs ⟨d, .slice t x lo hi mx, ty, pos, af, g⟩ (Still (.slice none 0 0)) := by
  refine od_still fun ρ w hρ _ => ?_
  have hb := run_bounds (isS := true) hρ hm hh hl (Nat.le_refl _) (Nat.le_refl _) (Nat.le_refl _) hmx
  simp only [execOp, Instr.sliceAt, Sem.run_bind, run_U ht, Result.andThen_ok, hρ _ _ hx, Instr.slice, hb, S_ok hs, Sem.run_pure]
  rfl

/-- A slice of an array's variable. -/
theorem od_sliceA {t e s len : Nat} {x : Operand} {lo hi mx : Option Operand} {b o : Nat} (l h m : Nat) (hx : ev env x = some (.pointer (some ⟨b, o, none⟩))) (ht : lk tU t = some (.array len e)) (hs : lk tS e = some s)
    (hm : bnd env mx len m) (hh : bnd env hi len h) (hl : bnd env lo 0 l) (h1 : l ≤ h) (h2 : h ≤ m) (h3 : m ≤ len) (hmx : mx.isSome = true → hi.isSome = true) :
    OD env w0 ex bs ⟨d, .slice t x lo hi mx, ty, pos, af, g⟩ (Still (.slice (some ⟨b, if m = l then o else o + l * s, none⟩) (h - l) (m - l))) := by
  refine od_still fun ρ w hρ _ => ?_
  have hb := run_bounds (isS := false) hρ hm hh hl h1 h2 h3 hmx
  simp only [execOp, Instr.sliceAt, Sem.run_bind, run_U ht, Result.andThen_ok, hρ _ _ hx, Instr.sureAddr, hb, S_ok hs, Sem.run_pure]
  split
  · rfl
  · simp [addr_add]
end

end Go.Proofs.YtielloijdkoeiaaDoor
