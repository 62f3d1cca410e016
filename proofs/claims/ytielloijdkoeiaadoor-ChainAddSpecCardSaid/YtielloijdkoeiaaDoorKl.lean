/- Drawn regions in which two operations, each of which makes a block, stand in no order: both orders are walked. -/
import Derived.Test.YtielloijdkoeiaaDoorKh
namespace Go.Proofs.YtielloijdkoeiaaDoor
open Go Go.RowKit

/-- First the operations that only answer; then two that make blocks, in either order; then the rest. -/
def okFork (ops : Array Oper) (brk : Option Nat) (i k : Nat) (post : List (Nat × Bool)) : Array Bool → List Nat → Bool
  | listed, [] => Region.ready .any ops listed == [i, k] && okPlan ops brk (listed.setIfInBounds i true) ((k, false) :: post) && okPlan ops brk (listed.setIfInBounds k true) ((i, false) :: post)
  | listed, j :: r => Region.free .any ops listed j && waitsB ops brk listed j && (Region.ready .any ops listed).contains j && okFork ops brk i k post (listed.setIfInBounds j true) r

structure WPF (ops : Array Oper) (C : Blks) (brk : Option Nat) (Q : Act → World → Prop) (i k : Nat) (post : List (Nat × Bool)) (pre : List Nat) (n : Nat) (ds : List Deferred) (env : Env) (w0 : World) (ex : List Nat) (bs : Blks) : Prop where
  go : ∀ listed fuel, okFork ops brk i k post listed pre = true → Region.noSelect ops = true → pre.length + 2 + post.length ≤ fuel → WM ops C brk Q fuel listed n ds env w0 ex bs

def okRegionF (ops : Array Oper) (brk : Option Nat) (i k : Nat) (post : List (Nat × Bool)) (pre : List Nat) : Bool :=
  okFork ops brk i k post (Array.replicate ops.size false) pre && Region.noSelect ops && noDefers ops && (pre.length + 2 + post.length == ops.size)

section
variable {r : Option Nat} {n : Nat} {ds : List Deferred} {env : Env} {w0 : World} {ex : List Nat} {bs : Blks} {ops : Array Oper} {C : Blks} {brk : Option Nat} {i k : Nat} {post : List (Nat × Bool)} {pre : List Nat}

theorem wc_fork {Q : Exit → Act → World → Prop} {id : Nat} (C : Blks) (brk : Option Nat) (pre : List Nat) (i k : Nat) (post : List (Nat × Bool)) (hk : okRegionF ops brk i k post pre = true) (hC : List.Sublist C bs)
    (h : WPF ops C brk (Q .normal) i k post pre n ds env w0 ex bs) : WC r (.region id ops true) Q n ds env w0 ex bs := by
  simp only [okRegionF, Bool.and_eq_true, beq_iff_eq] at hk
  obtain ⟨⟨⟨h1, h2⟩, h3⟩, h4⟩ := hk
  exact wc_draw C ops.size rfl h3 hC (h.go _ _ h1 h2 (by omega))

theorem wpf_still {Q : Act → World → Prop} {j : Nat} {op : Op} {d : Nat} {ty : TypeId} {pos : String} {af : Array Edge} {g : Option (Nat × Bool)} {v0 : Value} (hi : ops[j]? = some ⟨some d, op, ty, pos, af, g⟩) (hg : wantE ops env g = some true) (hdn : Nat.blt d n = true)
    (h : OD env w0 ex C ⟨some d, op, ty, pos, af, g⟩ (Still v0)) (next : WPF ops C brk Q i k post pre n ds ((d, v0) :: env) w0 ex bs) : WPF ops C brk Q i k post (j :: pre) n ds env w0 ex bs := by
  refine ⟨fun listed fuel hp hs hf => ?_⟩
  simp only [okFork, Bool.and_eq_true] at hp
  obtain ⟨f, rfl⟩ : ∃ f, fuel = f + 1 := ⟨fuel - 1, by simp at hf; omega⟩
  exact wm_quiet j hi hs hp.1.1.1 hp.1.1.2 hp.1.2 hg hdn h.quiet (next.go _ _ hp.2 hs (by simp at hf ⊢; omega))

theorem wpf_fork {Q : Act → World → Prop} {op op' : Op} {d d' : Nat} {ty ty' : TypeId} {pos pos' : String} {af af' : Array Edge} {g g' : Option (Nat × Bool)} {ι ι' : Type} {f : ι → Nat → Value} {p : ι → Prop} {cs : ι → List Value} {T : TypeId} {f' : ι' → Nat → Value} {p' : ι' → Prop} {cs' : ι' → List Value} {T' : TypeId}
    (hi : ops[i]? = some ⟨some d, op, ty, pos, af, g⟩) (hk : ops[k]? = some ⟨some d', op', ty', pos', af', g'⟩) (hg : wantE ops env g = some true) (hg' : wantE ops env g' = some true) (hdn : Nat.blt d n = true) (hdn' : Nat.blt d' n = true)
    (h : OD env w0 ex bs ⟨some d, op, ty, pos, af, g⟩ (Makes f p cs T)) (h' : OD env w0 ex bs ⟨some d', op', ty', pos', af', g'⟩ (Makes f' p' cs' T'))
    (next : ∀ x b, p x → WP ops C brk Q ((k, false) :: post) n ds ((d, f x b) :: env) w0 ex ((b, cs x, T) :: bs))
    (next' : ∀ x b, p' x → WP ops C brk Q ((i, false) :: post) n ds ((d', f' x b) :: env) w0 ex ((b, cs' x, T') :: bs)) : WPF ops C brk Q i k post [] n ds env w0 ex bs := by
  refine ⟨fun listed fuel hp hs hf => ?_⟩
  simp only [okFork, Bool.and_eq_true, beq_iff_eq] at hp
  obtain ⟨⟨hr, h1⟩, h2⟩ := hp
  obtain ⟨m, rfl⟩ : ∃ m, fuel = m + 1 := ⟨fuel - 1, by simp at hf; omega⟩
  refine ⟨fun a w hsat hh hc w' kx => ?_⟩
  rw [hr]
  refine ⟨fun e => (by cases e), fun j hj => ?_⟩
  simp only [List.mem_cons, List.not_mem_nil, or_false] at hj
  rcases hj with rfl | rfl
  · unfold opX
    simp only [hi, wanted_of (o := ⟨some d, op, ty, pos, af, g⟩) (b := true) hsat hg, if_true]
    refine (h.law a.eval w' hsat.agree (hh.ext kx)).mono fun v w'' hv => ?_
    obtain ⟨x, b, rfl, hx, hb, k2, hB⟩ := hv
    exact ⟨fun _ _ => (hc.ext kx).ext k2, ((next x b hx).go _ _ h1 hs (by simp at hf ⊢; omega)).go _ _ (hsat.put (by simpa using hdn) _) ((hh.ext kx).new k2 hb hB) ((hc.ext kx).ext k2)⟩
  · unfold opX
    simp only [hk, wanted_of (o := ⟨some d', op', ty', pos', af', g'⟩) (b := true) hsat hg', if_true]
    refine (h'.law a.eval w' hsat.agree (hh.ext kx)).mono fun v w'' hv => ?_
    obtain ⟨x, b, rfl, hx, hb, k2, hB⟩ := hv
    exact ⟨fun _ _ => (hc.ext kx).ext k2, ((next' x b hx).go _ _ h2 hs (by simp at hf ⊢; omega)).go _ _ (hsat.put (by simpa using hdn') _) ((hh.ext kx).new k2 hb hB) ((hc.ext kx).ext k2)⟩
end
end Go.Proofs.YtielloijdkoeiaaDoor
