/- Regions whose order is drawn: one chosen order serves all, if at each point a ready operation that only answers (the same value in every world of the class) is taken first, or else the only ready one. And: from a body's walk to its function's contract. -/
import Derived.Test.YtielloijdkoeiaaDoorKa
namespace Go.Proofs.YtielloijdkoeiaaDoor
open Go Go.RowKit

def opX (ops : Array Oper) (i : Nat) (K : Act → World → Prop) (a : Act) (w : World) : Prop :=
  match ops[i]? with
  | none => K a w
  | some o => if Region.wanted o (yielded ops a.tmps) then Does o a.eval w (fun v w' => K (a.put o.dst v) w') else K (a.put o.dst undef) w

theorem opX_mono {ops : Array Oper} {i : Nat} {K K' : Act → World → Prop} {a : Act} {w : World} (h : ∀ a w, K a w → K' a w) (hh : opX ops i K a w) : opX ops i K' a w := by
  unfold opX at *
  split
  · rename_i ho; simp only [ho] at hh; exact h _ _ hh
  · rename_i o ho
    simp only [ho] at hh
    split
    · rename_i hw; simp only [hw, if_true] at hh; exact hh.mono fun v w' => h _ _
    · rename_i hw; simp only [hw] at hh; exact h _ _ hh

/-- From here on every order goes through, in every world that keeps what is here. -/
def anyX (ops : Array Oper) (C : World → Prop) (brk : Option Nat) (Q : Act → World → Prop) : Nat → Array Bool → Act → World → Prop
  | 0, listed, a, w => ∀ w', Ext w w' → Region.ready .any ops listed = [] ∧ Q a w'
  | fuel + 1, listed, a, w => ∀ w', Ext w w' → (Region.ready .any ops listed = [] → Q a w') ∧
      ∀ i ∈ Region.ready .any ops listed, opX ops i (fun a' w'' => ((∀ f, brk = some f → listed.getD f true = false) → some i ≠ brk → C w'') ∧ anyX ops C brk Q fuel (listed.setIfInBounds i true) a' w'') a w'

theorem anyX_ext {ops : Array Oper} {C : World → Prop} {brk : Option Nat} {Q : Act → World → Prop} : ∀ {fuel : Nat} {listed : Array Bool} {a : Act} {w w' : World}, anyX ops C brk Q fuel listed a w → Ext w w' → anyX ops C brk Q fuel listed a w'
  | 0, _, _, _, _, h, k => fun w'' k' => h w'' (k.trans k')
  | _ + 1, _, _, _, _, h, k => fun w'' k' => h w'' (k.trans k')

theorem opX_in {ops : Array Oper} (hdef : ∀ (i : Nat) (o : Oper), ops[i]? = some o → Op.noDefer o.op = true) {r : Option Nat} {Q : Exit → Act → World → Prop} {i : Nat} {K K' : Act → World → Prop} {a : Act} {w : World} (h : ∀ a w, K a w → K' a w) (hh : opX ops i K a w) :
    wpOpIn (FF r) 0 Tryd.prog ops Q i K' a w := by
  unfold opX at hh
  unfold wpOpIn
  split
  · rename_i ho; simp only [ho] at hh; exact h _ _ hh
  · rename_i o ho
    simp only [ho] at hh
    split
    · rename_i hw
      simp only [hw, if_true] at hh
      exact Does.wpIn (hdef i o ho) (hh.mono fun v w' => h _ _)
    · rename_i hw; simp only [hw] at hh; exact ⟨fun f _ => FF_fn r f, h _ _ hh⟩

theorem anyX_in {ops : Array Oper} (hdef : ∀ (i : Nat) (o : Oper), ops[i]? = some o → Op.noDefer o.op = true) {C : World → Prop} {brk : Option Nat} {r : Option Nat} {Q : Exit → Act → World → Prop} : ∀ {fuel : Nat} {listed : Array Bool} {a : Act} {w : World},
    anyX ops C brk (Q .normal) fuel listed a w → wpAnyIn (FF r) 0 Tryd.prog .any ops Q fuel listed a w
  | 0, _, _, w, h => h w (Ext.refl w)
  | _ + 1, _, _, w, h => ⟨(h w (Ext.refl w)).1, fun i hi => opX_in hdef (fun _ _ hk => anyX_in hdef hk.2) ((h w (Ext.refl w)).2 i hi)⟩

/-- In every world of the class the operation (wanted) answers v, all that was there as it was; or it is not wanted. -/
def YieldsX (ops : Array Oper) (C : World → Prop) (o : Oper) (v : Value) (a : Act) : Prop :=
  (Region.wanted o (yielded ops a.tmps) = true ∧ ∀ w, C w → Does o a.eval w fun u w' => u = v ∧ Ext w w') ∨ (Region.wanted o (yielded ops a.tmps) = false ∧ v = undef)

theorem Does_congr {o : Oper} {ρ ρ' : Operand → Value} {w : World} {Φ : Value → World → Prop} (he : execOp ρ' o = execOp ρ o) (h : Does o ρ w Φ) : Does o ρ' w Φ := by
  have h := h.run
  unfold DoesD at h
  rw [← he] at h
  exact ⟨h⟩

theorem YieldsX.of_same {ops : Array Oper} {C : World → Prop} {o : Oper} {v : Value} {a a' : Act} (hy : YieldsX ops C o v a) (he : execOp a'.eval o = execOp a.eval o)
    (hw : Region.wanted o (yielded ops a'.tmps) = Region.wanted o (yielded ops a.tmps)) : YieldsX ops C o v a' := by
  unfold YieldsX at *
  rw [hw]
  exact hy.imp (fun h => ⟨h.1, fun w hc => Does_congr he (h.2 w hc)⟩) id

theorem YieldsX.opX {ops : Array Oper} {C : World → Prop} {i : Nat} {o : Oper} {v : Value} {a : Act} (hi : ops[i]? = some o) (hy : YieldsX ops C o v a) {K : Act → World → Prop} {w : World} (hC : C w) (hK : ∀ w', Ext w w' → K (a.put o.dst v) w') : opX ops i K a w := by
  unfold Go.Proofs.YtielloijdkoeiaaDoor.opX
  simp only [hi]
  rcases hy with ⟨hw, hv⟩ | ⟨hw, rfl⟩
  · simp only [hw, if_true]
    refine (hv w hC).mono fun u w' ⟨e, k⟩ => ?_
    rw [e]; exact hK w' k
  · simp only [hw, Bool.false_eq_true, if_false]; exact hK w (Ext.refl w)

theorem opX_put {ops : Array Oper} {C : World → Prop} {j : Nat} {oi oj : Oper} {v : Value} (hj : ops[j]? = some oj) (hap : oi.apart ops oj = true)
    (hsi : ∀ cs b, oi.op ≠ .select cs b) (hsj : ∀ cs b, oj.op ≠ .select cs b) {K : Act → World → Prop} {a : Act} {w : World}
    (hy : YieldsX ops C oi v a) (h : opX ops j K (a.put oi.dst v) w) :
    opX ops j (fun a' w' => YieldsX ops C oi v a' ∧ K (a'.put oi.dst v) w') a w := by
  obtain ⟨h1, h2, h3⟩ := Oper.apart_spec hap
  have keep : ∀ (a : Act), YieldsX ops C oi v a → ∀ u, YieldsX ops C oi v (a.put oj.dst u) := fun a hy u =>
    hy.of_same (execOp_put oi hsi a oj.dst u h3) (wanted_put oi a oj.dst u h3)
  unfold opX at *
  simp only [hj] at *
  rw [wanted_put oj a oi.dst v h1] at h
  split
  · rename_i hw
    simp only [hw, if_true] at h
    refine (Does_congr (execOp_put oj hsj a oi.dst v h1).symm h).mono fun u w' hk => ⟨keep a hy u, ?_⟩
    rw [← Act.put_comm a v u h2]; exact hk
  · rename_i hw
    simp only [hw] at h
    exact ⟨keep a hy _, by rw [← Act.put_comm a v undef h2]; exact h⟩

theorem anyX_first {ops : Array Oper} {C : World → Prop} {brk : Option Nat} {Q : Act → World → Prop} (hCx : ∀ w w', C w → Ext w w' → C w') {i : Nat} {oi : Oper} {v : Value} (hi : ops[i]? = some oi) (hsel : ∀ (j : Nat) (o : Oper) cs b, ops[j]? = some o → o.op ≠ .select cs b)
    (S : List Nat) (hib : some i ≠ brk) (hbS : ∀ f, brk = some f → f ∈ S) (hS : ∀ s ∈ S, s ≠ i ∧ ∀ os, ops[s]? = some os → ∃ e ∈ os.after, Region.binds .any e = true ∧ (e.on = i ∨ e.on ∈ S)) :
    ∀ (fuel : Nat) (listed : Array Bool) (a : Act) (w : World), C w → (∀ s ∈ S, listed.getD s true = false) →
      (∀ j oj, ops[j]? = some oj → j ≠ i → listed.getD j true = false → (∀ e ∈ oj.after, Region.binds .any e = true → e.on ≠ i) → oi.apart ops oj = true) →
      i ∈ Region.ready .any ops listed → YieldsX ops C oi v a →
      anyX ops C brk Q fuel (listed.setIfInBounds i true) (a.put oi.dst v) w → anyX ops C brk Q (fuel + 1) listed a w := by
  intro fuel
  induction fuel with
  | zero =>
    intro listed a w hC hSl _ hr hy H w' k
    refine ⟨fun h => (by rw [h] at hr; cases hr), fun j hj => ?_⟩
    by_cases hji : j = i
    · subst hji
      exact hy.opX hi (hCx _ _ hC k) fun w'' k' => ⟨fun _ _ => hCx _ _ hC (k.trans k'), anyX_ext H (k.trans k')⟩
    · have := ready_mono hj hji
      rw [(H w' k).1] at this
      cases this
  | succ fuel ih =>
    intro listed a w hC hSl hfree hr hy H w' k
    refine ⟨fun h => (by rw [h] at hr; cases hr), fun j hj => ?_⟩
    by_cases hji : j = i
    · subst hji
      exact hy.opX hi (hCx _ _ hC k) fun w'' k' => ⟨fun _ _ => hCx _ _ hC (k.trans k'), anyX_ext H (k.trans k')⟩
    · have h1 := (H w' k).2 j (ready_mono hj hji)
      obtain ⟨hjun, oj, hoj, hall⟩ := mem_ready.1 hj
      have contra : ∀ m, listed.getD m true = false → listed.getD m false = true → False := fun m h0 h1 => by
        rcases Nat.lt_or_ge m listed.size with h' | h'
        · simp [h'] at h0 h1; rw [h0] at h1; cases h1
        · simp [Array.getElem?_eq_none h'] at h1
      have hnot : ∀ e ∈ oj.after, Region.binds .any e = true → e.on ≠ i := fun e he hb heq => by
        have h1 := hall e he hb
        rw [heq] at h1
        exact contra i (mem_ready.1 hr).1 h1
      have hjS : j ∉ S := fun hm => by
        obtain ⟨e', he', hb', ho'⟩ := (hS j hm).2 oj hoj
        rcases ho' with ho' | ho'
        · exact hnot e' he' hb' ho'
        · exact contra e'.on (hSl _ ho') (hall e' he' hb')
      have hjb : some j ≠ brk := fun e => hjS (hbS j e.symm)
      have hSl' : ∀ s ∈ S, (listed.setIfInBounds j true).getD s true = false := fun s hs => by
        have hjs : j ≠ s := fun e => hjS (e ▸ hs)
        rw [getD_set_ne true hjs]; exact hSl s hs
      have h2 := opX_put (C := C) hoj (hfree j oj hoj hji hjun hnot) (fun cs b => hsel i oi cs b hi) (fun cs b => hsel j oj cs b hoj) hy h1
      have hfree' : ∀ k ok, ops[k]? = some ok → k ≠ i → (listed.setIfInBounds j true).getD k true = false →
          (∀ e ∈ ok.after, Region.binds .any e = true → e.on ≠ i) → oi.apart ops ok = true := fun k ok hk hki hun hno => by
        refine hfree k ok hk hki ?_ hno
        by_cases hjk : j = k
        · subst hjk; exact hjun
        · rw [getD_set_ne true hjk] at hun; exact hun
      have conv : (∀ f, brk = some f → listed.getD f true = false) → ∀ f, brk = some f → (listed.setIfInBounds i true).getD f true = false := fun hun f e => by
        have hif : i ≠ f := fun e2 => hib (by rw [e, e2])
        rw [getD_set_ne true hif]; exact hun f e
      refine opX_mono (fun a' w'' h3 => ⟨fun hun => h3.2.1 (conv hun), ih (listed.setIfInBounds j true) a' w'' (h3.2.1 (conv fun f e => hSl f (hbS f e)) hjb) hSl' hfree' (ready_mono hr (Ne.symm hji)) h3.1 ?_⟩) h2
      have := h3.2.2
      rw [Array.setIfInBounds_comm _ _ (Ne.symm hji)] at this
      exact this

/-! ### The judgement -/
structure WM (ops : Array Oper) (C : Blks) (brk : Option Nat) (Q : Act → World → Prop) (fuel : Nat) (listed : Array Bool) (n : Nat) (ds : List Deferred) (env : Env) (w0 : World) (ex : List Nat) (bs : Blks) : Prop where
  go : ∀ a w, Sat a n ds env → Hp w0 ex w bs → Hp w0 ex w C → anyX ops (fun w => Hp w0 ex w C) brk Q fuel listed a w

/-- The operations that wait for operation i, each through another. -/
def waitL (ops : Array Oper) (i : Nat) : List Nat :=
  (List.range ops.size).foldl (fun S s => match ops[s]? with
    | some o => if s != i && o.after.any (fun e => Region.binds .any e && (e.on == i || S.contains e.on)) then s :: S else S
    | none => S) []
/-- The operation that may break what the reading ones lean on waits for operation i. -/
def waitsS (ops : Array Oper) (brk : Option Nat) (listed : Array Bool) (i : Nat) (S : List Nat) : Bool :=
  (match brk with
  | none => true
  | some f => f != i && S.contains f) &&
  S.all fun s => s != i && !(listed.getD s true) && match ops[s]? with
    | some o => o.after.any fun e => Region.binds .any e && (e.on == i || S.contains e.on)
    | none => true
def waitsB (ops : Array Oper) (brk : Option Nat) (listed : Array Bool) (i : Nat) : Bool :=
  match brk with
  | none => true
  | some _ => waitsS ops brk listed i (waitL ops i)

theorem waitsB_spec {ops : Array Oper} {brk : Option Nat} {listed : Array Bool} {i : Nat} (h : waitsB ops brk listed i = true) :
    ∃ S : List Nat, some i ≠ brk ∧ (∀ f, brk = some f → f ∈ S) ∧ (∀ s ∈ S, s ≠ i ∧ ∀ os, ops[s]? = some os → ∃ e ∈ os.after, Region.binds .any e = true ∧ (e.on = i ∨ e.on ∈ S)) ∧ ∀ s ∈ S, listed.getD s true = false := by
  unfold waitsB at h
  cases brk with
  | none => exact ⟨[], by simp, fun f e => (by cases e), by simp, by simp⟩
  | some f =>
    simp only [waitsS, Bool.and_eq_true, bne_iff_ne, ne_eq, List.contains_iff_mem, List.all_eq_true, Bool.not_eq_true'] at h
    obtain ⟨⟨h1, h2⟩, h3⟩ := h
    refine ⟨waitL ops i, fun e => h1 (by cases e; rfl), fun f' e => by cases e; exact h2, fun s hs => ⟨(h3 s hs).1.1, fun os ho => ?_⟩, fun s hs => (h3 s hs).1.2⟩
    have h4 := (h3 s hs).2
    rw [ho] at h4
    simp only [Array.any_eq_true, Bool.and_eq_true, Bool.or_eq_true, beq_iff_eq, List.contains_iff_mem] at h4
    obtain ⟨k, hk, hb, ho'⟩ := h4
    exact ⟨os.after[k], Array.getElem_mem _, hb, ho'⟩

def noDefers (ops : Array Oper) : Bool := ops.all fun o => Op.noDefer o.op
theorem noDefers_spec {ops : Array Oper} (h : noDefers ops = true) (i : Nat) (o : Oper) (ho : ops[i]? = some o) : Op.noDefer o.op = true := by
  obtain ⟨hi, e⟩ := Array.getElem?_eq_some_iff.1 ho
  have := Array.all_eq_true.1 h i hi
  rw [e] at this
  exact this

section rules
variable {r : Option Nat} {n : Nat} {ds : List Deferred} {env : Env} {w0 : World} {ex : List Nat} {bs : Blks} {ops : Array Oper} {C : Blks} {brk : Option Nat} {fuel : Nat} {listed : Array Bool}

theorem mixed : Tryd.prog.follows .mixedOrders = true := by kernel_rfl

/-- A region that draws. 'C': the private blocks that its reading operations lean on. -/
theorem wc_draw {Q : Exit → Act → World → Prop} {id : Nat} (C : Blks) (k : Nat) (hk : ops.size = k) (hdef : noDefers ops = true) (hC : List.Sublist C bs)
    (h : WM ops C brk (Q .normal) k (Array.replicate k false) n ds env w0 ex bs) : WC r (.region id ops true) Q n ds env w0 ex bs := by
  refine ⟨fun a w hs hh => ?_⟩
  subst hk
  refine wpIn_region_any mixed (anyX_in (noDefers_spec hdef) (C := fun w => Hp w0 ex w C) (brk := brk) ?_)
  have hx := hh.ext (Ext.drew w)
  exact h.go a _ hs hx (hx.sub hC)

theorem wm_quiet {Q : Act → World → Prop} (i : Nat) {op : Op} {d : Nat} {ty : TypeId} {pos : String} {af : Array Edge} {g : Option (Nat × Bool)} {v0 : Value} (hi : ops[i]? = some ⟨some d, op, ty, pos, af, g⟩) (hns : Region.noSelect ops = true)
    (hf : Region.free .any ops listed i = true) (hwb : waitsB ops brk listed i = true) (hr : (Region.ready .any ops listed).contains i = true) (hg : wantE ops env g = some true) (hdn : Nat.blt d n = true)
    (h : OD env w0 ex C ⟨some d, op, ty, pos, af, g⟩ (Quiet v0)) (next : WM ops C brk Q fuel (listed.setIfInBounds i true) n ds ((d, v0) :: env) w0 ex bs) : WM ops C brk Q (fuel + 1) listed n ds env w0 ex bs := by
  refine ⟨fun a w hs hh hc => ?_⟩
  obtain ⟨S, s1, s2, s3, s4⟩ := waitsB_spec hwb
  refine anyX_first (fun w w' hc k => hc.ext k) hi (Region.noSelect_spec hns) S s1 s2 s3 fuel listed a w hc s4 (Region.free_spec hi hf) (by simpa using hr) (v := v0) (Or.inl ⟨wanted_of hs hg, fun w hw => ?_⟩) (next.go _ w (hs.put (by simpa using hdn) _) hh hc)
  exact (h.law a.eval w hs.agree hw).mono fun u w' hu => hu

theorem wm_not {Q : Act → World → Prop} (i : Nat) {op : Op} {d : Nat} {ty : TypeId} {pos : String} {af : Array Edge} {g : Option (Nat × Bool)} (hi : ops[i]? = some ⟨some d, op, ty, pos, af, g⟩) (hns : Region.noSelect ops = true)
    (hf : Region.free .any ops listed i = true) (hwb : waitsB ops brk listed i = true) (hr : (Region.ready .any ops listed).contains i = true) (hg : wantE ops env g = some false) (hdn : Nat.blt d n = true)
    (next : WM ops C brk Q fuel (listed.setIfInBounds i true) n ds ((d, undef) :: env) w0 ex bs) : WM ops C brk Q (fuel + 1) listed n ds env w0 ex bs := by
  refine ⟨fun a w hs hh hc => ?_⟩
  obtain ⟨S, s1, s2, s3, s4⟩ := waitsB_spec hwb
  exact anyX_first (fun w w' hc k => hc.ext k) hi (Region.noSelect_spec hns) S s1 s2 s3 fuel listed a w hc s4 (Region.free_spec hi hf) (by simpa using hr) (v := undef)
    (Or.inr ⟨wanted_of (o := ⟨some d, op, ty, pos, af, g⟩) hs hg, rfl⟩) (next.go _ w (hs.put (by simpa using hdn) _) hh hc)

/-- The only operation that may come up now: whatever it does. -/
theorem wm_sole {Q : Act → World → Prop} (i : Nat) {o : Oper} {Φ : World → Value → World → Prop} (hi : ops[i]? = some o) (hr : Region.ready .any ops listed = [i]) (hg : wantE ops env o.guard = some true)
    (h : OD env w0 ex bs o Φ)
    (next : ∀ a w v w', Sat a n ds env → Hp w0 ex w bs → Hp w0 ex w C → Φ w v w' → (some i ≠ brk → Hp w0 ex w' C) ∧ anyX ops (fun w => Hp w0 ex w C) brk Q fuel (listed.setIfInBounds i true) (a.put o.dst v) w') :
    WM ops C brk Q (fuel + 1) listed n ds env w0 ex bs := by
  refine ⟨fun a w hs hh hc w' k => ?_⟩
  rw [hr]
  refine ⟨fun h => (by cases h), fun j hj => ?_⟩
  simp only [List.mem_singleton] at hj
  subst hj
  unfold opX
  simp only [hi, wanted_of hs hg, if_true]
  exact (h.law a.eval w' hs.agree (hh.ext k)).mono fun v w'' hv => ⟨fun _ => (next a w' v w'' hs (hh.ext k) (hc.ext k) hv).1, (next a w' v w'' hs (hh.ext k) (hc.ext k) hv).2⟩

theorem wm_quiet_sole {Q : Act → World → Prop} (i : Nat) {op : Op} {d : Nat} {ty : TypeId} {pos : String} {af : Array Edge} {g : Option (Nat × Bool)} {v0 : Value} (hi : ops[i]? = some ⟨some d, op, ty, pos, af, g⟩) (hr : Region.ready .any ops listed = [i]) (hg : wantE ops env g = some true)
    (hdn : Nat.blt d n = true) (h : OD env w0 ex bs ⟨some d, op, ty, pos, af, g⟩ (Quiet v0))
    (next : WM ops C brk Q fuel (listed.setIfInBounds i true) n ds ((d, v0) :: env) w0 ex bs) : WM ops C brk Q (fuel + 1) listed n ds env w0 ex bs :=
  wm_sole i hi hr hg h fun a w v w' hs hh hc hv => by
    obtain ⟨rfl, k⟩ := hv
    exact ⟨fun _ => hc.ext k, next.go _ _ (hs.put (by simpa using hdn) _) (hh.ext k) (hc.ext k)⟩

theorem wm_makes {Q : Act → World → Prop} (i : Nat) {op : Op} {d : Nat} {ty : TypeId} {pos : String} {af : Array Edge} {g : Option (Nat × Bool)} {ι : Type} {f : ι → Nat → Value} {pre : ι → Prop} {cs : ι → List Value} {T : TypeId} (hi : ops[i]? = some ⟨some d, op, ty, pos, af, g⟩)
    (hr : Region.ready .any ops listed = [i]) (hg : wantE ops env g = some true) (hdn : Nat.blt d n = true)
    (h : OD env w0 ex bs ⟨some d, op, ty, pos, af, g⟩ (Makes f pre cs T)) (next : ∀ x b, pre x → WM ops C brk Q fuel (listed.setIfInBounds i true) n ds ((d, f x b) :: env) w0 ex ((b, cs x, T) :: bs)) :
    WM ops C brk Q (fuel + 1) listed n ds env w0 ex bs :=
  wm_sole i hi hr hg h fun a w v w' hs hh hc hv => by
    obtain ⟨x, b, rfl, hx, hb, k, hB⟩ := hv
    exact ⟨fun _ => hc.ext k, (next x b hx).go _ _ (hs.put (by simpa using hdn) _) (hh.new k hb hB) (hc.ext k)⟩

/-- The only ready operation turns block j, which no reading operation leans on. -/
theorem wm_turns {Q : Act → World → Prop} (i j : Nat) {op : Op} {od : Option Nat} {ty : TypeId} {pos : String} {af : Array Edge} {g : Option (Nat × Bool)} {v0 : Value} {b : Nat} {cs cs' : List Value} {T T' : TypeId} (hi : ops[i]? = some ⟨od, op, ty, pos, af, g⟩)
    (hr : Region.ready .any ops listed = [i]) (hg : wantE ops env g = some true) (hj : bs[j]? = some (b, cs, T)) (hC : List.Sublist C (bs.eraseIdx j))
    (h : OD env w0 ex bs ⟨od, op, ty, pos, af, g⟩ (Turns v0 b cs' T')) (next : WM ops C brk Q fuel (listed.setIfInBounds i true) n ds env w0 ex (bs.set j (b, cs', T')))
    (hod : ∀ d, od = some d → get env d = none) :
    WM ops C brk Q (fuel + 1) listed n ds env w0 ex bs :=
  wm_sole i hi hr hg h fun a w v w' hs hh hc hv => by
    obtain ⟨rfl, ho, hB⟩ := hv
    have hsw := hh.swap hj ho hB (Or.inl rfl)
    have hC' : Hp w0 ex w' C := hsw.sub (hC.cons _)
    refine ⟨fun _ => hC', next.go _ _ ?_ (hh.upd hj ho hB) hC'⟩
    cases hd : od with
    | none => exact hs.put_none _
    | some d =>
      refine ⟨by simp [Act.put, hs.size], by simp [Act.put, hs.defers], fun t u ht => ?_⟩
      have hne : d ≠ t := fun e => by
        subst e
        rw [hod d hd] at ht
        cases ht
      simp [Act.put, Array.getElem?_setIfInBounds_ne hne, hs.vals t u ht]

theorem wm_moves {Q : Act → World → Prop} (i j : Nat) {op : Op} {d : Nat} {ty : TypeId} {pos : String} {af : Array Edge} {g : Option (Nat × Bool)} {ι : Type} {f : ι → Nat → Value} {pre : ι → Prop} {cs : ι → List Value} {b : Nat} {cs0 : List Value} {T T0 : TypeId} (hi : ops[i]? = some ⟨some d, op, ty, pos, af, g⟩)
    (hr : Region.ready .any ops listed = [i]) (hg : wantE ops env g = some true) (hdn : Nat.blt d n = true) (hj : bs[j]? = some (b, cs0, T0)) (hC : List.Sublist C (bs.eraseIdx j))
    (h : OD env w0 ex bs ⟨some d, op, ty, pos, af, g⟩ (Moves b f pre cs T)) (next : ∀ x b', pre x → WM ops C brk Q fuel (listed.setIfInBounds i true) n ds ((d, f x b') :: env) w0 ex ((b', cs x, T) :: bs.eraseIdx j)) :
    WM ops C brk Q (fuel + 1) listed n ds env w0 ex bs :=
  wm_sole i hi hr hg h fun a w v w' hs hh hc hv => by
    obtain ⟨x, b', rfl, hx, hb, ho, hB⟩ := hv
    have hsw := hh.swap hj ho hB hb
    have hC' : Hp w0 ex w' C := hsw.sub (hC.cons _)
    exact ⟨fun _ => hC', (next x b' hx).go _ _ (hs.put (by simpa using hdn) _) hsw hC'⟩

theorem wm_done {Q : Act → World → Prop} (hr : Region.ready .any ops listed = []) (h : ∀ a w, Sat a n ds env → Hp w0 ex w bs → Q a w) : WM ops C brk Q fuel listed n ds env w0 ex bs := by
  refine ⟨fun a w hs hh hc => ?_⟩
  cases fuel with
  | zero => exact fun w' k => ⟨hr, h a w' hs (hh.ext k)⟩
  | succ f => exact fun w' k => ⟨fun _ => h a w' hs (hh.ext k), fun i hi => by rw [hr] at hi; cases hi⟩

/-- The last operation: nothing need be kept for another. -/
theorem wm_last {Q : Exit → Act → World → Prop} (i : Nat) {o : Oper} {Φ : World → Value → World → Prop} (hb : brk = some i) (hi : ops[i]? = some o) (hr : Region.ready .any ops listed = [i]) (hr2 : Region.ready .any ops (listed.setIfInBounds i true) = []) (hg : wantE ops env o.guard = some true)
    (h : OD env w0 ex bs o Φ) (next : ∀ a w v w' w'', Sat a n ds env → Hp w0 ex w bs → Φ w v w' → Ext w' w'' → Q .normal (a.put o.dst v) w'') : WM ops C brk (Q .normal) (fuel + 1) listed n ds env w0 ex bs :=
  wm_sole i hi hr hg h fun a w v w' hs hh hc hv => by
    refine ⟨fun hn => absurd hb.symm hn, ?_⟩
    cases fuel with
    | zero => exact fun w'' k => ⟨hr2, next a w v w' w'' hs hh hv k⟩
    | succ f => exact fun w'' k => ⟨fun _ => next a w v w' w'' hs hh hv k, fun j hj => by rw [hr2] at hj; cases hj⟩

/-- The last operation but one, after which nothing need be kept: a last one, which only hands on, reads its slot. -/
theorem wm_last2 {Q : Exit → Act → World → Prop} (i k : Nat) {o o2 : Oper} {d : Nat} {op2 : Op} {ty2 : TypeId} {pos2 : String} {af2 : Array Edge} {Φ : World → Value → World → Prop} (hb : brk = some i) (hi : ops[i]? = some o) (hk : ops[k]? = some o2) (hg2 : o2 = ⟨some d, op2, ty2, pos2, af2, none⟩)
    (hin : Nat.blt i listed.size = true) (hr : Region.ready .any ops listed = [i]) (hr2 : Region.ready .any ops (listed.setIfInBounds i true) = [k]) (hr3 : Region.ready .any ops ((listed.setIfInBounds i true).setIfInBounds k true) = []) (hg : wantE ops env o.guard = some true)
    (h : OD env w0 ex bs o Φ) (next : ∀ a w v w', Sat a n ds env → Hp w0 ex w bs → Φ w v w' → ∃ u, (∀ w1, Does o2 (a.put o.dst v).eval w1 (Still u w1)) ∧ ∀ w'', Ext w' w'' → Q .normal ((a.put o.dst v).put (some d) u) w'') :
    WM ops C brk (Q .normal) (fuel + 2) listed n ds env w0 ex bs :=
  wm_sole i hi hr hg h fun a w v w' hs hh hc hv => by
    refine ⟨fun hn => absurd hb.symm hn, ?_⟩
    obtain ⟨u, hu, hQ⟩ := next a w v w' hs hh hv
    intro w'' kx
    rw [hr2]
    refine ⟨fun h => (by cases h), fun j hj => ?_⟩
    simp only [List.mem_singleton] at hj
    subst hj
    subst hg2
    unfold opX
    simp only [hk, Region.wanted, if_true]
    refine (hu w'').mono fun v2 w3 he => ?_
    obtain ⟨rfl, rfl⟩ := he
    refine ⟨fun hl => ?_, ?_⟩
    · have h1 := hl i hb
      rw [Array.getD_eq_getD_getElem?, Array.getElem?_setIfInBounds_self_of_lt (by simpa using hin)] at h1
      cases h1
    · cases fuel with
      | zero => exact fun w4 k4 => ⟨hr3, hQ w4 (kx.trans k4)⟩
      | succ f => exact fun w4 k4 => ⟨fun _ => hQ w4 (kx.trans k4), fun j hj => by rw [hr3] at hj; cases hj⟩

theorem wm_done_we {Q : Exit → Act → World → Prop} (hr : Region.ready .any ops listed = []) (h : WE Q .normal n ds env w0 ex bs) : WM ops C brk (Q .normal) fuel listed n ds env w0 ex bs := wm_done hr h.go
end rules

/-! ### From the body to the function -/
def argsEnv : Nat → List Value → Env
  | _, [] => []
  | i, v :: r => (i, v) :: argsEnv (i + 1) r

theorem get_argsEnv : ∀ (l : List Value) (i t : Nat) (v : Value), get (argsEnv i l) t = some v → i ≤ t ∧ l[t - i]? = some v
  | [], i, t, v, h => by simp [argsEnv, get] at h
  | u :: r, i, t, v, h => by
    simp only [argsEnv, get] at h
    cases hb : Nat.beq i t with
    | true =>
      have := Nat.eq_of_beq_eq_true hb
      subst this
      simp at h
      simp [h]
    | false =>
      simp [hb] at h
      have := get_argsEnv r (i + 1) t v h
      refine ⟨by omega, ?_⟩
      have e : t - i = (t - (i + 1)) + 1 := by omega
      rw [e]; simpa using this.2

theorem sat_start {args : List Value} {n : Nat} (hn : args.length ≤ n) : Sat { tmps := args.toArray ++ Array.replicate (n - args.toArray.size) undef, defers := [] } n [] (argsEnv 0 args) := by
  refine ⟨by simp; omega, rfl, fun t v ht => ?_⟩
  have := get_argsEnv args 0 t v ht
  have h2 := this.2
  simp at h2
  have hlt : t < args.length := (List.getElem?_eq_some_iff.1 h2).1
  rw [Array.getElem?_append_left (by simpa using hlt)]
  simpa using h2

theorem calls_of {f : FuncId} {fn : Func} {c : Code} {args : List Value} {n : Nat} {w0 : World} {ex : List Nat} {bs : Blks} {R : Ending → World → Prop} (hf : Tryd.prog.funcs[f]? = some fn) (hb : fn.body = some c) (hn : fn.ntmps = n)
    (hl : Nat.ble args.length n = true) (hh : Hp w0 ex w0 bs) (h : WC none c (bodyPost Tryd.prog fn R) n [] (argsEnv 0 args) w0 ex bs) : Calls Tryd.prog f args.toArray w0 R := by
  refine callsIn_wide.1 (callsIn_of_wp (F := Fence.wide) (n := 0) hf hb trivial ?_)
  rw [hn]
  exact h.go _ _ (sat_start (by simpa using hl)) hh

def Ret (Φ : Value → World → Prop) : Ending → World → Prop := fun e w' => ∃ v, e = .returned v ∧ Φ v w'

/-- A function's contract: called so in this world it returns, and this holds of its value and of the world behind it. -/
structure Fn (f : FuncId) (args : List Value) (w : World) (Φ : Value → World → Prop) : Prop where
  run : Calls Tryd.prog f args.toArray w (Ret Φ)

theorem Fn.mono {f : FuncId} {args : List Value} {w : World} {Φ Ψ : Value → World → Prop} (h : Fn f args w Φ) (hk : ∀ v w', Φ v w' → Ψ v w') : Fn f args w Ψ :=
  ⟨h.run.mono fun _ _ he => (let ⟨v, e, hv⟩ := he; ⟨v, e, hk _ _ hv⟩)⟩

theorem fn_of {f : FuncId} {fn : Func} {c : Code} {args : List Value} {n : Nat} {w0 : World} {ex : List Nat} {bs : Blks} {Φ : Value → World → Prop} (hf : Tryd.prog.funcs[f]? = some fn) (hb : fn.body = some c) (hn : fn.ntmps = n)
    (hl : Nat.ble args.length n = true) (hh : Hp w0 ex w0 bs) (h : WC none c (bodyPost Tryd.prog fn (Ret Φ)) n [] (argsEnv 0 args) w0 ex bs) : Fn f args w0 Φ := ⟨calls_of hf hb hn hl hh h⟩

theorem we_post {fn : Func} {n : Nat} {env : Env} {w0 : World} {ex : List Nat} {bs : Blks} {Φ : Value → World → Prop} {e : Exit} (he : e = .ret ∨ e = .normal) (v : Value)
    (hr : ∀ a w, Sat a n [] env → Hp w0 ex w bs → (results fn a.tmps).run Tryd.prog w = .ok v w) (hΦ : ∀ w, Hp w0 ex w bs → Φ v w) : WE (bodyPost Tryd.prog fn (Ret Φ)) e n [] env w0 ex bs := by
  refine ⟨fun a w hs hh => ?_⟩
  rcases he with rfl | rfl
  · exact ⟨hs.defers, v, hr a w hs hh, v, rfl, hΦ w hh⟩
  · exact ⟨hs.defers, v, hr a w hs hh, v, rfl, hΦ w hh⟩

theorem Sat.getD {a : Act} {n : Nat} {ds : List Deferred} {env : Env} (h : Sat a n ds env) {t : Nat} {v : Value} (ht : get env t = some v) : a.tmps.getD t undef = v := by
  have := h.vals t v ht
  simp [this]

section
variable {fn : Func} {n : Nat} {env : Env} {w0 : World} {ex : List Nat} {bs : Blks} {Φ : Value → World → Prop} {e : Exit}
theorem we_ret0 (he : e = .ret ∨ e = .normal) (hres : fn.results = #[]) (hΦ : ∀ w, Hp w0 ex w bs → Φ (.tuple #[]) w) : WE (bodyPost Tryd.prog fn (Ret Φ)) e n [] env w0 ex bs :=
  we_post he _ (fun _ _ _ _ => results_none hres _ _ _) hΦ
theorem we_ret1 {t : Nat} {v : Value} (he : e = .ret ∨ e = .normal) (hres : fn.results = #[.tmp t]) (ht : get env t = some v) (hΦ : ∀ w, Hp w0 ex w bs → Φ v w) : WE (bodyPost Tryd.prog fn (Ret Φ)) e n [] env w0 ex bs :=
  we_post he _ (fun a w hs hh => by rw [results_tmp hres, hs.getD ht]) hΦ
theorem we_ret2 {t u : Nat} {v x : Value} (he : e = .ret ∨ e = .normal) (hres : fn.results = #[.tmp t, .tmp u]) (ht : get env t = some v) (hu : get env u = some x) (hΦ : ∀ w, Hp w0 ex w bs → Φ (.tuple #[v, x]) w) : WE (bodyPost Tryd.prog fn (Ret Φ)) e n [] env w0 ex bs :=
  we_post he _ (fun a w hs hh => by rw [results_tmp2 hres, hs.getD ht, hs.getD hu]) hΦ
theorem we_ret3 {t u s : Nat} {v x y : Value} (he : e = .ret ∨ e = .normal) (hres : fn.results = #[.tmp t, .tmp u, .tmp s]) (ht : get env t = some v) (hu : get env u = some x) (hy : get env s = some y) (hΦ : ∀ w, Hp w0 ex w bs → Φ (.tuple #[v, x, y]) w) : WE (bodyPost Tryd.prog fn (Ret Φ)) e n [] env w0 ex bs :=
  we_post he _ (fun a w hs hh => by
    have h1 := hs.vals _ _ ht; have h2 := hs.vals _ _ hu; have h3 := hs.vals _ _ hy
    simp [results, hres, h1, h2, h3]) hΦ
end

end Go.Proofs.YtielloijdkoeiaaDoor
