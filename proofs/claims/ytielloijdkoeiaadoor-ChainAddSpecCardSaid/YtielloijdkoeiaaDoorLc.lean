/- A loop rule over facts of the world; a call of yield; layer 8: the iterator chain.beginnings. -/
import Derived.RangeFuncNested
import Derived.Test.YtielloijdkoeiaaDoorLb
namespace Go.Proofs.YtielloijdkoeiaaDoor
open Go Go.RowKit Go.Lib
set_option maxRecDepth 100000

section
variable {r : Option Nat} {Q : Exit → Act → World → Prop} {n : Nat} {ds : List Deferred} {env : Env} {w0 : World} {ex : List Nat} {bs : Blks}

/-- A loop at whose head is known: the slots of an index, and facts of the world; each round is walked from its own world on. -/
def AgainW {ι : Type} (n : Nat) (ds : List Deferred) (E : ι → Env) (pre : ι → World → Prop) (μ : ι → Nat) (i : ι) : Act → World → Prop :=
  fun a w => ∃ j, pre j w ∧ μ j < μ i ∧ Sat a n ds (E j)

theorem wc_loop_w {ι : Type} {c : Code} (E : ι → Env) (pre : ι → World → Prop) (μ : ι → Nat) (i0 : ι) (h0 : ∀ w, Hp w0 ex w bs → pre i0 w) (hE : Env.le (E i0) env)
    (round : ∀ i w1, pre i w1 → WC r c (Exit.then (AgainW n ds E pre μ i) Q) n ds (E i) w1 [] []) : WC r (.loop c) Q n ds env w0 ex bs := by
  refine ⟨fun a w hs hh => ?_⟩
  refine loop_by_index (fun m a w => ∃ i, pre i w ∧ μ i = m ∧ Sat a n ds (E i)) (μ i0) ⟨i0, h0 w hh, rfl, hs.weaken hE⟩ ?_
  rintro m a w ⟨i, hi, rfl, hs⟩
  refine wpIn_mono ((round i w hi).go a w hs (Hp.start w)) ?_
  intro e a' w' hq
  cases e with
  | normal =>
    obtain ⟨j, hj, hlt, hsj⟩ := hq
    exact ⟨μ j, hlt, j, hj, rfl, hsj⟩
  | exit id => exact hq
  | goto l => exact hq
  | ret => exact hq
  | panic ch => exact hq
  | outgrown => exact hq

theorem we_againW {ι : Type} {E : ι → Env} {pre : ι → World → Prop} {μ : ι → Nat} {i : ι} (j : ι) (hj : ∀ w, Hp w0 ex w bs → pre j w) (hlt : μ j < μ i) (hE : Env.le (E j) env) :
    WE (Exit.then (AgainW n ds E pre μ i) Q) .normal n ds env w0 ex bs := ⟨fun _ w hs hh => ⟨j, hj w hh, hlt, hs.weaken hE⟩⟩

/-- From here on the walk starts from the world that it has come to. -/
theorem wc_rebase {c : Code} (h : ∀ w1, Hp w0 ex w1 bs → WC r c Q n ds env w1 [] []) : WC r c Q n ds env w0 ex bs := ⟨fun a w hs hh => (h w hh).go a w hs (Hp.start w)⟩
theorem we_rebase {e : Exit} (h : ∀ w1, Hp w0 ex w1 bs → WE Q e n ds env w1 [] []) : WE Q e n ds env w0 ex bs := ⟨fun a w hs hh => (h w hh).go a w hs (Hp.start w)⟩
end

section
variable {env : Env} {w0 : World} {ex : List Nat} {bs : Blks} {d : Option Nat} {ty : TypeId} {pos : String} {af : Array Edge} {g : Option (Nat × Bool)}
/-- A call of yield. -/
theorem od_yield {x : Operand} {l : Nat} {args : Array Operand} {ats : Array TypeId} {vs : List Value} {Φ : World → Value → World → Prop} (hx : ev env x = some (.func (.yield l) #[] #[])) (hargs : evL env args.toList = some vs)
    (h : ∀ w, Hp w0 ex w bs → ∃ fn tmps asg bd, (Instr.yield l vs.toArray).run Tryd.prog w = .ok (.round l fn tmps asg bd) w ∧ RoundIn Fence.wide 0 Tryd.prog l fn tmps asg bd w (Ret (Φ w))) :
    OD env w0 ex bs ⟨d, .call { callee := .value x, args := args, argTypes := ats }, ty, pos, af, g⟩ Φ := by
  refine ⟨fun ρ w hρ hw => ?_⟩
  obtain ⟨fn, tmps, asg, bd, h1, h2⟩ := h w hw
  refine does_round (l := l) (f := fn) (tmps := tmps) (asg := asg) (bd := bd) (w' := w) ?_ h2
  simp [execOp, resolve, hρ _ _ hx, Deferred.ofValue, invoke, evL_arr hρ hargs, h1]
end

section
variable {n : Nat} {ds : List Deferred} {env : Env} {w0 : World} {ex : List Nat} {bs : Blks} {ops : Array Oper} {C : Blks}
/-- A region's last two operations: one that does whatever it does (a call of yield), and '!' of what it has handed back. -/
theorem wp_last2 {Q : Exit → Act → World → Prop} {i k d d2 t t2 : Nat} {op : Op} {ty ty2 : TypeId} {pos pos2 : String} {af af2 : Array Edge} {g : Option (Nat × Bool)} {Φ : World → Value → World → Prop}
    (hi : ops[i]? = some ⟨some d, op, ty, pos, af, g⟩) (hk : ops[k]? = some ⟨some d2, .unOp .not t (.tmp t2), ty2, pos2, af2, none⟩) (hg : wantE ops env g = some true) (hdn : Nat.blt d n = true) (hdn2 : Nat.blt d2 n = true) (hd2 : Nat.beq d t2 = true)
    (h : OD env w0 ex bs ⟨some d, op, ty, pos, af, g⟩ Φ)
    (next : ∀ w v w' w'', Hp w0 ex w bs → Φ w v w' → Ext w' w'' → ∃ b, v = .bool b ∧ WE Q .normal n ds ((d2, .bool (!b)) :: (d, .bool b) :: env) w'' [] []) :
    WP ops C (some i) (Q .normal) [(i, false), (k, false)] n ds env w0 ex bs := by
  refine ⟨fun listed fuel hp hs hf => ?_⟩
  simp only [okPlan, Bool.and_eq_true, beq_iff_eq, List.isEmpty_iff] at hp
  obtain ⟨r1, r2, r3⟩ := hp
  obtain ⟨f, rfl⟩ : ∃ f, fuel = f + 2 := ⟨fuel - 2, by simp at hf; omega⟩
  have hin : i < listed.size := by
    have hm : i ∈ Region.ready .any ops listed := by rw [r1]; simp
    have := (mem_ready.1 hm).1
    rcases Nat.lt_or_ge i listed.size with h' | h'
    · exact h'
    · simp [Array.getElem?_eq_none h'] at this
  refine wm_last2 i k rfl hi hk rfl (by simpa using hin) r1 r2 r3 hg h fun a w v w' hs' hh hv => ?_
  obtain ⟨b, rfl, -⟩ := next w v w' w' hh hv (Ext.refl w')
  have hsb : Sat (a.put (some d) (.bool b)) n ds ((d, .bool b) :: env) := hs'.put (by simpa using hdn) _
  refine ⟨.bool (!b), fun w1 => ?_, fun w'' k'' => ?_⟩
  · refine (od_pure (env := (d, .bool b) :: env) (w0 := w1) (ex := []) (bs := []) (op := .unOp .not t (.tmp t2)) (v := .bool (!b)) ?_).law _ w1 hsb.agree (Hp.start w1)
    simp [pureOp, ev, get, hd2]
  · obtain ⟨b', e, hW⟩ := next w (.bool b) w' w'' hh hv k''
    cases e
    exact hW.go _ w'' (hsb.put (by simpa using hdn2) _) (Hp.start w'')
end

/-- The iterator over the beginnings of a list: round k is handed link k and the head of what lies ahead of it. -/
theorem beg_calls (lp bl : Nat) (a : Option Addr) (c : Nat) (xs : List Lnk) (hl : xs.length ≤ 2 ^ 20) (hd : ∀ x ∈ xs, x.data.length ≤ 2 ^ 20) (I : Nat → World → Prop) (Jx : World → Prop) (w : World)
    (hI : ∀ k w w', I k w → Ext w w' → I k w') (hJ : ∀ w w', Jx w → Ext w w' → Jx w')
    (hR : ∀ k w, I k w → w.cell? ⟨bl, 0, none⟩ = some (.slice a xs.length c) ∧ LkA w a c xs ∧ Laid w)
    (hY : ∀ k x w, xs[k]? = some x → I k w → ∃ fn tmps asg bd, (Instr.yield lp #[x.v, digV (headP (xs.take k))]).run Tryd.prog w = .ok (.round lp fn tmps asg bd) w ∧
      RoundIn Fence.wide 0 Tryd.prog lp fn tmps asg bd w (Ret fun v w' => (v = .bool true ∧ I (k + 1) w') ∨ (v = .bool false ∧ Jx w')))
    (h0 : I 0 w) : Fn 67 [.func (.yield lp) #[] #[], .pointer (some ⟨bl, 0, none⟩)] w (fun _ w' => I xs.length w' ∨ Jx w') := by
  refine fn_of (args := [.func (.yield lp) #[] #[], .pointer (some ⟨bl, 0, none⟩)]) Tryd.func67 rfl Tryd.ntmps67 rfl (Hp.start w) ?_
  have r0 := (hR 0 w h0).1
  generalize hm : xs.length = m at *
  repeat (first
    | (apply ws; exact rfl; exact rfl; exact rfl)
    | (apply wlo; exact rfl; exact rfl; exact r0; exact List.not_mem_nil; exact rfl; exact rfl)
    | refine wc_seq ?_
    | refine wc_region ?_
    | refine wl_nil ?_
    | refine we_round ?_
    | refine we_then_wc ?_
    | (apply wi64; exact rfl; omega; omega; exact rfl; exact rfl)
    | (apply wfa; exact rfl; exact rfl; exact rfl; exact rfl)
    | (apply wct; exact rfl; omega; exact rfl; exact rfl)
    | (apply wcf; exact rfl; omega; exact rfl; exact rfl)
    | (apply wn; exact rfl; exact rfl)
    | (apply wlb (j := 0); exact rfl; exact rfl; exact rfl; exact rfl; exact rfl; exact rfl)
    | (apply wlb (j := 1); exact rfl; exact rfl; exact rfl; exact rfl; exact rfl; exact rfl)
    | (apply wlb (j := 2); exact rfl; exact rfl; exact rfl; exact rfl; exact rfl; exact rfl)
    | (apply wlb (j := 3); exact rfl; exact rfl; exact rfl; exact rfl; exact rfl; exact rfl)
    | (apply wln; exact rfl; exact rfl; exact rfl; exact rfl)
    | (apply wpu; exact rfl; exact rfl; exact rfl)
    | (apply wbx; exact rfl; exact rfl; exact rfl; intro _)
    | refine wc_block ?_
    | (apply wc_true; exact rfl)
    | (apply wc_false; exact rfl)
    | refine wc_skip ?_
    | refine wc_exit ?_
    | refine wc_ret ?_
    | refine we_then_exit ?_
    | refine we_then_ret ?_
    | refine we_in_normal ?_
    | refine we_in_ret ?_
    | refine we_in_here ?_
    | (apply we_in_there; exact rfl))
  refine wc_loop_w (ι := Nat) (fun k => [(5, .slice a m c), (6, .int .i64 (m : Int)), (7, .int .i64 (k : Int)), (1, .pointer (some ⟨bl, 0, none⟩)), (0, .func (.yield lp) #[] #[])]) (fun k w => k ≤ m ∧ I k w) (fun k => m - k) 0
    (fun w' h => ⟨Nat.zero_le _, hI 0 _ _ h0 h.ext_all⟩) ⟨rfl, rfl, rfl, rfl, rfl, trivial⟩ ?_
  rintro k w1 ⟨hk, hi⟩
  obtain ⟨q1, q2, q3⟩ := hR k w1 hi
  by_cases hkm : k = m
  · subst hkm
    repeat (first
      | (apply ws; exact rfl; exact rfl; exact rfl)
      | refine wc_seq ?_
      | refine wc_region ?_
      | refine wl_nil ?_
      | refine we_round ?_
      | refine we_then_wc ?_
      | (apply wi64; exact rfl; omega; omega; exact rfl; exact rfl)
      | (apply wfa; exact rfl; exact rfl; exact rfl; exact rfl)
      | (apply wct; exact rfl; omega; exact rfl; exact rfl)
      | (apply wcf; exact rfl; omega; exact rfl; exact rfl)
      | (apply wn; exact rfl; exact rfl)
      | (apply wlb (j := 0); exact rfl; exact rfl; exact rfl; exact rfl; exact rfl; exact rfl)
      | (apply wlb (j := 1); exact rfl; exact rfl; exact rfl; exact rfl; exact rfl; exact rfl)
      | (apply wlb (j := 2); exact rfl; exact rfl; exact rfl; exact rfl; exact rfl; exact rfl)
      | (apply wlb (j := 3); exact rfl; exact rfl; exact rfl; exact rfl; exact rfl; exact rfl)
      | (apply wln; exact rfl; exact rfl; exact rfl; exact rfl)
      | (apply wpu; exact rfl; exact rfl; exact rfl)
      | (apply wbx; exact rfl; exact rfl; exact rfl; intro _)
      | refine wc_block ?_
      | (apply wc_true; exact rfl)
      | (apply wc_false; exact rfl)
      | refine wc_skip ?_
      | refine wc_exit ?_
      | refine wc_ret ?_
      | refine we_then_exit ?_
      | refine we_then_ret ?_
      | refine we_in_normal ?_
      | refine we_in_ret ?_
      | refine we_in_here ?_
      | (apply we_in_there; exact rfl))
    exact we_ret0 (Or.inr rfl) rfl fun w' h => Or.inl (hI _ _ _ hi h.ext_all)
  · have hlt : k < m := by omega
    have hx : xs[k]? = some xs[k] := List.getElem?_eq_getElem (by omega)
    generalize xs[k] = x at hx
    obtain ⟨b, o, rfl, hok, hc⟩ := q2.at hx
    have hxsz : x.cells.toArray.size = 35 := by simp [hok.len]
    have hcc : m ≤ c := by have := q2.1; omega
    have htl : (xs.take k).length = k := by simp; omega
    have hhd : ∀ w', Ext w1 w' → Fn 30 [.slice (some ⟨b, o, none⟩) k c] w' (Quiet (digV (headP (xs.take k))) w') := fun w' e => by
      have := chain_Head (some ⟨b, o, none⟩) c (xs.take k) (by omega) (fun y hy => hd y (List.mem_of_mem_take hy)) w' (q3.ext e) ((q2.ext e).take k)
      rwa [htl] at this
    repeat (first
      | (apply ws; exact rfl; exact rfl; exact rfl)
      | refine wl_still rfl rfl rfl (od_indexAddr k rfl rfl rfl rfl rfl hlt) ?_
      | refine wl_still rfl rfl rfl (od_loadLk rfl hok hc (by simp)) ?_
      | (apply wal Tryd.zeroValue55 rfl; exact rfl; exact rfl; intro bx)
      | (apply wsw (j := 0); exact rfl; exact rfl; exact rfl; exact rfl; exact hxsz; exact plainLnkA x; exact rfl; exact rfl)
      | refine wc_seq ?_
      | refine wc_region ?_
      | refine wl_nil ?_
      | refine we_round ?_
      | refine we_then_wc ?_
      | (apply wi64; exact rfl; omega; omega; exact rfl; exact rfl)
      | (apply wfa; exact rfl; exact rfl; exact rfl; exact rfl)
      | (apply wct; exact rfl; omega; exact rfl; exact rfl)
      | (apply wcf; exact rfl; omega; exact rfl; exact rfl)
      | (apply wn; exact rfl; exact rfl)
      | (apply wlb (j := 0); exact rfl; exact rfl; exact rfl; exact rfl; exact rfl; exact rfl)
      | (apply wlb (j := 1); exact rfl; exact rfl; exact rfl; exact rfl; exact rfl; exact rfl)
      | (apply wlb (j := 2); exact rfl; exact rfl; exact rfl; exact rfl; exact rfl; exact rfl)
      | (apply wlb (j := 3); exact rfl; exact rfl; exact rfl; exact rfl; exact rfl; exact rfl)
      | (apply wln; exact rfl; exact rfl; exact rfl; exact rfl)
      | (apply wpu; exact rfl; exact rfl; exact rfl)
      | (apply wbx; exact rfl; exact rfl; exact rfl; intro _)
      | refine wc_block ?_
      | (apply wc_true; exact rfl)
      | (apply wc_false; exact rfl)
      | refine wc_skip ?_
      | refine wc_exit ?_
      | refine wc_ret ?_
      | refine we_then_exit ?_
      | refine we_then_ret ?_
      | refine we_in_normal ?_
      | refine we_in_ret ?_
      | refine we_in_here ?_
      | (apply we_in_there; exact rfl))
    refine wc_plan _ (some 6) [(0, true), (1, true), (2, true), (3, true), (4, true), (5, true), (6, false), (7, false)] (by kernel_rfl) (List.Sublist.refl _) ?_
    repeat (first
      | (apply ps; exact rfl; exact rfl; exact rfl; exact rfl)
      | (apply wp_still; exact rfl; exact rfl; exact rfl; exact (od_loadAB 0 rfl rfl rfl rfl hok.len))
      | (apply plo; exact rfl; exact rfl; exact rfl; exact q1; exact List.not_mem_nil; exact rfl; exact rfl)
      | (apply wp_still; exact rfl; exact rfl; exact rfl; exact (od_sliceTo k rfl rfl rfl ⟨_, _, rfl, rfl⟩ (by omega)))
      | (apply pq Tryd.call30; exact rfl; exact rfl; exact rfl; exact rfl; exact (fun w' h' => hhd w' h'.ext_all))
      | (apply pfa; exact rfl; exact rfl; exact rfl; exact rfl; exact rfl)
      | (apply pi64; exact rfl; exact rfl; omega; omega; exact rfl; exact rfl)
      | (apply pct; exact rfl; exact rfl; omega; exact rfl; exact rfl)
      | (apply pcf; exact rfl; exact rfl; omega; exact rfl; exact rfl)
      | (apply wp_not; exact rfl; exact rfl; exact rfl)
      | (apply plb (j := 0); exact rfl; exact rfl; exact rfl; exact rfl; exact rfl; exact rfl; exact rfl)
      | (apply plb (j := 1); exact rfl; exact rfl; exact rfl; exact rfl; exact rfl; exact rfl; exact rfl)
      | (apply plb (j := 2); exact rfl; exact rfl; exact rfl; exact rfl; exact rfl; exact rfl; exact rfl)
      | (apply pln; exact rfl; exact rfl; exact rfl; exact rfl; exact rfl)
      | (apply ppu; exact rfl; exact rfl; exact rfl; exact rfl)
      | (apply pfs; exact rfl; exact rfl; exact rfl; exact rfl)
      | apply wp_nil)
    refine wp_last2 (Φ := fun _ v w' => (v = .bool true ∧ I (k + 1) w') ∨ (v = .bool false ∧ Jx w')) rfl rfl rfl rfl rfl rfl (od_yield rfl rfl (fun w' h' => hY k x w' hx (hI _ _ _ hi h'.ext_all))) ?_
    rintro w2 v w3 w4 h2 (⟨rfl, hi3⟩ | ⟨rfl, hj3⟩) e34
    · refine ⟨true, rfl, ?_⟩
      repeat (first
        | (apply ws; exact rfl; exact rfl; exact rfl)
        | refine wc_seq ?_
        | refine wc_region ?_
        | refine wl_nil ?_
        | refine we_round ?_
        | refine we_then_wc ?_
        | (apply wi64; exact rfl; omega; omega; exact rfl; exact rfl)
        | (apply wfa; exact rfl; exact rfl; exact rfl; exact rfl)
        | (apply wct; exact rfl; omega; exact rfl; exact rfl)
        | (apply wcf; exact rfl; omega; exact rfl; exact rfl)
        | (apply wn; exact rfl; exact rfl)
        | (apply wlb (j := 0); exact rfl; exact rfl; exact rfl; exact rfl; exact rfl; exact rfl)
        | (apply wlb (j := 1); exact rfl; exact rfl; exact rfl; exact rfl; exact rfl; exact rfl)
        | (apply wlb (j := 2); exact rfl; exact rfl; exact rfl; exact rfl; exact rfl; exact rfl)
        | (apply wlb (j := 3); exact rfl; exact rfl; exact rfl; exact rfl; exact rfl; exact rfl)
        | (apply wln; exact rfl; exact rfl; exact rfl; exact rfl)
        | (apply wpu; exact rfl; exact rfl; exact rfl)
        | (apply wbx; exact rfl; exact rfl; exact rfl; intro _)
        | refine wc_block ?_
        | (apply wc_true; exact rfl)
        | (apply wc_false; exact rfl)
        | refine wc_skip ?_
        | refine wc_exit ?_
        | refine wc_ret ?_
        | refine we_then_exit ?_
        | refine we_then_ret ?_
        | refine we_in_normal ?_
        | refine we_in_ret ?_
        | refine we_in_here ?_
        | (apply we_in_there; exact rfl))
      exact we_againW (k + 1) (fun w' h' => ⟨by omega, hI _ _ _ (hI _ _ _ hi3 e34) h'.ext_all⟩) (by omega) ⟨rfl, rfl, rfl, rfl, rfl, trivial⟩
    · refine ⟨false, rfl, ?_⟩
      repeat (first
        | (apply ws; exact rfl; exact rfl; exact rfl)
        | refine wc_seq ?_
        | refine wc_region ?_
        | refine wl_nil ?_
        | refine we_round ?_
        | refine we_then_wc ?_
        | (apply wi64; exact rfl; omega; omega; exact rfl; exact rfl)
        | (apply wfa; exact rfl; exact rfl; exact rfl; exact rfl)
        | (apply wct; exact rfl; omega; exact rfl; exact rfl)
        | (apply wcf; exact rfl; omega; exact rfl; exact rfl)
        | (apply wn; exact rfl; exact rfl)
        | (apply wlb (j := 0); exact rfl; exact rfl; exact rfl; exact rfl; exact rfl; exact rfl)
        | (apply wlb (j := 1); exact rfl; exact rfl; exact rfl; exact rfl; exact rfl; exact rfl)
        | (apply wlb (j := 2); exact rfl; exact rfl; exact rfl; exact rfl; exact rfl; exact rfl)
        | (apply wlb (j := 3); exact rfl; exact rfl; exact rfl; exact rfl; exact rfl; exact rfl)
        | (apply wln; exact rfl; exact rfl; exact rfl; exact rfl)
        | (apply wpu; exact rfl; exact rfl; exact rfl)
        | (apply wbx; exact rfl; exact rfl; exact rfl; intro _)
        | refine wc_block ?_
        | (apply wc_true; exact rfl)
        | (apply wc_false; exact rfl)
        | refine wc_skip ?_
        | refine wc_exit ?_
        | refine wc_ret ?_
        | refine we_then_exit ?_
        | refine we_then_ret ?_
        | refine we_in_normal ?_
        | refine we_in_ret ?_
        | refine we_in_here ?_
        | (apply we_in_there; exact rfl))
      exact we_ret0 (Or.inl rfl) rfl fun w' h' => Or.inr (hJ _ _ (hJ _ _ hj3 e34) h'.ext_all)
end Go.Proofs.YtielloijdkoeiaaDoor
