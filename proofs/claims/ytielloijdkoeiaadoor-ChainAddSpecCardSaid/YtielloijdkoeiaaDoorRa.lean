/- From a row's own words to the walks' and back: what is laid, how an argument reads, how it reads behind the call. -/
import Derived.Test.YtielloijdkoeiaaDoorRows
import Derived.Test.YtielloijdkoeiaaDoorDa
import Derived.ProofKit
import Derived.LaidMore
import Derived.OpenShut
import Derived.Stop.Joined
import Derived.Deep.Strs
namespace Go.Proofs.YtielloijdkoeiaaDoor
open Go.ChangeShapes Go.WideShapes Go.ChangeAt Go.RowKit
set_option maxRecDepth 100000

theorem ownK : ownKnob Tryd.prog.godebug = none := by kernel_rfl
theorem laidOutK : laidOutB Tryd.prog = true := by kernel_rfl
theorem gStart : Tryd.prog.globalNamed "signatory/digest.start" = some 0 := by kernel_rfl
theorem gNums : Tryd.prog.globalNamed "signatory/digest.numbers" = some 1 := by kernel_rfl
theorem tStart : (Tryd.prog.globals[0]?).map (·.type) = some 111 := by kernel_rfl
theorem tNums : (Tryd.prog.globals[1]?).map (·.type) = some 119 := by kernel_rfl

/-- What the rows list as laid. -/
abbrev laidT : List (String × DataW Unit) := [("signatory/digest.start", Rows.laid_signatory_digest_start), ("signatory/digest.numbers", Rows.laid_signatory_digest_numbers)]

theorem startD : (Rows.laid_signatory_digest_start : DataW Unit) = .agg (startW.map fun x => .lit (.int .u32 (x.toNat : Int))) := by kernel_rfl
theorem numsD : (Rows.laid_signatory_digest_numbers : DataW Unit) = .agg (kW.map fun x => .lit (.int .u32 (x.toNat : Int))) := by kernel_rfl
theorem cells110 : Tryd.prog.cellsOf 110 = 1 := by kernel_rfl

/-- A table of words, out of its reading. -/
theorem words_of {n t : Nat} {l : List W32} {w : World} {fuel : Nat} {cs : List Value} {held : Bool} {base : Nat} {spare : Nat → Bool} {enc : TypeId × Value → Unit} {p : List MemPlace} (ht : Tryd.prog.underlying t = some (.array n 110)) (hl : l.length = n)
    (h : DataW.trod enc Tryd.prog w base spare held fuel t cs = some (.agg (l.map fun x => .lit (.int .u32 (x.toNat : Int))), p)) : ∀ (i : Nat) (x : W32), l[i]? = some x → cs[i]? = some (u32 x) := by
  intro i x hx
  have hi : i < n := by rw [← hl]; exact (List.getElem?_eq_some_iff.1 hx).1
  obtain ⟨xs, m, rfl, hx1, hlen, hn, hel⟩ := DataW.trod_array ht h
  simp only [Prod.mk.injEq, DataW.agg.injEq] at hx1
  have h1 := hel i hi
  rw [cells110, Nat.mul_one] at h1
  have hxi : xs[i]? = some xs[i] := by simp
  rw [hxi] at h1
  obtain ⟨k, e1, e2, _⟩ := DataW.trod_int (U_ok (t := 110) rfl) h1
  have e3 : ((l.map fun x => DataW.lit (.int .u32 (x.toNat : Int)))[i]?) = (xs.map (·.1))[i]? := by rw [hx1.1]
  rw [List.getElem?_map, hx, List.getElem?_map, hxi, e2] at e3
  simp only [Option.map_some, Option.some.injEq, DataW.lit.injEq, Lit.int.injEq, true_and] at e3
  have h2 : (cs.drop i)[0]? = some (.int .u32 k) := by
    cases hd : cs.drop i with
    | nil => simp [hd] at e1
    | cons c r => simp [hd] at e1; simp [e1]
  rw [List.getElem?_drop, Nat.add_zero] at h2
  rw [h2]
  simp [u32, e3]

theorem laid_of {W : World} (h : laidMetH Tryd.prog laidT W) : Laid W := by
  rw [MakeChecks.laidMetH_plain _ _ _ (by kernel_rfl)] at h
  obtain ⟨ps, ⟨g0, t0, cs0, f0, p0, q0, hg0, ht0, hv0, hd0, ⟨g1, t1, cs1, f1, p1, q1, hg1, ht1, hv1, hd1, _, _⟩, _⟩, _, _⟩ := h
  obtain rfl := Option.some.inj (gStart.symm.trans hg0)
  obtain rfl := Option.some.inj (gNums.symm.trans hg1)
  obtain rfl := Option.some.inj (tStart.symm.trans ht0)
  obtain rfl := Option.some.inj (tNums.symm.trans ht1)
  rw [startD] at hd0
  rw [numsD] at hd1
  refine ⟨fun i x hx => ?_, fun i x hx => ?_⟩
  · rw [World.var?_cell hg0 hv0 i]
    have := words_of (U_ok (t := 111) rfl) rfl hd0 i x hx
    simpa using this
  · rw [World.var?_cell hg1 hv1 i]
    have := words_of (U_ok (t := 119) rfl) rfl hd1 i x hx
    simpa using this

/-- The door's own heap meets the condition. -/
theorem door_met (os : Os) (args : Array Value) : laidMetH Tryd.prog laidT ((World.doorLaid Tryd.prog 19 os).forCall (fun _ _ => 0) ⟨#[], args, []⟩).memory :=
  laidMetH_of_parts3 (fuel := 8) (laidMet_of_run' 8 (by kernel_rfl) (by kernel_rfl)) (by kernel_rfl) (by kernel_rfl)

/-! ### Arguments read behind the call as before -/
theorem trodAll_stays {H : Type} {enc : TypeId × Value → H} {W W' : World} (hb : Below W.heap.size W W') (ts : List TypeId) : ∀ {vs : List Value} {ds : List (DataW H)} {p : List MemPlace}, (∀ t ∈ ts, Tryd.prog.readableRec t = true ∧ t < Tryd.prog.types.size) →
    DataW.TrodAll enc Tryd.prog W 0 (fun _ => true) true ts vs ds p → (∀ x ∈ p, x.block < W.heap.size) → DataW.TrodAll enc Tryd.prog W' 0 (fun b => decide (b < W.heap.size)) true ts vs ds p := by
  induction ts with
  | nil =>
    intro vs ds p _ h _
    obtain ⟨rfl, rfl, rfl⟩ := trodAll_nil h
    exact trodAll_mk0
  | cons t ts ih =>
    intro vs ds p hr h hlt
    obtain ⟨v, vs', d, ds', a, b, rfl, rfl, rfl, h1, h2⟩ := trodAll_cons h
    have h3 := hr t (List.mem_cons_self ..)
    exact trodAll_cons_mk (Below.trod laidOutK h3.1 h3.2 h1 hb (fun x hx => hlt x (List.mem_append_left _ hx))) (ih (fun u hu => hr u (List.mem_cons_of_mem _ hu)) h2 (fun x hx => hlt x (List.mem_append_right _ hx)))

theorem readable_all {ts : List TypeId} (h : (ts.all fun t => Tryd.prog.readableRec t && decide (t < Tryd.prog.types.size)) = true) : ∀ t ∈ ts, Tryd.prog.readableRec t = true ∧ t < Tryd.prog.types.size := by
  intro t ht
  have := List.all_eq_true.1 h t ht
  simp only [Bool.and_eq_true, decide_eq_true_eq] at this
  exact this

/-- The row's word 'true; the input reads as it did'. -/
theorem post_true {H : Type} {enc : TypeId × Value → H} {f : Func} {s : ChangeSpec} {W W' : World} {args : Array Value} {ds : List (DataW H)} {before : List MemPlace} (hW : DataW.Whole enc Tryd.prog f.params.toList s.vars false W args.toList ds [] before)
    (hvars : s.vars = []) (hres : f.resultTypes = #[4]) (hpar : (f.params.toList.all fun t => Tryd.prog.readableRec t && decide (t < Tryd.prog.types.size)) = true) (hfn : s.fn H ds = { results := [.lit (.bool true)], args := ds }) (hb : Below W.heap.size W W') :
    s.post enc Tryd.prog f false true false false W args (.bool true) W' := by
  have hlt := hW.lt
  obtain ⟨p, q, hA, hV, rfl, hz, hn⟩ := hW
  have hV' := hV
  rw [hvars] at hV'
  obtain ⟨_, rfl⟩ := trodVars_none hV'
  refine ⟨ds, [], p ++ [], [], p, [], ⟨p, [], hA, hV, rfl, hz, hn⟩, ?_, ?_, ?_, hb.frame _, fun h => by cases h⟩
  · rw [List.append_nil, hfn, hres]
    exact trodAll_mk1 (shut_bool (U_ok (t := 4) rfl) true)
  · rw [List.append_nil, hfn]
    exact trodAll_stays hb _ (readable_all hpar) hA (fun x hx => by simpa using hlt x (List.mem_append_left _ hx))
  · rw [List.append_nil, hfn, hvars]
    rfl

/-! ### Arguments opened -/
theorem wf64 {n : Int} (h : (Lit.int .i64 n).wf = true) : -9223372036854775808 ≤ n ∧ n ≤ 9223372036854775807 := by
  simp [Lit.wf, IntKind.min, IntKind.max, IntKind.signed, IntKind.bits] at h
  exact h

theorem open_i64 {H : Type} {enc : TypeId × Value → H} {W : World} {base : Nat} {v : Value} {d : DataW H} {ps : List MemPlace} (hval : Value.okWide Tryd.prog W .any base 3 v) (hd : DataW.Trod enc Tryd.prog W 0 (fun _ => true) true 3 v d ps) :
    ∃ n, v = .int .i64 n ∧ -9223372036854775808 ≤ n ∧ n ≤ 9223372036854775807 := by
  obtain ⟨n, rfl, rfl, rfl, hw⟩ := open_int (U_ok (t := 3) rfl) hval hd
  exact ⟨n, rfl, wf64 hw⟩

theorem cells3 : Tryd.prog.cellsOf 3 = 1 := by kernel_rfl
theorem cells23 : Tryd.prog.cellsOf 23 = 3 := by kernel_rfl

theorem open_silent {H : Type} {enc : TypeId × Value → H} {W : World} {base : Nat} {v : Value} {d : DataW H} {ps : List MemPlace} (hval : Value.okWide Tryd.prog W .any base 23 v) (hd : DataW.Trod enc Tryd.prog W 0 (fun _ => true) true 23 v d ps) :
    ∃ a b c, v = .agg #[.int .i64 a, .int .i64 b, .int .i64 c] ∧ (-9223372036854775808 ≤ a ∧ a ≤ 9223372036854775807) ∧ (-9223372036854775808 ≤ b ∧ b ≤ 9223372036854775807) ∧ (-9223372036854775808 ≤ c ∧ c ≤ 9223372036854775807) := by
  obtain ⟨cs, rfl, hsz⟩ := okWide_struct (U_ok (t := 23) rfl) hval
  obtain ⟨fuel, hf⟩ := hd
  obtain ⟨l⟩ := cs
  simp only [Value.cells] at hf
  obtain ⟨y0, y1, y2, n, hx, hl, h0, h1, h2⟩ := Go.Deep.trod_struct3 (U_ok (t := 23) rfl) hf
  rw [cells23] at hl
  match l, hl with
  | [x, y, z], _ =>
    have e0 : ([x, y, z].drop 0).take (Tryd.prog.cellsOf 3) = [x] := by rw [cells3]; rfl
    have e1 : ([x, y, z].drop 1).take (Tryd.prog.cellsOf 3) = [y] := by rw [cells3]; rfl
    have e2 : ([x, y, z].drop 2).take (Tryd.prog.cellsOf 3) = [z] := by rw [cells3]; rfl
    have g0 : DataW.trod enc Tryd.prog W 0 (fun _ => true) true n 3 [x] = some y0 := e0 ▸ h0
    have g1 : DataW.trod enc Tryd.prog W 0 (fun _ => true) true n 3 [y] = some y1 := e1 ▸ h1
    have g2 : DataW.trod enc Tryd.prog W 0 (fun _ => true) true n 3 [z] = some y2 := e2 ▸ h2
    obtain ⟨a, ea, _, wa⟩ := DataW.trod_int (U_ok (t := 3) rfl) g0
    obtain ⟨b, eb, _, wb⟩ := DataW.trod_int (U_ok (t := 3) rfl) g1
    obtain ⟨c, ec, _, wc⟩ := DataW.trod_int (U_ok (t := 3) rfl) g2
    simp at ea eb ec
    subst ea; subst eb; subst ec
    exact ⟨a, b, c, rfl, wf64 wa, wf64 wb, wf64 wc⟩

end Go.Proofs.YtielloijdkoeiaaDoor
