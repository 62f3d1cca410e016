/- Layer 47: on, Tag, Read, Either. -/
import Derived.Test.YtielloijdkoeiaaDoorGb
namespace Go.Proofs.YtielloijdkoeiaaDoor
open Go Go.RowKit Go.Lib
set_option maxRecDepth 100000

section
variable {env : Env} {w0 : World} {ex : List Nat} {bs : Blks} {d : Option Nat} {ty : TypeId} {pos : String} {af : Array Edge} {g : Option (Nat × Bool)}
/-- A method is called through an interface value. -/
theorem od_invoke {x : Operand} {name : String} {args : Array Operand} {ats : Array TypeId} {t : TypeId} {v : Value} {vs : List Value} {f : FuncId} {Φ : World → Value → World → Prop} (hx : ev env x = some (.iface t v)) (hargs : evL env args.toList = some vs)
    (hm : ∀ w, (callMethod (.iface t v) name vs.toArray).run Tryd.prog w = .ok (.enter f (v :: vs).toArray) w) (h : ∀ w, Hp w0 ex w bs → Fn f (v :: vs) w (Φ w)) :
    OD env w0 ex bs ⟨d, .call { callee := .invoke x name, args := args, argTypes := ats }, ty, pos, af, g⟩ Φ := by
  refine ⟨fun ρ w hρ hw => does_enter (f := f) (args := (v :: vs).toArray) (w' := w) ?_ (h w hw).run⟩
  have e1 : (#[Value.iface t v] ++ vs.toArray).extract 1 (#[Value.iface t v] ++ vs.toArray).size = vs.toArray := by
    apply Array.ext'
    simp
  have e2 : (#[Value.iface t v] ++ vs.toArray)[0]? = some (.iface t v) := by simp
  have e3 := hm w
  simp only [execOp, resolve, Sem.run_bind, Sem.run_pure, Result.andThen_ok, hρ _ _ hx, evL_arr hρ hargs, invoke, e2, e1, e3]
end

theorem meth_tag (v x : Value) (w : World) : (callMethod (.iface 92 v) "signatory/duress.tag" [x].toArray).run Tryd.prog w = .ok (.enter 115 [v, x].toArray) w := by kernel_rfl
theorem meth_read (v x : Value) (w : World) : (callMethod (.iface 92 v) "signatory/duress.read" [x].toArray).run Tryd.prog w = .ok (.enter 114 [v, x].toArray) w := by kernel_rfl

/-- The hash of an occasion. -/
def occH (doc no : Int) : Int := hashP [116, 97, 103] (encL [.I doc, .I no])

def onV (a b c doc no : Int) : Value :=
  if rightP a b c then (if occP doc no then .tuple #[.iface 92 (occV a b c (occH doc no)), .int .i64 0] else .tuple #[.nilIface, .int .i64 1]) else .tuple #[.nilIface, .int .i64 470]

theorem duress_right_t {a b c : Int} (h : rightP a b c) (w : World) : Fn 61 [silV a b c] w (Quiet (.bool true) w) := by have := duress_right a b c w; simpa [h] using this
theorem duress_right_f {a b c : Int} (h : ¬ rightP a b c) (w : World) : Fn 61 [silV a b c] w (Quiet (.bool false) w) := by have := duress_right a b c w; simpa [h] using this
theorem duress_possible_t {a b : Int} (h : occP a b) (w : World) : Fn 40 [.int .i64 a, .int .i64 b] w (Quiet (.bool true) w) := by have := duress_possible a b w; simpa [h] using this
theorem duress_possible_f {a b : Int} (h : ¬ occP a b) (w : World) : Fn 40 [.int .i64 a, .int .i64 b] w (Quiet (.bool false) w) := by have := duress_possible a b w; simpa [h] using this

theorem leaf2 {x y : Lf} {w : World} {b : Nat} (h : ∀ i v, (x.cells ++ y.cells)[i]? = some v → w.cell? ⟨b, i, none⟩ = some v) : LeafAt w b 0 [x, y] := by
  intro k z hz i v hv
  have hi : i < 4 := by have := (List.getElem?_eq_some_iff.1 hv).1; rwa [z.cells_length] at this
  match k, hz with
  | 0, hz =>
    simp at hz; subst hz
    have := h i v (by rw [List.getElem?_append_left (by rw [x.cells_length]; exact hi)]; exact hv)
    simpa using this
  | 1, hz =>
    simp at hz; subst hz
    have := h (4 + i) v (by rw [List.getElem?_append_right (by rw [x.cells_length]; omega), x.cells_length]; simpa using hv)
    simpa using this
  | k + 2, hz => simp at hz

theorem occ_on (a b c doc no : Int) (w : World) (hL : Laid w) : Fn 38 [silV a b c, .int .i64 doc, .int .i64 no] w (Quiet (onV a b c doc no) w) := by
  refine fn_of (args := [.agg #[.int .i64 a, .int .i64 b, .int .i64 c], .int .i64 doc, .int .i64 no]) Tryd.func38 rfl Tryd.ntmps38 rfl (Hp.start w) ?_
  unfold onV
  by_cases hr : rightP a b c
  · rw [if_pos hr]
    by_cases ho : occP doc no
    · rw [if_pos ho]
      have hd : in64 doc := by unfold in64; unfold occP at ho; omega
      have hn : in64 no := by unfold in64; unfold occP at ho; omega
      have hel : (encL [.I doc, .I no]).length ≤ 2 ^ 38 := by
        have := encH_length [.I doc, .I no] 2 (by simp [Lf.ok, hd, hn]) (by simp)
        simpa [encH, encL] using this
      repeat (first
        | (apply ws; exact rfl; exact rfl; exact rfl)
        | (apply wlab (j := 0); exact rfl; exact rfl; exact rfl; exact rfl; exact rfl; exact rfl; exact rfl)
        | (apply wq Tryd.call61; exact rfl; exact rfl; exact rfl; exact (fun w _ => duress_right_t hr w))
        | (apply wq Tryd.call40; exact rfl; exact rfl; exact rfl; exact (fun w _ => duress_possible_t ho w))
        | refine wl_still rfl rfl rfl (od_struct [.int .i64 0, .int .i64 0, strV [], .slice none 0 0] (Lf.I doc).cells rfl rfl zero75 rfl rfl) ?_
        | refine wl_still rfl rfl rfl (od_struct [.int .i64 0, .int .i64 0, strV [], .slice none 0 0] (Lf.I no).cells rfl rfl zero75 rfl rfl) ?_
        | refine wc_seq ?_
        | refine wc_region ?_
        | refine wl_nil ?_
        | refine we_round ?_
        | refine we_then_wc ?_
        | (apply wi64; exact rfl; omega; omega; exact rfl; exact rfl)
        | (apply wfa; exact rfl; exact rfl; exact rfl; exact rfl)
        | (apply wct; exact rfl; omega; exact rfl; exact rfl)
        | (apply wcf; exact rfl; omega; exact rfl; exact rfl)
        | (apply wn; exact rfl; exact rfl)
        | (apply wlb (j := 0); exact rfl; exact rfl; exact rfl; exact rfl; exact rfl; exact rfl)
        | (apply wlb (j := 1); exact rfl; exact rfl; exact rfl; exact rfl; exact rfl; exact rfl)
        | (apply wlb (j := 2); exact rfl; exact rfl; exact rfl; exact rfl; exact rfl; exact rfl)
        | (apply wlb (j := 3); exact rfl; exact rfl; exact rfl; exact rfl; exact rfl; exact rfl)
        | (apply wln; exact rfl; exact rfl; exact rfl; exact rfl)
        | (apply wpu; exact rfl; exact rfl; exact rfl)
        | (apply wbx; exact rfl; exact rfl; exact rfl; intro _)
        | refine wc_block ?_
        | (apply wc_true; exact rfl)
        | (apply wc_false; exact rfl)
        | refine wc_skip ?_
        | refine wc_exit ?_
        | refine wc_ret ?_
        | refine we_then_exit ?_
        | refine we_then_ret ?_
        | refine we_in_normal ?_
        | refine we_in_ret ?_
        | refine we_in_here ?_
        | (apply we_in_there; exact rfl))
      rename_i bx
      refine wl_makes rfl rfl rfl (od_buildSlice (cs := (Lf.I doc).cells ++ (Lf.I no).cells) rfl rfl ⟨_, zero75⟩ rfl rfl rfl (by simp [Value.cells, Lf.cells]) (by omega) rfl) ?_
      rintro _ bl -
      refine wl_still rfl rfl rfl (od_struct [.int .i64 0, .int .i64 0, strV [], .slice none 0 0] [.int .i64 3, .int .i64 0, strV [], .slice (some ⟨bl, 0, none⟩) 2 2] rfl rfl zero75 rfl rfl) ?_
      refine wmk Tryd.call42 rfl rfl rfl (fun w' h => encode_calls bl 0 2 [.I doc, .I no] (by simp [Lf.ok, hd, hn]) (by simp) (by simp) w' (leaf2 (fun i v hi => h.cell_blk (j := 0) rfl hi))) ?_
      rintro ⟨c2, sp2⟩ b2 ⟨h1, h2⟩
      simp only at h1 h2
      dsimp only
      repeat (first
        | (apply ws; exact rfl; exact rfl; exact rfl)
        | refine wc_seq ?_
        | refine wc_region ?_
        | refine wl_nil ?_
        | refine we_round ?_
        | refine we_then_wc ?_
        | (apply wi64; exact rfl; omega; omega; exact rfl; exact rfl)
        | (apply wfa; exact rfl; exact rfl; exact rfl; exact rfl)
        | (apply wct; exact rfl; omega; exact rfl; exact rfl)
        | (apply wcf; exact rfl; omega; exact rfl; exact rfl)
        | (apply wn; exact rfl; exact rfl)
        | (apply wlb (j := 0); exact rfl; exact rfl; exact rfl; exact rfl; exact rfl; exact rfl)
        | (apply wlb (j := 1); exact rfl; exact rfl; exact rfl; exact rfl; exact rfl; exact rfl)
        | (apply wlb (j := 2); exact rfl; exact rfl; exact rfl; exact rfl; exact rfl; exact rfl)
        | (apply wlb (j := 3); exact rfl; exact rfl; exact rfl; exact rfl; exact rfl; exact rfl)
        | (apply wln; exact rfl; exact rfl; exact rfl; exact rfl)
        | (apply wpu; exact rfl; exact rfl; exact rfl)
        | (apply wbx; exact rfl; exact rfl; exact rfl; intro _)
        | refine wc_block ?_
        | (apply wc_true; exact rfl)
        | (apply wc_false; exact rfl)
        | refine wc_skip ?_
        | refine wc_exit ?_
        | refine wc_ret ?_
        | refine we_then_exit ?_
        | refine we_then_ret ?_
        | refine we_in_normal ?_
        | refine we_in_ret ?_
        | refine we_in_here ?_
        | (apply we_in_there; exact rfl))
      refine wc_plan [(b2, (encL [.I doc, .I no]).map v8 ++ sp2, 5), (bx, [.int .i64 a, .int .i64 b, .int .i64 c], 23)] none [(0, true), (1, true), (2, true), (3, true), (4, true), (5, true), (6, true)] (by kernel_rfl) (List.Sublist.cons_cons _ (List.Sublist.cons _ (List.Sublist.refl _))) ?_
      repeat (first
        | (apply ps; exact rfl; exact rfl; exact rfl; exact rfl)
        | (apply wp_still; exact rfl; exact rfl; exact rfl; exact (od_loadAB 1 rfl rfl rfl rfl rfl))
        | (apply pfa; exact rfl; exact rfl; exact rfl; exact rfl; exact rfl)
        | (apply pi64; exact rfl; exact rfl; omega; omega; exact rfl; exact rfl)
        | (apply pct; exact rfl; exact rfl; omega; exact rfl; exact rfl)
        | (apply pcf; exact rfl; exact rfl; omega; exact rfl; exact rfl)
        | (apply wp_not; exact rfl; exact rfl; exact rfl)
        | (apply plb (j := 0); exact rfl; exact rfl; exact rfl; exact rfl; exact rfl; exact rfl; exact rfl)
        | (apply plb (j := 1); exact rfl; exact rfl; exact rfl; exact rfl; exact rfl; exact rfl; exact rfl)
        | (apply plb (j := 2); exact rfl; exact rfl; exact rfl; exact rfl; exact rfl; exact rfl; exact rfl)
        | (apply pln; exact rfl; exact rfl; exact rfl; exact rfl; exact rfl)
        | (apply ppu; exact rfl; exact rfl; exact rfl; exact rfl)
        | (apply pfs; exact rfl; exact rfl; exact rfl; exact rfl)
        | apply wp_nil)
      refine wp_quiet rfl rfl rfl (od_call Tryd.call43 rfl (fun w' h => hash_calls [116, 97, 103] _ (encL [.I doc, .I no]) (by simp) (by omega) w' (hL.ext h.ext_all) (Bs.rd (h.rd (j := 0) (o := 0) rfl h1 (cells_map 0 rfl))))) ?_
      repeat (first
        | (apply ps; exact rfl; exact rfl; exact rfl; exact rfl)
        | (apply wp_still; exact rfl; exact rfl; exact rfl; exact (od_struct [.int .i64 0, .int .i64 0, .int .i64 0, .int .i64 0] [.int .i64 a, .int .i64 b, .int .i64 c, .int .i64 (occH doc no)] rfl rfl Tryd.zeroValue92 rfl rfl))
        | (apply wp_still; exact rfl; exact rfl; exact rfl; exact (od_makeInterface rfl rfl (fun _ h => by cases h)))
        | (apply pfa; exact rfl; exact rfl; exact rfl; exact rfl; exact rfl)
        | (apply pi64; exact rfl; exact rfl; omega; omega; exact rfl; exact rfl)
        | (apply pct; exact rfl; exact rfl; omega; exact rfl; exact rfl)
        | (apply pcf; exact rfl; exact rfl; omega; exact rfl; exact rfl)
        | (apply wp_not; exact rfl; exact rfl; exact rfl)
        | (apply plb (j := 0); exact rfl; exact rfl; exact rfl; exact rfl; exact rfl; exact rfl; exact rfl)
        | (apply plb (j := 1); exact rfl; exact rfl; exact rfl; exact rfl; exact rfl; exact rfl; exact rfl)
        | (apply plb (j := 2); exact rfl; exact rfl; exact rfl; exact rfl; exact rfl; exact rfl; exact rfl)
        | (apply pln; exact rfl; exact rfl; exact rfl; exact rfl; exact rfl)
        | (apply ppu; exact rfl; exact rfl; exact rfl; exact rfl)
        | (apply pfs; exact rfl; exact rfl; exact rfl; exact rfl)
        | apply wp_nil)
      repeat (first
        | (apply ws; exact rfl; exact rfl; exact rfl)
        | refine wc_seq ?_
        | refine wc_region ?_
        | refine wl_nil ?_
        | refine we_round ?_
        | refine we_then_wc ?_
        | (apply wi64; exact rfl; omega; omega; exact rfl; exact rfl)
        | (apply wfa; exact rfl; exact rfl; exact rfl; exact rfl)
        | (apply wct; exact rfl; omega; exact rfl; exact rfl)
        | (apply wcf; exact rfl; omega; exact rfl; exact rfl)
        | (apply wn; exact rfl; exact rfl)
        | (apply wlb (j := 0); exact rfl; exact rfl; exact rfl; exact rfl; exact rfl; exact rfl)
        | (apply wlb (j := 1); exact rfl; exact rfl; exact rfl; exact rfl; exact rfl; exact rfl)
        | (apply wlb (j := 2); exact rfl; exact rfl; exact rfl; exact rfl; exact rfl; exact rfl)
        | (apply wlb (j := 3); exact rfl; exact rfl; exact rfl; exact rfl; exact rfl; exact rfl)
        | (apply wln; exact rfl; exact rfl; exact rfl; exact rfl)
        | (apply wpu; exact rfl; exact rfl; exact rfl)
        | (apply wbx; exact rfl; exact rfl; exact rfl; intro _)
        | refine wc_block ?_
        | (apply wc_true; exact rfl)
        | (apply wc_false; exact rfl)
        | refine wc_skip ?_
        | refine wc_exit ?_
        | refine wc_ret ?_
        | refine we_then_exit ?_
        | refine we_then_ret ?_
        | refine we_in_normal ?_
        | refine we_in_ret ?_
        | refine we_in_here ?_
        | (apply we_in_there; exact rfl))
      exact we_ret2 (Or.inl rfl) rfl rfl rfl fun w' h => ⟨rfl, h.ext_all⟩
    · rw [if_neg ho]
      repeat (first
        | (apply ws; exact rfl; exact rfl; exact rfl)
        | (apply wlab (j := 0); exact rfl; exact rfl; exact rfl; exact rfl; exact rfl; exact rfl; exact rfl)
        | (apply wq Tryd.call61; exact rfl; exact rfl; exact rfl; exact (fun w _ => duress_right_t hr w))
        | (apply wq Tryd.call40; exact rfl; exact rfl; exact rfl; exact (fun w _ => duress_possible_f ho w))
        | refine wc_seq ?_
        | refine wc_region ?_
        | refine wl_nil ?_
        | refine we_round ?_
        | refine we_then_wc ?_
        | (apply wi64; exact rfl; omega; omega; exact rfl; exact rfl)
        | (apply wfa; exact rfl; exact rfl; exact rfl; exact rfl)
        | (apply wct; exact rfl; omega; exact rfl; exact rfl)
        | (apply wcf; exact rfl; omega; exact rfl; exact rfl)
        | (apply wn; exact rfl; exact rfl)
        | (apply wlb (j := 0); exact rfl; exact rfl; exact rfl; exact rfl; exact rfl; exact rfl)
        | (apply wlb (j := 1); exact rfl; exact rfl; exact rfl; exact rfl; exact rfl; exact rfl)
        | (apply wlb (j := 2); exact rfl; exact rfl; exact rfl; exact rfl; exact rfl; exact rfl)
        | (apply wlb (j := 3); exact rfl; exact rfl; exact rfl; exact rfl; exact rfl; exact rfl)
        | (apply wln; exact rfl; exact rfl; exact rfl; exact rfl)
        | (apply wpu; exact rfl; exact rfl; exact rfl)
        | (apply wbx; exact rfl; exact rfl; exact rfl; intro _)
        | refine wc_block ?_
        | (apply wc_true; exact rfl)
        | (apply wc_false; exact rfl)
        | refine wc_skip ?_
        | refine wc_exit ?_
        | refine wc_ret ?_
        | refine we_then_exit ?_
        | refine we_then_ret ?_
        | refine we_in_normal ?_
        | refine we_in_ret ?_
        | refine we_in_here ?_
        | (apply we_in_there; exact rfl))
      exact we_ret2 (Or.inl rfl) rfl rfl rfl fun w' h => ⟨rfl, h.ext_all⟩
  · rw [if_neg hr]
    repeat (first
      | (apply ws; exact rfl; exact rfl; exact rfl)
      | (apply wlab (j := 0); exact rfl; exact rfl; exact rfl; exact rfl; exact rfl; exact rfl; exact rfl)
      | (apply wq Tryd.call61; exact rfl; exact rfl; exact rfl; exact (fun w _ => duress_right_f hr w))
      | refine wc_seq ?_
      | refine wc_region ?_
      | refine wl_nil ?_
      | refine we_round ?_
      | refine we_then_wc ?_
      | (apply wi64; exact rfl; omega; omega; exact rfl; exact rfl)
      | (apply wfa; exact rfl; exact rfl; exact rfl; exact rfl)
      | (apply wct; exact rfl; omega; exact rfl; exact rfl)
      | (apply wcf; exact rfl; omega; exact rfl; exact rfl)
      | (apply wn; exact rfl; exact rfl)
      | (apply wlb (j := 0); exact rfl; exact rfl; exact rfl; exact rfl; exact rfl; exact rfl)
      | (apply wlb (j := 1); exact rfl; exact rfl; exact rfl; exact rfl; exact rfl; exact rfl)
      | (apply wlb (j := 2); exact rfl; exact rfl; exact rfl; exact rfl; exact rfl; exact rfl)
      | (apply wlb (j := 3); exact rfl; exact rfl; exact rfl; exact rfl; exact rfl; exact rfl)
      | (apply wln; exact rfl; exact rfl; exact rfl; exact rfl)
      | (apply wpu; exact rfl; exact rfl; exact rfl)
      | (apply wbx; exact rfl; exact rfl; exact rfl; intro _)
      | refine wc_block ?_
      | (apply wc_true; exact rfl)
      | (apply wc_false; exact rfl)
      | refine wc_skip ?_
      | refine wc_exit ?_
      | refine wc_ret ?_
      | refine we_then_exit ?_
      | refine we_then_ret ?_
      | refine we_in_normal ?_
      | refine we_in_ret ?_
      | refine we_in_here ?_
      | (apply we_in_there; exact rfl))
    exact we_ret2 (Or.inl rfl) rfl rfl rfl fun w' h => ⟨rfl, h.ext_all⟩

theorem on_ok {a b c doc no : Int} (hr : rightP a b c) (ho : occP doc no) (w : World) (hL : Laid w) : Fn 38 [silV a b c, .int .i64 doc, .int .i64 no] w (Quiet (.tuple #[.iface 92 (occV a b c (occH doc no)), .int .i64 0]) w) := by
  have := occ_on a b c doc no w hL
  rwa [onV, if_pos hr, if_pos ho] at this
theorem on_arg {a b c doc no : Int} (hr : rightP a b c) (ho : ¬ occP doc no) (w : World) (hL : Laid w) : Fn 38 [silV a b c, .int .i64 doc, .int .i64 no] w (Quiet (.tuple #[.nilIface, .int .i64 1]) w) := by
  have := occ_on a b c doc no w hL
  rwa [onV, if_pos hr, if_neg ho] at this
theorem on_silent {a b c doc no : Int} (hr : ¬ rightP a b c) (w : World) (hL : Laid w) : Fn 38 [silV a b c, .int .i64 doc, .int .i64 no] w (Quiet (.tuple #[.nilIface, .int .i64 470]) w) := by
  have := occ_on a b c doc no w hL
  rwa [onV, if_neg hr] at this

def onE (a b c doc no : Int) : Int := if rightP a b c then (if occP doc no then 0 else 1) else 470
def tagV (a b c doc no : Int) (k : Bool) : Int := if rightP a b c ∧ occP doc no then tagN a b c (occH doc no) k else 0

theorem duress_Tag (a b c doc no : Int) (k : Bool) (w : World) (hL : Laid w) : Fn 34 [silV a b c, .int .i64 doc, .int .i64 no, .bool k] w (Quiet (.tuple #[.int .i64 (tagV a b c doc no k), .int .i64 (onE a b c doc no)]) w) := by
  refine fn_of (args := [.agg #[.int .i64 a, .int .i64 b, .int .i64 c], .int .i64 doc, .int .i64 no, .bool k]) Tryd.func34 rfl Tryd.ntmps34 rfl (Hp.start w) ?_
  unfold onE tagV
  by_cases hr : rightP a b c
  · by_cases ho : occP doc no
    · rw [if_pos hr, if_pos ho, if_pos ⟨hr, ho⟩]
      have hh := hashP_range [116, 97, 103] (encL [.I doc, .I no])
      have hi : in64 (occH doc no) := by unfold in64; unfold occH; omega
      have ha : in64 a ∧ in64 b ∧ in64 c := by unfold in64; unfold rightP numP at hr; omega
      repeat (first
        | (apply ws; exact rfl; exact rfl; exact rfl)
        | (apply wlab (j := 0); exact rfl; exact rfl; exact rfl; exact rfl; exact rfl; exact rfl; exact rfl)
        | refine wc_seq ?_
        | refine wc_region ?_
        | refine wl_nil ?_
        | refine we_round ?_
        | refine we_then_wc ?_
        | (apply wi64; exact rfl; omega; omega; exact rfl; exact rfl)
        | (apply wfa; exact rfl; exact rfl; exact rfl; exact rfl)
        | (apply wct; exact rfl; omega; exact rfl; exact rfl)
        | (apply wcf; exact rfl; omega; exact rfl; exact rfl)
        | (apply wn; exact rfl; exact rfl)
        | (apply wlb (j := 0); exact rfl; exact rfl; exact rfl; exact rfl; exact rfl; exact rfl)
        | (apply wlb (j := 1); exact rfl; exact rfl; exact rfl; exact rfl; exact rfl; exact rfl)
        | (apply wlb (j := 2); exact rfl; exact rfl; exact rfl; exact rfl; exact rfl; exact rfl)
        | (apply wlb (j := 3); exact rfl; exact rfl; exact rfl; exact rfl; exact rfl; exact rfl)
        | (apply wln; exact rfl; exact rfl; exact rfl; exact rfl)
        | (apply wpu; exact rfl; exact rfl; exact rfl)
        | (apply wbx; exact rfl; exact rfl; exact rfl; intro _)
        | refine wc_block ?_
        | (apply wc_true; exact rfl)
        | (apply wc_false; exact rfl)
        | refine wc_skip ?_
        | refine wc_exit ?_
        | refine wc_ret ?_
        | refine we_then_exit ?_
        | refine we_then_ret ?_
        | refine we_in_normal ?_
        | refine we_in_ret ?_
        | refine we_in_here ?_
        | (apply we_in_there; exact rfl))
      refine wl_quiet rfl rfl rfl (od_call Tryd.call38 rfl (fun w' h => on_ok hr ho w' (hL.ext h.ext_all))) ?_
      repeat (first
        | (apply ws; exact rfl; exact rfl; exact rfl)
        | refine wc_seq ?_
        | refine wc_region ?_
        | refine wl_nil ?_
        | refine we_round ?_
        | refine we_then_wc ?_
        | (apply wi64; exact rfl; omega; omega; exact rfl; exact rfl)
        | (apply wfa; exact rfl; exact rfl; exact rfl; exact rfl)
        | (apply wct; exact rfl; omega; exact rfl; exact rfl)
        | (apply wcf; exact rfl; omega; exact rfl; exact rfl)
        | (apply wn; exact rfl; exact rfl)
        | (apply wlb (j := 0); exact rfl; exact rfl; exact rfl; exact rfl; exact rfl; exact rfl)
        | (apply wlb (j := 1); exact rfl; exact rfl; exact rfl; exact rfl; exact rfl; exact rfl)
        | (apply wlb (j := 2); exact rfl; exact rfl; exact rfl; exact rfl; exact rfl; exact rfl)
        | (apply wlb (j := 3); exact rfl; exact rfl; exact rfl; exact rfl; exact rfl; exact rfl)
        | (apply wln; exact rfl; exact rfl; exact rfl; exact rfl)
        | (apply wpu; exact rfl; exact rfl; exact rfl)
        | (apply wbx; exact rfl; exact rfl; exact rfl; intro _)
        | refine wc_block ?_
        | (apply wc_true; exact rfl)
        | (apply wc_false; exact rfl)
        | refine wc_skip ?_
        | refine wc_exit ?_
        | refine wc_ret ?_
        | refine we_then_exit ?_
        | refine we_then_ret ?_
        | refine we_in_normal ?_
        | refine we_in_ret ?_
        | refine we_in_here ?_
        | (apply we_in_there; exact rfl))
      refine wl_quiet rfl rfl rfl (od_invoke rfl rfl (meth_tag _ _) (fun w' h => occ_tag a b c (occH doc no) ha.1 ha.2.1 ha.2.2 hi k w')) ?_
      repeat (first
        | (apply ws; exact rfl; exact rfl; exact rfl)
        | refine wc_seq ?_
        | refine wc_region ?_
        | refine wl_nil ?_
        | refine we_round ?_
        | refine we_then_wc ?_
        | (apply wi64; exact rfl; omega; omega; exact rfl; exact rfl)
        | (apply wfa; exact rfl; exact rfl; exact rfl; exact rfl)
        | (apply wct; exact rfl; omega; exact rfl; exact rfl)
        | (apply wcf; exact rfl; omega; exact rfl; exact rfl)
        | (apply wn; exact rfl; exact rfl)
        | (apply wlb (j := 0); exact rfl; exact rfl; exact rfl; exact rfl; exact rfl; exact rfl)
        | (apply wlb (j := 1); exact rfl; exact rfl; exact rfl; exact rfl; exact rfl; exact rfl)
        | (apply wlb (j := 2); exact rfl; exact rfl; exact rfl; exact rfl; exact rfl; exact rfl)
        | (apply wlb (j := 3); exact rfl; exact rfl; exact rfl; exact rfl; exact rfl; exact rfl)
        | (apply wln; exact rfl; exact rfl; exact rfl; exact rfl)
        | (apply wpu; exact rfl; exact rfl; exact rfl)
        | (apply wbx; exact rfl; exact rfl; exact rfl; intro _)
        | refine wc_block ?_
        | (apply wc_true; exact rfl)
        | (apply wc_false; exact rfl)
        | refine wc_skip ?_
        | refine wc_exit ?_
        | refine wc_ret ?_
        | refine we_then_exit ?_
        | refine we_then_ret ?_
        | refine we_in_normal ?_
        | refine we_in_ret ?_
        | refine we_in_here ?_
        | (apply we_in_there; exact rfl))
      exact we_ret2 (Or.inl rfl) rfl rfl rfl fun w' h => ⟨rfl, h.ext_all⟩
    · rw [if_pos hr, if_neg ho, if_neg (fun h => ho h.2)]
      repeat (first
        | (apply ws; exact rfl; exact rfl; exact rfl)
        | (apply wlab (j := 0); exact rfl; exact rfl; exact rfl; exact rfl; exact rfl; exact rfl; exact rfl)
        | refine wc_seq ?_
        | refine wc_region ?_
        | refine wl_nil ?_
        | refine we_round ?_
        | refine we_then_wc ?_
        | (apply wi64; exact rfl; omega; omega; exact rfl; exact rfl)
        | (apply wfa; exact rfl; exact rfl; exact rfl; exact rfl)
        | (apply wct; exact rfl; omega; exact rfl; exact rfl)
        | (apply wcf; exact rfl; omega; exact rfl; exact rfl)
        | (apply wn; exact rfl; exact rfl)
        | (apply wlb (j := 0); exact rfl; exact rfl; exact rfl; exact rfl; exact rfl; exact rfl)
        | (apply wlb (j := 1); exact rfl; exact rfl; exact rfl; exact rfl; exact rfl; exact rfl)
        | (apply wlb (j := 2); exact rfl; exact rfl; exact rfl; exact rfl; exact rfl; exact rfl)
        | (apply wlb (j := 3); exact rfl; exact rfl; exact rfl; exact rfl; exact rfl; exact rfl)
        | (apply wln; exact rfl; exact rfl; exact rfl; exact rfl)
        | (apply wpu; exact rfl; exact rfl; exact rfl)
        | (apply wbx; exact rfl; exact rfl; exact rfl; intro _)
        | refine wc_block ?_
        | (apply wc_true; exact rfl)
        | (apply wc_false; exact rfl)
        | refine wc_skip ?_
        | refine wc_exit ?_
        | refine wc_ret ?_
        | refine we_then_exit ?_
        | refine we_then_ret ?_
        | refine we_in_normal ?_
        | refine we_in_ret ?_
        | refine we_in_here ?_
        | (apply we_in_there; exact rfl))
      refine wl_quiet rfl rfl rfl (od_call Tryd.call38 rfl (fun w' h => on_arg hr ho w' (hL.ext h.ext_all))) ?_
      repeat (first
        | (apply ws; exact rfl; exact rfl; exact rfl)
        | refine wc_seq ?_
        | refine wc_region ?_
        | refine wl_nil ?_
        | refine we_round ?_
        | refine we_then_wc ?_
        | (apply wi64; exact rfl; omega; omega; exact rfl; exact rfl)
        | (apply wfa; exact rfl; exact rfl; exact rfl; exact rfl)
        | (apply wct; exact rfl; omega; exact rfl; exact rfl)
        | (apply wcf; exact rfl; omega; exact rfl; exact rfl)
        | (apply wn; exact rfl; exact rfl)
        | (apply wlb (j := 0); exact rfl; exact rfl; exact rfl; exact rfl; exact rfl; exact rfl)
        | (apply wlb (j := 1); exact rfl; exact rfl; exact rfl; exact rfl; exact rfl; exact rfl)
        | (apply wlb (j := 2); exact rfl; exact rfl; exact rfl; exact rfl; exact rfl; exact rfl)
        | (apply wlb (j := 3); exact rfl; exact rfl; exact rfl; exact rfl; exact rfl; exact rfl)
        | (apply wln; exact rfl; exact rfl; exact rfl; exact rfl)
        | (apply wpu; exact rfl; exact rfl; exact rfl)
        | (apply wbx; exact rfl; exact rfl; exact rfl; intro _)
        | refine wc_block ?_
        | (apply wc_true; exact rfl)
        | (apply wc_false; exact rfl)
        | refine wc_skip ?_
        | refine wc_exit ?_
        | refine wc_ret ?_
        | refine we_then_exit ?_
        | refine we_then_ret ?_
        | refine we_in_normal ?_
        | refine we_in_ret ?_
        | refine we_in_here ?_
        | (apply we_in_there; exact rfl))
      exact we_ret2 (Or.inl rfl) rfl rfl rfl fun w' h => ⟨rfl, h.ext_all⟩
  · rw [if_neg hr, if_neg (fun h => hr h.1)]
    repeat (first
      | (apply ws; exact rfl; exact rfl; exact rfl)
      | (apply wlab (j := 0); exact rfl; exact rfl; exact rfl; exact rfl; exact rfl; exact rfl; exact rfl)
      | refine wc_seq ?_
      | refine wc_region ?_
      | refine wl_nil ?_
      | refine we_round ?_
      | refine we_then_wc ?_
      | (apply wi64; exact rfl; omega; omega; exact rfl; exact rfl)
      | (apply wfa; exact rfl; exact rfl; exact rfl; exact rfl)
      | (apply wct; exact rfl; omega; exact rfl; exact rfl)
      | (apply wcf; exact rfl; omega; exact rfl; exact rfl)
      | (apply wn; exact rfl; exact rfl)
      | (apply wlb (j := 0); exact rfl; exact rfl; exact rfl; exact rfl; exact rfl; exact rfl)
      | (apply wlb (j := 1); exact rfl; exact rfl; exact rfl; exact rfl; exact rfl; exact rfl)
      | (apply wlb (j := 2); exact rfl; exact rfl; exact rfl; exact rfl; exact rfl; exact rfl)
      | (apply wlb (j := 3); exact rfl; exact rfl; exact rfl; exact rfl; exact rfl; exact rfl)
      | (apply wln; exact rfl; exact rfl; exact rfl; exact rfl)
      | (apply wpu; exact rfl; exact rfl; exact rfl)
      | (apply wbx; exact rfl; exact rfl; exact rfl; intro _)
      | refine wc_block ?_
      | (apply wc_true; exact rfl)
      | (apply wc_false; exact rfl)
      | refine wc_skip ?_
      | refine wc_exit ?_
      | refine wc_ret ?_
      | refine we_then_exit ?_
      | refine we_then_ret ?_
      | refine we_in_normal ?_
      | refine we_in_ret ?_
      | refine we_in_here ?_
      | (apply we_in_there; exact rfl))
    refine wl_quiet rfl rfl rfl (od_call Tryd.call38 rfl (fun w' h => on_silent hr w' (hL.ext h.ext_all))) ?_
    repeat (first
      | (apply ws; exact rfl; exact rfl; exact rfl)
      | refine wc_seq ?_
      | refine wc_region ?_
      | refine wl_nil ?_
      | refine we_round ?_
      | refine we_then_wc ?_
      | (apply wi64; exact rfl; omega; omega; exact rfl; exact rfl)
      | (apply wfa; exact rfl; exact rfl; exact rfl; exact rfl)
      | (apply wct; exact rfl; omega; exact rfl; exact rfl)
      | (apply wcf; exact rfl; omega; exact rfl; exact rfl)
      | (apply wn; exact rfl; exact rfl)
      | (apply wlb (j := 0); exact rfl; exact rfl; exact rfl; exact rfl; exact rfl; exact rfl)
      | (apply wlb (j := 1); exact rfl; exact rfl; exact rfl; exact rfl; exact rfl; exact rfl)
      | (apply wlb (j := 2); exact rfl; exact rfl; exact rfl; exact rfl; exact rfl; exact rfl)
      | (apply wlb (j := 3); exact rfl; exact rfl; exact rfl; exact rfl; exact rfl; exact rfl)
      | (apply wln; exact rfl; exact rfl; exact rfl; exact rfl)
      | (apply wpu; exact rfl; exact rfl; exact rfl)
      | (apply wbx; exact rfl; exact rfl; exact rfl; intro _)
      | refine wc_block ?_
      | (apply wc_true; exact rfl)
      | (apply wc_false; exact rfl)
      | refine wc_skip ?_
      | refine wc_exit ?_
      | refine wc_ret ?_
      | refine we_then_exit ?_
      | refine we_then_ret ?_
      | refine we_in_normal ?_
      | refine we_in_ret ?_
      | refine we_in_here ?_
      | (apply we_in_there; exact rfl))
    exact we_ret2 (Or.inl rfl) rfl rfl rfl fun w' h => ⟨rfl, h.ext_all⟩

/-- What Read hands back: coerced, ok, the error. -/
def readV (a b c doc no t : Int) : (Bool × Bool) × Int :=
  if rightP a b c then (if occP doc no then (if numP t then (readN a b c (occH doc no) t, 0) else ((false, false), 1)) else ((false, false), 1)) else ((false, false), 470)
def readT (r : (Bool × Bool) × Int) : Value := .tuple #[.bool r.1.1, .bool r.1.2, .int .i64 r.2]

theorem duress_Read (a b c doc no t : Int) (w : World) (hL : Laid w) : Fn 17 [silV a b c, .int .i64 doc, .int .i64 no, .int .i64 t] w (Quiet (readT (readV a b c doc no t)) w) := by
  refine fn_of (args := [.agg #[.int .i64 a, .int .i64 b, .int .i64 c], .int .i64 doc, .int .i64 no, .int .i64 t]) Tryd.func17 rfl Tryd.ntmps17 rfl (Hp.start w) ?_
  unfold readV readT
  by_cases hr : rightP a b c
  · by_cases ho : occP doc no
    · by_cases hn : numP t
      · rw [if_pos hr, if_pos ho, if_pos hn]
        have hh := hashP_range [116, 97, 103] (encL [.I doc, .I no])
        have hi : in64 (occH doc no) := by unfold in64; unfold occH; omega
        have ha : in64 a ∧ in64 b ∧ in64 c := by unfold in64; unfold rightP numP at hr; omega
        repeat (first
          | (apply ws; exact rfl; exact rfl; exact rfl)
          | (apply wlab (j := 0); exact rfl; exact rfl; exact rfl; exact rfl; exact rfl; exact rfl; exact rfl)
          | refine wc_seq ?_
          | refine wc_region ?_
          | refine wl_nil ?_
          | refine we_round ?_
          | refine we_then_wc ?_
          | (apply wi64; exact rfl; omega; omega; exact rfl; exact rfl)
          | (apply wfa; exact rfl; exact rfl; exact rfl; exact rfl)
          | (apply wct; exact rfl; omega; exact rfl; exact rfl)
          | (apply wcf; exact rfl; omega; exact rfl; exact rfl)
          | (apply wn; exact rfl; exact rfl)
          | (apply wlb (j := 0); exact rfl; exact rfl; exact rfl; exact rfl; exact rfl; exact rfl)
          | (apply wlb (j := 1); exact rfl; exact rfl; exact rfl; exact rfl; exact rfl; exact rfl)
          | (apply wlb (j := 2); exact rfl; exact rfl; exact rfl; exact rfl; exact rfl; exact rfl)
          | (apply wlb (j := 3); exact rfl; exact rfl; exact rfl; exact rfl; exact rfl; exact rfl)
          | (apply wln; exact rfl; exact rfl; exact rfl; exact rfl)
          | (apply wpu; exact rfl; exact rfl; exact rfl)
          | (apply wbx; exact rfl; exact rfl; exact rfl; intro _)
          | refine wc_block ?_
          | (apply wc_true; exact rfl)
          | (apply wc_false; exact rfl)
          | refine wc_skip ?_
          | refine wc_exit ?_
          | refine wc_ret ?_
          | refine we_then_exit ?_
          | refine we_then_ret ?_
          | refine we_in_normal ?_
          | refine we_in_ret ?_
          | refine we_in_here ?_
          | (apply we_in_there; exact rfl))
        refine wl_quiet rfl rfl rfl (od_call Tryd.call38 rfl (fun w' h => on_ok hr ho w' (hL.ext h.ext_all))) ?_
        repeat (first
          | (apply ws; exact rfl; exact rfl; exact rfl)
          | (apply wq Tryd.call39; exact rfl; exact rfl; exact rfl; exact (fun w _ => duress_number_t hn w))
          | refine wc_seq ?_
          | refine wc_region ?_
          | refine wl_nil ?_
          | refine we_round ?_
          | refine we_then_wc ?_
          | (apply wi64; exact rfl; omega; omega; exact rfl; exact rfl)
          | (apply wfa; exact rfl; exact rfl; exact rfl; exact rfl)
          | (apply wct; exact rfl; omega; exact rfl; exact rfl)
          | (apply wcf; exact rfl; omega; exact rfl; exact rfl)
          | (apply wn; exact rfl; exact rfl)
          | (apply wlb (j := 0); exact rfl; exact rfl; exact rfl; exact rfl; exact rfl; exact rfl)
          | (apply wlb (j := 1); exact rfl; exact rfl; exact rfl; exact rfl; exact rfl; exact rfl)
          | (apply wlb (j := 2); exact rfl; exact rfl; exact rfl; exact rfl; exact rfl; exact rfl)
          | (apply wlb (j := 3); exact rfl; exact rfl; exact rfl; exact rfl; exact rfl; exact rfl)
          | (apply wln; exact rfl; exact rfl; exact rfl; exact rfl)
          | (apply wpu; exact rfl; exact rfl; exact rfl)
          | (apply wbx; exact rfl; exact rfl; exact rfl; intro _)
          | refine wc_block ?_
          | (apply wc_true; exact rfl)
          | (apply wc_false; exact rfl)
          | refine wc_skip ?_
          | refine wc_exit ?_
          | refine wc_ret ?_
          | refine we_then_exit ?_
          | refine we_then_ret ?_
          | refine we_in_normal ?_
          | refine we_in_ret ?_
          | refine we_in_here ?_
          | (apply we_in_there; exact rfl))
        refine wl_quiet rfl rfl rfl (od_invoke rfl rfl (meth_read _ _) (fun w' h => occ_read a b c (occH doc no) t ha.1 ha.2.1 ha.2.2 hi w')) ?_
        repeat (first
          | (apply ws; exact rfl; exact rfl; exact rfl)
          | refine wc_seq ?_
          | refine wc_region ?_
          | refine wl_nil ?_
          | refine we_round ?_
          | refine we_then_wc ?_
          | (apply wi64; exact rfl; omega; omega; exact rfl; exact rfl)
          | (apply wfa; exact rfl; exact rfl; exact rfl; exact rfl)
          | (apply wct; exact rfl; omega; exact rfl; exact rfl)
          | (apply wcf; exact rfl; omega; exact rfl; exact rfl)
          | (apply wn; exact rfl; exact rfl)
          | (apply wlb (j := 0); exact rfl; exact rfl; exact rfl; exact rfl; exact rfl; exact rfl)
          | (apply wlb (j := 1); exact rfl; exact rfl; exact rfl; exact rfl; exact rfl; exact rfl)
          | (apply wlb (j := 2); exact rfl; exact rfl; exact rfl; exact rfl; exact rfl; exact rfl)
          | (apply wlb (j := 3); exact rfl; exact rfl; exact rfl; exact rfl; exact rfl; exact rfl)
          | (apply wln; exact rfl; exact rfl; exact rfl; exact rfl)
          | (apply wpu; exact rfl; exact rfl; exact rfl)
          | (apply wbx; exact rfl; exact rfl; exact rfl; intro _)
          | refine wc_block ?_
          | (apply wc_true; exact rfl)
          | (apply wc_false; exact rfl)
          | refine wc_skip ?_
          | refine wc_exit ?_
          | refine wc_ret ?_
          | refine we_then_exit ?_
          | refine we_then_ret ?_
          | refine we_in_normal ?_
          | refine we_in_ret ?_
          | refine we_in_here ?_
          | (apply we_in_there; exact rfl))
        exact we_ret3 (Or.inl rfl) rfl rfl rfl rfl fun w' h => ⟨rfl, h.ext_all⟩
      · rw [if_pos hr, if_pos ho, if_neg hn]
        repeat (first
          | (apply ws; exact rfl; exact rfl; exact rfl)
          | (apply wlab (j := 0); exact rfl; exact rfl; exact rfl; exact rfl; exact rfl; exact rfl; exact rfl)
          | refine wc_seq ?_
          | refine wc_region ?_
          | refine wl_nil ?_
          | refine we_round ?_
          | refine we_then_wc ?_
          | (apply wi64; exact rfl; omega; omega; exact rfl; exact rfl)
          | (apply wfa; exact rfl; exact rfl; exact rfl; exact rfl)
          | (apply wct; exact rfl; omega; exact rfl; exact rfl)
          | (apply wcf; exact rfl; omega; exact rfl; exact rfl)
          | (apply wn; exact rfl; exact rfl)
          | (apply wlb (j := 0); exact rfl; exact rfl; exact rfl; exact rfl; exact rfl; exact rfl)
          | (apply wlb (j := 1); exact rfl; exact rfl; exact rfl; exact rfl; exact rfl; exact rfl)
          | (apply wlb (j := 2); exact rfl; exact rfl; exact rfl; exact rfl; exact rfl; exact rfl)
          | (apply wlb (j := 3); exact rfl; exact rfl; exact rfl; exact rfl; exact rfl; exact rfl)
          | (apply wln; exact rfl; exact rfl; exact rfl; exact rfl)
          | (apply wpu; exact rfl; exact rfl; exact rfl)
          | (apply wbx; exact rfl; exact rfl; exact rfl; intro _)
          | refine wc_block ?_
          | (apply wc_true; exact rfl)
          | (apply wc_false; exact rfl)
          | refine wc_skip ?_
          | refine wc_exit ?_
          | refine wc_ret ?_
          | refine we_then_exit ?_
          | refine we_then_ret ?_
          | refine we_in_normal ?_
          | refine we_in_ret ?_
          | refine we_in_here ?_
          | (apply we_in_there; exact rfl))
        refine wl_quiet rfl rfl rfl (od_call Tryd.call38 rfl (fun w' h => on_ok hr ho w' (hL.ext h.ext_all))) ?_
        repeat (first
          | (apply ws; exact rfl; exact rfl; exact rfl)
          | (apply wq Tryd.call39; exact rfl; exact rfl; exact rfl; exact (fun w _ => duress_number_f hn w))
          | refine wc_seq ?_
          | refine wc_region ?_
          | refine wl_nil ?_
          | refine we_round ?_
          | refine we_then_wc ?_
          | (apply wi64; exact rfl; omega; omega; exact rfl; exact rfl)
          | (apply wfa; exact rfl; exact rfl; exact rfl; exact rfl)
          | (apply wct; exact rfl; omega; exact rfl; exact rfl)
          | (apply wcf; exact rfl; omega; exact rfl; exact rfl)
          | (apply wn; exact rfl; exact rfl)
          | (apply wlb (j := 0); exact rfl; exact rfl; exact rfl; exact rfl; exact rfl; exact rfl)
          | (apply wlb (j := 1); exact rfl; exact rfl; exact rfl; exact rfl; exact rfl; exact rfl)
          | (apply wlb (j := 2); exact rfl; exact rfl; exact rfl; exact rfl; exact rfl; exact rfl)
          | (apply wlb (j := 3); exact rfl; exact rfl; exact rfl; exact rfl; exact rfl; exact rfl)
          | (apply wln; exact rfl; exact rfl; exact rfl; exact rfl)
          | (apply wpu; exact rfl; exact rfl; exact rfl)
          | (apply wbx; exact rfl; exact rfl; exact rfl; intro _)
          | refine wc_block ?_
          | (apply wc_true; exact rfl)
          | (apply wc_false; exact rfl)
          | refine wc_skip ?_
          | refine wc_exit ?_
          | refine wc_ret ?_
          | refine we_then_exit ?_
          | refine we_then_ret ?_
          | refine we_in_normal ?_
          | refine we_in_ret ?_
          | refine we_in_here ?_
          | (apply we_in_there; exact rfl))
        exact we_ret3 (Or.inl rfl) rfl rfl rfl rfl fun w' h => ⟨rfl, h.ext_all⟩
    · rw [if_pos hr, if_neg ho]
      repeat (first
        | (apply ws; exact rfl; exact rfl; exact rfl)
        | (apply wlab (j := 0); exact rfl; exact rfl; exact rfl; exact rfl; exact rfl; exact rfl; exact rfl)
        | refine wc_seq ?_
        | refine wc_region ?_
        | refine wl_nil ?_
        | refine we_round ?_
        | refine we_then_wc ?_
        | (apply wi64; exact rfl; omega; omega; exact rfl; exact rfl)
        | (apply wfa; exact rfl; exact rfl; exact rfl; exact rfl)
        | (apply wct; exact rfl; omega; exact rfl; exact rfl)
        | (apply wcf; exact rfl; omega; exact rfl; exact rfl)
        | (apply wn; exact rfl; exact rfl)
        | (apply wlb (j := 0); exact rfl; exact rfl; exact rfl; exact rfl; exact rfl; exact rfl)
        | (apply wlb (j := 1); exact rfl; exact rfl; exact rfl; exact rfl; exact rfl; exact rfl)
        | (apply wlb (j := 2); exact rfl; exact rfl; exact rfl; exact rfl; exact rfl; exact rfl)
        | (apply wlb (j := 3); exact rfl; exact rfl; exact rfl; exact rfl; exact rfl; exact rfl)
        | (apply wln; exact rfl; exact rfl; exact rfl; exact rfl)
        | (apply wpu; exact rfl; exact rfl; exact rfl)
        | (apply wbx; exact rfl; exact rfl; exact rfl; intro _)
        | refine wc_block ?_
        | (apply wc_true; exact rfl)
        | (apply wc_false; exact rfl)
        | refine wc_skip ?_
        | refine wc_exit ?_
        | refine wc_ret ?_
        | refine we_then_exit ?_
        | refine we_then_ret ?_
        | refine we_in_normal ?_
        | refine we_in_ret ?_
        | refine we_in_here ?_
        | (apply we_in_there; exact rfl))
      refine wl_quiet rfl rfl rfl (od_call Tryd.call38 rfl (fun w' h => on_arg hr ho w' (hL.ext h.ext_all))) ?_
      repeat (first
        | (apply ws; exact rfl; exact rfl; exact rfl)
        | refine wc_seq ?_
        | refine wc_region ?_
        | refine wl_nil ?_
        | refine we_round ?_
        | refine we_then_wc ?_
        | (apply wi64; exact rfl; omega; omega; exact rfl; exact rfl)
        | (apply wfa; exact rfl; exact rfl; exact rfl; exact rfl)
        | (apply wct; exact rfl; omega; exact rfl; exact rfl)
        | (apply wcf; exact rfl; omega; exact rfl; exact rfl)
        | (apply wn; exact rfl; exact rfl)
        | (apply wlb (j := 0); exact rfl; exact rfl; exact rfl; exact rfl; exact rfl; exact rfl)
        | (apply wlb (j := 1); exact rfl; exact rfl; exact rfl; exact rfl; exact rfl; exact rfl)
        | (apply wlb (j := 2); exact rfl; exact rfl; exact rfl; exact rfl; exact rfl; exact rfl)
        | (apply wlb (j := 3); exact rfl; exact rfl; exact rfl; exact rfl; exact rfl; exact rfl)
        | (apply wln; exact rfl; exact rfl; exact rfl; exact rfl)
        | (apply wpu; exact rfl; exact rfl; exact rfl)
        | (apply wbx; exact rfl; exact rfl; exact rfl; intro _)
        | refine wc_block ?_
        | (apply wc_true; exact rfl)
        | (apply wc_false; exact rfl)
        | refine wc_skip ?_
        | refine wc_exit ?_
        | refine wc_ret ?_
        | refine we_then_exit ?_
        | refine we_then_ret ?_
        | refine we_in_normal ?_
        | refine we_in_ret ?_
        | refine we_in_here ?_
        | (apply we_in_there; exact rfl))
      exact we_ret3 (Or.inl rfl) rfl rfl rfl rfl fun w' h => ⟨rfl, h.ext_all⟩
  · rw [if_neg hr]
    repeat (first
      | (apply ws; exact rfl; exact rfl; exact rfl)
      | (apply wlab (j := 0); exact rfl; exact rfl; exact rfl; exact rfl; exact rfl; exact rfl; exact rfl)
      | refine wc_seq ?_
      | refine wc_region ?_
      | refine wl_nil ?_
      | refine we_round ?_
      | refine we_then_wc ?_
      | (apply wi64; exact rfl; omega; omega; exact rfl; exact rfl)
      | (apply wfa; exact rfl; exact rfl; exact rfl; exact rfl)
      | (apply wct; exact rfl; omega; exact rfl; exact rfl)
      | (apply wcf; exact rfl; omega; exact rfl; exact rfl)
      | (apply wn; exact rfl; exact rfl)
      | (apply wlb (j := 0); exact rfl; exact rfl; exact rfl; exact rfl; exact rfl; exact rfl)
      | (apply wlb (j := 1); exact rfl; exact rfl; exact rfl; exact rfl; exact rfl; exact rfl)
      | (apply wlb (j := 2); exact rfl; exact rfl; exact rfl; exact rfl; exact rfl; exact rfl)
      | (apply wlb (j := 3); exact rfl; exact rfl; exact rfl; exact rfl; exact rfl; exact rfl)
      | (apply wln; exact rfl; exact rfl; exact rfl; exact rfl)
      | (apply wpu; exact rfl; exact rfl; exact rfl)
      | (apply wbx; exact rfl; exact rfl; exact rfl; intro _)
      | refine wc_block ?_
      | (apply wc_true; exact rfl)
      | (apply wc_false; exact rfl)
      | refine wc_skip ?_
      | refine wc_exit ?_
      | refine wc_ret ?_
      | refine we_then_exit ?_
      | refine we_then_ret ?_
      | refine we_in_normal ?_
      | refine we_in_ret ?_
      | refine we_in_here ?_
      | (apply we_in_there; exact rfl))
    refine wl_quiet rfl rfl rfl (od_call Tryd.call38 rfl (fun w' h => on_silent hr w' (hL.ext h.ext_all))) ?_
    repeat (first
      | (apply ws; exact rfl; exact rfl; exact rfl)
      | refine wc_seq ?_
      | refine wc_region ?_
      | refine wl_nil ?_
      | refine we_round ?_
      | refine we_then_wc ?_
      | (apply wi64; exact rfl; omega; omega; exact rfl; exact rfl)
      | (apply wfa; exact rfl; exact rfl; exact rfl; exact rfl)
      | (apply wct; exact rfl; omega; exact rfl; exact rfl)
      | (apply wcf; exact rfl; omega; exact rfl; exact rfl)
      | (apply wn; exact rfl; exact rfl)
      | (apply wlb (j := 0); exact rfl; exact rfl; exact rfl; exact rfl; exact rfl; exact rfl)
      | (apply wlb (j := 1); exact rfl; exact rfl; exact rfl; exact rfl; exact rfl; exact rfl)
      | (apply wlb (j := 2); exact rfl; exact rfl; exact rfl; exact rfl; exact rfl; exact rfl)
      | (apply wlb (j := 3); exact rfl; exact rfl; exact rfl; exact rfl; exact rfl; exact rfl)
      | (apply wln; exact rfl; exact rfl; exact rfl; exact rfl)
      | (apply wpu; exact rfl; exact rfl; exact rfl)
      | (apply wbx; exact rfl; exact rfl; exact rfl; intro _)
      | refine wc_block ?_
      | (apply wc_true; exact rfl)
      | (apply wc_false; exact rfl)
      | refine wc_skip ?_
      | refine wc_exit ?_
      | refine wc_ret ?_
      | refine we_then_exit ?_
      | refine we_then_ret ?_
      | refine we_in_normal ?_
      | refine we_in_ret ?_
      | refine we_in_here ?_
      | (apply we_in_there; exact rfl))
    exact we_ret3 (Or.inl rfl) rfl rfl rfl rfl fun w' h => ⟨rfl, h.ext_all⟩

end Go.Proofs.YtielloijdkoeiaaDoor
