/- Words of 32 bits, bytes, and what is read of memory; the laws of the operations on them. -/
import Derived.Test.YtielloijdkoeiaaDoorFb
namespace Go.Proofs.YtielloijdkoeiaaDoor
open Go Go.RowKit
set_option maxRecDepth 100000

abbrev W32 := BitVec 32
def u32 (x : W32) : Value := .int .u32 (x.toNat : Int)
def v8 (c : UInt8) : Value := .int .u8 (c.toNat : Int)
def ext8 (c : UInt8) : W32 := c.toBitVec.setWidth 32

theorem wrap_u32 (n : Nat) : IntKind.u32.wrap (n : Int) = ((n % 2 ^ 32 : Nat) : Int) := by
  simp [IntKind.wrap, IntKind.bits, IntKind.signed]
theorem wrap_u32_lt {n : Nat} (h : n < 2 ^ 32) : IntKind.u32.wrap (n : Int) = (n : Int) := by rw [wrap_u32, Nat.mod_eq_of_lt h]
theorem wrap_bv (x : W32) : IntKind.u32.wrap (x.toNat : Int) = (x.toNat : Int) := wrap_u32_lt x.isLt
theorem ofInt_u32 (x : W32) : BitVec.ofInt 32 (x.toNat : Int) = x := by
  apply BitVec.eq_of_toNat_eq
  simp

theorem add_u32 (a b : W32) : IntKind.u32.wrap ((a.toNat : Int) + (b.toNat : Int)) = ((a + b).toNat : Int) := by
  have : ((a.toNat : Int) + (b.toNat : Int)) = ((a.toNat + b.toNat : Nat) : Int) := by simp
  rw [this, wrap_u32]; simp
theorem bits_u32 (a b : W32) : bitsV .xor .u32 (a.toNat : Int) (b.toNat : Int) = some (((a ^^^ b).toNat : Nat) : Int) ∧ bitsV .and .u32 (a.toNat : Int) (b.toNat : Int) = some (((a &&& b).toNat : Nat) : Int) ∧ bitsV .or .u32 (a.toNat : Int) (b.toNat : Int) = some (((a ||| b).toNat : Nat) : Int) := by
  refine ⟨?_, ?_, ?_⟩
  · show some (IntKind.u32.wrap (((BitVec.ofInt 32 (a.toNat : Int) ^^^ BitVec.ofInt 32 (b.toNat : Int)).toNat : Nat) : Int)) = _
    rw [ofInt_u32, ofInt_u32, wrap_bv]
  · show some (IntKind.u32.wrap (((BitVec.ofInt 32 (a.toNat : Int) &&& BitVec.ofInt 32 (b.toNat : Int)).toNat : Nat) : Int)) = _
    rw [ofInt_u32, ofInt_u32, wrap_bv]
  · show some (IntKind.u32.wrap (((BitVec.ofInt 32 (a.toNat : Int) ||| BitVec.ofInt 32 (b.toNat : Int)).toNat : Nat) : Int)) = _
    rw [ofInt_u32, ofInt_u32, wrap_bv]

theorem shl_u32 (a : W32) (n : Nat) (hn : n ≤ 32) : IntKind.u32.wrap ((a.toNat : Int) * 2 ^ (min ((n : Int)).toNat IntKind.u32.bits)) = ((a <<< n).toNat : Int) := by
  have h1 : min ((n : Int)).toNat IntKind.u32.bits = n := by simp [IntKind.bits]; omega
  rw [h1]
  have : ((a.toNat : Int) * 2 ^ n) = ((a.toNat * 2 ^ n : Nat) : Int) := by simp
  rw [this, wrap_u32, BitVec.toNat_shiftLeft, Nat.shiftLeft_eq]
theorem shr_u32 (a : W32) (n : Nat) (hn : n ≤ 32) : ((a.toNat : Int).fdiv (2 ^ (min ((n : Int)).toNat IntKind.u32.bits))) = ((a >>> n).toNat : Int) := by
  have h1 : min ((n : Int)).toNat IntKind.u32.bits = n := by simp [IntKind.bits]; omega
  rw [h1, BitVec.toNat_ushiftRight, Nat.shiftRight_eq_div_pow]
  have : ((2 : Int) ^ n) = ((2 ^ n : Nat) : Int) := by simp
  rw [this, Int.fdiv_eq_ediv_of_nonneg _ (Int.natCast_nonneg _)]
  rfl

theorem not_u32 (a : W32) : bitsV .xor .u32 IntKind.u32.max (a.toNat : Int) = some (((~~~ a).toNat : Nat) : Int) := by
  have h : BitVec.ofInt 32 IntKind.u32.max = BitVec.allOnes 32 := by decide
  show some (IntKind.u32.wrap (((BitVec.ofInt 32 IntKind.u32.max ^^^ BitVec.ofInt 32 (a.toNat : Int)).toNat : Nat) : Int)) = _
  rw [h, ofInt_u32, BitVec.allOnes_xor, wrap_bv]

section
variable {r : Option Nat} {Q : Exit → Act → World → Prop} {n : Nat} {ds : List Deferred} {env : Env} {w0 : World} {ex : List Nat} {bs : Blks} {ops : Array Oper} {rest : List Oper} {d : Nat} {ty : TypeId} {pos : String} {af : Array Edge} {g : Option (Nat × Bool)}
variable {od : Option Nat}

theorem od_add32 {t t' : TypeId} {x y : Operand} {a b : W32} (hx : ev env x = some (u32 a)) (hy : ev env y = some (u32 b)) : OD env w0 ex bs ⟨od, .binOp .add t x y t', ty, pos, af, g⟩ (Still (u32 (a + b))) :=
  od_int (x := IntKind.u32.wrap ((a.toNat : Int) + (b.toNat : Int))) (by simp only [pureOp, hx, hy, u32, binV, if_true]) (add_u32 a b)
theorem od_xor32 {t t' : TypeId} {x y : Operand} {a b : W32} (hx : ev env x = some (u32 a)) (hy : ev env y = some (u32 b)) : OD env w0 ex bs ⟨od, .binOp .xor t x y t', ty, pos, af, g⟩ (Still (u32 (a ^^^ b))) := od_bits hx hy (bits_u32 a b).1
theorem od_and32 {t t' : TypeId} {x y : Operand} {a b : W32} (hx : ev env x = some (u32 a)) (hy : ev env y = some (u32 b)) : OD env w0 ex bs ⟨od, .binOp .and t x y t', ty, pos, af, g⟩ (Still (u32 (a &&& b))) := od_bits hx hy (bits_u32 a b).2.1
theorem od_or32 {t t' : TypeId} {x y : Operand} {a b : W32} (hx : ev env x = some (u32 a)) (hy : ev env y = some (u32 b)) : OD env w0 ex bs ⟨od, .binOp .or t x y t', ty, pos, af, g⟩ (Still (u32 (a ||| b))) := od_bits hx hy (bits_u32 a b).2.2
theorem od_not32 {t : TypeId} {x : Operand} {a : W32} (hx : ev env x = some (u32 a)) : OD env w0 ex bs ⟨od, .unOp .xor t x, ty, pos, af, g⟩ (Still (u32 (~~~ a))) := by
  refine od_still fun ρ w hρ _ => ?_
  have h := Option.some.inj (not_u32 a)
  have h2 : (Op.unary .xor (u32 a)).run Tryd.prog w = .ok (u32 (~~~ a)) w := by
    show Result.ok (Value.int .u32 _) w = Result.ok (Value.int .u32 _) w
    rw [← h]
    rfl
  simp [execOp, hρ _ _ hx, h2]
theorem od_shl32 {t t' : TypeId} {x : Operand} {a : W32} {k : IntKind} (m : Nat) (hx : ev env x = some (u32 a)) {y : Operand} (hy : ev env y = some (.int k (m : Int))) (hm : m ≤ 32) : OD env w0 ex bs ⟨od, .binOp .shl t x y t', ty, pos, af, g⟩ (Still (u32 (a <<< m))) :=
  od_shl hx hy (by omega) (shl_u32 a m hm)
theorem od_shr32 {t t' : TypeId} {x : Operand} {a : W32} {k : IntKind} (m : Nat) (hx : ev env x = some (u32 a)) {y : Operand} (hy : ev env y = some (.int k (m : Int))) (hm : m ≤ 32) : OD env w0 ex bs ⟨od, .binOp .shr t x y t', ty, pos, af, g⟩ (Still (u32 (a >>> m))) :=
  od_shr hx hy (by omega) (shr_u32 a m hm)
theorem od_conv832 {x : Operand} {c : UInt8} (hx : ev env x = some (v8 c)) : OD env w0 ex bs ⟨od, .convert 5 110 x, ty, pos, af, g⟩ (Still (u32 (ext8 c))) := by
  have := od_conv (w0 := w0) (ex := ex) (bs := bs) (d := od) (ty := ty) (pos := pos) (af := af) (g := g) (src := 5) (dst := 110) (k := .u32) hx rfl rfl
  have hc : c.toNat < 256 := c.toNat_lt
  have e : IntKind.u32.wrap (c.toNat : Int) = ((ext8 c).toNat : Int) := by
    rw [wrap_u32_lt (by omega)]
    simp only [ext8, BitVec.toNat_setWidth, UInt8.toNat_toBitVec]
    rw [Nat.mod_eq_of_lt (by omega)]
  rw [e] at this
  exact this

theorem w32add {t t' : TypeId} {x y : Operand} {a b : W32} (hx : ev env x = some (u32 a)) (hy : ev env y = some (u32 b)) (hg : wantE ops env g = some true) (hdn : Nat.blt d n = true) (next : WL r ops Q rest n ds ((d, u32 (a + b)) :: env) w0 ex bs) : WL r ops Q (⟨some d, .binOp .add t x y t', ty, pos, af, g⟩ :: rest) n ds env w0 ex bs := wl_still hg hdn rfl (od_add32 hx hy) next
theorem w32xor {t t' : TypeId} {x y : Operand} {a b : W32} (hx : ev env x = some (u32 a)) (hy : ev env y = some (u32 b)) (hg : wantE ops env g = some true) (hdn : Nat.blt d n = true) (next : WL r ops Q rest n ds ((d, u32 (a ^^^ b)) :: env) w0 ex bs) : WL r ops Q (⟨some d, .binOp .xor t x y t', ty, pos, af, g⟩ :: rest) n ds env w0 ex bs := wl_still hg hdn rfl (od_xor32 hx hy) next
theorem w32and {t t' : TypeId} {x y : Operand} {a b : W32} (hx : ev env x = some (u32 a)) (hy : ev env y = some (u32 b)) (hg : wantE ops env g = some true) (hdn : Nat.blt d n = true) (next : WL r ops Q rest n ds ((d, u32 (a &&& b)) :: env) w0 ex bs) : WL r ops Q (⟨some d, .binOp .and t x y t', ty, pos, af, g⟩ :: rest) n ds env w0 ex bs := wl_still hg hdn rfl (od_and32 hx hy) next
theorem w32or {t t' : TypeId} {x y : Operand} {a b : W32} (hx : ev env x = some (u32 a)) (hy : ev env y = some (u32 b)) (hg : wantE ops env g = some true) (hdn : Nat.blt d n = true) (next : WL r ops Q rest n ds ((d, u32 (a ||| b)) :: env) w0 ex bs) : WL r ops Q (⟨some d, .binOp .or t x y t', ty, pos, af, g⟩ :: rest) n ds env w0 ex bs := wl_still hg hdn rfl (od_or32 hx hy) next
theorem w32not {t : TypeId} {x : Operand} {a : W32} (hx : ev env x = some (u32 a)) (hg : wantE ops env g = some true) (hdn : Nat.blt d n = true) (next : WL r ops Q rest n ds ((d, u32 (~~~ a)) :: env) w0 ex bs) : WL r ops Q (⟨some d, .unOp .xor t x, ty, pos, af, g⟩ :: rest) n ds env w0 ex bs := wl_still hg hdn rfl (od_not32 hx) next
theorem w32cv {x : Operand} {c : UInt8} (hx : ev env x = some (v8 c)) (hg : wantE ops env g = some true) (hdn : Nat.blt d n = true) (next : WL r ops Q rest n ds ((d, u32 (ext8 c)) :: env) w0 ex bs) : WL r ops Q (⟨some d, .convert 5 110 x, ty, pos, af, g⟩ :: rest) n ds env w0 ex bs := wl_still hg hdn rfl (od_conv832 hx) next
end

/-! ### What is read -/
/-- A slice (not nil) whose elements, of one cell each, read so. -/
def Rd {α : Type} (f : α → Value) (w : World) (v : Value) (l : List α) : Prop :=
  ∃ b o c, v = .slice (some ⟨b, o, none⟩) l.length c ∧ l.length ≤ c ∧ ∀ i x, l[i]? = some x → w.cell? ⟨b, o + i, none⟩ = some (f x)

theorem Rd.ext {α : Type} {f : α → Value} {w w' : World} {v : Value} {l : List α} (h : Rd f w v l) (k : Ext w w') : Rd f w' v l := by
  obtain ⟨b, o, c, e, hc, hl⟩ := h
  refine ⟨b, o, c, e, hc, fun i x hx => ?_⟩
  have h1 := hl i x hx
  have hlt : b < w.heap.size := by
    rcases Nat.lt_or_ge b w.heap.size with h' | h'
    · exact h'
    · simp [World.cell?, Array.getElem?_eq_none h'] at h1
  rw [k.cell (p := ⟨b, o + i, none⟩) hlt]; exact h1

theorem cell_lt {w : World} {b o : Nat} {v : Value} (h1 : w.cell? ⟨b, o, none⟩ = some v) : b < w.heap.size := by
  rcases Nat.lt_or_ge b w.heap.size with h' | h'
  · exact h'
  · simp [World.cell?, Array.getElem?_eq_none h'] at h1

/-- Out of a private block. -/
theorem Hp.rd {α : Type} {f : α → Value} {w0 : World} {ex : List Nat} {w : World} {bs : Blks} (h : Hp w0 ex w bs) {j b o c : Nat} {cs : List Value} {T : TypeId} {l : List α} (hj : bs[j]? = some (b, cs, T)) (hc : l.length ≤ c)
    (hl : ∀ i x, l[i]? = some x → cs[o + i]? = some (f x)) : Rd f w (.slice (some ⟨b, o, none⟩) l.length c) l :=
  ⟨b, o, c, rfl, hc, fun i x hx => h.cell_blk hj (hl i x hx)⟩

/-- Out of what was there. -/
theorem Hp.rd_old {α : Type} {f : α → Value} {w0 : World} {w : World} {bs : Blks} (h : Hp w0 [] w bs) {v : Value} {l : List α} (hv : Rd f w0 v l) : Rd f w v l := hv.ext h.ext_all

/-- The program's two tables. -/
def startW : List W32 := [0x6a09e667, 0xbb67ae85, 0x3c6ef372, 0xa54ff53a, 0x510e527f, 0x9b05688c, 0x1f83d9ab, 0x5be0cd19]
def kW : List W32 := [
  0x428a2f98, 0x71374491, 0xb5c0fbcf, 0xe9b5dba5, 0x3956c25b, 0x59f111f1, 0x923f82a4, 0xab1c5ed5,
  0xd807aa98, 0x12835b01, 0x243185be, 0x550c7dc3, 0x72be5d74, 0x80deb1fe, 0x9bdc06a7, 0xc19bf174,
  0xe49b69c1, 0xefbe4786, 0x0fc19dc6, 0x240ca1cc, 0x2de92c6f, 0x4a7484aa, 0x5cb0a9dc, 0x76f988da,
  0x983e5152, 0xa831c66d, 0xb00327c8, 0xbf597fc7, 0xc6e00bf3, 0xd5a79147, 0x06ca6351, 0x14292967,
  0x27b70a85, 0x2e1b2138, 0x4d2c6dfc, 0x53380d13, 0x650a7354, 0x766a0abb, 0x81c2c92e, 0x92722c85,
  0xa2bfe8a1, 0xa81a664b, 0xc24b8b70, 0xc76c51a3, 0xd192e819, 0xd6990624, 0xf40e3585, 0x106aa070,
  0x19a4c116, 0x1e376c08, 0x2748774c, 0x34b0bcb5, 0x391c0cb3, 0x4ed8aa4a, 0x5b9cca4f, 0x682e6ff3,
  0x748f82ee, 0x78a5636f, 0x84c87814, 0x8cc70208, 0x90befffa, 0xa4506ceb, 0xbef9a3f7, 0xc67178f2]

def Laid (w : World) : Prop := (∀ i x, startW[i]? = some x → w.cell? ⟨0, i, none⟩ = some (u32 x)) ∧ (∀ i x, kW[i]? = some x → w.cell? ⟨1, i, none⟩ = some (u32 x))
theorem Laid.ext {w w' : World} (h : Laid w) (k : Ext w w') : Laid w' :=
  ⟨fun i x hx => by rw [k.cell (p := ⟨0, i, none⟩) (cell_lt (h.1 i x hx))]; exact h.1 i x hx, fun i x hx => by rw [k.cell (p := ⟨1, i, none⟩) (cell_lt (h.2 i x hx))]; exact h.2 i x hx⟩

/-! ### bits.RotateLeft32, rotated, word -/
def rotV (x : W32) (s : Nat) : W32 := (x <<< s) ||| (x >>> (32 - s))

theorem rot_calls (x : W32) (k : Int) (s : Nat) (hk : -32 < k ∧ k < 0) (hs : (k + 32).toNat = s) (w : World) : Fn 88 [u32 x, .int .i64 k] w (Quiet (u32 (rotV x s)) w) := by
  have hs' : k + 32 = (s : Int) := by omega
  have h0 : s < 32 := by omega
  refine fn_of (args := [u32 x, .int .i64 k]) Tryd.func88 rfl Tryd.ntmps88 rfl (Hp.start w) ?_
  repeat (first
    | (apply ws; exact rfl; exact rfl; exact rfl)
    | refine wc_seq ?_
    | refine wc_region ?_
    | refine wl_nil ?_
    | refine we_round ?_
    | refine we_then_wc ?_
    | (apply wi64; exact rfl; omega; omega; exact rfl; exact rfl)
    | (apply wfa; exact rfl; exact rfl; exact rfl; exact rfl)
    | (apply wct; exact rfl; omega; exact rfl; exact rfl)
    | (apply wcf; exact rfl; omega; exact rfl; exact rfl)
    | (apply wn; exact rfl; exact rfl)
    | (apply wlb (j := 0); exact rfl; exact rfl; exact rfl; exact rfl; exact rfl; exact rfl)
    | (apply wlb (j := 1); exact rfl; exact rfl; exact rfl; exact rfl; exact rfl; exact rfl)
    | (apply wlb (j := 2); exact rfl; exact rfl; exact rfl; exact rfl; exact rfl; exact rfl)
    | (apply wlb (j := 3); exact rfl; exact rfl; exact rfl; exact rfl; exact rfl; exact rfl)
    | (apply wln; exact rfl; exact rfl; exact rfl; exact rfl)
    | (apply wpu; exact rfl; exact rfl; exact rfl)
    | (apply wbx; exact rfl; exact rfl; exact rfl; intro _)
    | refine wc_block ?_
    | (apply wc_true; exact rfl)
    | (apply wc_false; exact rfl)
    | refine wc_skip ?_
    | refine wc_exit ?_
    | refine wc_ret ?_
    | refine we_then_exit ?_
    | refine we_then_ret ?_
    | refine we_in_normal ?_
    | refine we_in_ret ?_
    | refine we_in_here ?_
    | (apply we_in_there; exact rfl))
  refine wl_still rfl rfl rfl (od_conv rfl rfl rfl) ?_
  repeat (first
    | (apply ws; exact rfl; exact rfl; exact rfl)
    | refine wc_seq ?_
    | refine wc_region ?_
    | refine wl_nil ?_
    | refine we_round ?_
    | refine we_then_wc ?_
    | (apply wi64; exact rfl; omega; omega; exact rfl; exact rfl)
    | (apply wfa; exact rfl; exact rfl; exact rfl; exact rfl)
    | (apply wct; exact rfl; omega; exact rfl; exact rfl)
    | (apply wcf; exact rfl; omega; exact rfl; exact rfl)
    | (apply wn; exact rfl; exact rfl)
    | (apply wlb (j := 0); exact rfl; exact rfl; exact rfl; exact rfl; exact rfl; exact rfl)
    | (apply wlb (j := 1); exact rfl; exact rfl; exact rfl; exact rfl; exact rfl; exact rfl)
    | (apply wlb (j := 2); exact rfl; exact rfl; exact rfl; exact rfl; exact rfl; exact rfl)
    | (apply wlb (j := 3); exact rfl; exact rfl; exact rfl; exact rfl; exact rfl; exact rfl)
    | (apply wln; exact rfl; exact rfl; exact rfl; exact rfl)
    | (apply wpu; exact rfl; exact rfl; exact rfl)
    | (apply wbx; exact rfl; exact rfl; exact rfl; intro _)
    | refine wc_block ?_
    | (apply wc_true; exact rfl)
    | (apply wc_false; exact rfl)
    | refine wc_skip ?_
    | refine wc_exit ?_
    | refine wc_ret ?_
    | refine we_then_exit ?_
    | refine we_then_ret ?_
    | refine we_in_normal ?_
    | refine we_in_ret ?_
    | refine we_in_here ?_
    | (apply we_in_there; exact rfl))
  have hb : bitsV .and .u64 (IntKind.u64.wrap k) 31 = some (s : Int) := by
    have e1 : IntKind.u64.wrap k = k + 18446744073709551616 := by
      simp [IntKind.wrap, IntKind.bits, IntKind.signed]; omega
    rw [e1]
    have e2 : k + 18446744073709551616 = ((18446744073709551584 + s : Nat) : Int) := by omega
    rw [e2]
    show some (IntKind.u64.wrap (((BitVec.ofInt 64 ((18446744073709551584 + s : Nat) : Int) &&& BitVec.ofInt 64 31).toNat : Nat) : Int)) = _
    have e3 : (BitVec.ofInt 64 ((18446744073709551584 + s : Nat) : Int) &&& BitVec.ofInt 64 31) = BitVec.ofNat 64 s := by
      have : ∀ s : Fin 32, (BitVec.ofInt 64 ((18446744073709551584 + s.val : Nat) : Int) &&& BitVec.ofInt 64 31) = BitVec.ofNat 64 s.val := by decide
      exact this ⟨s, h0⟩
    rw [e3]
    simp only [BitVec.toNat_ofNat]
    have e4 : s % 2 ^ 64 = s := by omega
    rw [e4]
    simp [IntKind.wrap, IntKind.bits, IntKind.signed]; omega
  refine wl_still rfl rfl rfl (od_bits rfl rfl hb) ?_
  repeat (first
    | (apply ws; exact rfl; exact rfl; exact rfl)
    | refine wc_seq ?_
    | refine wc_region ?_
    | refine wl_nil ?_
    | refine we_round ?_
    | refine we_then_wc ?_
    | (apply wi64; exact rfl; omega; omega; exact rfl; exact rfl)
    | (apply wfa; exact rfl; exact rfl; exact rfl; exact rfl)
    | (apply wct; exact rfl; omega; exact rfl; exact rfl)
    | (apply wcf; exact rfl; omega; exact rfl; exact rfl)
    | (apply wn; exact rfl; exact rfl)
    | (apply wlb (j := 0); exact rfl; exact rfl; exact rfl; exact rfl; exact rfl; exact rfl)
    | (apply wlb (j := 1); exact rfl; exact rfl; exact rfl; exact rfl; exact rfl; exact rfl)
    | (apply wlb (j := 2); exact rfl; exact rfl; exact rfl; exact rfl; exact rfl; exact rfl)
    | (apply wlb (j := 3); exact rfl; exact rfl; exact rfl; exact rfl; exact rfl; exact rfl)
    | (apply wln; exact rfl; exact rfl; exact rfl; exact rfl)
    | (apply wpu; exact rfl; exact rfl; exact rfl)
    | (apply wbx; exact rfl; exact rfl; exact rfl; intro _)
    | refine wc_block ?_
    | (apply wc_true; exact rfl)
    | (apply wc_false; exact rfl)
    | refine wc_skip ?_
    | refine wc_exit ?_
    | refine wc_ret ?_
    | refine we_then_exit ?_
    | refine we_then_ret ?_
    | refine we_in_normal ?_
    | refine we_in_ret ?_
    | refine we_in_here ?_
    | (apply we_in_there; exact rfl))
  refine wl_still rfl rfl rfl (od_shl32 s rfl rfl (by omega)) ?_
  repeat (first
    | (apply ws; exact rfl; exact rfl; exact rfl)
    | refine wc_seq ?_
    | refine wc_region ?_
    | refine wl_nil ?_
    | refine we_round ?_
    | refine we_then_wc ?_
    | (apply wi64; exact rfl; omega; omega; exact rfl; exact rfl)
    | (apply wfa; exact rfl; exact rfl; exact rfl; exact rfl)
    | (apply wct; exact rfl; omega; exact rfl; exact rfl)
    | (apply wcf; exact rfl; omega; exact rfl; exact rfl)
    | (apply wn; exact rfl; exact rfl)
    | (apply wlb (j := 0); exact rfl; exact rfl; exact rfl; exact rfl; exact rfl; exact rfl)
    | (apply wlb (j := 1); exact rfl; exact rfl; exact rfl; exact rfl; exact rfl; exact rfl)
    | (apply wlb (j := 2); exact rfl; exact rfl; exact rfl; exact rfl; exact rfl; exact rfl)
    | (apply wlb (j := 3); exact rfl; exact rfl; exact rfl; exact rfl; exact rfl; exact rfl)
    | (apply wln; exact rfl; exact rfl; exact rfl; exact rfl)
    | (apply wpu; exact rfl; exact rfl; exact rfl)
    | (apply wbx; exact rfl; exact rfl; exact rfl; intro _)
    | refine wc_block ?_
    | (apply wc_true; exact rfl)
    | (apply wc_false; exact rfl)
    | refine wc_skip ?_
    | refine wc_exit ?_
    | refine wc_ret ?_
    | refine we_then_exit ?_
    | refine we_then_ret ?_
    | refine we_in_normal ?_
    | refine we_in_ret ?_
    | refine we_in_here ?_
    | (apply we_in_there; exact rfl))
  have hw : IntKind.u64.wrap (32 - (s : Int)) = ((32 - s : Nat) : Int) := by simp [IntKind.wrap, IntKind.bits, IntKind.signed]; omega
  rw [hw]
  refine wl_still rfl rfl rfl (od_shr32 (32 - s) rfl rfl (by omega)) ?_
  refine wl_still rfl rfl rfl (od_or32 rfl rfl) ?_
  repeat (first
    | (apply ws; exact rfl; exact rfl; exact rfl)
    | refine wc_seq ?_
    | refine wc_region ?_
    | refine wl_nil ?_
    | refine we_round ?_
    | refine we_then_wc ?_
    | (apply wi64; exact rfl; omega; omega; exact rfl; exact rfl)
    | (apply wfa; exact rfl; exact rfl; exact rfl; exact rfl)
    | (apply wct; exact rfl; omega; exact rfl; exact rfl)
    | (apply wcf; exact rfl; omega; exact rfl; exact rfl)
    | (apply wn; exact rfl; exact rfl)
    | (apply wlb (j := 0); exact rfl; exact rfl; exact rfl; exact rfl; exact rfl; exact rfl)
    | (apply wlb (j := 1); exact rfl; exact rfl; exact rfl; exact rfl; exact rfl; exact rfl)
    | (apply wlb (j := 2); exact rfl; exact rfl; exact rfl; exact rfl; exact rfl; exact rfl)
    | (apply wlb (j := 3); exact rfl; exact rfl; exact rfl; exact rfl; exact rfl; exact rfl)
    | (apply wln; exact rfl; exact rfl; exact rfl; exact rfl)
    | (apply wpu; exact rfl; exact rfl; exact rfl)
    | (apply wbx; exact rfl; exact rfl; exact rfl; intro _)
    | refine wc_block ?_
    | (apply wc_true; exact rfl)
    | (apply wc_false; exact rfl)
    | refine wc_skip ?_
    | refine wc_exit ?_
    | refine wc_ret ?_
    | refine we_then_exit ?_
    | refine we_then_ret ?_
    | refine we_in_normal ?_
    | refine we_in_ret ?_
    | refine we_in_here ?_
    | (apply we_in_there; exact rfl))
  exact we_ret1 (Or.inl rfl) rfl rfl fun w h => ⟨rfl, h.ext_all⟩

end Go.Proofs.YtielloijdkoeiaaDoor
