/-
  NARROWER THAN 'FOR EVERY INPUT', by the rows' own cells (each row's printed sentence says how): DuressEither: laid · DuressTwo: laid · ChainAddSpec: laid · ChainBuilt: laid · ChainEqual: laid · ChainChanged: laid · ChainParts: laid · DuressSpec: laid · DuressEitherSpec: laid · DuressRead: laid.
  DERIVED. THE GIVEN ROWS OF THIS SEAT. 10 by the template 'for every input the law returns true; each argument reads behind the call as it read before'; 0 by the template 'total and deterministic' (their statements: YtielloijdkoeiaaDoorTotals.lean).
  GIVEN WITH THE SEED: the statements are not yours to turn. If you find one false, say at which input.
  Laid BY PROGRAM, IN A SANDBOX (cutbox-rows.mjs): the forced cells as the released guide's own fill.sh prints them over the translation c22ec9d51d89ec85… (all of the seat's roots in one cut). By AI agents, Wed Nov 11 2026. No macro, syntax, notation, axiom, sorry.
-/
import Derived.Test.YtielloijdkoeiaaDoorChecked
import GoSem.Claim
import GoSem.ClaimJoined
import GoSem.ClaimMapViews
import Derived.JoinedTies
import Derived.KernelRfl
namespace Go.Proofs.YtielloijdkoeiaaDoor
/- THE CELL 'sum', in the pinned program and in every row, IS THE sha256 OF THE DUMP (.gsa) THAT YtielloijdkoeiaaDoorProg.lean LOADS. Nothing in Lean hashes anything: it is a label: what it is worth is what the hold of that sum in a sandbox is worth. -/
noncomputable def Tryd.pinned : Pinned := { name := "ytielloijdkoeiaadoor", sum := "c22ec9d51d89ec850898576243da03eef701ead4c9a9c3b9bf493547d41ad5f7", checked := Tryd.checked }
namespace Rows
def none {H : Type} : Left H := { results := [], args := [] }

/- WHAT THE LISTED PACKAGE-LEVEL VARIABLES READ AS WHEN THE CALL BEGINS. Each datum BY PROGRAM (the guide's laid-datum.mjs) off the statement by which the dump's own 'gosem.cut.vars' lays the variable. In a bare row this is a premise. The card (YtielloijdkoeiaaDoorCards.lean) ties it to the program's text. -/
def laid_signatory_digest_start {H : Type} : DataW H := .agg [.lit (.int .u32 1779033703), .lit (.int .u32 3144134277), .lit (.int .u32 1013904242), .lit (.int .u32 2773480762), .lit (.int .u32 1359893119), .lit (.int .u32 2600822924), .lit (.int .u32 528734635), .lit (.int .u32 1541459225)]
def laid_signatory_digest_numbers {H : Type} : DataW H := .agg [.lit (.int .u32 1116352408), .lit (.int .u32 1899447441), .lit (.int .u32 3049323471), .lit (.int .u32 3921009573), .lit (.int .u32 961987163), .lit (.int .u32 1508970993), .lit (.int .u32 2453635748), .lit (.int .u32 2870763221), .lit (.int .u32 3624381080), .lit (.int .u32 310598401), .lit (.int .u32 607225278), .lit (.int .u32 1426881987), .lit (.int .u32 1925078388), .lit (.int .u32 2162078206), .lit (.int .u32 2614888103), .lit (.int .u32 3248222580), .lit (.int .u32 3835390401), .lit (.int .u32 4022224774), .lit (.int .u32 264347078), .lit (.int .u32 604807628), .lit (.int .u32 770255983), .lit (.int .u32 1249150122), .lit (.int .u32 1555081692), .lit (.int .u32 1996064986), .lit (.int .u32 2554220882), .lit (.int .u32 2821834349), .lit (.int .u32 2952996808), .lit (.int .u32 3210313671), .lit (.int .u32 3336571891), .lit (.int .u32 3584528711), .lit (.int .u32 113926993), .lit (.int .u32 338241895), .lit (.int .u32 666307205), .lit (.int .u32 773529912), .lit (.int .u32 1294757372), .lit (.int .u32 1396182291), .lit (.int .u32 1695183700), .lit (.int .u32 1986661051), .lit (.int .u32 2177026350), .lit (.int .u32 2456956037), .lit (.int .u32 2730485921), .lit (.int .u32 2820302411), .lit (.int .u32 3259730800), .lit (.int .u32 3345764771), .lit (.int .u32 3516065817), .lit (.int .u32 3600352804), .lit (.int .u32 4094571909), .lit (.int .u32 275423344), .lit (.int .u32 430227734), .lit (.int .u32 506948616), .lit (.int .u32 659060556), .lit (.int .u32 883997877), .lit (.int .u32 958139571), .lit (.int .u32 1322822218), .lit (.int .u32 1537002063), .lit (.int .u32 1747873779), .lit (.int .u32 1955562222), .lit (.int .u32 2024104815), .lit (.int .u32 2227730452), .lit (.int .u32 2361852424), .lit (.int .u32 2428436474), .lit (.int .u32 2756734187), .lit (.int .u32 3204031479), .lit (.int .u32 3329325298)]

/-- 'signatorylaw47.DuressEither': WHATEVER THE INPUT: true; the input reads as it did. -/
def duressEitherSpec : ChangeSpec := { name := "duressEither", fn := fun _ => fun
  | [d1, d2, d3, d4] => { results := [.lit (.bool true)], args := [d1, d2, d3, d4] }
  | _ => none }
def duressEitherRow : OpenClaim := { program := "ytielloijdkoeiaadoor", sum := "c22ec9d51d89ec850898576243da03eef701ead4c9a9c3b9bf493547d41ad5f7", func := "signatory/signatorylaw47.DuressEither", spec := "duressEither", unfollowed := true, recurses := true, named := ["signatory/digest.start", "signatory/digest.numbers"], apart := false, laid := [("signatory/digest.start", laid_signatory_digest_start), ("signatory/digest.numbers", laid_signatory_digest_numbers)] }
def DuressEitherSaid : Prop := duressEitherRow.holds Tryd.pinned (OpenSpec.ofChange duressEitherSpec)

/-- ITS FALSE NEIGHBOUR: 'it returns false'. Refute it at one input. -/
def duressEitherWrong : ChangeSpec := { name := "duressEither", fn := fun _ => fun
  | [d1, d2, d3, d4] => { results := [.lit (.bool false)], args := [d1, d2, d3, d4] }
  | _ => none }
def DuressEitherWrongFalsely : Prop := duressEitherRow.holds Tryd.pinned (OpenSpec.ofChange duressEitherWrong)

/-- 'signatorylaw47.DuressTwo': WHATEVER THE INPUT: true; the input reads as it did. -/
def duressTwoSpec : ChangeSpec := { name := "duressTwo", fn := fun _ => fun
  | [d1, d2, d3, d4, d5, d6] => { results := [.lit (.bool true)], args := [d1, d2, d3, d4, d5, d6] }
  | _ => none }
def duressTwoRow : OpenClaim := { program := "ytielloijdkoeiaadoor", sum := "c22ec9d51d89ec850898576243da03eef701ead4c9a9c3b9bf493547d41ad5f7", func := "signatory/signatorylaw47.DuressTwo", spec := "duressTwo", unfollowed := true, recurses := true, named := ["signatory/digest.start", "signatory/digest.numbers"], apart := false, laid := [("signatory/digest.start", laid_signatory_digest_start), ("signatory/digest.numbers", laid_signatory_digest_numbers)] }
def DuressTwoSaid : Prop := duressTwoRow.holds Tryd.pinned (OpenSpec.ofChange duressTwoSpec)

/-- ITS FALSE NEIGHBOUR: 'it returns false'. Refute it at one input. -/
def duressTwoWrong : ChangeSpec := { name := "duressTwo", fn := fun _ => fun
  | [d1, d2, d3, d4, d5, d6] => { results := [.lit (.bool false)], args := [d1, d2, d3, d4, d5, d6] }
  | _ => none }
def DuressTwoWrongFalsely : Prop := duressTwoRow.holds Tryd.pinned (OpenSpec.ofChange duressTwoWrong)

/-- 'signatorylaw08.ChainAddSpec': WHATEVER THE INPUT: true; the input reads as it did. -/
def chainAddSpecSpec : ChangeSpec := { name := "chainAddSpec", fn := fun _ => fun
  | [d1, d2, d3, d4] => { results := [.lit (.bool true)], args := [d1, d2, d3, d4] }
  | _ => none }
def chainAddSpecRow : OpenClaim := { program := "ytielloijdkoeiaadoor", sum := "c22ec9d51d89ec850898576243da03eef701ead4c9a9c3b9bf493547d41ad5f7", func := "signatory/signatorylaw08.ChainAddSpec", spec := "chainAddSpec", unfollowed := true, recurses := true, named := ["signatory/digest.start", "signatory/digest.numbers"], apart := false, laid := [("signatory/digest.start", laid_signatory_digest_start), ("signatory/digest.numbers", laid_signatory_digest_numbers)] }
def ChainAddSpecSaid : Prop := chainAddSpecRow.holds Tryd.pinned (OpenSpec.ofChange chainAddSpecSpec)

/-- ITS FALSE NEIGHBOUR: 'it returns false'. Refute it at one input. -/
def chainAddSpecWrong : ChangeSpec := { name := "chainAddSpec", fn := fun _ => fun
  | [d1, d2, d3, d4] => { results := [.lit (.bool false)], args := [d1, d2, d3, d4] }
  | _ => none }
def ChainAddSpecWrongFalsely : Prop := chainAddSpecRow.holds Tryd.pinned (OpenSpec.ofChange chainAddSpecWrong)

/-- 'signatorylaw08.ChainBuilt': WHATEVER THE INPUT: true; the input reads as it did. -/
def chainBuiltSpec : ChangeSpec := { name := "chainBuilt", fn := fun _ => fun
  | [d1, d2] => { results := [.lit (.bool true)], args := [d1, d2] }
  | _ => none }
def chainBuiltRow : OpenClaim := { program := "ytielloijdkoeiaadoor", sum := "c22ec9d51d89ec850898576243da03eef701ead4c9a9c3b9bf493547d41ad5f7", func := "signatory/signatorylaw08.ChainBuilt", spec := "chainBuilt", unfollowed := true, recurses := true, named := ["signatory/digest.start", "signatory/digest.numbers"], apart := false, laid := [("signatory/digest.start", laid_signatory_digest_start), ("signatory/digest.numbers", laid_signatory_digest_numbers)] }
def ChainBuiltSaid : Prop := chainBuiltRow.holds Tryd.pinned (OpenSpec.ofChange chainBuiltSpec)

/-- ITS FALSE NEIGHBOUR: 'it returns false'. Refute it at one input. -/
def chainBuiltWrong : ChangeSpec := { name := "chainBuilt", fn := fun _ => fun
  | [d1, d2] => { results := [.lit (.bool false)], args := [d1, d2] }
  | _ => none }
def ChainBuiltWrongFalsely : Prop := chainBuiltRow.holds Tryd.pinned (OpenSpec.ofChange chainBuiltWrong)

/-- 'signatorylaw08.ChainEqual': WHATEVER THE INPUT: true; the input reads as it did. -/
def chainEqualSpec : ChangeSpec := { name := "chainEqual", fn := fun _ => fun
  | [d1, d2] => { results := [.lit (.bool true)], args := [d1, d2] }
  | _ => none }
def chainEqualRow : OpenClaim := { program := "ytielloijdkoeiaadoor", sum := "c22ec9d51d89ec850898576243da03eef701ead4c9a9c3b9bf493547d41ad5f7", func := "signatory/signatorylaw08.ChainEqual", spec := "chainEqual", unfollowed := true, recurses := true, named := ["signatory/digest.start", "signatory/digest.numbers"], apart := false, laid := [("signatory/digest.start", laid_signatory_digest_start), ("signatory/digest.numbers", laid_signatory_digest_numbers)] }
def ChainEqualSaid : Prop := chainEqualRow.holds Tryd.pinned (OpenSpec.ofChange chainEqualSpec)

/-- ITS FALSE NEIGHBOUR: 'it returns false'. Refute it at one input. -/
def chainEqualWrong : ChangeSpec := { name := "chainEqual", fn := fun _ => fun
  | [d1, d2] => { results := [.lit (.bool false)], args := [d1, d2] }
  | _ => none }
def ChainEqualWrongFalsely : Prop := chainEqualRow.holds Tryd.pinned (OpenSpec.ofChange chainEqualWrong)

/-- 'signatorylaw08.ChainChanged': WHATEVER THE INPUT: true; the input reads as it did. -/
def chainChangedSpec : ChangeSpec := { name := "chainChanged", fn := fun _ => fun
  | [d1, d2, d3] => { results := [.lit (.bool true)], args := [d1, d2, d3] }
  | _ => none }
def chainChangedRow : OpenClaim := { program := "ytielloijdkoeiaadoor", sum := "c22ec9d51d89ec850898576243da03eef701ead4c9a9c3b9bf493547d41ad5f7", func := "signatory/signatorylaw08.ChainChanged", spec := "chainChanged", unfollowed := true, recurses := true, named := ["signatory/digest.start", "signatory/digest.numbers"], apart := false, laid := [("signatory/digest.start", laid_signatory_digest_start), ("signatory/digest.numbers", laid_signatory_digest_numbers)] }
def ChainChangedSaid : Prop := chainChangedRow.holds Tryd.pinned (OpenSpec.ofChange chainChangedSpec)

/-- ITS FALSE NEIGHBOUR: 'it returns false'. Refute it at one input. -/
def chainChangedWrong : ChangeSpec := { name := "chainChanged", fn := fun _ => fun
  | [d1, d2, d3] => { results := [.lit (.bool false)], args := [d1, d2, d3] }
  | _ => none }
def ChainChangedWrongFalsely : Prop := chainChangedRow.holds Tryd.pinned (OpenSpec.ofChange chainChangedWrong)

/-- 'signatorylaw08.ChainParts': WHATEVER THE INPUT: true; the input reads as it did. -/
def chainPartsSpec : ChangeSpec := { name := "chainParts", fn := fun _ => fun
  | [d1, d2] => { results := [.lit (.bool true)], args := [d1, d2] }
  | _ => none }
def chainPartsRow : OpenClaim := { program := "ytielloijdkoeiaadoor", sum := "c22ec9d51d89ec850898576243da03eef701ead4c9a9c3b9bf493547d41ad5f7", func := "signatory/signatorylaw08.ChainParts", spec := "chainParts", unfollowed := true, recurses := true, named := ["signatory/digest.start", "signatory/digest.numbers"], apart := false, laid := [("signatory/digest.start", laid_signatory_digest_start), ("signatory/digest.numbers", laid_signatory_digest_numbers)] }
def ChainPartsSaid : Prop := chainPartsRow.holds Tryd.pinned (OpenSpec.ofChange chainPartsSpec)

/-- ITS FALSE NEIGHBOUR: 'it returns false'. Refute it at one input. -/
def chainPartsWrong : ChangeSpec := { name := "chainParts", fn := fun _ => fun
  | [d1, d2] => { results := [.lit (.bool false)], args := [d1, d2] }
  | _ => none }
def ChainPartsWrongFalsely : Prop := chainPartsRow.holds Tryd.pinned (OpenSpec.ofChange chainPartsWrong)

/-- 'signatorylaw47.DuressSpec': WHATEVER THE INPUT: true; the input reads as it did. -/
def duressSpecSpec : ChangeSpec := { name := "duressSpec", fn := fun _ => fun
  | [d1, d2, d3, d4, d5] => { results := [.lit (.bool true)], args := [d1, d2, d3, d4, d5] }
  | _ => none }
def duressSpecRow : OpenClaim := { program := "ytielloijdkoeiaadoor", sum := "c22ec9d51d89ec850898576243da03eef701ead4c9a9c3b9bf493547d41ad5f7", func := "signatory/signatorylaw47.DuressSpec", spec := "duressSpec", unfollowed := true, recurses := true, named := ["signatory/digest.start", "signatory/digest.numbers"], apart := false, laid := [("signatory/digest.start", laid_signatory_digest_start), ("signatory/digest.numbers", laid_signatory_digest_numbers)] }
def DuressSpecSaid : Prop := duressSpecRow.holds Tryd.pinned (OpenSpec.ofChange duressSpecSpec)

/-- ITS FALSE NEIGHBOUR: 'it returns false'. Refute it at one input. -/
def duressSpecWrong : ChangeSpec := { name := "duressSpec", fn := fun _ => fun
  | [d1, d2, d3, d4, d5] => { results := [.lit (.bool false)], args := [d1, d2, d3, d4, d5] }
  | _ => none }
def DuressSpecWrongFalsely : Prop := duressSpecRow.holds Tryd.pinned (OpenSpec.ofChange duressSpecWrong)

/-- 'signatorylaw47.DuressEitherSpec': WHATEVER THE INPUT: true; the input reads as it did. -/
def duressEitherSpecSpec : ChangeSpec := { name := "duressEitherSpec", fn := fun _ => fun
  | [d1, d2, d3, d4] => { results := [.lit (.bool true)], args := [d1, d2, d3, d4] }
  | _ => none }
def duressEitherSpecRow : OpenClaim := { program := "ytielloijdkoeiaadoor", sum := "c22ec9d51d89ec850898576243da03eef701ead4c9a9c3b9bf493547d41ad5f7", func := "signatory/signatorylaw47.DuressEitherSpec", spec := "duressEitherSpec", unfollowed := true, recurses := true, named := ["signatory/digest.start", "signatory/digest.numbers"], apart := false, laid := [("signatory/digest.start", laid_signatory_digest_start), ("signatory/digest.numbers", laid_signatory_digest_numbers)] }
def DuressEitherSpecSaid : Prop := duressEitherSpecRow.holds Tryd.pinned (OpenSpec.ofChange duressEitherSpecSpec)

/-- ITS FALSE NEIGHBOUR: 'it returns false'. Refute it at one input. -/
def duressEitherSpecWrong : ChangeSpec := { name := "duressEitherSpec", fn := fun _ => fun
  | [d1, d2, d3, d4] => { results := [.lit (.bool false)], args := [d1, d2, d3, d4] }
  | _ => none }
def DuressEitherSpecWrongFalsely : Prop := duressEitherSpecRow.holds Tryd.pinned (OpenSpec.ofChange duressEitherSpecWrong)

/-- 'signatorylaw47.DuressRead': WHATEVER THE INPUT: true; the input reads as it did. -/
def duressReadSpec : ChangeSpec := { name := "duressRead", fn := fun _ => fun
  | [d1, d2, d3, d4] => { results := [.lit (.bool true)], args := [d1, d2, d3, d4] }
  | _ => none }
def duressReadRow : OpenClaim := { program := "ytielloijdkoeiaadoor", sum := "c22ec9d51d89ec850898576243da03eef701ead4c9a9c3b9bf493547d41ad5f7", func := "signatory/signatorylaw47.DuressRead", spec := "duressRead", unfollowed := true, recurses := true, named := ["signatory/digest.start", "signatory/digest.numbers"], apart := false, laid := [("signatory/digest.start", laid_signatory_digest_start), ("signatory/digest.numbers", laid_signatory_digest_numbers)] }
def DuressReadSaid : Prop := duressReadRow.holds Tryd.pinned (OpenSpec.ofChange duressReadSpec)

/-- ITS FALSE NEIGHBOUR: 'it returns false'. Refute it at one input. -/
def duressReadWrong : ChangeSpec := { name := "duressRead", fn := fun _ => fun
  | [d1, d2, d3, d4] => { results := [.lit (.bool false)], args := [d1, d2, d3, d4] }
  | _ => none }
def DuressReadWrongFalsely : Prop := duressReadRow.holds Tryd.pinned (OpenSpec.ofChange duressReadWrong)

/- THE SECOND FORM. 'bulk': how many values and letters a reading holds, each counted each time it is reached (what is shared counts as often as it is met; a slice's spare places count too). A statement '..UptoSaid' is the law's where the arguments, and the package variables that the reading takes, are together of bulk at most 1048576: NARROWER than '..Said'. Prove '..Said' where nothing that the law and all that it calls make is longer than what came in: it says more and counts as full. Else prove '..UptoSaid'. A law counts once. -/
mutual
def uptoBulk {H : Type} : DataW H → Nat
  | .lit (.string bytes) => bytes.length + 1
  | .lit _ => 1
  | .nil => 1
  | .ptr d => uptoBulk d + 1
  | .slice elems spare => uptoBulkAll elems + uptoBulkAll spare + 1
  | .agg parts => uptoBulkAll parts + 1
  | .iface _ d => uptoBulk d + 1
  | .map entries => uptoBulkEntries entries + 1
  | .held _ => 1
def uptoBulkAll {H : Type} : List (DataW H) → Nat
  | [] => 0
  | d :: r => uptoBulk d + uptoBulkAll r
def uptoBulkEntries {H : Type} : List (Lit × DataW H) → Nat
  | [] => 0
  | x :: r => uptoBulkEntry x + uptoBulkEntries r
def uptoBulkEntry {H : Type} : Lit × DataW H → Nat
  | (.string bytes, d) => bytes.length + uptoBulk d + 1
  | (_, d) => uptoBulk d + 1
 end
def uptoSmall : (H : Type) → List (DataW H) → Bool := fun _ ds => decide (uptoBulkAll ds ≤ 1048576)
def OpenSpec.upto (s : _root_.Go.ChangeSpec) : _root_.Go.OpenSpec := { _root_.Go.OpenSpec.ofChange s with cond := some uptoSmall }

/-- 'signatorylaw47.DuressEither', WHERE WHAT IT READS IS OF BULK AT MOST 1048576: true; the input reads as it did. -/
def duressEitherUptoRow : OpenClaim := { program := "ytielloijdkoeiaadoor", sum := "c22ec9d51d89ec850898576243da03eef701ead4c9a9c3b9bf493547d41ad5f7", func := "signatory/signatorylaw47.DuressEither", spec := "duressEither", unfollowed := true, recurses := true, named := ["signatory/digest.start", "signatory/digest.numbers"], apart := false, laid := [("signatory/digest.start", laid_signatory_digest_start), ("signatory/digest.numbers", laid_signatory_digest_numbers)], narrowed := true }
def DuressEitherUptoSaid : Prop := duressEitherUptoRow.holds Tryd.pinned (OpenSpec.upto duressEitherSpec)

/-- 'signatorylaw47.DuressTwo', WHERE WHAT IT READS IS OF BULK AT MOST 1048576: true; the input reads as it did. -/
def duressTwoUptoRow : OpenClaim := { program := "ytielloijdkoeiaadoor", sum := "c22ec9d51d89ec850898576243da03eef701ead4c9a9c3b9bf493547d41ad5f7", func := "signatory/signatorylaw47.DuressTwo", spec := "duressTwo", unfollowed := true, recurses := true, named := ["signatory/digest.start", "signatory/digest.numbers"], apart := false, laid := [("signatory/digest.start", laid_signatory_digest_start), ("signatory/digest.numbers", laid_signatory_digest_numbers)], narrowed := true }
def DuressTwoUptoSaid : Prop := duressTwoUptoRow.holds Tryd.pinned (OpenSpec.upto duressTwoSpec)

/-- 'signatorylaw08.ChainAddSpec', WHERE WHAT IT READS IS OF BULK AT MOST 1048576: true; the input reads as it did. -/
def chainAddSpecUptoRow : OpenClaim := { program := "ytielloijdkoeiaadoor", sum := "c22ec9d51d89ec850898576243da03eef701ead4c9a9c3b9bf493547d41ad5f7", func := "signatory/signatorylaw08.ChainAddSpec", spec := "chainAddSpec", unfollowed := true, recurses := true, named := ["signatory/digest.start", "signatory/digest.numbers"], apart := false, laid := [("signatory/digest.start", laid_signatory_digest_start), ("signatory/digest.numbers", laid_signatory_digest_numbers)], narrowed := true }
def ChainAddSpecUptoSaid : Prop := chainAddSpecUptoRow.holds Tryd.pinned (OpenSpec.upto chainAddSpecSpec)

/-- 'signatorylaw08.ChainBuilt', WHERE WHAT IT READS IS OF BULK AT MOST 1048576: true; the input reads as it did. -/
def chainBuiltUptoRow : OpenClaim := { program := "ytielloijdkoeiaadoor", sum := "c22ec9d51d89ec850898576243da03eef701ead4c9a9c3b9bf493547d41ad5f7", func := "signatory/signatorylaw08.ChainBuilt", spec := "chainBuilt", unfollowed := true, recurses := true, named := ["signatory/digest.start", "signatory/digest.numbers"], apart := false, laid := [("signatory/digest.start", laid_signatory_digest_start), ("signatory/digest.numbers", laid_signatory_digest_numbers)], narrowed := true }
def ChainBuiltUptoSaid : Prop := chainBuiltUptoRow.holds Tryd.pinned (OpenSpec.upto chainBuiltSpec)

/-- 'signatorylaw08.ChainEqual', WHERE WHAT IT READS IS OF BULK AT MOST 1048576: true; the input reads as it did. -/
def chainEqualUptoRow : OpenClaim := { program := "ytielloijdkoeiaadoor", sum := "c22ec9d51d89ec850898576243da03eef701ead4c9a9c3b9bf493547d41ad5f7", func := "signatory/signatorylaw08.ChainEqual", spec := "chainEqual", unfollowed := true, recurses := true, named := ["signatory/digest.start", "signatory/digest.numbers"], apart := false, laid := [("signatory/digest.start", laid_signatory_digest_start), ("signatory/digest.numbers", laid_signatory_digest_numbers)], narrowed := true }
def ChainEqualUptoSaid : Prop := chainEqualUptoRow.holds Tryd.pinned (OpenSpec.upto chainEqualSpec)

/-- 'signatorylaw08.ChainChanged', WHERE WHAT IT READS IS OF BULK AT MOST 1048576: true; the input reads as it did. -/
def chainChangedUptoRow : OpenClaim := { program := "ytielloijdkoeiaadoor", sum := "c22ec9d51d89ec850898576243da03eef701ead4c9a9c3b9bf493547d41ad5f7", func := "signatory/signatorylaw08.ChainChanged", spec := "chainChanged", unfollowed := true, recurses := true, named := ["signatory/digest.start", "signatory/digest.numbers"], apart := false, laid := [("signatory/digest.start", laid_signatory_digest_start), ("signatory/digest.numbers", laid_signatory_digest_numbers)], narrowed := true }
def ChainChangedUptoSaid : Prop := chainChangedUptoRow.holds Tryd.pinned (OpenSpec.upto chainChangedSpec)

/-- 'signatorylaw08.ChainParts', WHERE WHAT IT READS IS OF BULK AT MOST 1048576: true; the input reads as it did. -/
def chainPartsUptoRow : OpenClaim := { program := "ytielloijdkoeiaadoor", sum := "c22ec9d51d89ec850898576243da03eef701ead4c9a9c3b9bf493547d41ad5f7", func := "signatory/signatorylaw08.ChainParts", spec := "chainParts", unfollowed := true, recurses := true, named := ["signatory/digest.start", "signatory/digest.numbers"], apart := false, laid := [("signatory/digest.start", laid_signatory_digest_start), ("signatory/digest.numbers", laid_signatory_digest_numbers)], narrowed := true }
def ChainPartsUptoSaid : Prop := chainPartsUptoRow.holds Tryd.pinned (OpenSpec.upto chainPartsSpec)

/-- 'signatorylaw47.DuressSpec', WHERE WHAT IT READS IS OF BULK AT MOST 1048576: true; the input reads as it did. -/
def duressSpecUptoRow : OpenClaim := { program := "ytielloijdkoeiaadoor", sum := "c22ec9d51d89ec850898576243da03eef701ead4c9a9c3b9bf493547d41ad5f7", func := "signatory/signatorylaw47.DuressSpec", spec := "duressSpec", unfollowed := true, recurses := true, named := ["signatory/digest.start", "signatory/digest.numbers"], apart := false, laid := [("signatory/digest.start", laid_signatory_digest_start), ("signatory/digest.numbers", laid_signatory_digest_numbers)], narrowed := true }
def DuressSpecUptoSaid : Prop := duressSpecUptoRow.holds Tryd.pinned (OpenSpec.upto duressSpecSpec)

/-- 'signatorylaw47.DuressEitherSpec', WHERE WHAT IT READS IS OF BULK AT MOST 1048576: true; the input reads as it did. -/
def duressEitherSpecUptoRow : OpenClaim := { program := "ytielloijdkoeiaadoor", sum := "c22ec9d51d89ec850898576243da03eef701ead4c9a9c3b9bf493547d41ad5f7", func := "signatory/signatorylaw47.DuressEitherSpec", spec := "duressEitherSpec", unfollowed := true, recurses := true, named := ["signatory/digest.start", "signatory/digest.numbers"], apart := false, laid := [("signatory/digest.start", laid_signatory_digest_start), ("signatory/digest.numbers", laid_signatory_digest_numbers)], narrowed := true }
def DuressEitherSpecUptoSaid : Prop := duressEitherSpecUptoRow.holds Tryd.pinned (OpenSpec.upto duressEitherSpecSpec)

/-- 'signatorylaw47.DuressRead', WHERE WHAT IT READS IS OF BULK AT MOST 1048576: true; the input reads as it did. -/
def duressReadUptoRow : OpenClaim := { program := "ytielloijdkoeiaadoor", sum := "c22ec9d51d89ec850898576243da03eef701ead4c9a9c3b9bf493547d41ad5f7", func := "signatory/signatorylaw47.DuressRead", spec := "duressRead", unfollowed := true, recurses := true, named := ["signatory/digest.start", "signatory/digest.numbers"], apart := false, laid := [("signatory/digest.start", laid_signatory_digest_start), ("signatory/digest.numbers", laid_signatory_digest_numbers)], narrowed := true }
def DuressReadUptoSaid : Prop := duressReadUptoRow.holds Tryd.pinned (OpenSpec.upto duressReadSpec)

end Rows
end Go.Proofs.YtielloijdkoeiaaDoor
