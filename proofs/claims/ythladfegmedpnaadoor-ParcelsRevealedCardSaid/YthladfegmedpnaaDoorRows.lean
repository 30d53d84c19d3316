/-
  NARROWER THAN 'FOR EVERY INPUT', by the rows' own cells (each row's printed sentence says how): EqualSpec: laid · EqualSound: laid · EqualProves: laid · EqualProduct: laid · EqualHash: laid · ParcelsSpec: laid · ParcelsBack: laid · ParcelsOpenSpec: laid · ParcelsShift: laid · ParcelsPoints: laid · ParcelsRevealed: laid.
  DERIVED. THE GIVEN ROWS OF THIS SEAT. 11 by the template 'for every input the law returns true; each argument reads behind the call as it read before'; 0 by the template 'total and deterministic' (their statements: YthladfegmedpnaaDoorTotals.lean).
  GIVEN WITH THE SEED: the statements are not yours to turn. If you find one false, say at which input.
  Laid BY PROGRAM, IN A SANDBOX (cutbox-rows.mjs): the forced cells as the released guide's own fill.sh prints them over the translation 4e38c51dc2b8ac0f… (all of the seat's roots in one cut). By AI agents, Wed Nov 11 2026. No macro, syntax, notation, axiom, sorry.
-/
import Derived.Test.YthladfegmedpnaaDoorChecked
import GoSem.Claim
import GoSem.ClaimJoined
import GoSem.ClaimMapViews
import Derived.JoinedTies
import Derived.KernelRfl
namespace Go.Proofs.YthladfegmedpnaaDoor
/- THE CELL 'sum', in the pinned program and in every row, IS THE sha256 OF THE DUMP (.gsa) THAT YthladfegmedpnaaDoorProg.lean LOADS. Nothing in Lean hashes anything: it is a label: what it is worth is what the hold of that sum in a sandbox is worth. -/
noncomputable def Tryd.pinned : Pinned := { name := "ythladfegmedpnaadoor", sum := "4e38c51dc2b8ac0f99560bbbcb3722524bc866e907b85ab21c046f931351ce98", checked := Tryd.checked }
namespace Rows
def none {H : Type} : Left H := { results := [], args := [] }

/- WHAT THE LISTED PACKAGE-LEVEL VARIABLES READ AS WHEN THE CALL BEGINS. Each datum BY PROGRAM (the guide's laid-datum.mjs) off the statement by which the dump's own 'gosem.cut.vars' lays the variable. In a bare row this is a premise. The card (YthladfegmedpnaaDoorCards.lean) ties it to the program's text. -/
def laid_signatory_digest_start {H : Type} : DataW H := .agg [.lit (.int .u32 1779033703), .lit (.int .u32 3144134277), .lit (.int .u32 1013904242), .lit (.int .u32 2773480762), .lit (.int .u32 1359893119), .lit (.int .u32 2600822924), .lit (.int .u32 528734635), .lit (.int .u32 1541459225)]
def laid_signatory_digest_numbers {H : Type} : DataW H := .agg [.lit (.int .u32 1116352408), .lit (.int .u32 1899447441), .lit (.int .u32 3049323471), .lit (.int .u32 3921009573), .lit (.int .u32 961987163), .lit (.int .u32 1508970993), .lit (.int .u32 2453635748), .lit (.int .u32 2870763221), .lit (.int .u32 3624381080), .lit (.int .u32 310598401), .lit (.int .u32 607225278), .lit (.int .u32 1426881987), .lit (.int .u32 1925078388), .lit (.int .u32 2162078206), .lit (.int .u32 2614888103), .lit (.int .u32 3248222580), .lit (.int .u32 3835390401), .lit (.int .u32 4022224774), .lit (.int .u32 264347078), .lit (.int .u32 604807628), .lit (.int .u32 770255983), .lit (.int .u32 1249150122), .lit (.int .u32 1555081692), .lit (.int .u32 1996064986), .lit (.int .u32 2554220882), .lit (.int .u32 2821834349), .lit (.int .u32 2952996808), .lit (.int .u32 3210313671), .lit (.int .u32 3336571891), .lit (.int .u32 3584528711), .lit (.int .u32 113926993), .lit (.int .u32 338241895), .lit (.int .u32 666307205), .lit (.int .u32 773529912), .lit (.int .u32 1294757372), .lit (.int .u32 1396182291), .lit (.int .u32 1695183700), .lit (.int .u32 1986661051), .lit (.int .u32 2177026350), .lit (.int .u32 2456956037), .lit (.int .u32 2730485921), .lit (.int .u32 2820302411), .lit (.int .u32 3259730800), .lit (.int .u32 3345764771), .lit (.int .u32 3516065817), .lit (.int .u32 3600352804), .lit (.int .u32 4094571909), .lit (.int .u32 275423344), .lit (.int .u32 430227734), .lit (.int .u32 506948616), .lit (.int .u32 659060556), .lit (.int .u32 883997877), .lit (.int .u32 958139571), .lit (.int .u32 1322822218), .lit (.int .u32 1537002063), .lit (.int .u32 1747873779), .lit (.int .u32 1955562222), .lit (.int .u32 2024104815), .lit (.int .u32 2227730452), .lit (.int .u32 2361852424), .lit (.int .u32 2428436474), .lit (.int .u32 2756734187), .lit (.int .u32 3204031479), .lit (.int .u32 3329325298)]

/-- 'signatorylaw12.EqualSpec': WHATEVER THE INPUT: true; the input reads as it did. -/
def equalSpecSpec : ChangeSpec := { name := "equalSpec", fn := fun _ => fun
  | [d1, d2, d3, d4, d5] => { results := [.lit (.bool true)], args := [d1, d2, d3, d4, d5] }
  | _ => none }
def equalSpecRow : OpenClaim := { program := "ythladfegmedpnaadoor", sum := "4e38c51dc2b8ac0f99560bbbcb3722524bc866e907b85ab21c046f931351ce98", func := "signatory/signatorylaw12.EqualSpec", spec := "equalSpec", unfollowed := true, recurses := true, named := ["signatory/digest.start", "signatory/digest.numbers"], apart := false, laid := [("signatory/digest.start", laid_signatory_digest_start), ("signatory/digest.numbers", laid_signatory_digest_numbers)] }
def EqualSpecSaid : Prop := equalSpecRow.holds Tryd.pinned (OpenSpec.ofChange equalSpecSpec)

/-- ITS FALSE NEIGHBOUR: 'it returns false'. Refute it at one input. -/
def equalSpecWrong : ChangeSpec := { name := "equalSpec", fn := fun _ => fun
  | [d1, d2, d3, d4, d5] => { results := [.lit (.bool false)], args := [d1, d2, d3, d4, d5] }
  | _ => none }
def EqualSpecWrongFalsely : Prop := equalSpecRow.holds Tryd.pinned (OpenSpec.ofChange equalSpecWrong)

/-- 'signatorylaw12.EqualSound': WHATEVER THE INPUT: true; the input reads as it did. -/
def equalSoundSpec : ChangeSpec := { name := "equalSound", fn := fun _ => fun
  | [d1, d2, d3, d4, d5] => { results := [.lit (.bool true)], args := [d1, d2, d3, d4, d5] }
  | _ => none }
def equalSoundRow : OpenClaim := { program := "ythladfegmedpnaadoor", sum := "4e38c51dc2b8ac0f99560bbbcb3722524bc866e907b85ab21c046f931351ce98", func := "signatory/signatorylaw12.EqualSound", spec := "equalSound", unfollowed := true, recurses := true, named := ["signatory/digest.start", "signatory/digest.numbers"], apart := false, laid := [("signatory/digest.start", laid_signatory_digest_start), ("signatory/digest.numbers", laid_signatory_digest_numbers)] }
def EqualSoundSaid : Prop := equalSoundRow.holds Tryd.pinned (OpenSpec.ofChange equalSoundSpec)

/-- ITS FALSE NEIGHBOUR: 'it returns false'. Refute it at one input. -/
def equalSoundWrong : ChangeSpec := { name := "equalSound", fn := fun _ => fun
  | [d1, d2, d3, d4, d5] => { results := [.lit (.bool false)], args := [d1, d2, d3, d4, d5] }
  | _ => none }
def EqualSoundWrongFalsely : Prop := equalSoundRow.holds Tryd.pinned (OpenSpec.ofChange equalSoundWrong)

/-- 'signatorylaw12.EqualProves': WHATEVER THE INPUT: true; the input reads as it did. -/
def equalProvesSpec : ChangeSpec := { name := "equalProves", fn := fun _ => fun
  | [d1, d2, d3] => { results := [.lit (.bool true)], args := [d1, d2, d3] }
  | _ => none }
def equalProvesRow : OpenClaim := { program := "ythladfegmedpnaadoor", sum := "4e38c51dc2b8ac0f99560bbbcb3722524bc866e907b85ab21c046f931351ce98", func := "signatory/signatorylaw12.EqualProves", spec := "equalProves", unfollowed := true, recurses := true, named := ["signatory/digest.start", "signatory/digest.numbers"], apart := false, laid := [("signatory/digest.start", laid_signatory_digest_start), ("signatory/digest.numbers", laid_signatory_digest_numbers)] }
def EqualProvesSaid : Prop := equalProvesRow.holds Tryd.pinned (OpenSpec.ofChange equalProvesSpec)

/-- ITS FALSE NEIGHBOUR: 'it returns false'. Refute it at one input. -/
def equalProvesWrong : ChangeSpec := { name := "equalProves", fn := fun _ => fun
  | [d1, d2, d3] => { results := [.lit (.bool false)], args := [d1, d2, d3] }
  | _ => none }
def EqualProvesWrongFalsely : Prop := equalProvesRow.holds Tryd.pinned (OpenSpec.ofChange equalProvesWrong)

/-- 'signatorylaw12.EqualProduct': WHATEVER THE INPUT: true; the input reads as it did. -/
def equalProductSpec : ChangeSpec := { name := "equalProduct", fn := fun _ => fun
  | [d1, d2, d3] => { results := [.lit (.bool true)], args := [d1, d2, d3] }
  | _ => none }
def equalProductRow : OpenClaim := { program := "ythladfegmedpnaadoor", sum := "4e38c51dc2b8ac0f99560bbbcb3722524bc866e907b85ab21c046f931351ce98", func := "signatory/signatorylaw12.EqualProduct", spec := "equalProduct", unfollowed := true, recurses := true, named := ["signatory/digest.start", "signatory/digest.numbers"], apart := false, laid := [("signatory/digest.start", laid_signatory_digest_start), ("signatory/digest.numbers", laid_signatory_digest_numbers)] }
def EqualProductSaid : Prop := equalProductRow.holds Tryd.pinned (OpenSpec.ofChange equalProductSpec)

/-- ITS FALSE NEIGHBOUR: 'it returns false'. Refute it at one input. -/
def equalProductWrong : ChangeSpec := { name := "equalProduct", fn := fun _ => fun
  | [d1, d2, d3] => { results := [.lit (.bool false)], args := [d1, d2, d3] }
  | _ => none }
def EqualProductWrongFalsely : Prop := equalProductRow.holds Tryd.pinned (OpenSpec.ofChange equalProductWrong)

/-- 'signatorylaw12.EqualHash': WHATEVER THE INPUT: true; the input reads as it did. -/
def equalHashSpec : ChangeSpec := { name := "equalHash", fn := fun _ => fun
  | [d1, d2, d3, d4] => { results := [.lit (.bool true)], args := [d1, d2, d3, d4] }
  | _ => none }
def equalHashRow : OpenClaim := { program := "ythladfegmedpnaadoor", sum := "4e38c51dc2b8ac0f99560bbbcb3722524bc866e907b85ab21c046f931351ce98", func := "signatory/signatorylaw12.EqualHash", spec := "equalHash", unfollowed := true, recurses := true, named := ["signatory/digest.start", "signatory/digest.numbers"], apart := false, laid := [("signatory/digest.start", laid_signatory_digest_start), ("signatory/digest.numbers", laid_signatory_digest_numbers)] }
def EqualHashSaid : Prop := equalHashRow.holds Tryd.pinned (OpenSpec.ofChange equalHashSpec)

/-- ITS FALSE NEIGHBOUR: 'it returns false'. Refute it at one input. -/
def equalHashWrong : ChangeSpec := { name := "equalHash", fn := fun _ => fun
  | [d1, d2, d3, d4] => { results := [.lit (.bool false)], args := [d1, d2, d3, d4] }
  | _ => none }
def EqualHashWrongFalsely : Prop := equalHashRow.holds Tryd.pinned (OpenSpec.ofChange equalHashWrong)

/-- 'signatorylaw35.ParcelsSpec': WHATEVER THE INPUT: true; the input reads as it did. -/
def parcelsSpecSpec : ChangeSpec := { name := "parcelsSpec", fn := fun _ => fun
  | [d1, d2, d3, d4, d5] => { results := [.lit (.bool true)], args := [d1, d2, d3, d4, d5] }
  | _ => none }
def parcelsSpecRow : OpenClaim := { program := "ythladfegmedpnaadoor", sum := "4e38c51dc2b8ac0f99560bbbcb3722524bc866e907b85ab21c046f931351ce98", func := "signatory/signatorylaw35.ParcelsSpec", spec := "parcelsSpec", unfollowed := true, recurses := true, named := ["signatory/digest.start", "signatory/digest.numbers"], apart := false, laid := [("signatory/digest.start", laid_signatory_digest_start), ("signatory/digest.numbers", laid_signatory_digest_numbers)] }
def ParcelsSpecSaid : Prop := parcelsSpecRow.holds Tryd.pinned (OpenSpec.ofChange parcelsSpecSpec)

/-- ITS FALSE NEIGHBOUR: 'it returns false'. Refute it at one input. -/
def parcelsSpecWrong : ChangeSpec := { name := "parcelsSpec", fn := fun _ => fun
  | [d1, d2, d3, d4, d5] => { results := [.lit (.bool false)], args := [d1, d2, d3, d4, d5] }
  | _ => none }
def ParcelsSpecWrongFalsely : Prop := parcelsSpecRow.holds Tryd.pinned (OpenSpec.ofChange parcelsSpecWrong)

/-- 'signatorylaw35.ParcelsBack': WHATEVER THE INPUT: true; the input reads as it did. -/
def parcelsBackSpec : ChangeSpec := { name := "parcelsBack", fn := fun _ => fun
  | [d1, d2, d3, d4, d5] => { results := [.lit (.bool true)], args := [d1, d2, d3, d4, d5] }
  | _ => none }
def parcelsBackRow : OpenClaim := { program := "ythladfegmedpnaadoor", sum := "4e38c51dc2b8ac0f99560bbbcb3722524bc866e907b85ab21c046f931351ce98", func := "signatory/signatorylaw35.ParcelsBack", spec := "parcelsBack", unfollowed := true, recurses := true, named := ["signatory/digest.start", "signatory/digest.numbers"], apart := false, laid := [("signatory/digest.start", laid_signatory_digest_start), ("signatory/digest.numbers", laid_signatory_digest_numbers)] }
def ParcelsBackSaid : Prop := parcelsBackRow.holds Tryd.pinned (OpenSpec.ofChange parcelsBackSpec)

/-- ITS FALSE NEIGHBOUR: 'it returns false'. Refute it at one input. -/
def parcelsBackWrong : ChangeSpec := { name := "parcelsBack", fn := fun _ => fun
  | [d1, d2, d3, d4, d5] => { results := [.lit (.bool false)], args := [d1, d2, d3, d4, d5] }
  | _ => none }
def ParcelsBackWrongFalsely : Prop := parcelsBackRow.holds Tryd.pinned (OpenSpec.ofChange parcelsBackWrong)

/-- 'signatorylaw35.ParcelsOpenSpec': WHATEVER THE INPUT: true; the input reads as it did. -/
def parcelsOpenSpecSpec : ChangeSpec := { name := "parcelsOpenSpec", fn := fun _ => fun
  | [d1, d2, d3] => { results := [.lit (.bool true)], args := [d1, d2, d3] }
  | _ => none }
def parcelsOpenSpecRow : OpenClaim := { program := "ythladfegmedpnaadoor", sum := "4e38c51dc2b8ac0f99560bbbcb3722524bc866e907b85ab21c046f931351ce98", func := "signatory/signatorylaw35.ParcelsOpenSpec", spec := "parcelsOpenSpec", unfollowed := true, recurses := true, named := ["signatory/digest.start", "signatory/digest.numbers"], apart := false, laid := [("signatory/digest.start", laid_signatory_digest_start), ("signatory/digest.numbers", laid_signatory_digest_numbers)] }
def ParcelsOpenSpecSaid : Prop := parcelsOpenSpecRow.holds Tryd.pinned (OpenSpec.ofChange parcelsOpenSpecSpec)

/-- ITS FALSE NEIGHBOUR: 'it returns false'. Refute it at one input. -/
def parcelsOpenSpecWrong : ChangeSpec := { name := "parcelsOpenSpec", fn := fun _ => fun
  | [d1, d2, d3] => { results := [.lit (.bool false)], args := [d1, d2, d3] }
  | _ => none }
def ParcelsOpenSpecWrongFalsely : Prop := parcelsOpenSpecRow.holds Tryd.pinned (OpenSpec.ofChange parcelsOpenSpecWrong)

/-- 'signatorylaw35.ParcelsShift': WHATEVER THE INPUT: true; the input reads as it did. -/
def parcelsShiftSpec : ChangeSpec := { name := "parcelsShift", fn := fun _ => fun
  | [d1, d2, d3, d4, d5, d6] => { results := [.lit (.bool true)], args := [d1, d2, d3, d4, d5, d6] }
  | _ => none }
def parcelsShiftRow : OpenClaim := { program := "ythladfegmedpnaadoor", sum := "4e38c51dc2b8ac0f99560bbbcb3722524bc866e907b85ab21c046f931351ce98", func := "signatory/signatorylaw35.ParcelsShift", spec := "parcelsShift", unfollowed := true, recurses := true, named := ["signatory/digest.start", "signatory/digest.numbers"], apart := false, laid := [("signatory/digest.start", laid_signatory_digest_start), ("signatory/digest.numbers", laid_signatory_digest_numbers)] }
def ParcelsShiftSaid : Prop := parcelsShiftRow.holds Tryd.pinned (OpenSpec.ofChange parcelsShiftSpec)

/-- ITS FALSE NEIGHBOUR: 'it returns false'. Refute it at one input. -/
def parcelsShiftWrong : ChangeSpec := { name := "parcelsShift", fn := fun _ => fun
  | [d1, d2, d3, d4, d5, d6] => { results := [.lit (.bool false)], args := [d1, d2, d3, d4, d5, d6] }
  | _ => none }
def ParcelsShiftWrongFalsely : Prop := parcelsShiftRow.holds Tryd.pinned (OpenSpec.ofChange parcelsShiftWrong)

/-- 'signatorylaw35.ParcelsPoints': WHATEVER THE INPUT: true; the input reads as it did. -/
def parcelsPointsSpec : ChangeSpec := { name := "parcelsPoints", fn := fun _ => fun
  | [d1, d2, d3, d4, d5, d6] => { results := [.lit (.bool true)], args := [d1, d2, d3, d4, d5, d6] }
  | _ => none }
def parcelsPointsRow : OpenClaim := { program := "ythladfegmedpnaadoor", sum := "4e38c51dc2b8ac0f99560bbbcb3722524bc866e907b85ab21c046f931351ce98", func := "signatory/signatorylaw35.ParcelsPoints", spec := "parcelsPoints", unfollowed := true, recurses := true, named := ["signatory/digest.start", "signatory/digest.numbers"], apart := false, laid := [("signatory/digest.start", laid_signatory_digest_start), ("signatory/digest.numbers", laid_signatory_digest_numbers)] }
def ParcelsPointsSaid : Prop := parcelsPointsRow.holds Tryd.pinned (OpenSpec.ofChange parcelsPointsSpec)

/-- ITS FALSE NEIGHBOUR: 'it returns false'. Refute it at one input. -/
def parcelsPointsWrong : ChangeSpec := { name := "parcelsPoints", fn := fun _ => fun
  | [d1, d2, d3, d4, d5, d6] => { results := [.lit (.bool false)], args := [d1, d2, d3, d4, d5, d6] }
  | _ => none }
def ParcelsPointsWrongFalsely : Prop := parcelsPointsRow.holds Tryd.pinned (OpenSpec.ofChange parcelsPointsWrong)

/-- 'signatorylaw35.ParcelsRevealed': WHATEVER THE INPUT: true; the input reads as it did. -/
def parcelsRevealedSpec : ChangeSpec := { name := "parcelsRevealed", fn := fun _ => fun
  | [d1, d2, d3] => { results := [.lit (.bool true)], args := [d1, d2, d3] }
  | _ => none }
def parcelsRevealedRow : OpenClaim := { program := "ythladfegmedpnaadoor", sum := "4e38c51dc2b8ac0f99560bbbcb3722524bc866e907b85ab21c046f931351ce98", func := "signatory/signatorylaw35.ParcelsRevealed", spec := "parcelsRevealed", unfollowed := true, recurses := true, named := ["signatory/digest.start", "signatory/digest.numbers"], apart := false, laid := [("signatory/digest.start", laid_signatory_digest_start), ("signatory/digest.numbers", laid_signatory_digest_numbers)] }
def ParcelsRevealedSaid : Prop := parcelsRevealedRow.holds Tryd.pinned (OpenSpec.ofChange parcelsRevealedSpec)

/-- ITS FALSE NEIGHBOUR: 'it returns false'. Refute it at one input. -/
def parcelsRevealedWrong : ChangeSpec := { name := "parcelsRevealed", fn := fun _ => fun
  | [d1, d2, d3] => { results := [.lit (.bool false)], args := [d1, d2, d3] }
  | _ => none }
def ParcelsRevealedWrongFalsely : Prop := parcelsRevealedRow.holds Tryd.pinned (OpenSpec.ofChange parcelsRevealedWrong)

/- THE SECOND FORM. 'bulk': how many values and letters a reading holds, each counted each time it is reached (what is shared counts as often as it is met; a slice's spare places count too). A statement '..UptoSaid' is the law's where the arguments, and the package variables that the reading takes, are together of bulk at most 1048576: NARROWER than '..Said'. Prove '..Said' where nothing that the law and all that it calls make is longer than what came in: it says more and counts as full. Else prove '..UptoSaid'. A law counts once. -/
mutual
def uptoBulk {H : Type} : DataW H → Nat
  | .lit (.string bytes) => bytes.length + 1
  | .lit _ => 1
  | .nil => 1
  | .ptr d => uptoBulk d + 1
  | .slice elems spare => uptoBulkAll elems + uptoBulkAll spare + 1
  | .agg parts => uptoBulkAll parts + 1
  | .iface _ d => uptoBulk d + 1
  | .map entries => uptoBulkEntries entries + 1
  | .held _ => 1
def uptoBulkAll {H : Type} : List (DataW H) → Nat
  | [] => 0
  | d :: r => uptoBulk d + uptoBulkAll r
def uptoBulkEntries {H : Type} : List (Lit × DataW H) → Nat
  | [] => 0
  | x :: r => uptoBulkEntry x + uptoBulkEntries r
def uptoBulkEntry {H : Type} : Lit × DataW H → Nat
  | (.string bytes, d) => bytes.length + uptoBulk d + 1
  | (_, d) => uptoBulk d + 1
 end
def uptoSmall : (H : Type) → List (DataW H) → Bool := fun _ ds => decide (uptoBulkAll ds ≤ 1048576)
def OpenSpec.upto (s : _root_.Go.ChangeSpec) : _root_.Go.OpenSpec := { _root_.Go.OpenSpec.ofChange s with cond := some uptoSmall }

/-- 'signatorylaw12.EqualSpec', WHERE WHAT IT READS IS OF BULK AT MOST 1048576: true; the input reads as it did. -/
def equalSpecUptoRow : OpenClaim := { program := "ythladfegmedpnaadoor", sum := "4e38c51dc2b8ac0f99560bbbcb3722524bc866e907b85ab21c046f931351ce98", func := "signatory/signatorylaw12.EqualSpec", spec := "equalSpec", unfollowed := true, recurses := true, named := ["signatory/digest.start", "signatory/digest.numbers"], apart := false, laid := [("signatory/digest.start", laid_signatory_digest_start), ("signatory/digest.numbers", laid_signatory_digest_numbers)], narrowed := true }
def EqualSpecUptoSaid : Prop := equalSpecUptoRow.holds Tryd.pinned (OpenSpec.upto equalSpecSpec)

/-- 'signatorylaw12.EqualSound', WHERE WHAT IT READS IS OF BULK AT MOST 1048576: true; the input reads as it did. -/
def equalSoundUptoRow : OpenClaim := { program := "ythladfegmedpnaadoor", sum := "4e38c51dc2b8ac0f99560bbbcb3722524bc866e907b85ab21c046f931351ce98", func := "signatory/signatorylaw12.EqualSound", spec := "equalSound", unfollowed := true, recurses := true, named := ["signatory/digest.start", "signatory/digest.numbers"], apart := false, laid := [("signatory/digest.start", laid_signatory_digest_start), ("signatory/digest.numbers", laid_signatory_digest_numbers)], narrowed := true }
def EqualSoundUptoSaid : Prop := equalSoundUptoRow.holds Tryd.pinned (OpenSpec.upto equalSoundSpec)

/-- 'signatorylaw12.EqualProves', WHERE WHAT IT READS IS OF BULK AT MOST 1048576: true; the input reads as it did. -/
def equalProvesUptoRow : OpenClaim := { program := "ythladfegmedpnaadoor", sum := "4e38c51dc2b8ac0f99560bbbcb3722524bc866e907b85ab21c046f931351ce98", func := "signatory/signatorylaw12.EqualProves", spec := "equalProves", unfollowed := true, recurses := true, named := ["signatory/digest.start", "signatory/digest.numbers"], apart := false, laid := [("signatory/digest.start", laid_signatory_digest_start), ("signatory/digest.numbers", laid_signatory_digest_numbers)], narrowed := true }
def EqualProvesUptoSaid : Prop := equalProvesUptoRow.holds Tryd.pinned (OpenSpec.upto equalProvesSpec)

/-- 'signatorylaw12.EqualProduct', WHERE WHAT IT READS IS OF BULK AT MOST 1048576: true; the input reads as it did. -/
def equalProductUptoRow : OpenClaim := { program := "ythladfegmedpnaadoor", sum := "4e38c51dc2b8ac0f99560bbbcb3722524bc866e907b85ab21c046f931351ce98", func := "signatory/signatorylaw12.EqualProduct", spec := "equalProduct", unfollowed := true, recurses := true, named := ["signatory/digest.start", "signatory/digest.numbers"], apart := false, laid := [("signatory/digest.start", laid_signatory_digest_start), ("signatory/digest.numbers", laid_signatory_digest_numbers)], narrowed := true }
def EqualProductUptoSaid : Prop := equalProductUptoRow.holds Tryd.pinned (OpenSpec.upto equalProductSpec)

/-- 'signatorylaw12.EqualHash', WHERE WHAT IT READS IS OF BULK AT MOST 1048576: true; the input reads as it did. -/
def equalHashUptoRow : OpenClaim := { program := "ythladfegmedpnaadoor", sum := "4e38c51dc2b8ac0f99560bbbcb3722524bc866e907b85ab21c046f931351ce98", func := "signatory/signatorylaw12.EqualHash", spec := "equalHash", unfollowed := true, recurses := true, named := ["signatory/digest.start", "signatory/digest.numbers"], apart := false, laid := [("signatory/digest.start", laid_signatory_digest_start), ("signatory/digest.numbers", laid_signatory_digest_numbers)], narrowed := true }
def EqualHashUptoSaid : Prop := equalHashUptoRow.holds Tryd.pinned (OpenSpec.upto equalHashSpec)

/-- 'signatorylaw35.ParcelsSpec', WHERE WHAT IT READS IS OF BULK AT MOST 1048576: true; the input reads as it did. -/
def parcelsSpecUptoRow : OpenClaim := { program := "ythladfegmedpnaadoor", sum := "4e38c51dc2b8ac0f99560bbbcb3722524bc866e907b85ab21c046f931351ce98", func := "signatory/signatorylaw35.ParcelsSpec", spec := "parcelsSpec", unfollowed := true, recurses := true, named := ["signatory/digest.start", "signatory/digest.numbers"], apart := false, laid := [("signatory/digest.start", laid_signatory_digest_start), ("signatory/digest.numbers", laid_signatory_digest_numbers)], narrowed := true }
def ParcelsSpecUptoSaid : Prop := parcelsSpecUptoRow.holds Tryd.pinned (OpenSpec.upto parcelsSpecSpec)

/-- 'signatorylaw35.ParcelsBack', WHERE WHAT IT READS IS OF BULK AT MOST 1048576: true; the input reads as it did. -/
def parcelsBackUptoRow : OpenClaim := { program := "ythladfegmedpnaadoor", sum := "4e38c51dc2b8ac0f99560bbbcb3722524bc866e907b85ab21c046f931351ce98", func := "signatory/signatorylaw35.ParcelsBack", spec := "parcelsBack", unfollowed := true, recurses := true, named := ["signatory/digest.start", "signatory/digest.numbers"], apart := false, laid := [("signatory/digest.start", laid_signatory_digest_start), ("signatory/digest.numbers", laid_signatory_digest_numbers)], narrowed := true }
def ParcelsBackUptoSaid : Prop := parcelsBackUptoRow.holds Tryd.pinned (OpenSpec.upto parcelsBackSpec)

/-- 'signatorylaw35.ParcelsOpenSpec', WHERE WHAT IT READS IS OF BULK AT MOST 1048576: true; the input reads as it did. -/
def parcelsOpenSpecUptoRow : OpenClaim := { program := "ythladfegmedpnaadoor", sum := "4e38c51dc2b8ac0f99560bbbcb3722524bc866e907b85ab21c046f931351ce98", func := "signatory/signatorylaw35.ParcelsOpenSpec", spec := "parcelsOpenSpec", unfollowed := true, recurses := true, named := ["signatory/digest.start", "signatory/digest.numbers"], apart := false, laid := [("signatory/digest.start", laid_signatory_digest_start), ("signatory/digest.numbers", laid_signatory_digest_numbers)], narrowed := true }
def ParcelsOpenSpecUptoSaid : Prop := parcelsOpenSpecUptoRow.holds Tryd.pinned (OpenSpec.upto parcelsOpenSpecSpec)

/-- 'signatorylaw35.ParcelsShift', WHERE WHAT IT READS IS OF BULK AT MOST 1048576: true; the input reads as it did. -/
def parcelsShiftUptoRow : OpenClaim := { program := "ythladfegmedpnaadoor", sum := "4e38c51dc2b8ac0f99560bbbcb3722524bc866e907b85ab21c046f931351ce98", func := "signatory/signatorylaw35.ParcelsShift", spec := "parcelsShift", unfollowed := true, recurses := true, named := ["signatory/digest.start", "signatory/digest.numbers"], apart := false, laid := [("signatory/digest.start", laid_signatory_digest_start), ("signatory/digest.numbers", laid_signatory_digest_numbers)], narrowed := true }
def ParcelsShiftUptoSaid : Prop := parcelsShiftUptoRow.holds Tryd.pinned (OpenSpec.upto parcelsShiftSpec)

/-- 'signatorylaw35.ParcelsPoints', WHERE WHAT IT READS IS OF BULK AT MOST 1048576: true; the input reads as it did. -/
def parcelsPointsUptoRow : OpenClaim := { program := "ythladfegmedpnaadoor", sum := "4e38c51dc2b8ac0f99560bbbcb3722524bc866e907b85ab21c046f931351ce98", func := "signatory/signatorylaw35.ParcelsPoints", spec := "parcelsPoints", unfollowed := true, recurses := true, named := ["signatory/digest.start", "signatory/digest.numbers"], apart := false, laid := [("signatory/digest.start", laid_signatory_digest_start), ("signatory/digest.numbers", laid_signatory_digest_numbers)], narrowed := true }
def ParcelsPointsUptoSaid : Prop := parcelsPointsUptoRow.holds Tryd.pinned (OpenSpec.upto parcelsPointsSpec)

/-- 'signatorylaw35.ParcelsRevealed', WHERE WHAT IT READS IS OF BULK AT MOST 1048576: true; the input reads as it did. -/
def parcelsRevealedUptoRow : OpenClaim := { program := "ythladfegmedpnaadoor", sum := "4e38c51dc2b8ac0f99560bbbcb3722524bc866e907b85ab21c046f931351ce98", func := "signatory/signatorylaw35.ParcelsRevealed", spec := "parcelsRevealed", unfollowed := true, recurses := true, named := ["signatory/digest.start", "signatory/digest.numbers"], apart := false, laid := [("signatory/digest.start", laid_signatory_digest_start), ("signatory/digest.numbers", laid_signatory_digest_numbers)], narrowed := true }
def ParcelsRevealedUptoSaid : Prop := parcelsRevealedUptoRow.holds Tryd.pinned (OpenSpec.upto parcelsRevealedSpec)

end Rows
end Go.Proofs.YthladfegmedpnaaDoor
