/-
  NARROWER THAN 'FOR EVERY INPUT', by the rows' own cells (each row's printed sentence says how): LedgerBytes: laid · LedgerPlays: laid.
  DERIVED. THE GIVEN ROWS OF THIS SEAT. 2 by the template 'for every input the law returns true; each argument reads behind the call as it read before'; 0 by the template 'total and deterministic' (their statements: YtomdanlljfikaaaGreatDoorTotals.lean).
  GIVEN WITH THE SEED: the statements are not yours to turn. If you find one false, say at which input.
  Laid BY PROGRAM, IN A SANDBOX (cutbox-rows.mjs): the forced cells as the released guide's own fill.sh prints them over the translation 33d00ad16a16a754… (all of the seat's roots in one cut). By AI agents, Wed Nov 11 2026. No macro, syntax, notation, axiom, sorry.
-/
import Derived.Test.YtomdanlljfikaaaGreatDoorChecked
import GoSem.Claim
import GoSem.ClaimJoined
import GoSem.ClaimMapViews
import Derived.JoinedTies
import Derived.KernelRfl
namespace Go.Proofs.YtomdanlljfikaaaGreatDoor
/- THE CELL 'sum', in the pinned program and in every row, IS THE sha256 OF THE DUMP (.gsa) THAT YtomdanlljfikaaaGreatDoorProg.lean LOADS. Nothing in Lean hashes anything: it is a label: what it is worth is what the hold of that sum in a sandbox is worth. -/
noncomputable def Tryz.pinned : Pinned := { name := "ytomdanlljfikaaagreatdoor", sum := "33d00ad16a16a7541ae46f8761f64c589b7f25f37ae21837c142ecdabee10697", checked := Tryz.checked }
namespace Rows
def none {H : Type} : Left H := { results := [], args := [] }

/- WHAT THE LISTED PACKAGE-LEVEL VARIABLES READ AS WHEN THE CALL BEGINS. Each datum BY PROGRAM (the guide's laid-datum.mjs) off the statement by which the dump's own 'gosem.cut.vars' lays the variable. In a bare row this is a premise. The card (YtomdanlljfikaaaGreatDoorCards.lean) ties it to the program's text. -/
def laid_quorate_api_ErrRange {H : Type} : DataW H := .iface "*errors.errorString" (.ptr (.agg [.lit (.string [113, 117, 111, 114, 97, 116, 101, 58, 32, 114, 97, 110, 103, 101])]))
def laid_quorate_api_ErrShort {H : Type} : DataW H := .iface "*errors.errorString" (.ptr (.agg [.lit (.string [113, 117, 111, 114, 97, 116, 101, 58, 32, 115, 104, 111, 114, 116])]))
def laid_quorate_api_ErrLong {H : Type} : DataW H := .iface "*errors.errorString" (.ptr (.agg [.lit (.string [113, 117, 111, 114, 97, 116, 101, 58, 32, 108, 111, 110, 103])]))
def laid_quorate_api_ErrForm {H : Type} : DataW H := .iface "*errors.errorString" (.ptr (.agg [.lit (.string [113, 117, 111, 114, 97, 116, 101, 58, 32, 102, 111, 114, 109])]))
def laid_quorate_api_ErrSpent {H : Type} : DataW H := .iface "*errors.errorString" (.ptr (.agg [.lit (.string [113, 117, 111, 114, 97, 116, 101, 58, 32, 115, 112, 101, 110, 116])]))
def laid_quorate_api_ErrPower {H : Type} : DataW H := .iface "*errors.errorString" (.ptr (.agg [.lit (.string [113, 117, 111, 114, 97, 116, 101, 58, 32, 112, 111, 119, 101, 114])]))
def laid_quorate_api_ErrDisk {H : Type} : DataW H := .iface "*errors.errorString" (.ptr (.agg [.lit (.string [113, 117, 111, 114, 97, 116, 101, 58, 32, 100, 105, 115, 107])]))
def laid_quorate_api_ErrFull {H : Type} : DataW H := .iface "*errors.errorString" (.ptr (.agg [.lit (.string [113, 117, 111, 114, 97, 116, 101, 58, 32, 102, 117, 108, 108])]))
def laid_quorate_api_ErrNone {H : Type} : DataW H := .iface "*errors.errorString" (.ptr (.agg [.lit (.string [113, 117, 111, 114, 97, 116, 101, 58, 32, 110, 111, 110, 101])]))
def laid_quorate_api_ErrOld {H : Type} : DataW H := .iface "*errors.errorString" (.ptr (.agg [.lit (.string [113, 117, 111, 114, 97, 116, 101, 58, 32, 111, 108, 100])]))
def laid_quorate_api_ErrSet {H : Type} : DataW H := .iface "*errors.errorString" (.ptr (.agg [.lit (.string [113, 117, 111, 114, 97, 116, 101, 58, 32, 115, 101, 116])]))
def laid_quorate_api_ErrProof {H : Type} : DataW H := .iface "*errors.errorString" (.ptr (.agg [.lit (.string [113, 117, 111, 114, 97, 116, 101, 58, 32, 112, 114, 111, 111, 102])]))
def laid_quorate_api_ErrLeader {H : Type} : DataW H := .iface "*errors.errorString" (.ptr (.agg [.lit (.string [113, 117, 111, 114, 97, 116, 101, 58, 32, 108, 101, 97, 100, 101, 114])]))
def laid_quorate_api_ErrRound {H : Type} : DataW H := .iface "*errors.errorString" (.ptr (.agg [.lit (.string [113, 117, 111, 114, 97, 116, 101, 58, 32, 114, 111, 117, 110, 100])]))
def laid_quorate_api_ErrUnsafe {H : Type} : DataW H := .iface "*errors.errorString" (.ptr (.agg [.lit (.string [113, 117, 111, 114, 97, 116, 101, 58, 32, 117, 110, 115, 97, 102, 101])]))
def laid_quorate_api_ErrParent {H : Type} : DataW H := .iface "*errors.errorString" (.ptr (.agg [.lit (.string [113, 117, 111, 114, 97, 116, 101, 58, 32, 112, 97, 114, 101, 110, 116])]))
def laid_quorate_api_ErrTwice {H : Type} : DataW H := .iface "*errors.errorString" (.ptr (.agg [.lit (.string [113, 117, 111, 114, 97, 116, 101, 58, 32, 116, 119, 105, 99, 101])]))
def laid_quorate_api_ErrEpoch {H : Type} : DataW H := .iface "*errors.errorString" (.ptr (.agg [.lit (.string [113, 117, 111, 114, 97, 116, 101, 58, 32, 101, 112, 111, 99, 104])]))
def laid_quorate_hash_constants {H : Type} : DataW H := .agg [.lit (.int .u32 1116352408), .lit (.int .u32 1899447441), .lit (.int .u32 3049323471), .lit (.int .u32 3921009573), .lit (.int .u32 961987163), .lit (.int .u32 1508970993), .lit (.int .u32 2453635748), .lit (.int .u32 2870763221), .lit (.int .u32 3624381080), .lit (.int .u32 310598401), .lit (.int .u32 607225278), .lit (.int .u32 1426881987), .lit (.int .u32 1925078388), .lit (.int .u32 2162078206), .lit (.int .u32 2614888103), .lit (.int .u32 3248222580), .lit (.int .u32 3835390401), .lit (.int .u32 4022224774), .lit (.int .u32 264347078), .lit (.int .u32 604807628), .lit (.int .u32 770255983), .lit (.int .u32 1249150122), .lit (.int .u32 1555081692), .lit (.int .u32 1996064986), .lit (.int .u32 2554220882), .lit (.int .u32 2821834349), .lit (.int .u32 2952996808), .lit (.int .u32 3210313671), .lit (.int .u32 3336571891), .lit (.int .u32 3584528711), .lit (.int .u32 113926993), .lit (.int .u32 338241895), .lit (.int .u32 666307205), .lit (.int .u32 773529912), .lit (.int .u32 1294757372), .lit (.int .u32 1396182291), .lit (.int .u32 1695183700), .lit (.int .u32 1986661051), .lit (.int .u32 2177026350), .lit (.int .u32 2456956037), .lit (.int .u32 2730485921), .lit (.int .u32 2820302411), .lit (.int .u32 3259730800), .lit (.int .u32 3345764771), .lit (.int .u32 3516065817), .lit (.int .u32 3600352804), .lit (.int .u32 4094571909), .lit (.int .u32 275423344), .lit (.int .u32 430227734), .lit (.int .u32 506948616), .lit (.int .u32 659060556), .lit (.int .u32 883997877), .lit (.int .u32 958139571), .lit (.int .u32 1322822218), .lit (.int .u32 1537002063), .lit (.int .u32 1747873779), .lit (.int .u32 1955562222), .lit (.int .u32 2024104815), .lit (.int .u32 2227730452), .lit (.int .u32 2361852424), .lit (.int .u32 2428436474), .lit (.int .u32 2756734187), .lit (.int .u32 3204031479), .lit (.int .u32 3329325298)]

/-- 'quoratelaw18.LedgerBytes': WHATEVER THE INPUT: true; the input reads as it did. -/
def ledgerBytesSpec : ChangeSpec := { name := "ledgerBytes", fn := fun _ => fun
  | [d1, d2, d3] => { results := [.lit (.bool true)], args := [d1, d2, d3] }
  | _ => none }
def ledgerBytesRow : OpenClaim := { program := "ytomdanlljfikaaagreatdoor", sum := "33d00ad16a16a7541ae46f8761f64c589b7f25f37ae21837c142ecdabee10697", func := "quorate/quoratelaw18.LedgerBytes", spec := "ledgerBytes", inPlace := ["internal/reflectlite.TypeOf"], unfollowed := true, recurses := true, named := ["quorate/api.ErrRange", "quorate/api.ErrPower", "quorate/hash.constants", "quorate/api.ErrForm", "quorate/api.ErrFull", "quorate/api.ErrProof", "quorate/api.ErrDisk", "quorate/api.ErrShort", "quorate/api.ErrLong", "quorate/api.ErrSpent", "quorate/api.ErrNone", "quorate/api.ErrOld", "quorate/api.ErrSet", "quorate/api.ErrLeader", "quorate/api.ErrRound", "quorate/api.ErrUnsafe", "quorate/api.ErrParent", "quorate/api.ErrTwice", "quorate/api.ErrEpoch"], apart := false, laid := [("quorate/api.ErrRange", laid_quorate_api_ErrRange), ("quorate/api.ErrShort", laid_quorate_api_ErrShort), ("quorate/api.ErrLong", laid_quorate_api_ErrLong), ("quorate/api.ErrForm", laid_quorate_api_ErrForm), ("quorate/api.ErrSpent", laid_quorate_api_ErrSpent), ("quorate/api.ErrPower", laid_quorate_api_ErrPower), ("quorate/api.ErrDisk", laid_quorate_api_ErrDisk), ("quorate/api.ErrFull", laid_quorate_api_ErrFull), ("quorate/api.ErrNone", laid_quorate_api_ErrNone), ("quorate/api.ErrOld", laid_quorate_api_ErrOld), ("quorate/api.ErrSet", laid_quorate_api_ErrSet), ("quorate/api.ErrProof", laid_quorate_api_ErrProof), ("quorate/api.ErrLeader", laid_quorate_api_ErrLeader), ("quorate/api.ErrRound", laid_quorate_api_ErrRound), ("quorate/api.ErrUnsafe", laid_quorate_api_ErrUnsafe), ("quorate/api.ErrParent", laid_quorate_api_ErrParent), ("quorate/api.ErrTwice", laid_quorate_api_ErrTwice), ("quorate/api.ErrEpoch", laid_quorate_api_ErrEpoch), ("quorate/hash.constants", laid_quorate_hash_constants)] }
def LedgerBytesSaid : Prop := ledgerBytesRow.holds Tryz.pinned (OpenSpec.ofChange ledgerBytesSpec)

/-- ITS FALSE NEIGHBOUR: 'it returns false'. Refute it at one input. -/
def ledgerBytesWrong : ChangeSpec := { name := "ledgerBytes", fn := fun _ => fun
  | [d1, d2, d3] => { results := [.lit (.bool false)], args := [d1, d2, d3] }
  | _ => none }
def LedgerBytesWrongFalsely : Prop := ledgerBytesRow.holds Tryz.pinned (OpenSpec.ofChange ledgerBytesWrong)

/-- 'quoratelaw18.LedgerPlays': WHATEVER THE INPUT: true; the input reads as it did. -/
def ledgerPlaysSpec : ChangeSpec := { name := "ledgerPlays", fn := fun _ => fun
  | [d1, d2, d3] => { results := [.lit (.bool true)], args := [d1, d2, d3] }
  | _ => none }
def ledgerPlaysRow : OpenClaim := { program := "ytomdanlljfikaaagreatdoor", sum := "33d00ad16a16a7541ae46f8761f64c589b7f25f37ae21837c142ecdabee10697", func := "quorate/quoratelaw18.LedgerPlays", spec := "ledgerPlays", inPlace := ["internal/reflectlite.TypeOf"], unfollowed := true, recurses := true, named := ["quorate/api.ErrRange", "quorate/api.ErrPower", "quorate/hash.constants", "quorate/api.ErrForm", "quorate/api.ErrFull", "quorate/api.ErrProof", "quorate/api.ErrDisk", "quorate/api.ErrShort", "quorate/api.ErrLong", "quorate/api.ErrSpent", "quorate/api.ErrNone", "quorate/api.ErrOld", "quorate/api.ErrSet", "quorate/api.ErrLeader", "quorate/api.ErrRound", "quorate/api.ErrUnsafe", "quorate/api.ErrParent", "quorate/api.ErrTwice", "quorate/api.ErrEpoch"], apart := false, laid := [("quorate/api.ErrRange", laid_quorate_api_ErrRange), ("quorate/api.ErrShort", laid_quorate_api_ErrShort), ("quorate/api.ErrLong", laid_quorate_api_ErrLong), ("quorate/api.ErrForm", laid_quorate_api_ErrForm), ("quorate/api.ErrSpent", laid_quorate_api_ErrSpent), ("quorate/api.ErrPower", laid_quorate_api_ErrPower), ("quorate/api.ErrDisk", laid_quorate_api_ErrDisk), ("quorate/api.ErrFull", laid_quorate_api_ErrFull), ("quorate/api.ErrNone", laid_quorate_api_ErrNone), ("quorate/api.ErrOld", laid_quorate_api_ErrOld), ("quorate/api.ErrSet", laid_quorate_api_ErrSet), ("quorate/api.ErrProof", laid_quorate_api_ErrProof), ("quorate/api.ErrLeader", laid_quorate_api_ErrLeader), ("quorate/api.ErrRound", laid_quorate_api_ErrRound), ("quorate/api.ErrUnsafe", laid_quorate_api_ErrUnsafe), ("quorate/api.ErrParent", laid_quorate_api_ErrParent), ("quorate/api.ErrTwice", laid_quorate_api_ErrTwice), ("quorate/api.ErrEpoch", laid_quorate_api_ErrEpoch), ("quorate/hash.constants", laid_quorate_hash_constants)] }
def LedgerPlaysSaid : Prop := ledgerPlaysRow.holds Tryz.pinned (OpenSpec.ofChange ledgerPlaysSpec)

/-- ITS FALSE NEIGHBOUR: 'it returns false'. Refute it at one input. -/
def ledgerPlaysWrong : ChangeSpec := { name := "ledgerPlays", fn := fun _ => fun
  | [d1, d2, d3] => { results := [.lit (.bool false)], args := [d1, d2, d3] }
  | _ => none }
def LedgerPlaysWrongFalsely : Prop := ledgerPlaysRow.holds Tryz.pinned (OpenSpec.ofChange ledgerPlaysWrong)

/- THE SECOND FORM. 'bulk': how many values and letters a reading holds, each counted each time it is reached (what is shared counts as often as it is met; a slice's spare places count too). A statement '..UptoSaid' is the law's where the arguments, and the package variables that the reading takes, are together of bulk at most 1048576: NARROWER than '..Said'. Prove '..Said' where nothing that the law and all that it calls make is longer than what came in: it says more and counts as full. Else prove '..UptoSaid'. A law counts once. -/
mutual
def uptoBulk {H : Type} : DataW H → Nat
  | .lit (.string bytes) => bytes.length + 1
  | .lit _ => 1
  | .nil => 1
  | .ptr d => uptoBulk d + 1
  | .slice elems spare => uptoBulkAll elems + uptoBulkAll spare + 1
  | .agg parts => uptoBulkAll parts + 1
  | .iface _ d => uptoBulk d + 1
  | .map entries => uptoBulkEntries entries + 1
  | .held _ => 1
def uptoBulkAll {H : Type} : List (DataW H) → Nat
  | [] => 0
  | d :: r => uptoBulk d + uptoBulkAll r
def uptoBulkEntries {H : Type} : List (Lit × DataW H) → Nat
  | [] => 0
  | x :: r => uptoBulkEntry x + uptoBulkEntries r
def uptoBulkEntry {H : Type} : Lit × DataW H → Nat
  | (.string bytes, d) => bytes.length + uptoBulk d + 1
  | (_, d) => uptoBulk d + 1
 end
def uptoSmall : (H : Type) → List (DataW H) → Bool := fun _ ds => decide (uptoBulkAll ds ≤ 1048576)
def OpenSpec.upto (s : _root_.Go.ChangeSpec) : _root_.Go.OpenSpec := { _root_.Go.OpenSpec.ofChange s with cond := some uptoSmall }

/-- 'quoratelaw18.LedgerBytes', WHERE WHAT IT READS IS OF BULK AT MOST 1048576: true; the input reads as it did. -/
def ledgerBytesUptoRow : OpenClaim := { program := "ytomdanlljfikaaagreatdoor", sum := "33d00ad16a16a7541ae46f8761f64c589b7f25f37ae21837c142ecdabee10697", func := "quorate/quoratelaw18.LedgerBytes", spec := "ledgerBytes", inPlace := ["internal/reflectlite.TypeOf"], unfollowed := true, recurses := true, named := ["quorate/api.ErrRange", "quorate/api.ErrPower", "quorate/hash.constants", "quorate/api.ErrForm", "quorate/api.ErrFull", "quorate/api.ErrProof", "quorate/api.ErrDisk", "quorate/api.ErrShort", "quorate/api.ErrLong", "quorate/api.ErrSpent", "quorate/api.ErrNone", "quorate/api.ErrOld", "quorate/api.ErrSet", "quorate/api.ErrLeader", "quorate/api.ErrRound", "quorate/api.ErrUnsafe", "quorate/api.ErrParent", "quorate/api.ErrTwice", "quorate/api.ErrEpoch"], apart := false, laid := [("quorate/api.ErrRange", laid_quorate_api_ErrRange), ("quorate/api.ErrShort", laid_quorate_api_ErrShort), ("quorate/api.ErrLong", laid_quorate_api_ErrLong), ("quorate/api.ErrForm", laid_quorate_api_ErrForm), ("quorate/api.ErrSpent", laid_quorate_api_ErrSpent), ("quorate/api.ErrPower", laid_quorate_api_ErrPower), ("quorate/api.ErrDisk", laid_quorate_api_ErrDisk), ("quorate/api.ErrFull", laid_quorate_api_ErrFull), ("quorate/api.ErrNone", laid_quorate_api_ErrNone), ("quorate/api.ErrOld", laid_quorate_api_ErrOld), ("quorate/api.ErrSet", laid_quorate_api_ErrSet), ("quorate/api.ErrProof", laid_quorate_api_ErrProof), ("quorate/api.ErrLeader", laid_quorate_api_ErrLeader), ("quorate/api.ErrRound", laid_quorate_api_ErrRound), ("quorate/api.ErrUnsafe", laid_quorate_api_ErrUnsafe), ("quorate/api.ErrParent", laid_quorate_api_ErrParent), ("quorate/api.ErrTwice", laid_quorate_api_ErrTwice), ("quorate/api.ErrEpoch", laid_quorate_api_ErrEpoch), ("quorate/hash.constants", laid_quorate_hash_constants)], narrowed := true }
def LedgerBytesUptoSaid : Prop := ledgerBytesUptoRow.holds Tryz.pinned (OpenSpec.upto ledgerBytesSpec)

/-- 'quoratelaw18.LedgerPlays', WHERE WHAT IT READS IS OF BULK AT MOST 1048576: true; the input reads as it did. -/
def ledgerPlaysUptoRow : OpenClaim := { program := "ytomdanlljfikaaagreatdoor", sum := "33d00ad16a16a7541ae46f8761f64c589b7f25f37ae21837c142ecdabee10697", func := "quorate/quoratelaw18.LedgerPlays", spec := "ledgerPlays", inPlace := ["internal/reflectlite.TypeOf"], unfollowed := true, recurses := true, named := ["quorate/api.ErrRange", "quorate/api.ErrPower", "quorate/hash.constants", "quorate/api.ErrForm", "quorate/api.ErrFull", "quorate/api.ErrProof", "quorate/api.ErrDisk", "quorate/api.ErrShort", "quorate/api.ErrLong", "quorate/api.ErrSpent", "quorate/api.ErrNone", "quorate/api.ErrOld", "quorate/api.ErrSet", "quorate/api.ErrLeader", "quorate/api.ErrRound", "quorate/api.ErrUnsafe", "quorate/api.ErrParent", "quorate/api.ErrTwice", "quorate/api.ErrEpoch"], apart := false, laid := [("quorate/api.ErrRange", laid_quorate_api_ErrRange), ("quorate/api.ErrShort", laid_quorate_api_ErrShort), ("quorate/api.ErrLong", laid_quorate_api_ErrLong), ("quorate/api.ErrForm", laid_quorate_api_ErrForm), ("quorate/api.ErrSpent", laid_quorate_api_ErrSpent), ("quorate/api.ErrPower", laid_quorate_api_ErrPower), ("quorate/api.ErrDisk", laid_quorate_api_ErrDisk), ("quorate/api.ErrFull", laid_quorate_api_ErrFull), ("quorate/api.ErrNone", laid_quorate_api_ErrNone), ("quorate/api.ErrOld", laid_quorate_api_ErrOld), ("quorate/api.ErrSet", laid_quorate_api_ErrSet), ("quorate/api.ErrProof", laid_quorate_api_ErrProof), ("quorate/api.ErrLeader", laid_quorate_api_ErrLeader), ("quorate/api.ErrRound", laid_quorate_api_ErrRound), ("quorate/api.ErrUnsafe", laid_quorate_api_ErrUnsafe), ("quorate/api.ErrParent", laid_quorate_api_ErrParent), ("quorate/api.ErrTwice", laid_quorate_api_ErrTwice), ("quorate/api.ErrEpoch", laid_quorate_api_ErrEpoch), ("quorate/hash.constants", laid_quorate_hash_constants)], narrowed := true }
def LedgerPlaysUptoSaid : Prop := ledgerPlaysUptoRow.holds Tryz.pinned (OpenSpec.upto ledgerPlaysSpec)

end Rows
end Go.Proofs.YtomdanlljfikaaaGreatDoor
