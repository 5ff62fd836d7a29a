/-
  NARROWER THAN 'FOR EVERY INPUT', by the rows' own cells (each row's printed sentence says how): DiskKeeps: laid · DiskLast: laid · DiskAsks: laid · DiskPower: laid · DiskPlays: laid.
  DERIVED. THE GIVEN ROWS OF THIS SEAT. 5 by the template 'for every input the law returns true; each argument reads behind the call as it read before'; 0 by the template 'total and deterministic' (their statements: YtapcnajfbippmaaDoorTotals.lean).
  GIVEN WITH THE SEED: the statements are not yours to turn. If you find one false, say at which input.
  Laid BY PROGRAM, IN A SANDBOX (cutbox-rows.mjs): the forced cells as the released guide's own fill.sh prints them over the translation 041be5567006f916… (all of the seat's roots in one cut). By AI agents, Wed Nov 11 2026. No macro, syntax, notation, axiom, sorry.
-/
import Derived.Test.YtapcnajfbippmaaDoorChecked
import GoSem.Claim
import GoSem.ClaimJoined
import GoSem.ClaimMapViews
import Derived.JoinedTies
import Derived.KernelRfl
namespace Go.Proofs.YtapcnajfbippmaaDoor
/- THE CELL 'sum', in the pinned program and in every row, IS THE sha256 OF THE DUMP (.gsa) THAT YtapcnajfbippmaaDoorProg.lean LOADS. Nothing in Lean hashes anything: it is a label: what it is worth is what the hold of that sum in a sandbox is worth. -/
noncomputable def Tryd.pinned : Pinned := { name := "ytapcnajfbippmaadoor", sum := "041be5567006f9164a11fe5fe853ab0609114a1e58a91005382a55b77b35cee1", checked := Tryd.checked }
namespace Rows
def none {H : Type} : Left H := { results := [], args := [] }

/- WHAT THE LISTED PACKAGE-LEVEL VARIABLES READ AS WHEN THE CALL BEGINS. Each datum BY PROGRAM (the guide's laid-datum.mjs) off the statement by which the dump's own 'gosem.cut.vars' lays the variable. In a bare row this is a premise. The card (YtapcnajfbippmaaDoorCards.lean) ties it to the program's text. -/
def laid_quorate_api_ErrRange {H : Type} : DataW H := .iface "*errors.errorString" (.ptr (.agg [.lit (.string [113, 117, 111, 114, 97, 116, 101, 58, 32, 114, 97, 110, 103, 101])]))
def laid_quorate_api_ErrPower {H : Type} : DataW H := .iface "*errors.errorString" (.ptr (.agg [.lit (.string [113, 117, 111, 114, 97, 116, 101, 58, 32, 112, 111, 119, 101, 114])]))
def laid_quorate_api_ErrShort {H : Type} : DataW H := .iface "*errors.errorString" (.ptr (.agg [.lit (.string [113, 117, 111, 114, 97, 116, 101, 58, 32, 115, 104, 111, 114, 116])]))
def laid_quorate_api_ErrLong {H : Type} : DataW H := .iface "*errors.errorString" (.ptr (.agg [.lit (.string [113, 117, 111, 114, 97, 116, 101, 58, 32, 108, 111, 110, 103])]))
def laid_quorate_api_ErrForm {H : Type} : DataW H := .iface "*errors.errorString" (.ptr (.agg [.lit (.string [113, 117, 111, 114, 97, 116, 101, 58, 32, 102, 111, 114, 109])]))
def laid_quorate_api_ErrSpent {H : Type} : DataW H := .iface "*errors.errorString" (.ptr (.agg [.lit (.string [113, 117, 111, 114, 97, 116, 101, 58, 32, 115, 112, 101, 110, 116])]))
def laid_quorate_api_ErrDisk {H : Type} : DataW H := .iface "*errors.errorString" (.ptr (.agg [.lit (.string [113, 117, 111, 114, 97, 116, 101, 58, 32, 100, 105, 115, 107])]))
def laid_quorate_api_ErrFull {H : Type} : DataW H := .iface "*errors.errorString" (.ptr (.agg [.lit (.string [113, 117, 111, 114, 97, 116, 101, 58, 32, 102, 117, 108, 108])]))
def laid_quorate_api_ErrNone {H : Type} : DataW H := .iface "*errors.errorString" (.ptr (.agg [.lit (.string [113, 117, 111, 114, 97, 116, 101, 58, 32, 110, 111, 110, 101])]))
def laid_quorate_api_ErrOld {H : Type} : DataW H := .iface "*errors.errorString" (.ptr (.agg [.lit (.string [113, 117, 111, 114, 97, 116, 101, 58, 32, 111, 108, 100])]))
def laid_quorate_api_ErrSet {H : Type} : DataW H := .iface "*errors.errorString" (.ptr (.agg [.lit (.string [113, 117, 111, 114, 97, 116, 101, 58, 32, 115, 101, 116])]))
def laid_quorate_api_ErrProof {H : Type} : DataW H := .iface "*errors.errorString" (.ptr (.agg [.lit (.string [113, 117, 111, 114, 97, 116, 101, 58, 32, 112, 114, 111, 111, 102])]))
def laid_quorate_api_ErrLeader {H : Type} : DataW H := .iface "*errors.errorString" (.ptr (.agg [.lit (.string [113, 117, 111, 114, 97, 116, 101, 58, 32, 108, 101, 97, 100, 101, 114])]))
def laid_quorate_api_ErrRound {H : Type} : DataW H := .iface "*errors.errorString" (.ptr (.agg [.lit (.string [113, 117, 111, 114, 97, 116, 101, 58, 32, 114, 111, 117, 110, 100])]))
def laid_quorate_api_ErrUnsafe {H : Type} : DataW H := .iface "*errors.errorString" (.ptr (.agg [.lit (.string [113, 117, 111, 114, 97, 116, 101, 58, 32, 117, 110, 115, 97, 102, 101])]))
def laid_quorate_api_ErrParent {H : Type} : DataW H := .iface "*errors.errorString" (.ptr (.agg [.lit (.string [113, 117, 111, 114, 97, 116, 101, 58, 32, 112, 97, 114, 101, 110, 116])]))
def laid_quorate_api_ErrTwice {H : Type} : DataW H := .iface "*errors.errorString" (.ptr (.agg [.lit (.string [113, 117, 111, 114, 97, 116, 101, 58, 32, 116, 119, 105, 99, 101])]))
def laid_quorate_api_ErrEpoch {H : Type} : DataW H := .iface "*errors.errorString" (.ptr (.agg [.lit (.string [113, 117, 111, 114, 97, 116, 101, 58, 32, 101, 112, 111, 99, 104])]))

/-- 'quoratelaw06.DiskKeeps': WHATEVER THE INPUT: true; the input reads as it did. -/
def diskKeepsSpec : ChangeSpec := { name := "diskKeeps", fn := fun _ => fun
  | [d1, d2, d3] => { results := [.lit (.bool true)], args := [d1, d2, d3] }
  | _ => none }
def diskKeepsRow : OpenClaim := { program := "ytapcnajfbippmaadoor", sum := "041be5567006f9164a11fe5fe853ab0609114a1e58a91005382a55b77b35cee1", func := "quorate/quoratelaw06.DiskKeeps", spec := "diskKeeps", unfollowed := true, recurses := true, named := ["quorate/api.ErrRange", "quorate/api.ErrPower"], apart := false, laid := [("quorate/api.ErrRange", laid_quorate_api_ErrRange), ("quorate/api.ErrPower", laid_quorate_api_ErrPower)] }
def DiskKeepsSaid : Prop := diskKeepsRow.holds Tryd.pinned (OpenSpec.ofChange diskKeepsSpec)

/-- ITS FALSE NEIGHBOUR: 'it returns false'. Refute it at one input. -/
def diskKeepsWrong : ChangeSpec := { name := "diskKeeps", fn := fun _ => fun
  | [d1, d2, d3] => { results := [.lit (.bool false)], args := [d1, d2, d3] }
  | _ => none }
def DiskKeepsWrongFalsely : Prop := diskKeepsRow.holds Tryd.pinned (OpenSpec.ofChange diskKeepsWrong)

/-- 'quoratelaw06.DiskLast': WHATEVER THE INPUT: true; the input reads as it did. -/
def diskLastSpec : ChangeSpec := { name := "diskLast", fn := fun _ => fun
  | [d1, d2, d3] => { results := [.lit (.bool true)], args := [d1, d2, d3] }
  | _ => none }
def diskLastRow : OpenClaim := { program := "ytapcnajfbippmaadoor", sum := "041be5567006f9164a11fe5fe853ab0609114a1e58a91005382a55b77b35cee1", func := "quorate/quoratelaw06.DiskLast", spec := "diskLast", unfollowed := true, recurses := true, named := ["quorate/api.ErrRange", "quorate/api.ErrPower"], apart := false, laid := [("quorate/api.ErrRange", laid_quorate_api_ErrRange), ("quorate/api.ErrPower", laid_quorate_api_ErrPower)] }
def DiskLastSaid : Prop := diskLastRow.holds Tryd.pinned (OpenSpec.ofChange diskLastSpec)

/-- ITS FALSE NEIGHBOUR: 'it returns false'. Refute it at one input. -/
def diskLastWrong : ChangeSpec := { name := "diskLast", fn := fun _ => fun
  | [d1, d2, d3] => { results := [.lit (.bool false)], args := [d1, d2, d3] }
  | _ => none }
def DiskLastWrongFalsely : Prop := diskLastRow.holds Tryd.pinned (OpenSpec.ofChange diskLastWrong)

/-- 'quoratelaw06.DiskAsks': WHATEVER THE INPUT: true; the input reads as it did. -/
def diskAsksSpec : ChangeSpec := { name := "diskAsks", fn := fun _ => fun
  | [d1, d2] => { results := [.lit (.bool true)], args := [d1, d2] }
  | _ => none }
def diskAsksRow : OpenClaim := { program := "ytapcnajfbippmaadoor", sum := "041be5567006f9164a11fe5fe853ab0609114a1e58a91005382a55b77b35cee1", func := "quorate/quoratelaw06.DiskAsks", spec := "diskAsks", unfollowed := true, recurses := true, named := ["quorate/api.ErrRange", "quorate/api.ErrPower"], apart := false, laid := [("quorate/api.ErrRange", laid_quorate_api_ErrRange), ("quorate/api.ErrPower", laid_quorate_api_ErrPower)] }
def DiskAsksSaid : Prop := diskAsksRow.holds Tryd.pinned (OpenSpec.ofChange diskAsksSpec)

/-- ITS FALSE NEIGHBOUR: 'it returns false'. Refute it at one input. -/
def diskAsksWrong : ChangeSpec := { name := "diskAsks", fn := fun _ => fun
  | [d1, d2] => { results := [.lit (.bool false)], args := [d1, d2] }
  | _ => none }
def DiskAsksWrongFalsely : Prop := diskAsksRow.holds Tryd.pinned (OpenSpec.ofChange diskAsksWrong)

/-- 'quoratelaw06.DiskPower': WHATEVER THE INPUT: true; the input reads as it did. -/
def diskPowerSpec : ChangeSpec := { name := "diskPower", fn := fun _ => fun
  | [d1, d2] => { results := [.lit (.bool true)], args := [d1, d2] }
  | _ => none }
def diskPowerRow : OpenClaim := { program := "ytapcnajfbippmaadoor", sum := "041be5567006f9164a11fe5fe853ab0609114a1e58a91005382a55b77b35cee1", func := "quorate/quoratelaw06.DiskPower", spec := "diskPower", inPlace := ["internal/reflectlite.TypeOf"], unfollowed := true, recurses := true, named := ["quorate/api.ErrRange", "quorate/api.ErrPower", "quorate/api.ErrShort", "quorate/api.ErrLong", "quorate/api.ErrForm", "quorate/api.ErrSpent", "quorate/api.ErrDisk", "quorate/api.ErrFull", "quorate/api.ErrNone", "quorate/api.ErrOld", "quorate/api.ErrSet", "quorate/api.ErrProof", "quorate/api.ErrLeader", "quorate/api.ErrRound", "quorate/api.ErrUnsafe", "quorate/api.ErrParent", "quorate/api.ErrTwice", "quorate/api.ErrEpoch"], apart := false, laid := [("quorate/api.ErrRange", laid_quorate_api_ErrRange), ("quorate/api.ErrShort", laid_quorate_api_ErrShort), ("quorate/api.ErrLong", laid_quorate_api_ErrLong), ("quorate/api.ErrForm", laid_quorate_api_ErrForm), ("quorate/api.ErrSpent", laid_quorate_api_ErrSpent), ("quorate/api.ErrPower", laid_quorate_api_ErrPower), ("quorate/api.ErrDisk", laid_quorate_api_ErrDisk), ("quorate/api.ErrFull", laid_quorate_api_ErrFull), ("quorate/api.ErrNone", laid_quorate_api_ErrNone), ("quorate/api.ErrOld", laid_quorate_api_ErrOld), ("quorate/api.ErrSet", laid_quorate_api_ErrSet), ("quorate/api.ErrProof", laid_quorate_api_ErrProof), ("quorate/api.ErrLeader", laid_quorate_api_ErrLeader), ("quorate/api.ErrRound", laid_quorate_api_ErrRound), ("quorate/api.ErrUnsafe", laid_quorate_api_ErrUnsafe), ("quorate/api.ErrParent", laid_quorate_api_ErrParent), ("quorate/api.ErrTwice", laid_quorate_api_ErrTwice), ("quorate/api.ErrEpoch", laid_quorate_api_ErrEpoch)] }
def DiskPowerSaid : Prop := diskPowerRow.holds Tryd.pinned (OpenSpec.ofChange diskPowerSpec)

/-- ITS FALSE NEIGHBOUR: 'it returns false'. Refute it at one input. -/
def diskPowerWrong : ChangeSpec := { name := "diskPower", fn := fun _ => fun
  | [d1, d2] => { results := [.lit (.bool false)], args := [d1, d2] }
  | _ => none }
def DiskPowerWrongFalsely : Prop := diskPowerRow.holds Tryd.pinned (OpenSpec.ofChange diskPowerWrong)

/-- 'quoratelaw06.DiskPlays': WHATEVER THE INPUT: true; the input reads as it did. -/
def diskPlaysSpec : ChangeSpec := { name := "diskPlays", fn := fun _ => fun
  | [d1, d2] => { results := [.lit (.bool true)], args := [d1, d2] }
  | _ => none }
def diskPlaysRow : OpenClaim := { program := "ytapcnajfbippmaadoor", sum := "041be5567006f9164a11fe5fe853ab0609114a1e58a91005382a55b77b35cee1", func := "quorate/quoratelaw06.DiskPlays", spec := "diskPlays", inPlace := ["internal/reflectlite.TypeOf"], unfollowed := true, recurses := true, named := ["quorate/api.ErrRange", "quorate/api.ErrPower", "quorate/api.ErrShort", "quorate/api.ErrLong", "quorate/api.ErrForm", "quorate/api.ErrSpent", "quorate/api.ErrDisk", "quorate/api.ErrFull", "quorate/api.ErrNone", "quorate/api.ErrOld", "quorate/api.ErrSet", "quorate/api.ErrProof", "quorate/api.ErrLeader", "quorate/api.ErrRound", "quorate/api.ErrUnsafe", "quorate/api.ErrParent", "quorate/api.ErrTwice", "quorate/api.ErrEpoch"], apart := false, laid := [("quorate/api.ErrRange", laid_quorate_api_ErrRange), ("quorate/api.ErrShort", laid_quorate_api_ErrShort), ("quorate/api.ErrLong", laid_quorate_api_ErrLong), ("quorate/api.ErrForm", laid_quorate_api_ErrForm), ("quorate/api.ErrSpent", laid_quorate_api_ErrSpent), ("quorate/api.ErrPower", laid_quorate_api_ErrPower), ("quorate/api.ErrDisk", laid_quorate_api_ErrDisk), ("quorate/api.ErrFull", laid_quorate_api_ErrFull), ("quorate/api.ErrNone", laid_quorate_api_ErrNone), ("quorate/api.ErrOld", laid_quorate_api_ErrOld), ("quorate/api.ErrSet", laid_quorate_api_ErrSet), ("quorate/api.ErrProof", laid_quorate_api_ErrProof), ("quorate/api.ErrLeader", laid_quorate_api_ErrLeader), ("quorate/api.ErrRound", laid_quorate_api_ErrRound), ("quorate/api.ErrUnsafe", laid_quorate_api_ErrUnsafe), ("quorate/api.ErrParent", laid_quorate_api_ErrParent), ("quorate/api.ErrTwice", laid_quorate_api_ErrTwice), ("quorate/api.ErrEpoch", laid_quorate_api_ErrEpoch)] }
def DiskPlaysSaid : Prop := diskPlaysRow.holds Tryd.pinned (OpenSpec.ofChange diskPlaysSpec)

/-- ITS FALSE NEIGHBOUR: 'it returns false'. Refute it at one input. -/
def diskPlaysWrong : ChangeSpec := { name := "diskPlays", fn := fun _ => fun
  | [d1, d2] => { results := [.lit (.bool false)], args := [d1, d2] }
  | _ => none }
def DiskPlaysWrongFalsely : Prop := diskPlaysRow.holds Tryd.pinned (OpenSpec.ofChange diskPlaysWrong)

/- THE SECOND FORM. 'bulk': how many values and letters a reading holds, each counted each time it is reached (what is shared counts as often as it is met; a slice's spare places count too). A statement '..UptoSaid' is the law's where the arguments, and the package variables that the reading takes, are together of bulk at most 1048576: NARROWER than '..Said'. Prove '..Said' where nothing that the law and all that it calls make is longer than what came in: it says more and counts as full. Else prove '..UptoSaid'. A law counts once. -/
mutual
def uptoBulk {H : Type} : DataW H → Nat
  | .lit (.string bytes) => bytes.length + 1
  | .lit _ => 1
  | .nil => 1
  | .ptr d => uptoBulk d + 1
  | .slice elems spare => uptoBulkAll elems + uptoBulkAll spare + 1
  | .agg parts => uptoBulkAll parts + 1
  | .iface _ d => uptoBulk d + 1
  | .map entries => uptoBulkEntries entries + 1
  | .held _ => 1
def uptoBulkAll {H : Type} : List (DataW H) → Nat
  | [] => 0
  | d :: r => uptoBulk d + uptoBulkAll r
def uptoBulkEntries {H : Type} : List (Lit × DataW H) → Nat
  | [] => 0
  | x :: r => uptoBulkEntry x + uptoBulkEntries r
def uptoBulkEntry {H : Type} : Lit × DataW H → Nat
  | (.string bytes, d) => bytes.length + uptoBulk d + 1
  | (_, d) => uptoBulk d + 1
 end
def uptoSmall : (H : Type) → List (DataW H) → Bool := fun _ ds => decide (uptoBulkAll ds ≤ 1048576)
def OpenSpec.upto (s : _root_.Go.ChangeSpec) : _root_.Go.OpenSpec := { _root_.Go.OpenSpec.ofChange s with cond := some uptoSmall }

/-- 'quoratelaw06.DiskKeeps', WHERE WHAT IT READS IS OF BULK AT MOST 1048576: true; the input reads as it did. -/
def diskKeepsUptoRow : OpenClaim := { program := "ytapcnajfbippmaadoor", sum := "041be5567006f9164a11fe5fe853ab0609114a1e58a91005382a55b77b35cee1", func := "quorate/quoratelaw06.DiskKeeps", spec := "diskKeeps", unfollowed := true, recurses := true, named := ["quorate/api.ErrRange", "quorate/api.ErrPower"], apart := false, laid := [("quorate/api.ErrRange", laid_quorate_api_ErrRange), ("quorate/api.ErrPower", laid_quorate_api_ErrPower)], narrowed := true }
def DiskKeepsUptoSaid : Prop := diskKeepsUptoRow.holds Tryd.pinned (OpenSpec.upto diskKeepsSpec)

/-- 'quoratelaw06.DiskLast', WHERE WHAT IT READS IS OF BULK AT MOST 1048576: true; the input reads as it did. -/
def diskLastUptoRow : OpenClaim := { program := "ytapcnajfbippmaadoor", sum := "041be5567006f9164a11fe5fe853ab0609114a1e58a91005382a55b77b35cee1", func := "quorate/quoratelaw06.DiskLast", spec := "diskLast", unfollowed := true, recurses := true, named := ["quorate/api.ErrRange", "quorate/api.ErrPower"], apart := false, laid := [("quorate/api.ErrRange", laid_quorate_api_ErrRange), ("quorate/api.ErrPower", laid_quorate_api_ErrPower)], narrowed := true }
def DiskLastUptoSaid : Prop := diskLastUptoRow.holds Tryd.pinned (OpenSpec.upto diskLastSpec)

/-- 'quoratelaw06.DiskAsks', WHERE WHAT IT READS IS OF BULK AT MOST 1048576: true; the input reads as it did. -/
def diskAsksUptoRow : OpenClaim := { program := "ytapcnajfbippmaadoor", sum := "041be5567006f9164a11fe5fe853ab0609114a1e58a91005382a55b77b35cee1", func := "quorate/quoratelaw06.DiskAsks", spec := "diskAsks", unfollowed := true, recurses := true, named := ["quorate/api.ErrRange", "quorate/api.ErrPower"], apart := false, laid := [("quorate/api.ErrRange", laid_quorate_api_ErrRange), ("quorate/api.ErrPower", laid_quorate_api_ErrPower)], narrowed := true }
def DiskAsksUptoSaid : Prop := diskAsksUptoRow.holds Tryd.pinned (OpenSpec.upto diskAsksSpec)

/-- 'quoratelaw06.DiskPower', WHERE WHAT IT READS IS OF BULK AT MOST 1048576: true; the input reads as it did. -/
def diskPowerUptoRow : OpenClaim := { program := "ytapcnajfbippmaadoor", sum := "041be5567006f9164a11fe5fe853ab0609114a1e58a91005382a55b77b35cee1", func := "quorate/quoratelaw06.DiskPower", spec := "diskPower", inPlace := ["internal/reflectlite.TypeOf"], unfollowed := true, recurses := true, named := ["quorate/api.ErrRange", "quorate/api.ErrPower", "quorate/api.ErrShort", "quorate/api.ErrLong", "quorate/api.ErrForm", "quorate/api.ErrSpent", "quorate/api.ErrDisk", "quorate/api.ErrFull", "quorate/api.ErrNone", "quorate/api.ErrOld", "quorate/api.ErrSet", "quorate/api.ErrProof", "quorate/api.ErrLeader", "quorate/api.ErrRound", "quorate/api.ErrUnsafe", "quorate/api.ErrParent", "quorate/api.ErrTwice", "quorate/api.ErrEpoch"], apart := false, laid := [("quorate/api.ErrRange", laid_quorate_api_ErrRange), ("quorate/api.ErrShort", laid_quorate_api_ErrShort), ("quorate/api.ErrLong", laid_quorate_api_ErrLong), ("quorate/api.ErrForm", laid_quorate_api_ErrForm), ("quorate/api.ErrSpent", laid_quorate_api_ErrSpent), ("quorate/api.ErrPower", laid_quorate_api_ErrPower), ("quorate/api.ErrDisk", laid_quorate_api_ErrDisk), ("quorate/api.ErrFull", laid_quorate_api_ErrFull), ("quorate/api.ErrNone", laid_quorate_api_ErrNone), ("quorate/api.ErrOld", laid_quorate_api_ErrOld), ("quorate/api.ErrSet", laid_quorate_api_ErrSet), ("quorate/api.ErrProof", laid_quorate_api_ErrProof), ("quorate/api.ErrLeader", laid_quorate_api_ErrLeader), ("quorate/api.ErrRound", laid_quorate_api_ErrRound), ("quorate/api.ErrUnsafe", laid_quorate_api_ErrUnsafe), ("quorate/api.ErrParent", laid_quorate_api_ErrParent), ("quorate/api.ErrTwice", laid_quorate_api_ErrTwice), ("quorate/api.ErrEpoch", laid_quorate_api_ErrEpoch)], narrowed := true }
def DiskPowerUptoSaid : Prop := diskPowerUptoRow.holds Tryd.pinned (OpenSpec.upto diskPowerSpec)

/-- 'quoratelaw06.DiskPlays', WHERE WHAT IT READS IS OF BULK AT MOST 1048576: true; the input reads as it did. -/
def diskPlaysUptoRow : OpenClaim := { program := "ytapcnajfbippmaadoor", sum := "041be5567006f9164a11fe5fe853ab0609114a1e58a91005382a55b77b35cee1", func := "quorate/quoratelaw06.DiskPlays", spec := "diskPlays", inPlace := ["internal/reflectlite.TypeOf"], unfollowed := true, recurses := true, named := ["quorate/api.ErrRange", "quorate/api.ErrPower", "quorate/api.ErrShort", "quorate/api.ErrLong", "quorate/api.ErrForm", "quorate/api.ErrSpent", "quorate/api.ErrDisk", "quorate/api.ErrFull", "quorate/api.ErrNone", "quorate/api.ErrOld", "quorate/api.ErrSet", "quorate/api.ErrProof", "quorate/api.ErrLeader", "quorate/api.ErrRound", "quorate/api.ErrUnsafe", "quorate/api.ErrParent", "quorate/api.ErrTwice", "quorate/api.ErrEpoch"], apart := false, laid := [("quorate/api.ErrRange", laid_quorate_api_ErrRange), ("quorate/api.ErrShort", laid_quorate_api_ErrShort), ("quorate/api.ErrLong", laid_quorate_api_ErrLong), ("quorate/api.ErrForm", laid_quorate_api_ErrForm), ("quorate/api.ErrSpent", laid_quorate_api_ErrSpent), ("quorate/api.ErrPower", laid_quorate_api_ErrPower), ("quorate/api.ErrDisk", laid_quorate_api_ErrDisk), ("quorate/api.ErrFull", laid_quorate_api_ErrFull), ("quorate/api.ErrNone", laid_quorate_api_ErrNone), ("quorate/api.ErrOld", laid_quorate_api_ErrOld), ("quorate/api.ErrSet", laid_quorate_api_ErrSet), ("quorate/api.ErrProof", laid_quorate_api_ErrProof), ("quorate/api.ErrLeader", laid_quorate_api_ErrLeader), ("quorate/api.ErrRound", laid_quorate_api_ErrRound), ("quorate/api.ErrUnsafe", laid_quorate_api_ErrUnsafe), ("quorate/api.ErrParent", laid_quorate_api_ErrParent), ("quorate/api.ErrTwice", laid_quorate_api_ErrTwice), ("quorate/api.ErrEpoch", laid_quorate_api_ErrEpoch)], narrowed := true }
def DiskPlaysUptoSaid : Prop := diskPlaysUptoRow.holds Tryd.pinned (OpenSpec.upto diskPlaysSpec)

end Rows
end Go.Proofs.YtapcnajfbippmaaDoor
