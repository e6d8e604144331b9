/-
  No cell of these rows narrows 'for every input' (looked for: loops, veiled, ifaces, maps, wideKeys, modest, calm, conditions, laid).
  DERIVED. THE GIVEN ROWS OF THIS SEAT. 10 by the template 'for every input the law returns true; each argument reads behind the call as it read before'; 0 by the template 'total and deterministic' (their statements: YtmeakjgbjldkdaaGreatTotals.lean).
  GIVEN WITH THE SEED: the statements are not yours to turn. If you find one false, say at which input.
  Laid BY PROGRAM, IN A SANDBOX (cutbox-rows.mjs): the forced cells as the released guide's own fill.sh prints them over the translation e5010822c4277229… (all of the seat's roots in one cut). By AI agents, Wed Nov 11 2026. No macro, syntax, notation, axiom, sorry.
-/
import Derived.Test.YtmeakjgbjldkdaaGreatChecked
import GoSem.Claim
import GoSem.ClaimJoined
import GoSem.ClaimMapViews
import Derived.JoinedTies
import Derived.KernelRfl
namespace Go.Proofs.YtmeakjgbjldkdaaGreat
/- THE CELL 'sum', in the pinned program and in every row, IS THE sha256 OF THE DUMP (.gsa) THAT YtmeakjgbjldkdaaGreatProg.lean LOADS. Nothing in Lean hashes anything: it is a label: what it is worth is what the hold of that sum in a sandbox is worth. -/
noncomputable def Tryz.pinned : Pinned := { name := "ytmeakjgbjldkdaagreat", sum := "e5010822c42772292f63051efd12720cb3381c5e6659aacb9416262e953da866", checked := Tryz.checked }
namespace Rows
def none {H : Type} : Left H := { results := [], args := [] }

/-- 'suretylaw12.ClassesBases': WHATEVER THE INPUT: true; the input reads as it did. -/
def classesBasesSpec : ChangeSpec := { name := "classesBases", fn := fun _ => fun
  | [d] => { results := [.lit (.bool true)], args := [d] }
  | _ => none }
def classesBasesRow : OpenClaim := { program := "ytmeakjgbjldkdaagreat", sum := "e5010822c42772292f63051efd12720cb3381c5e6659aacb9416262e953da866", func := "surety/suretylaw12.ClassesBases", spec := "classesBases", inPlace := ["internal/abi.NoEscape", "internal/bytealg.MakeNoZero", "sync/atomic.LoadUint32", "(*internal/sync.Mutex).Lock", "internal/race.Disable", "sync/atomic.CompareAndSwapInt32", "internal/race.Enable", "internal/race.Acquire", "(*internal/sync.Mutex).lockSlow", "internal/sync.runtime_canSpin", "internal/sync.runtime_doSpin", "internal/sync.throw", "internal/sync.runtime_nanotime", "internal/sync.runtime_SemacquireMutex", "sync/atomic.AddInt32", "(*internal/sync.Mutex).Unlock", "internal/race.ReleaseMerge", "(*internal/sync.Mutex).unlockSlow", "internal/sync.fatal", "internal/sync.runtime_Semrelease", "sync/atomic.StoreUint32"], unfollowed := true, recurses := true, apart := false }
def ClassesBasesSaid : Prop := classesBasesRow.holds Tryz.pinned (OpenSpec.ofChange classesBasesSpec)

/-- ITS FALSE NEIGHBOUR: 'it returns false'. Refute it at one input. -/
def classesBasesWrong : ChangeSpec := { name := "classesBases", fn := fun _ => fun
  | [d] => { results := [.lit (.bool false)], args := [d] }
  | _ => none }
def ClassesBasesWrongFalsely : Prop := classesBasesRow.holds Tryz.pinned (OpenSpec.ofChange classesBasesWrong)

/-- 'suretylaw12.ClassesTables': WHATEVER THE INPUT: true; the input reads as it did. -/
def classesTablesSpec : ChangeSpec := { name := "classesTables", fn := fun _ => fun
  | [d] => { results := [.lit (.bool true)], args := [d] }
  | _ => none }
def classesTablesRow : OpenClaim := { program := "ytmeakjgbjldkdaagreat", sum := "e5010822c42772292f63051efd12720cb3381c5e6659aacb9416262e953da866", func := "surety/suretylaw12.ClassesTables", spec := "classesTables", inPlace := ["internal/abi.NoEscape", "internal/bytealg.MakeNoZero", "sync/atomic.LoadUint32", "(*internal/sync.Mutex).Lock", "internal/race.Disable", "sync/atomic.CompareAndSwapInt32", "internal/race.Enable", "internal/race.Acquire", "(*internal/sync.Mutex).lockSlow", "internal/sync.runtime_canSpin", "internal/sync.runtime_doSpin", "internal/sync.throw", "internal/sync.runtime_nanotime", "internal/sync.runtime_SemacquireMutex", "sync/atomic.AddInt32", "(*internal/sync.Mutex).Unlock", "internal/race.ReleaseMerge", "(*internal/sync.Mutex).unlockSlow", "internal/sync.fatal", "internal/sync.runtime_Semrelease", "sync/atomic.StoreUint32"], unfollowed := true, recurses := true, apart := false }
def ClassesTablesSaid : Prop := classesTablesRow.holds Tryz.pinned (OpenSpec.ofChange classesTablesSpec)

/-- ITS FALSE NEIGHBOUR: 'it returns false'. Refute it at one input. -/
def classesTablesWrong : ChangeSpec := { name := "classesTables", fn := fun _ => fun
  | [d] => { results := [.lit (.bool false)], args := [d] }
  | _ => none }
def ClassesTablesWrongFalsely : Prop := classesTablesRow.holds Tryz.pinned (OpenSpec.ofChange classesTablesWrong)

/-- 'suretylaw12.ClassesFields': WHATEVER THE INPUT: true; the input reads as it did. -/
def classesFieldsSpec : ChangeSpec := { name := "classesFields", fn := fun _ => fun
  | [d1, d2] => { results := [.lit (.bool true)], args := [d1, d2] }
  | _ => none }
def classesFieldsRow : OpenClaim := { program := "ytmeakjgbjldkdaagreat", sum := "e5010822c42772292f63051efd12720cb3381c5e6659aacb9416262e953da866", func := "surety/suretylaw12.ClassesFields", spec := "classesFields", inPlace := ["internal/abi.NoEscape", "internal/bytealg.MakeNoZero", "sync/atomic.LoadUint32", "(*internal/sync.Mutex).Lock", "internal/race.Disable", "sync/atomic.CompareAndSwapInt32", "internal/race.Enable", "internal/race.Acquire", "(*internal/sync.Mutex).lockSlow", "internal/sync.runtime_canSpin", "internal/sync.runtime_doSpin", "internal/sync.throw", "internal/sync.runtime_nanotime", "internal/sync.runtime_SemacquireMutex", "sync/atomic.AddInt32", "(*internal/sync.Mutex).Unlock", "internal/race.ReleaseMerge", "(*internal/sync.Mutex).unlockSlow", "internal/sync.fatal", "internal/sync.runtime_Semrelease", "sync/atomic.StoreUint32"], unfollowed := true, recurses := true, apart := false }
def ClassesFieldsSaid : Prop := classesFieldsRow.holds Tryz.pinned (OpenSpec.ofChange classesFieldsSpec)

/-- ITS FALSE NEIGHBOUR: 'it returns false'. Refute it at one input. -/
def classesFieldsWrong : ChangeSpec := { name := "classesFields", fn := fun _ => fun
  | [d1, d2] => { results := [.lit (.bool false)], args := [d1, d2] }
  | _ => none }
def ClassesFieldsWrongFalsely : Prop := classesFieldsRow.holds Tryz.pinned (OpenSpec.ofChange classesFieldsWrong)

/-- 'suretylaw12.ClassesAbove': WHATEVER THE INPUT: true; the input reads as it did. -/
def classesAboveSpec : ChangeSpec := { name := "classesAbove", fn := fun _ => fun
  | [d] => { results := [.lit (.bool true)], args := [d] }
  | _ => none }
def classesAboveRow : OpenClaim := { program := "ytmeakjgbjldkdaagreat", sum := "e5010822c42772292f63051efd12720cb3381c5e6659aacb9416262e953da866", func := "surety/suretylaw12.ClassesAbove", spec := "classesAbove", inPlace := ["internal/abi.NoEscape", "internal/bytealg.MakeNoZero", "sync/atomic.LoadUint32", "(*internal/sync.Mutex).Lock", "internal/race.Disable", "sync/atomic.CompareAndSwapInt32", "internal/race.Enable", "internal/race.Acquire", "(*internal/sync.Mutex).lockSlow", "internal/sync.runtime_canSpin", "internal/sync.runtime_doSpin", "internal/sync.throw", "internal/sync.runtime_nanotime", "internal/sync.runtime_SemacquireMutex", "sync/atomic.AddInt32", "(*internal/sync.Mutex).Unlock", "internal/race.ReleaseMerge", "(*internal/sync.Mutex).unlockSlow", "internal/sync.fatal", "internal/sync.runtime_Semrelease", "sync/atomic.StoreUint32"], unfollowed := true, recurses := true, apart := false }
def ClassesAboveSaid : Prop := classesAboveRow.holds Tryz.pinned (OpenSpec.ofChange classesAboveSpec)

/-- ITS FALSE NEIGHBOUR: 'it returns false'. Refute it at one input. -/
def classesAboveWrong : ChangeSpec := { name := "classesAbove", fn := fun _ => fun
  | [d] => { results := [.lit (.bool false)], args := [d] }
  | _ => none }
def ClassesAboveWrongFalsely : Prop := classesAboveRow.holds Tryz.pinned (OpenSpec.ofChange classesAboveWrong)

/-- 'suretylaw12.ClassesCalls': WHATEVER THE INPUT: true; the input reads as it did. -/
def classesCallsSpec : ChangeSpec := { name := "classesCalls", fn := fun _ => fun
  | [d1, d2] => { results := [.lit (.bool true)], args := [d1, d2] }
  | _ => none }
def classesCallsRow : OpenClaim := { program := "ytmeakjgbjldkdaagreat", sum := "e5010822c42772292f63051efd12720cb3381c5e6659aacb9416262e953da866", func := "surety/suretylaw12.ClassesCalls", spec := "classesCalls", inPlace := ["internal/abi.NoEscape", "internal/bytealg.MakeNoZero", "sync/atomic.LoadUint32", "(*internal/sync.Mutex).Lock", "internal/race.Disable", "sync/atomic.CompareAndSwapInt32", "internal/race.Enable", "internal/race.Acquire", "(*internal/sync.Mutex).lockSlow", "internal/sync.runtime_canSpin", "internal/sync.runtime_doSpin", "internal/sync.throw", "internal/sync.runtime_nanotime", "internal/sync.runtime_SemacquireMutex", "sync/atomic.AddInt32", "(*internal/sync.Mutex).Unlock", "internal/race.ReleaseMerge", "(*internal/sync.Mutex).unlockSlow", "internal/sync.fatal", "internal/sync.runtime_Semrelease", "sync/atomic.StoreUint32", "internal/bytealg.abigen_runtime_cmpstring"], unfollowed := true, recurses := true, apart := false }
def ClassesCallsSaid : Prop := classesCallsRow.holds Tryz.pinned (OpenSpec.ofChange classesCallsSpec)

/-- ITS FALSE NEIGHBOUR: 'it returns false'. Refute it at one input. -/
def classesCallsWrong : ChangeSpec := { name := "classesCalls", fn := fun _ => fun
  | [d1, d2] => { results := [.lit (.bool false)], args := [d1, d2] }
  | _ => none }
def ClassesCallsWrongFalsely : Prop := classesCallsRow.holds Tryz.pinned (OpenSpec.ofChange classesCallsWrong)

/-- 'suretylaw12.ClassesHave': WHATEVER THE INPUT: true; the input reads as it did. -/
def classesHaveSpec : ChangeSpec := { name := "classesHave", fn := fun _ => fun
  | [d1, d2] => { results := [.lit (.bool true)], args := [d1, d2] }
  | _ => none }
def classesHaveRow : OpenClaim := { program := "ytmeakjgbjldkdaagreat", sum := "e5010822c42772292f63051efd12720cb3381c5e6659aacb9416262e953da866", func := "surety/suretylaw12.ClassesHave", spec := "classesHave", inPlace := ["internal/abi.NoEscape", "internal/bytealg.MakeNoZero", "sync/atomic.LoadUint32", "(*internal/sync.Mutex).Lock", "internal/race.Disable", "sync/atomic.CompareAndSwapInt32", "internal/race.Enable", "internal/race.Acquire", "(*internal/sync.Mutex).lockSlow", "internal/sync.runtime_canSpin", "internal/sync.runtime_doSpin", "internal/sync.throw", "internal/sync.runtime_nanotime", "internal/sync.runtime_SemacquireMutex", "sync/atomic.AddInt32", "(*internal/sync.Mutex).Unlock", "internal/race.ReleaseMerge", "(*internal/sync.Mutex).unlockSlow", "internal/sync.fatal", "internal/sync.runtime_Semrelease", "sync/atomic.StoreUint32", "internal/bytealg.abigen_runtime_cmpstring"], unfollowed := true, recurses := true, apart := false }
def ClassesHaveSaid : Prop := classesHaveRow.holds Tryz.pinned (OpenSpec.ofChange classesHaveSpec)

/-- ITS FALSE NEIGHBOUR: 'it returns false'. Refute it at one input. -/
def classesHaveWrong : ChangeSpec := { name := "classesHave", fn := fun _ => fun
  | [d1, d2] => { results := [.lit (.bool false)], args := [d1, d2] }
  | _ => none }
def ClassesHaveWrongFalsely : Prop := classesHaveRow.holds Tryz.pinned (OpenSpec.ofChange classesHaveWrong)

/-- 'suretylaw13.TypingCalls': WHATEVER THE INPUT: true; the input reads as it did. -/
def typingCallsSpec : ChangeSpec := { name := "typingCalls", fn := fun _ => fun
  | [d] => { results := [.lit (.bool true)], args := [d] }
  | _ => none }
def typingCallsRow : OpenClaim := { program := "ytmeakjgbjldkdaagreat", sum := "e5010822c42772292f63051efd12720cb3381c5e6659aacb9416262e953da866", func := "surety/suretylaw13.TypingCalls", spec := "typingCalls", inPlace := ["internal/abi.NoEscape", "internal/bytealg.MakeNoZero", "internal/bytealg.abigen_runtime_cmpstring"], unfollowed := true, recurses := true, apart := false }
def TypingCallsSaid : Prop := typingCallsRow.holds Tryz.pinned (OpenSpec.ofChange typingCallsSpec)

/-- ITS FALSE NEIGHBOUR: 'it returns false'. Refute it at one input. -/
def typingCallsWrong : ChangeSpec := { name := "typingCalls", fn := fun _ => fun
  | [d] => { results := [.lit (.bool false)], args := [d] }
  | _ => none }
def TypingCallsWrongFalsely : Prop := typingCallsRow.holds Tryz.pinned (OpenSpec.ofChange typingCallsWrong)

/-- 'suretylaw13.TypingStrange': WHATEVER THE INPUT: true; the input reads as it did. -/
def typingStrangeSpec : ChangeSpec := { name := "typingStrange", fn := fun _ => fun
  | [d] => { results := [.lit (.bool true)], args := [d] }
  | _ => none }
def typingStrangeRow : OpenClaim := { program := "ytmeakjgbjldkdaagreat", sum := "e5010822c42772292f63051efd12720cb3381c5e6659aacb9416262e953da866", func := "surety/suretylaw13.TypingStrange", spec := "typingStrange", inPlace := ["internal/abi.NoEscape", "internal/bytealg.MakeNoZero", "internal/bytealg.abigen_runtime_cmpstring"], unfollowed := true, recurses := true, apart := false }
def TypingStrangeSaid : Prop := typingStrangeRow.holds Tryz.pinned (OpenSpec.ofChange typingStrangeSpec)

/-- ITS FALSE NEIGHBOUR: 'it returns false'. Refute it at one input. -/
def typingStrangeWrong : ChangeSpec := { name := "typingStrange", fn := fun _ => fun
  | [d] => { results := [.lit (.bool false)], args := [d] }
  | _ => none }
def TypingStrangeWrongFalsely : Prop := typingStrangeRow.holds Tryz.pinned (OpenSpec.ofChange typingStrangeWrong)

/-- 'suretylaw13.TypingMore': WHATEVER THE INPUT: true; the input reads as it did. -/
def typingMoreSpec : ChangeSpec := { name := "typingMore", fn := fun _ => fun
  | [d] => { results := [.lit (.bool true)], args := [d] }
  | _ => none }
def typingMoreRow : OpenClaim := { program := "ytmeakjgbjldkdaagreat", sum := "e5010822c42772292f63051efd12720cb3381c5e6659aacb9416262e953da866", func := "surety/suretylaw13.TypingMore", spec := "typingMore", inPlace := ["internal/abi.NoEscape", "internal/bytealg.MakeNoZero", "internal/bytealg.abigen_runtime_cmpstring"], unfollowed := true, recurses := true, apart := false }
def TypingMoreSaid : Prop := typingMoreRow.holds Tryz.pinned (OpenSpec.ofChange typingMoreSpec)

/-- ITS FALSE NEIGHBOUR: 'it returns false'. Refute it at one input. -/
def typingMoreWrong : ChangeSpec := { name := "typingMore", fn := fun _ => fun
  | [d] => { results := [.lit (.bool false)], args := [d] }
  | _ => none }
def TypingMoreWrongFalsely : Prop := typingMoreRow.holds Tryz.pinned (OpenSpec.ofChange typingMoreWrong)

/-- 'suretylaw13.TypingKeeps': WHATEVER THE INPUT: true; the input reads as it did. -/
def typingKeepsSpec : ChangeSpec := { name := "typingKeeps", fn := fun _ => fun
  | [d] => { results := [.lit (.bool true)], args := [d] }
  | _ => none }
def typingKeepsRow : OpenClaim := { program := "ytmeakjgbjldkdaagreat", sum := "e5010822c42772292f63051efd12720cb3381c5e6659aacb9416262e953da866", func := "surety/suretylaw13.TypingKeeps", spec := "typingKeeps", inPlace := ["internal/abi.NoEscape", "internal/bytealg.MakeNoZero", "internal/bytealg.abigen_runtime_cmpstring"], unfollowed := true, recurses := true, apart := false }
def TypingKeepsSaid : Prop := typingKeepsRow.holds Tryz.pinned (OpenSpec.ofChange typingKeepsSpec)

/-- ITS FALSE NEIGHBOUR: 'it returns false'. Refute it at one input. -/
def typingKeepsWrong : ChangeSpec := { name := "typingKeeps", fn := fun _ => fun
  | [d] => { results := [.lit (.bool false)], args := [d] }
  | _ => none }
def TypingKeepsWrongFalsely : Prop := typingKeepsRow.holds Tryz.pinned (OpenSpec.ofChange typingKeepsWrong)

/- THE SECOND FORM. 'bulk': how many values and letters a reading holds, each counted each time it is reached (what is shared counts as often as it is met; a slice's spare places count too). A statement '..UptoSaid' is the law's where the arguments, and the package variables that the reading takes, are together of bulk at most 1048576: NARROWER than '..Said'. Prove '..Said' where nothing that the law and all that it calls make is longer than what came in: it says more and counts as full. Else prove '..UptoSaid'. A law counts once. -/
mutual
def uptoBulk {H : Type} : DataW H → Nat
  | .lit (.string bytes) => bytes.length + 1
  | .lit _ => 1
  | .nil => 1
  | .ptr d => uptoBulk d + 1
  | .slice elems spare => uptoBulkAll elems + uptoBulkAll spare + 1
  | .agg parts => uptoBulkAll parts + 1
  | .iface _ d => uptoBulk d + 1
  | .map entries => uptoBulkEntries entries + 1
  | .held _ => 1
def uptoBulkAll {H : Type} : List (DataW H) → Nat
  | [] => 0
  | d :: r => uptoBulk d + uptoBulkAll r
def uptoBulkEntries {H : Type} : List (Lit × DataW H) → Nat
  | [] => 0
  | x :: r => uptoBulkEntry x + uptoBulkEntries r
def uptoBulkEntry {H : Type} : Lit × DataW H → Nat
  | (.string bytes, d) => bytes.length + uptoBulk d + 1
  | (_, d) => uptoBulk d + 1
 end
def uptoSmall : (H : Type) → List (DataW H) → Bool := fun _ ds => decide (uptoBulkAll ds ≤ 1048576)
def OpenSpec.upto (s : _root_.Go.ChangeSpec) : _root_.Go.OpenSpec := { _root_.Go.OpenSpec.ofChange s with cond := some uptoSmall }

/-- 'suretylaw12.ClassesBases', WHERE WHAT IT READS IS OF BULK AT MOST 1048576: true; the input reads as it did. -/
def classesBasesUptoRow : OpenClaim := { program := "ytmeakjgbjldkdaagreat", sum := "e5010822c42772292f63051efd12720cb3381c5e6659aacb9416262e953da866", func := "surety/suretylaw12.ClassesBases", spec := "classesBases", inPlace := ["internal/abi.NoEscape", "internal/bytealg.MakeNoZero", "sync/atomic.LoadUint32", "(*internal/sync.Mutex).Lock", "internal/race.Disable", "sync/atomic.CompareAndSwapInt32", "internal/race.Enable", "internal/race.Acquire", "(*internal/sync.Mutex).lockSlow", "internal/sync.runtime_canSpin", "internal/sync.runtime_doSpin", "internal/sync.throw", "internal/sync.runtime_nanotime", "internal/sync.runtime_SemacquireMutex", "sync/atomic.AddInt32", "(*internal/sync.Mutex).Unlock", "internal/race.ReleaseMerge", "(*internal/sync.Mutex).unlockSlow", "internal/sync.fatal", "internal/sync.runtime_Semrelease", "sync/atomic.StoreUint32"], unfollowed := true, recurses := true, apart := false, narrowed := true }
def ClassesBasesUptoSaid : Prop := classesBasesUptoRow.holds Tryz.pinned (OpenSpec.upto classesBasesSpec)

/-- 'suretylaw12.ClassesTables', WHERE WHAT IT READS IS OF BULK AT MOST 1048576: true; the input reads as it did. -/
def classesTablesUptoRow : OpenClaim := { program := "ytmeakjgbjldkdaagreat", sum := "e5010822c42772292f63051efd12720cb3381c5e6659aacb9416262e953da866", func := "surety/suretylaw12.ClassesTables", spec := "classesTables", inPlace := ["internal/abi.NoEscape", "internal/bytealg.MakeNoZero", "sync/atomic.LoadUint32", "(*internal/sync.Mutex).Lock", "internal/race.Disable", "sync/atomic.CompareAndSwapInt32", "internal/race.Enable", "internal/race.Acquire", "(*internal/sync.Mutex).lockSlow", "internal/sync.runtime_canSpin", "internal/sync.runtime_doSpin", "internal/sync.throw", "internal/sync.runtime_nanotime", "internal/sync.runtime_SemacquireMutex", "sync/atomic.AddInt32", "(*internal/sync.Mutex).Unlock", "internal/race.ReleaseMerge", "(*internal/sync.Mutex).unlockSlow", "internal/sync.fatal", "internal/sync.runtime_Semrelease", "sync/atomic.StoreUint32"], unfollowed := true, recurses := true, apart := false, narrowed := true }
def ClassesTablesUptoSaid : Prop := classesTablesUptoRow.holds Tryz.pinned (OpenSpec.upto classesTablesSpec)

/-- 'suretylaw12.ClassesFields', WHERE WHAT IT READS IS OF BULK AT MOST 1048576: true; the input reads as it did. -/
def classesFieldsUptoRow : OpenClaim := { program := "ytmeakjgbjldkdaagreat", sum := "e5010822c42772292f63051efd12720cb3381c5e6659aacb9416262e953da866", func := "surety/suretylaw12.ClassesFields", spec := "classesFields", inPlace := ["internal/abi.NoEscape", "internal/bytealg.MakeNoZero", "sync/atomic.LoadUint32", "(*internal/sync.Mutex).Lock", "internal/race.Disable", "sync/atomic.CompareAndSwapInt32", "internal/race.Enable", "internal/race.Acquire", "(*internal/sync.Mutex).lockSlow", "internal/sync.runtime_canSpin", "internal/sync.runtime_doSpin", "internal/sync.throw", "internal/sync.runtime_nanotime", "internal/sync.runtime_SemacquireMutex", "sync/atomic.AddInt32", "(*internal/sync.Mutex).Unlock", "internal/race.ReleaseMerge", "(*internal/sync.Mutex).unlockSlow", "internal/sync.fatal", "internal/sync.runtime_Semrelease", "sync/atomic.StoreUint32"], unfollowed := true, recurses := true, apart := false, narrowed := true }
def ClassesFieldsUptoSaid : Prop := classesFieldsUptoRow.holds Tryz.pinned (OpenSpec.upto classesFieldsSpec)

/-- 'suretylaw12.ClassesAbove', WHERE WHAT IT READS IS OF BULK AT MOST 1048576: true; the input reads as it did. -/
def classesAboveUptoRow : OpenClaim := { program := "ytmeakjgbjldkdaagreat", sum := "e5010822c42772292f63051efd12720cb3381c5e6659aacb9416262e953da866", func := "surety/suretylaw12.ClassesAbove", spec := "classesAbove", inPlace := ["internal/abi.NoEscape", "internal/bytealg.MakeNoZero", "sync/atomic.LoadUint32", "(*internal/sync.Mutex).Lock", "internal/race.Disable", "sync/atomic.CompareAndSwapInt32", "internal/race.Enable", "internal/race.Acquire", "(*internal/sync.Mutex).lockSlow", "internal/sync.runtime_canSpin", "internal/sync.runtime_doSpin", "internal/sync.throw", "internal/sync.runtime_nanotime", "internal/sync.runtime_SemacquireMutex", "sync/atomic.AddInt32", "(*internal/sync.Mutex).Unlock", "internal/race.ReleaseMerge", "(*internal/sync.Mutex).unlockSlow", "internal/sync.fatal", "internal/sync.runtime_Semrelease", "sync/atomic.StoreUint32"], unfollowed := true, recurses := true, apart := false, narrowed := true }
def ClassesAboveUptoSaid : Prop := classesAboveUptoRow.holds Tryz.pinned (OpenSpec.upto classesAboveSpec)

/-- 'suretylaw12.ClassesCalls', WHERE WHAT IT READS IS OF BULK AT MOST 1048576: true; the input reads as it did. -/
def classesCallsUptoRow : OpenClaim := { program := "ytmeakjgbjldkdaagreat", sum := "e5010822c42772292f63051efd12720cb3381c5e6659aacb9416262e953da866", func := "surety/suretylaw12.ClassesCalls", spec := "classesCalls", inPlace := ["internal/abi.NoEscape", "internal/bytealg.MakeNoZero", "sync/atomic.LoadUint32", "(*internal/sync.Mutex).Lock", "internal/race.Disable", "sync/atomic.CompareAndSwapInt32", "internal/race.Enable", "internal/race.Acquire", "(*internal/sync.Mutex).lockSlow", "internal/sync.runtime_canSpin", "internal/sync.runtime_doSpin", "internal/sync.throw", "internal/sync.runtime_nanotime", "internal/sync.runtime_SemacquireMutex", "sync/atomic.AddInt32", "(*internal/sync.Mutex).Unlock", "internal/race.ReleaseMerge", "(*internal/sync.Mutex).unlockSlow", "internal/sync.fatal", "internal/sync.runtime_Semrelease", "sync/atomic.StoreUint32", "internal/bytealg.abigen_runtime_cmpstring"], unfollowed := true, recurses := true, apart := false, narrowed := true }
def ClassesCallsUptoSaid : Prop := classesCallsUptoRow.holds Tryz.pinned (OpenSpec.upto classesCallsSpec)

/-- 'suretylaw12.ClassesHave', WHERE WHAT IT READS IS OF BULK AT MOST 1048576: true; the input reads as it did. -/
def classesHaveUptoRow : OpenClaim := { program := "ytmeakjgbjldkdaagreat", sum := "e5010822c42772292f63051efd12720cb3381c5e6659aacb9416262e953da866", func := "surety/suretylaw12.ClassesHave", spec := "classesHave", inPlace := ["internal/abi.NoEscape", "internal/bytealg.MakeNoZero", "sync/atomic.LoadUint32", "(*internal/sync.Mutex).Lock", "internal/race.Disable", "sync/atomic.CompareAndSwapInt32", "internal/race.Enable", "internal/race.Acquire", "(*internal/sync.Mutex).lockSlow", "internal/sync.runtime_canSpin", "internal/sync.runtime_doSpin", "internal/sync.throw", "internal/sync.runtime_nanotime", "internal/sync.runtime_SemacquireMutex", "sync/atomic.AddInt32", "(*internal/sync.Mutex).Unlock", "internal/race.ReleaseMerge", "(*internal/sync.Mutex).unlockSlow", "internal/sync.fatal", "internal/sync.runtime_Semrelease", "sync/atomic.StoreUint32", "internal/bytealg.abigen_runtime_cmpstring"], unfollowed := true, recurses := true, apart := false, narrowed := true }
def ClassesHaveUptoSaid : Prop := classesHaveUptoRow.holds Tryz.pinned (OpenSpec.upto classesHaveSpec)

/-- 'suretylaw13.TypingCalls', WHERE WHAT IT READS IS OF BULK AT MOST 1048576: true; the input reads as it did. -/
def typingCallsUptoRow : OpenClaim := { program := "ytmeakjgbjldkdaagreat", sum := "e5010822c42772292f63051efd12720cb3381c5e6659aacb9416262e953da866", func := "surety/suretylaw13.TypingCalls", spec := "typingCalls", inPlace := ["internal/abi.NoEscape", "internal/bytealg.MakeNoZero", "internal/bytealg.abigen_runtime_cmpstring"], unfollowed := true, recurses := true, apart := false, narrowed := true }
def TypingCallsUptoSaid : Prop := typingCallsUptoRow.holds Tryz.pinned (OpenSpec.upto typingCallsSpec)

/-- 'suretylaw13.TypingStrange', WHERE WHAT IT READS IS OF BULK AT MOST 1048576: true; the input reads as it did. -/
def typingStrangeUptoRow : OpenClaim := { program := "ytmeakjgbjldkdaagreat", sum := "e5010822c42772292f63051efd12720cb3381c5e6659aacb9416262e953da866", func := "surety/suretylaw13.TypingStrange", spec := "typingStrange", inPlace := ["internal/abi.NoEscape", "internal/bytealg.MakeNoZero", "internal/bytealg.abigen_runtime_cmpstring"], unfollowed := true, recurses := true, apart := false, narrowed := true }
def TypingStrangeUptoSaid : Prop := typingStrangeUptoRow.holds Tryz.pinned (OpenSpec.upto typingStrangeSpec)

/-- 'suretylaw13.TypingMore', WHERE WHAT IT READS IS OF BULK AT MOST 1048576: true; the input reads as it did. -/
def typingMoreUptoRow : OpenClaim := { program := "ytmeakjgbjldkdaagreat", sum := "e5010822c42772292f63051efd12720cb3381c5e6659aacb9416262e953da866", func := "surety/suretylaw13.TypingMore", spec := "typingMore", inPlace := ["internal/abi.NoEscape", "internal/bytealg.MakeNoZero", "internal/bytealg.abigen_runtime_cmpstring"], unfollowed := true, recurses := true, apart := false, narrowed := true }
def TypingMoreUptoSaid : Prop := typingMoreUptoRow.holds Tryz.pinned (OpenSpec.upto typingMoreSpec)

/-- 'suretylaw13.TypingKeeps', WHERE WHAT IT READS IS OF BULK AT MOST 1048576: true; the input reads as it did. -/
def typingKeepsUptoRow : OpenClaim := { program := "ytmeakjgbjldkdaagreat", sum := "e5010822c42772292f63051efd12720cb3381c5e6659aacb9416262e953da866", func := "surety/suretylaw13.TypingKeeps", spec := "typingKeeps", inPlace := ["internal/abi.NoEscape", "internal/bytealg.MakeNoZero", "internal/bytealg.abigen_runtime_cmpstring"], unfollowed := true, recurses := true, apart := false, narrowed := true }
def TypingKeepsUptoSaid : Prop := typingKeepsUptoRow.holds Tryz.pinned (OpenSpec.upto typingKeepsSpec)

end Rows
end Go.Proofs.YtmeakjgbjldkdaaGreat
