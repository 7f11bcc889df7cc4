/-
  No cell of these rows narrows 'for every input' (looked for: loops, veiled, ifaces, maps, wideKeys, modest, calm, conditions, laid).
  DERIVED. THE GIVEN ROWS OF THIS SEAT. 7 by the template 'for every input the law returns true; each argument reads behind the call as it read before'; 0 by the template 'total and deterministic' (their statements: YtknkfimpflodeaaTotals.lean).
  GIVEN WITH THE SEED: the statements are not yours to turn. If you find one false, say at which input.
  Laid BY PROGRAM, IN A SANDBOX (cutbox-rows.mjs): the forced cells as the released guide's own fill.sh prints them over the translation 902c1efee465a8e1… (all of the seat's roots in one cut). By AI agents, Wed Nov 11 2026. No macro, syntax, notation, axiom, sorry.
-/
import Derived.Test.YtknkfimpflodeaaChecked
import GoSem.Claim
import GoSem.ClaimJoined
import GoSem.ClaimMapViews
import Derived.JoinedTies
import Derived.KernelRfl
namespace Go.Proofs.Ytknkfimpflodeaa
/- THE CELL 'sum', in the pinned program and in every row, IS THE sha256 OF THE DUMP (.gsa) THAT YtknkfimpflodeaaProg.lean LOADS. Nothing in Lean hashes anything: it is a label: what it is worth is what the hold of that sum in a sandbox is worth. -/
noncomputable def Try.pinned : Pinned := { name := "ytknkfimpflodeaa", sum := "902c1efee465a8e10b86e1a2b0a6444e2a96018b1fd0264e927fbef488814c19", checked := Try.checked }
namespace Rows
def none {H : Type} : Left H := { results := [], args := [] }

/-- 'mezzaninelaw09.DecodeWords': WHATEVER THE INPUT: true; the input reads as it did. -/
def decodeWordsSpec : ChangeSpec := { name := "decodeWords", fn := fun _ => fun
  | [d] => { results := [.lit (.bool true)], args := [d] }
  | _ => none }
def decodeWordsRow : OpenClaim := { program := "ytknkfimpflodeaa", sum := "902c1efee465a8e10b86e1a2b0a6444e2a96018b1fd0264e927fbef488814c19", func := "mezzanine/mezzaninelaw09.DecodeWords", spec := "decodeWords", apart := false }
def DecodeWordsSaid : Prop := decodeWordsRow.holds Try.pinned (OpenSpec.ofChange decodeWordsSpec)

/-- ITS FALSE NEIGHBOUR: 'it returns false'. Refute it at one input. -/
def decodeWordsWrong : ChangeSpec := { name := "decodeWords", fn := fun _ => fun
  | [d] => { results := [.lit (.bool false)], args := [d] }
  | _ => none }
def DecodeWordsWrongFalsely : Prop := decodeWordsRow.holds Try.pinned (OpenSpec.ofChange decodeWordsWrong)

/-- 'mezzaninelaw09.DecodeEncodes': WHATEVER THE INPUT: true; the input reads as it did. -/
def decodeEncodesSpec : ChangeSpec := { name := "decodeEncodes", fn := fun _ => fun
  | [d] => { results := [.lit (.bool true)], args := [d] }
  | _ => none }
def decodeEncodesRow : OpenClaim := { program := "ytknkfimpflodeaa", sum := "902c1efee465a8e10b86e1a2b0a6444e2a96018b1fd0264e927fbef488814c19", func := "mezzanine/mezzaninelaw09.DecodeEncodes", spec := "decodeEncodes", apart := false }
def DecodeEncodesSaid : Prop := decodeEncodesRow.holds Try.pinned (OpenSpec.ofChange decodeEncodesSpec)

/-- ITS FALSE NEIGHBOUR: 'it returns false'. Refute it at one input. -/
def decodeEncodesWrong : ChangeSpec := { name := "decodeEncodes", fn := fun _ => fun
  | [d] => { results := [.lit (.bool false)], args := [d] }
  | _ => none }
def DecodeEncodesWrongFalsely : Prop := decodeEncodesRow.holds Try.pinned (OpenSpec.ofChange decodeEncodesWrong)

/-- 'mezzaninelaw09.DecodeNear': WHATEVER THE INPUT: true; the input reads as it did. -/
def decodeNearSpec : ChangeSpec := { name := "decodeNear", fn := fun _ => fun
  | [d1, d2] => { results := [.lit (.bool true)], args := [d1, d2] }
  | _ => none }
def decodeNearRow : OpenClaim := { program := "ytknkfimpflodeaa", sum := "902c1efee465a8e10b86e1a2b0a6444e2a96018b1fd0264e927fbef488814c19", func := "mezzanine/mezzaninelaw09.DecodeNear", spec := "decodeNear", apart := false }
def DecodeNearSaid : Prop := decodeNearRow.holds Try.pinned (OpenSpec.ofChange decodeNearSpec)

/-- ITS FALSE NEIGHBOUR: 'it returns false'. Refute it at one input. -/
def decodeNearWrong : ChangeSpec := { name := "decodeNear", fn := fun _ => fun
  | [d1, d2] => { results := [.lit (.bool false)], args := [d1, d2] }
  | _ => none }
def DecodeNearWrongFalsely : Prop := decodeNearRow.holds Try.pinned (OpenSpec.ofChange decodeNearWrong)

/-- 'mezzaninelaw09.DecodeKeeps': WHATEVER THE INPUT: true; the input reads as it did. -/
def decodeKeepsSpec : ChangeSpec := { name := "decodeKeeps", fn := fun _ => fun
  | [d1, d2, d3, d4] => { results := [.lit (.bool true)], args := [d1, d2, d3, d4] }
  | _ => none }
def decodeKeepsRow : OpenClaim := { program := "ytknkfimpflodeaa", sum := "902c1efee465a8e10b86e1a2b0a6444e2a96018b1fd0264e927fbef488814c19", func := "mezzanine/mezzaninelaw09.DecodeKeeps", spec := "decodeKeeps", apart := false }
def DecodeKeepsSaid : Prop := decodeKeepsRow.holds Try.pinned (OpenSpec.ofChange decodeKeepsSpec)

/-- ITS FALSE NEIGHBOUR: 'it returns false'. Refute it at one input. -/
def decodeKeepsWrong : ChangeSpec := { name := "decodeKeeps", fn := fun _ => fun
  | [d1, d2, d3, d4] => { results := [.lit (.bool false)], args := [d1, d2, d3, d4] }
  | _ => none }
def DecodeKeepsWrongFalsely : Prop := decodeKeepsRow.holds Try.pinned (OpenSpec.ofChange decodeKeepsWrong)

/-- 'mezzaninelaw09.DecodeNames': WHATEVER THE INPUT: true; the input reads as it did. -/
def decodeNamesSpec : ChangeSpec := { name := "decodeNames", fn := fun _ => fun
  | [d1, d2] => { results := [.lit (.bool true)], args := [d1, d2] }
  | _ => none }
def decodeNamesRow : OpenClaim := { program := "ytknkfimpflodeaa", sum := "902c1efee465a8e10b86e1a2b0a6444e2a96018b1fd0264e927fbef488814c19", func := "mezzanine/mezzaninelaw09.DecodeNames", spec := "decodeNames", apart := false }
def DecodeNamesSaid : Prop := decodeNamesRow.holds Try.pinned (OpenSpec.ofChange decodeNamesSpec)

/-- ITS FALSE NEIGHBOUR: 'it returns false'. Refute it at one input. -/
def decodeNamesWrong : ChangeSpec := { name := "decodeNames", fn := fun _ => fun
  | [d1, d2] => { results := [.lit (.bool false)], args := [d1, d2] }
  | _ => none }
def DecodeNamesWrongFalsely : Prop := decodeNamesRow.holds Try.pinned (OpenSpec.ofChange decodeNamesWrong)

/-- 'mezzaninelaw09.DecodeBack': WHATEVER THE INPUT: true; the input reads as it did. -/
def decodeBackSpec : ChangeSpec := { name := "decodeBack", fn := fun _ => fun
  | [d1, d2] => { results := [.lit (.bool true)], args := [d1, d2] }
  | _ => none }
def decodeBackRow : OpenClaim := { program := "ytknkfimpflodeaa", sum := "902c1efee465a8e10b86e1a2b0a6444e2a96018b1fd0264e927fbef488814c19", func := "mezzanine/mezzaninelaw09.DecodeBack", spec := "decodeBack", apart := false }
def DecodeBackSaid : Prop := decodeBackRow.holds Try.pinned (OpenSpec.ofChange decodeBackSpec)

/-- ITS FALSE NEIGHBOUR: 'it returns false'. Refute it at one input. -/
def decodeBackWrong : ChangeSpec := { name := "decodeBack", fn := fun _ => fun
  | [d1, d2] => { results := [.lit (.bool false)], args := [d1, d2] }
  | _ => none }
def DecodeBackWrongFalsely : Prop := decodeBackRow.holds Try.pinned (OpenSpec.ofChange decodeBackWrong)

/-- 'mezzaninelaw09.DecodeTables': WHATEVER THE INPUT: true; the input reads as it did. -/
def decodeTablesSpec : ChangeSpec := { name := "decodeTables", fn := fun _ => fun
  | [d1, d2] => { results := [.lit (.bool true)], args := [d1, d2] }
  | _ => none }
def decodeTablesRow : OpenClaim := { program := "ytknkfimpflodeaa", sum := "902c1efee465a8e10b86e1a2b0a6444e2a96018b1fd0264e927fbef488814c19", func := "mezzanine/mezzaninelaw09.DecodeTables", spec := "decodeTables", inPlace := ["sync/atomic.LoadUint32", "(*internal/sync.Mutex).Lock", "internal/race.Disable", "sync/atomic.CompareAndSwapInt32", "internal/race.Enable", "internal/race.Acquire", "(*internal/sync.Mutex).lockSlow", "internal/sync.runtime_canSpin", "internal/sync.runtime_doSpin", "internal/sync.throw", "internal/sync.runtime_nanotime", "internal/sync.runtime_SemacquireMutex", "sync/atomic.AddInt32", "(*internal/sync.Mutex).Unlock", "internal/race.ReleaseMerge", "(*internal/sync.Mutex).unlockSlow", "internal/sync.fatal", "internal/sync.runtime_Semrelease", "sync/atomic.StoreUint32"], unfollowed := true, recurses := true, apart := false }
def DecodeTablesSaid : Prop := decodeTablesRow.holds Try.pinned (OpenSpec.ofChange decodeTablesSpec)

/-- ITS FALSE NEIGHBOUR: 'it returns false'. Refute it at one input. -/
def decodeTablesWrong : ChangeSpec := { name := "decodeTables", fn := fun _ => fun
  | [d1, d2] => { results := [.lit (.bool false)], args := [d1, d2] }
  | _ => none }
def DecodeTablesWrongFalsely : Prop := decodeTablesRow.holds Try.pinned (OpenSpec.ofChange decodeTablesWrong)

/- THE SECOND FORM. 'bulk': how many values and letters a reading holds, each counted each time it is reached (what is shared counts as often as it is met; a slice's spare places count too). A statement '..UptoSaid' is the law's where the arguments, and the package variables that the reading takes, are together of bulk at most 1048576: NARROWER than '..Said'. Prove '..Said' where nothing that the law and all that it calls make is longer than what came in: it says more and counts as full. Else prove '..UptoSaid'. A law counts once. -/
mutual
def uptoBulk {H : Type} : DataW H → Nat
  | .lit (.string bytes) => bytes.length + 1
  | .lit _ => 1
  | .nil => 1
  | .ptr d => uptoBulk d + 1
  | .slice elems spare => uptoBulkAll elems + uptoBulkAll spare + 1
  | .agg parts => uptoBulkAll parts + 1
  | .iface _ d => uptoBulk d + 1
  | .map entries => uptoBulkEntries entries + 1
  | .held _ => 1
def uptoBulkAll {H : Type} : List (DataW H) → Nat
  | [] => 0
  | d :: r => uptoBulk d + uptoBulkAll r
def uptoBulkEntries {H : Type} : List (Lit × DataW H) → Nat
  | [] => 0
  | x :: r => uptoBulkEntry x + uptoBulkEntries r
def uptoBulkEntry {H : Type} : Lit × DataW H → Nat
  | (.string bytes, d) => bytes.length + uptoBulk d + 1
  | (_, d) => uptoBulk d + 1
 end
def uptoSmall : (H : Type) → List (DataW H) → Bool := fun _ ds => decide (uptoBulkAll ds ≤ 1048576)
def OpenSpec.upto (s : _root_.Go.ChangeSpec) : _root_.Go.OpenSpec := { _root_.Go.OpenSpec.ofChange s with cond := some uptoSmall }

/-- 'mezzaninelaw09.DecodeWords', WHERE WHAT IT READS IS OF BULK AT MOST 1048576: true; the input reads as it did. -/
def decodeWordsUptoRow : OpenClaim := { program := "ytknkfimpflodeaa", sum := "902c1efee465a8e10b86e1a2b0a6444e2a96018b1fd0264e927fbef488814c19", func := "mezzanine/mezzaninelaw09.DecodeWords", spec := "decodeWords", apart := false, narrowed := true }
def DecodeWordsUptoSaid : Prop := decodeWordsUptoRow.holds Try.pinned (OpenSpec.upto decodeWordsSpec)

/-- 'mezzaninelaw09.DecodeEncodes', WHERE WHAT IT READS IS OF BULK AT MOST 1048576: true; the input reads as it did. -/
def decodeEncodesUptoRow : OpenClaim := { program := "ytknkfimpflodeaa", sum := "902c1efee465a8e10b86e1a2b0a6444e2a96018b1fd0264e927fbef488814c19", func := "mezzanine/mezzaninelaw09.DecodeEncodes", spec := "decodeEncodes", apart := false, narrowed := true }
def DecodeEncodesUptoSaid : Prop := decodeEncodesUptoRow.holds Try.pinned (OpenSpec.upto decodeEncodesSpec)

/-- 'mezzaninelaw09.DecodeNear', WHERE WHAT IT READS IS OF BULK AT MOST 1048576: true; the input reads as it did. -/
def decodeNearUptoRow : OpenClaim := { program := "ytknkfimpflodeaa", sum := "902c1efee465a8e10b86e1a2b0a6444e2a96018b1fd0264e927fbef488814c19", func := "mezzanine/mezzaninelaw09.DecodeNear", spec := "decodeNear", apart := false, narrowed := true }
def DecodeNearUptoSaid : Prop := decodeNearUptoRow.holds Try.pinned (OpenSpec.upto decodeNearSpec)

/-- 'mezzaninelaw09.DecodeKeeps', WHERE WHAT IT READS IS OF BULK AT MOST 1048576: true; the input reads as it did. -/
def decodeKeepsUptoRow : OpenClaim := { program := "ytknkfimpflodeaa", sum := "902c1efee465a8e10b86e1a2b0a6444e2a96018b1fd0264e927fbef488814c19", func := "mezzanine/mezzaninelaw09.DecodeKeeps", spec := "decodeKeeps", apart := false, narrowed := true }
def DecodeKeepsUptoSaid : Prop := decodeKeepsUptoRow.holds Try.pinned (OpenSpec.upto decodeKeepsSpec)

/-- 'mezzaninelaw09.DecodeNames', WHERE WHAT IT READS IS OF BULK AT MOST 1048576: true; the input reads as it did. -/
def decodeNamesUptoRow : OpenClaim := { program := "ytknkfimpflodeaa", sum := "902c1efee465a8e10b86e1a2b0a6444e2a96018b1fd0264e927fbef488814c19", func := "mezzanine/mezzaninelaw09.DecodeNames", spec := "decodeNames", apart := false, narrowed := true }
def DecodeNamesUptoSaid : Prop := decodeNamesUptoRow.holds Try.pinned (OpenSpec.upto decodeNamesSpec)

/-- 'mezzaninelaw09.DecodeBack', WHERE WHAT IT READS IS OF BULK AT MOST 1048576: true; the input reads as it did. -/
def decodeBackUptoRow : OpenClaim := { program := "ytknkfimpflodeaa", sum := "902c1efee465a8e10b86e1a2b0a6444e2a96018b1fd0264e927fbef488814c19", func := "mezzanine/mezzaninelaw09.DecodeBack", spec := "decodeBack", apart := false, narrowed := true }
def DecodeBackUptoSaid : Prop := decodeBackUptoRow.holds Try.pinned (OpenSpec.upto decodeBackSpec)

/-- 'mezzaninelaw09.DecodeTables', WHERE WHAT IT READS IS OF BULK AT MOST 1048576: true; the input reads as it did. -/
def decodeTablesUptoRow : OpenClaim := { program := "ytknkfimpflodeaa", sum := "902c1efee465a8e10b86e1a2b0a6444e2a96018b1fd0264e927fbef488814c19", func := "mezzanine/mezzaninelaw09.DecodeTables", spec := "decodeTables", inPlace := ["sync/atomic.LoadUint32", "(*internal/sync.Mutex).Lock", "internal/race.Disable", "sync/atomic.CompareAndSwapInt32", "internal/race.Enable", "internal/race.Acquire", "(*internal/sync.Mutex).lockSlow", "internal/sync.runtime_canSpin", "internal/sync.runtime_doSpin", "internal/sync.throw", "internal/sync.runtime_nanotime", "internal/sync.runtime_SemacquireMutex", "sync/atomic.AddInt32", "(*internal/sync.Mutex).Unlock", "internal/race.ReleaseMerge", "(*internal/sync.Mutex).unlockSlow", "internal/sync.fatal", "internal/sync.runtime_Semrelease", "sync/atomic.StoreUint32"], unfollowed := true, recurses := true, apart := false, narrowed := true }
def DecodeTablesUptoSaid : Prop := decodeTablesUptoRow.holds Try.pinned (OpenSpec.upto decodeTablesSpec)

end Rows
end Go.Proofs.Ytknkfimpflodeaa
