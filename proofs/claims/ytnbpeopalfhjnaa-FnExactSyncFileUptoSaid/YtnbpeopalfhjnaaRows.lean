/-
  No cell of these rows narrows 'for every input' (looked for: loops, veiled, ifaces, maps, wideKeys, modest, calm, conditions, laid).
  DERIVED. THE GIVEN ROWS OF THIS SEAT. 8 by the template 'for every input the law returns true; each argument reads behind the call as it read before'; 0 by the template 'total and deterministic' (their statements: YtnbpeopalfhjnaaTotals.lean).
  GIVEN WITH THE SEED: the statements are not yours to turn. If you find one false, say at which input.
  Laid BY PROGRAM, IN A SANDBOX (cutbox-rows.mjs): the forced cells as the released guide's own fill.sh prints them over the translation 6b6bd1b978c4f9a3… (all of the seat's roots in one cut). By AI agents, Wed Nov 11 2026. No macro, syntax, notation, axiom, sorry.
-/
import Derived.Test.YtnbpeopalfhjnaaChecked
import GoSem.Claim
import GoSem.ClaimJoined
import GoSem.ClaimMapViews
import Derived.JoinedTies
import Derived.KernelRfl
namespace Go.Proofs.Ytnbpeopalfhjnaa
/- THE CELL 'sum', in the pinned program and in every row, IS THE sha256 OF THE DUMP (.gsa) THAT YtnbpeopalfhjnaaProg.lean LOADS. Nothing in Lean hashes anything: it is a label: what it is worth is what the hold of that sum in a sandbox is worth. -/
noncomputable def Try.pinned : Pinned := { name := "ytnbpeopalfhjnaa", sum := "6b6bd1b978c4f9a3389b0bcc54c28339856b472867f32c6b71c677b88a2ebdea", checked := Try.checked }
namespace Rows
def none {H : Type} : Left H := { results := [], args := [] }

/-- 'laws.FnExactLayerSum': WHATEVER THE INPUT: true; the input reads as it did. -/
def fnExactLayerSumSpec : ChangeSpec := { name := "fnExactLayerSum", fn := fun _ => fun
  | [d] => { results := [.lit (.bool true)], args := [d] }
  | _ => none }
def fnExactLayerSumRow : OpenClaim := { program := "ytnbpeopalfhjnaa", sum := "6b6bd1b978c4f9a3389b0bcc54c28339856b472867f32c6b71c677b88a2ebdea", func := "loop.example/g00798/laws.FnExactLayerSum", spec := "fnExactLayerSum", unfollowed := true, recurses := true, apart := false }
def FnExactLayerSumSaid : Prop := fnExactLayerSumRow.holds Try.pinned (OpenSpec.ofChange fnExactLayerSumSpec)

/-- ITS FALSE NEIGHBOUR: 'it returns false'. Refute it at one input. -/
def fnExactLayerSumWrong : ChangeSpec := { name := "fnExactLayerSum", fn := fun _ => fun
  | [d] => { results := [.lit (.bool false)], args := [d] }
  | _ => none }
def FnExactLayerSumWrongFalsely : Prop := fnExactLayerSumRow.holds Try.pinned (OpenSpec.ofChange fnExactLayerSumWrong)

/-- 'laws.FnExactActOK': WHATEVER THE INPUT: true; the input reads as it did. -/
def fnExactActOKSpec : ChangeSpec := { name := "fnExactActOK", fn := fun _ => fun
  | [d] => { results := [.lit (.bool true)], args := [d] }
  | _ => none }
def fnExactActOKRow : OpenClaim := { program := "ytnbpeopalfhjnaa", sum := "6b6bd1b978c4f9a3389b0bcc54c28339856b472867f32c6b71c677b88a2ebdea", func := "loop.example/g00798/laws.FnExactActOK", spec := "fnExactActOK", apart := false }
def FnExactActOKSaid : Prop := fnExactActOKRow.holds Try.pinned (OpenSpec.ofChange fnExactActOKSpec)

/-- ITS FALSE NEIGHBOUR: 'it returns false'. Refute it at one input. -/
def fnExactActOKWrong : ChangeSpec := { name := "fnExactActOK", fn := fun _ => fun
  | [d] => { results := [.lit (.bool false)], args := [d] }
  | _ => none }
def FnExactActOKWrongFalsely : Prop := fnExactActOKRow.holds Try.pinned (OpenSpec.ofChange fnExactActOKWrong)

/-- 'laws.FnExactDiskOK': WHATEVER THE INPUT: true; the input reads as it did. -/
def fnExactDiskOKSpec : ChangeSpec := { name := "fnExactDiskOK", fn := fun _ => fun
  | [d] => { results := [.lit (.bool true)], args := [d] }
  | _ => none }
def fnExactDiskOKRow : OpenClaim := { program := "ytnbpeopalfhjnaa", sum := "6b6bd1b978c4f9a3389b0bcc54c28339856b472867f32c6b71c677b88a2ebdea", func := "loop.example/g00798/laws.FnExactDiskOK", spec := "fnExactDiskOK", unfollowed := true, recurses := true, apart := false }
def FnExactDiskOKSaid : Prop := fnExactDiskOKRow.holds Try.pinned (OpenSpec.ofChange fnExactDiskOKSpec)

/-- ITS FALSE NEIGHBOUR: 'it returns false'. Refute it at one input. -/
def fnExactDiskOKWrong : ChangeSpec := { name := "fnExactDiskOK", fn := fun _ => fun
  | [d] => { results := [.lit (.bool false)], args := [d] }
  | _ => none }
def FnExactDiskOKWrongFalsely : Prop := fnExactDiskOKRow.holds Try.pinned (OpenSpec.ofChange fnExactDiskOKWrong)

/-- 'laws.FnExactSameDisk': WHATEVER THE INPUT: true; the input reads as it did. -/
def fnExactSameDiskSpec : ChangeSpec := { name := "fnExactSameDisk", fn := fun _ => fun
  | [d1, d2] => { results := [.lit (.bool true)], args := [d1, d2] }
  | _ => none }
def fnExactSameDiskRow : OpenClaim := { program := "ytnbpeopalfhjnaa", sum := "6b6bd1b978c4f9a3389b0bcc54c28339856b472867f32c6b71c677b88a2ebdea", func := "loop.example/g00798/laws.FnExactSameDisk", spec := "fnExactSameDisk", unfollowed := true, recurses := true, apart := false }
def FnExactSameDiskSaid : Prop := fnExactSameDiskRow.holds Try.pinned (OpenSpec.ofChange fnExactSameDiskSpec)

/-- ITS FALSE NEIGHBOUR: 'it returns false'. Refute it at one input. -/
def fnExactSameDiskWrong : ChangeSpec := { name := "fnExactSameDisk", fn := fun _ => fun
  | [d1, d2] => { results := [.lit (.bool false)], args := [d1, d2] }
  | _ => none }
def FnExactSameDiskWrongFalsely : Prop := fnExactSameDiskRow.holds Try.pinned (OpenSpec.ofChange fnExactSameDiskWrong)

/-- 'laws.FnExactDiskRead': WHATEVER THE INPUT: true; the input reads as it did. -/
def fnExactDiskReadSpec : ChangeSpec := { name := "fnExactDiskRead", fn := fun _ => fun
  | [d1, d2] => { results := [.lit (.bool true)], args := [d1, d2] }
  | _ => none }
def fnExactDiskReadRow : OpenClaim := { program := "ytnbpeopalfhjnaa", sum := "6b6bd1b978c4f9a3389b0bcc54c28339856b472867f32c6b71c677b88a2ebdea", func := "loop.example/g00798/laws.FnExactDiskRead", spec := "fnExactDiskRead", unfollowed := true, recurses := true, apart := false }
def FnExactDiskReadSaid : Prop := fnExactDiskReadRow.holds Try.pinned (OpenSpec.ofChange fnExactDiskReadSpec)

/-- ITS FALSE NEIGHBOUR: 'it returns false'. Refute it at one input. -/
def fnExactDiskReadWrong : ChangeSpec := { name := "fnExactDiskRead", fn := fun _ => fun
  | [d1, d2] => { results := [.lit (.bool false)], args := [d1, d2] }
  | _ => none }
def FnExactDiskReadWrongFalsely : Prop := fnExactDiskReadRow.holds Try.pinned (OpenSpec.ofChange fnExactDiskReadWrong)

/-- 'laws.FnExactSyncDir': WHATEVER THE INPUT: true; the input reads as it did. -/
def fnExactSyncDirSpec : ChangeSpec := { name := "fnExactSyncDir", fn := fun _ => fun
  | [d] => { results := [.lit (.bool true)], args := [d] }
  | _ => none }
def fnExactSyncDirRow : OpenClaim := { program := "ytnbpeopalfhjnaa", sum := "6b6bd1b978c4f9a3389b0bcc54c28339856b472867f32c6b71c677b88a2ebdea", func := "loop.example/g00798/laws.FnExactSyncDir", spec := "fnExactSyncDir", unfollowed := true, recurses := true, apart := false }
def FnExactSyncDirSaid : Prop := fnExactSyncDirRow.holds Try.pinned (OpenSpec.ofChange fnExactSyncDirSpec)

/-- ITS FALSE NEIGHBOUR: 'it returns false'. Refute it at one input. -/
def fnExactSyncDirWrong : ChangeSpec := { name := "fnExactSyncDir", fn := fun _ => fun
  | [d] => { results := [.lit (.bool false)], args := [d] }
  | _ => none }
def FnExactSyncDirWrongFalsely : Prop := fnExactSyncDirRow.holds Try.pinned (OpenSpec.ofChange fnExactSyncDirWrong)

/-- 'laws.FnExactSyncFile': WHATEVER THE INPUT: true; the input reads as it did. -/
def fnExactSyncFileSpec : ChangeSpec := { name := "fnExactSyncFile", fn := fun _ => fun
  | [d1, d2] => { results := [.lit (.bool true)], args := [d1, d2] }
  | _ => none }
def fnExactSyncFileRow : OpenClaim := { program := "ytnbpeopalfhjnaa", sum := "6b6bd1b978c4f9a3389b0bcc54c28339856b472867f32c6b71c677b88a2ebdea", func := "loop.example/g00798/laws.FnExactSyncFile", spec := "fnExactSyncFile", unfollowed := true, recurses := true, apart := false }
def FnExactSyncFileSaid : Prop := fnExactSyncFileRow.holds Try.pinned (OpenSpec.ofChange fnExactSyncFileSpec)

/-- ITS FALSE NEIGHBOUR: 'it returns false'. Refute it at one input. -/
def fnExactSyncFileWrong : ChangeSpec := { name := "fnExactSyncFile", fn := fun _ => fun
  | [d1, d2] => { results := [.lit (.bool false)], args := [d1, d2] }
  | _ => none }
def FnExactSyncFileWrongFalsely : Prop := fnExactSyncFileRow.holds Try.pinned (OpenSpec.ofChange fnExactSyncFileWrong)

/-- 'laws.FnExactRemoveFile': WHATEVER THE INPUT: true; the input reads as it did. -/
def fnExactRemoveFileSpec : ChangeSpec := { name := "fnExactRemoveFile", fn := fun _ => fun
  | [d1, d2] => { results := [.lit (.bool true)], args := [d1, d2] }
  | _ => none }
def fnExactRemoveFileRow : OpenClaim := { program := "ytnbpeopalfhjnaa", sum := "6b6bd1b978c4f9a3389b0bcc54c28339856b472867f32c6b71c677b88a2ebdea", func := "loop.example/g00798/laws.FnExactRemoveFile", spec := "fnExactRemoveFile", unfollowed := true, recurses := true, apart := false }
def FnExactRemoveFileSaid : Prop := fnExactRemoveFileRow.holds Try.pinned (OpenSpec.ofChange fnExactRemoveFileSpec)

/-- ITS FALSE NEIGHBOUR: 'it returns false'. Refute it at one input. -/
def fnExactRemoveFileWrong : ChangeSpec := { name := "fnExactRemoveFile", fn := fun _ => fun
  | [d1, d2] => { results := [.lit (.bool false)], args := [d1, d2] }
  | _ => none }
def FnExactRemoveFileWrongFalsely : Prop := fnExactRemoveFileRow.holds Try.pinned (OpenSpec.ofChange fnExactRemoveFileWrong)

/- THE SECOND FORM. 'bulk': how many values and letters a reading holds, each counted each time it is reached (what is shared counts as often as it is met; a slice's spare places count too). A statement '..UptoSaid' is the law's where the arguments, and the package variables that the reading takes, are together of bulk at most 1048576: NARROWER than '..Said'. Prove '..Said' where nothing that the law and all that it calls make is longer than what came in: it says more and counts as full. Else prove '..UptoSaid'. A law counts once. -/
mutual
def uptoBulk {H : Type} : DataW H → Nat
  | .lit (.string bytes) => bytes.length + 1
  | .lit _ => 1
  | .nil => 1
  | .ptr d => uptoBulk d + 1
  | .slice elems spare => uptoBulkAll elems + uptoBulkAll spare + 1
  | .agg parts => uptoBulkAll parts + 1
  | .iface _ d => uptoBulk d + 1
  | .map entries => uptoBulkEntries entries + 1
  | .held _ => 1
def uptoBulkAll {H : Type} : List (DataW H) → Nat
  | [] => 0
  | d :: r => uptoBulk d + uptoBulkAll r
def uptoBulkEntries {H : Type} : List (Lit × DataW H) → Nat
  | [] => 0
  | x :: r => uptoBulkEntry x + uptoBulkEntries r
def uptoBulkEntry {H : Type} : Lit × DataW H → Nat
  | (.string bytes, d) => bytes.length + uptoBulk d + 1
  | (_, d) => uptoBulk d + 1
 end
def uptoSmall : (H : Type) → List (DataW H) → Bool := fun _ ds => decide (uptoBulkAll ds ≤ 1048576)
def OpenSpec.upto (s : _root_.Go.ChangeSpec) : _root_.Go.OpenSpec := { _root_.Go.OpenSpec.ofChange s with cond := some uptoSmall }

/-- 'laws.FnExactLayerSum', WHERE WHAT IT READS IS OF BULK AT MOST 1048576: true; the input reads as it did. -/
def fnExactLayerSumUptoRow : OpenClaim := { program := "ytnbpeopalfhjnaa", sum := "6b6bd1b978c4f9a3389b0bcc54c28339856b472867f32c6b71c677b88a2ebdea", func := "loop.example/g00798/laws.FnExactLayerSum", spec := "fnExactLayerSum", unfollowed := true, recurses := true, apart := false, narrowed := true }
def FnExactLayerSumUptoSaid : Prop := fnExactLayerSumUptoRow.holds Try.pinned (OpenSpec.upto fnExactLayerSumSpec)

/-- 'laws.FnExactActOK', WHERE WHAT IT READS IS OF BULK AT MOST 1048576: true; the input reads as it did. -/
def fnExactActOKUptoRow : OpenClaim := { program := "ytnbpeopalfhjnaa", sum := "6b6bd1b978c4f9a3389b0bcc54c28339856b472867f32c6b71c677b88a2ebdea", func := "loop.example/g00798/laws.FnExactActOK", spec := "fnExactActOK", apart := false, narrowed := true }
def FnExactActOKUptoSaid : Prop := fnExactActOKUptoRow.holds Try.pinned (OpenSpec.upto fnExactActOKSpec)

/-- 'laws.FnExactDiskOK', WHERE WHAT IT READS IS OF BULK AT MOST 1048576: true; the input reads as it did. -/
def fnExactDiskOKUptoRow : OpenClaim := { program := "ytnbpeopalfhjnaa", sum := "6b6bd1b978c4f9a3389b0bcc54c28339856b472867f32c6b71c677b88a2ebdea", func := "loop.example/g00798/laws.FnExactDiskOK", spec := "fnExactDiskOK", unfollowed := true, recurses := true, apart := false, narrowed := true }
def FnExactDiskOKUptoSaid : Prop := fnExactDiskOKUptoRow.holds Try.pinned (OpenSpec.upto fnExactDiskOKSpec)

/-- 'laws.FnExactSameDisk', WHERE WHAT IT READS IS OF BULK AT MOST 1048576: true; the input reads as it did. -/
def fnExactSameDiskUptoRow : OpenClaim := { program := "ytnbpeopalfhjnaa", sum := "6b6bd1b978c4f9a3389b0bcc54c28339856b472867f32c6b71c677b88a2ebdea", func := "loop.example/g00798/laws.FnExactSameDisk", spec := "fnExactSameDisk", unfollowed := true, recurses := true, apart := false, narrowed := true }
def FnExactSameDiskUptoSaid : Prop := fnExactSameDiskUptoRow.holds Try.pinned (OpenSpec.upto fnExactSameDiskSpec)

/-- 'laws.FnExactDiskRead', WHERE WHAT IT READS IS OF BULK AT MOST 1048576: true; the input reads as it did. -/
def fnExactDiskReadUptoRow : OpenClaim := { program := "ytnbpeopalfhjnaa", sum := "6b6bd1b978c4f9a3389b0bcc54c28339856b472867f32c6b71c677b88a2ebdea", func := "loop.example/g00798/laws.FnExactDiskRead", spec := "fnExactDiskRead", unfollowed := true, recurses := true, apart := false, narrowed := true }
def FnExactDiskReadUptoSaid : Prop := fnExactDiskReadUptoRow.holds Try.pinned (OpenSpec.upto fnExactDiskReadSpec)

/-- 'laws.FnExactSyncDir', WHERE WHAT IT READS IS OF BULK AT MOST 1048576: true; the input reads as it did. -/
def fnExactSyncDirUptoRow : OpenClaim := { program := "ytnbpeopalfhjnaa", sum := "6b6bd1b978c4f9a3389b0bcc54c28339856b472867f32c6b71c677b88a2ebdea", func := "loop.example/g00798/laws.FnExactSyncDir", spec := "fnExactSyncDir", unfollowed := true, recurses := true, apart := false, narrowed := true }
def FnExactSyncDirUptoSaid : Prop := fnExactSyncDirUptoRow.holds Try.pinned (OpenSpec.upto fnExactSyncDirSpec)

/-- 'laws.FnExactSyncFile', WHERE WHAT IT READS IS OF BULK AT MOST 1048576: true; the input reads as it did. -/
def fnExactSyncFileUptoRow : OpenClaim := { program := "ytnbpeopalfhjnaa", sum := "6b6bd1b978c4f9a3389b0bcc54c28339856b472867f32c6b71c677b88a2ebdea", func := "loop.example/g00798/laws.FnExactSyncFile", spec := "fnExactSyncFile", unfollowed := true, recurses := true, apart := false, narrowed := true }
def FnExactSyncFileUptoSaid : Prop := fnExactSyncFileUptoRow.holds Try.pinned (OpenSpec.upto fnExactSyncFileSpec)

/-- 'laws.FnExactRemoveFile', WHERE WHAT IT READS IS OF BULK AT MOST 1048576: true; the input reads as it did. -/
def fnExactRemoveFileUptoRow : OpenClaim := { program := "ytnbpeopalfhjnaa", sum := "6b6bd1b978c4f9a3389b0bcc54c28339856b472867f32c6b71c677b88a2ebdea", func := "loop.example/g00798/laws.FnExactRemoveFile", spec := "fnExactRemoveFile", unfollowed := true, recurses := true, apart := false, narrowed := true }
def FnExactRemoveFileUptoSaid : Prop := fnExactRemoveFileUptoRow.holds Try.pinned (OpenSpec.upto fnExactRemoveFileSpec)

end Rows
end Go.Proofs.Ytnbpeopalfhjnaa
