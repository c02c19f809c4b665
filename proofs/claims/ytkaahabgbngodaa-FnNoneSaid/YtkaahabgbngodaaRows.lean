/-
  No cell of these rows narrows 'for every input' (looked for: loops, veiled, ifaces, maps, wideKeys, modest, calm, conditions, laid).
  DERIVED. THE GIVEN ROWS OF THIS SEAT. 11 by the template 'for every input the law returns true; each argument reads behind the call as it read before'; 0 by the template 'total and deterministic' (their statements: YtkaahabgbngodaaTotals.lean).
  GIVEN WITH THE SEED: the statements are not yours to turn. If you find one false, say at which input.
  Laid BY PROGRAM, IN A SANDBOX (cutbox-rows.mjs): the forced cells as the released guide's own fill.sh prints them over the translation ba3becf5fea1d77a… (all of the seat's roots in one cut). By AI agents, Wed Nov 11 2026. No macro, syntax, notation, axiom, sorry.
-/
import Derived.Test.YtkaahabgbngodaaChecked
import GoSem.Claim
import GoSem.ClaimJoined
import GoSem.ClaimMapViews
import Derived.JoinedTies
import Derived.KernelRfl
namespace Go.Proofs.Ytkaahabgbngodaa
/- THE CELL 'sum', in the pinned program and in every row, IS THE sha256 OF THE DUMP (.gsa) THAT YtkaahabgbngodaaProg.lean LOADS. Nothing in Lean hashes anything: it is a label: what it is worth is what the hold of that sum in a sandbox is worth. -/
noncomputable def Try.pinned : Pinned := { name := "ytkaahabgbngodaa", sum := "ba3becf5fea1d77a7a4d959485d638d5db24be3b48d6cdb3865a64d8d45b1fd3", checked := Try.checked }
namespace Rows
def none {H : Type} : Left H := { results := [], args := [] }

/-- 'laws.FnClock': WHATEVER THE INPUT: true; the input reads as it did. -/
def fnClockSpec : ChangeSpec := { name := "fnClock", fn := fun _ => fun
  | [d] => { results := [.lit (.bool true)], args := [d] }
  | _ => none }
def fnClockRow : OpenClaim := { program := "ytkaahabgbngodaa", sum := "ba3becf5fea1d77a7a4d959485d638d5db24be3b48d6cdb3865a64d8d45b1fd3", func := "loop.example/g00724/laws.FnClock", spec := "fnClock", unfollowed := true, recurses := true, apart := false }
def FnClockSaid : Prop := fnClockRow.holds Try.pinned (OpenSpec.ofChange fnClockSpec)

/-- ITS FALSE NEIGHBOUR: 'it returns false'. Refute it at one input. -/
def fnClockWrong : ChangeSpec := { name := "fnClock", fn := fun _ => fun
  | [d] => { results := [.lit (.bool false)], args := [d] }
  | _ => none }
def FnClockWrongFalsely : Prop := fnClockRow.holds Try.pinned (OpenSpec.ofChange fnClockWrong)

/-- 'laws.FnLoop': WHATEVER THE INPUT: true; the input reads as it did. -/
def fnLoopSpec : ChangeSpec := { name := "fnLoop", fn := fun _ => fun
  | [d] => { results := [.lit (.bool true)], args := [d] }
  | _ => none }
def fnLoopRow : OpenClaim := { program := "ytkaahabgbngodaa", sum := "ba3becf5fea1d77a7a4d959485d638d5db24be3b48d6cdb3865a64d8d45b1fd3", func := "loop.example/g00724/laws.FnLoop", spec := "fnLoop", unfollowed := true, recurses := true, apart := false }
def FnLoopSaid : Prop := fnLoopRow.holds Try.pinned (OpenSpec.ofChange fnLoopSpec)

/-- ITS FALSE NEIGHBOUR: 'it returns false'. Refute it at one input. -/
def fnLoopWrong : ChangeSpec := { name := "fnLoop", fn := fun _ => fun
  | [d] => { results := [.lit (.bool false)], args := [d] }
  | _ => none }
def FnLoopWrongFalsely : Prop := fnLoopRow.holds Try.pinned (OpenSpec.ofChange fnLoopWrong)

/-- 'laws.FnExactTextCmd': WHATEVER THE INPUT: true; the input reads as it did. -/
def fnExactTextCmdSpec : ChangeSpec := { name := "fnExactTextCmd", fn := fun _ => fun
  | [d] => { results := [.lit (.bool true)], args := [d] }
  | _ => none }
def fnExactTextCmdRow : OpenClaim := { program := "ytkaahabgbngodaa", sum := "ba3becf5fea1d77a7a4d959485d638d5db24be3b48d6cdb3865a64d8d45b1fd3", func := "loop.example/g00724/laws.FnExactTextCmd", spec := "fnExactTextCmd", recurses := true, apart := false }
def FnExactTextCmdSaid : Prop := fnExactTextCmdRow.holds Try.pinned (OpenSpec.ofChange fnExactTextCmdSpec)

/-- ITS FALSE NEIGHBOUR: 'it returns false'. Refute it at one input. -/
def fnExactTextCmdWrong : ChangeSpec := { name := "fnExactTextCmd", fn := fun _ => fun
  | [d] => { results := [.lit (.bool false)], args := [d] }
  | _ => none }
def FnExactTextCmdWrongFalsely : Prop := fnExactTextCmdRow.holds Try.pinned (OpenSpec.ofChange fnExactTextCmdWrong)

/-- 'laws.FnCount': WHATEVER THE INPUT: true; the input reads as it did. -/
def fnCountSpec : ChangeSpec := { name := "fnCount", fn := fun _ => fun
  | [d] => { results := [.lit (.bool true)], args := [d] }
  | _ => none }
def fnCountRow : OpenClaim := { program := "ytkaahabgbngodaa", sum := "ba3becf5fea1d77a7a4d959485d638d5db24be3b48d6cdb3865a64d8d45b1fd3", func := "loop.example/g00724/laws.FnCount", spec := "fnCount", unfollowed := true, recurses := true, apart := false }
def FnCountSaid : Prop := fnCountRow.holds Try.pinned (OpenSpec.ofChange fnCountSpec)

/-- ITS FALSE NEIGHBOUR: 'it returns false'. Refute it at one input. -/
def fnCountWrong : ChangeSpec := { name := "fnCount", fn := fun _ => fun
  | [d] => { results := [.lit (.bool false)], args := [d] }
  | _ => none }
def FnCountWrongFalsely : Prop := fnCountRow.holds Try.pinned (OpenSpec.ofChange fnCountWrong)

/-- 'laws.FnNone': WHATEVER THE INPUT: true; the input reads as it did. -/
def fnNoneSpec : ChangeSpec := { name := "fnNone", fn := fun _ => fun
  | [d] => { results := [.lit (.bool true)], args := [d] }
  | _ => none }
def fnNoneRow : OpenClaim := { program := "ytkaahabgbngodaa", sum := "ba3becf5fea1d77a7a4d959485d638d5db24be3b48d6cdb3865a64d8d45b1fd3", func := "loop.example/g00724/laws.FnNone", spec := "fnNone", unfollowed := true, recurses := true, apart := false }
def FnNoneSaid : Prop := fnNoneRow.holds Try.pinned (OpenSpec.ofChange fnNoneSpec)

/-- ITS FALSE NEIGHBOUR: 'it returns false'. Refute it at one input. -/
def fnNoneWrong : ChangeSpec := { name := "fnNone", fn := fun _ => fun
  | [d] => { results := [.lit (.bool false)], args := [d] }
  | _ => none }
def FnNoneWrongFalsely : Prop := fnNoneRow.holds Try.pinned (OpenSpec.ofChange fnNoneWrong)

/-- 'laws.FnLru': WHATEVER THE INPUT: true; the input reads as it did. -/
def fnLruSpec : ChangeSpec := { name := "fnLru", fn := fun _ => fun
  | [d] => { results := [.lit (.bool true)], args := [d] }
  | _ => none }
def fnLruRow : OpenClaim := { program := "ytkaahabgbngodaa", sum := "ba3becf5fea1d77a7a4d959485d638d5db24be3b48d6cdb3865a64d8d45b1fd3", func := "loop.example/g00724/laws.FnLru", spec := "fnLru", unfollowed := true, recurses := true, apart := false }
def FnLruSaid : Prop := fnLruRow.holds Try.pinned (OpenSpec.ofChange fnLruSpec)

/-- ITS FALSE NEIGHBOUR: 'it returns false'. Refute it at one input. -/
def fnLruWrong : ChangeSpec := { name := "fnLru", fn := fun _ => fun
  | [d] => { results := [.lit (.bool false)], args := [d] }
  | _ => none }
def FnLruWrongFalsely : Prop := fnLruRow.holds Try.pinned (OpenSpec.ofChange fnLruWrong)

/-- 'laws.FnLab': WHATEVER THE INPUT: true; the input reads as it did. -/
def fnLabSpec : ChangeSpec := { name := "fnLab", fn := fun _ => fun
  | [d] => { results := [.lit (.bool true)], args := [d] }
  | _ => none }
def fnLabRow : OpenClaim := { program := "ytkaahabgbngodaa", sum := "ba3becf5fea1d77a7a4d959485d638d5db24be3b48d6cdb3865a64d8d45b1fd3", func := "loop.example/g00724/laws.FnLab", spec := "fnLab", unfollowed := true, recurses := true, apart := false }
def FnLabSaid : Prop := fnLabRow.holds Try.pinned (OpenSpec.ofChange fnLabSpec)

/-- ITS FALSE NEIGHBOUR: 'it returns false'. Refute it at one input. -/
def fnLabWrong : ChangeSpec := { name := "fnLab", fn := fun _ => fun
  | [d] => { results := [.lit (.bool false)], args := [d] }
  | _ => none }
def FnLabWrongFalsely : Prop := fnLabRow.holds Try.pinned (OpenSpec.ofChange fnLabWrong)

/-- 'laws.FnRoom': WHATEVER THE INPUT: true; the input reads as it did. -/
def fnRoomSpec : ChangeSpec := { name := "fnRoom", fn := fun _ => fun
  | [d] => { results := [.lit (.bool true)], args := [d] }
  | _ => none }
def fnRoomRow : OpenClaim := { program := "ytkaahabgbngodaa", sum := "ba3becf5fea1d77a7a4d959485d638d5db24be3b48d6cdb3865a64d8d45b1fd3", func := "loop.example/g00724/laws.FnRoom", spec := "fnRoom", unfollowed := true, recurses := true, apart := false }
def FnRoomSaid : Prop := fnRoomRow.holds Try.pinned (OpenSpec.ofChange fnRoomSpec)

/-- ITS FALSE NEIGHBOUR: 'it returns false'. Refute it at one input. -/
def fnRoomWrong : ChangeSpec := { name := "fnRoom", fn := fun _ => fun
  | [d] => { results := [.lit (.bool false)], args := [d] }
  | _ => none }
def FnRoomWrongFalsely : Prop := fnRoomRow.holds Try.pinned (OpenSpec.ofChange fnRoomWrong)

/-- 'laws.FnExactReadCmds': WHATEVER THE INPUT: true; the input reads as it did. -/
def fnExactReadCmdsSpec : ChangeSpec := { name := "fnExactReadCmds", fn := fun _ => fun
  | [d] => { results := [.lit (.bool true)], args := [d] }
  | _ => none }
def fnExactReadCmdsRow : OpenClaim := { program := "ytkaahabgbngodaa", sum := "ba3becf5fea1d77a7a4d959485d638d5db24be3b48d6cdb3865a64d8d45b1fd3", func := "loop.example/g00724/laws.FnExactReadCmds", spec := "fnExactReadCmds", recurses := true, apart := false }
def FnExactReadCmdsSaid : Prop := fnExactReadCmdsRow.holds Try.pinned (OpenSpec.ofChange fnExactReadCmdsSpec)

/-- ITS FALSE NEIGHBOUR: 'it returns false'. Refute it at one input. -/
def fnExactReadCmdsWrong : ChangeSpec := { name := "fnExactReadCmds", fn := fun _ => fun
  | [d] => { results := [.lit (.bool false)], args := [d] }
  | _ => none }
def FnExactReadCmdsWrongFalsely : Prop := fnExactReadCmdsRow.holds Try.pinned (OpenSpec.ofChange fnExactReadCmdsWrong)

/-- 'laws.FnExactOpDo': WHATEVER THE INPUT: true; the input reads as it did. -/
def fnExactOpDoSpec : ChangeSpec := { name := "fnExactOpDo", fn := fun _ => fun
  | [d1, d2] => { results := [.lit (.bool true)], args := [d1, d2] }
  | _ => none }
def fnExactOpDoRow : OpenClaim := { program := "ytkaahabgbngodaa", sum := "ba3becf5fea1d77a7a4d959485d638d5db24be3b48d6cdb3865a64d8d45b1fd3", func := "loop.example/g00724/laws.FnExactOpDo", spec := "fnExactOpDo", unfollowed := true, recurses := true, apart := false }
def FnExactOpDoSaid : Prop := fnExactOpDoRow.holds Try.pinned (OpenSpec.ofChange fnExactOpDoSpec)

/-- ITS FALSE NEIGHBOUR: 'it returns false'. Refute it at one input. -/
def fnExactOpDoWrong : ChangeSpec := { name := "fnExactOpDo", fn := fun _ => fun
  | [d1, d2] => { results := [.lit (.bool false)], args := [d1, d2] }
  | _ => none }
def FnExactOpDoWrongFalsely : Prop := fnExactOpDoRow.holds Try.pinned (OpenSpec.ofChange fnExactOpDoWrong)

/-- 'laws.FnExactCountOf': WHATEVER THE INPUT: true; the input reads as it did. -/
def fnExactCountOfSpec : ChangeSpec := { name := "fnExactCountOf", fn := fun _ => fun
  | [d1, d2] => { results := [.lit (.bool true)], args := [d1, d2] }
  | _ => none }
def fnExactCountOfRow : OpenClaim := { program := "ytkaahabgbngodaa", sum := "ba3becf5fea1d77a7a4d959485d638d5db24be3b48d6cdb3865a64d8d45b1fd3", func := "loop.example/g00724/laws.FnExactCountOf", spec := "fnExactCountOf", unfollowed := true, recurses := true, apart := false }
def FnExactCountOfSaid : Prop := fnExactCountOfRow.holds Try.pinned (OpenSpec.ofChange fnExactCountOfSpec)

/-- ITS FALSE NEIGHBOUR: 'it returns false'. Refute it at one input. -/
def fnExactCountOfWrong : ChangeSpec := { name := "fnExactCountOf", fn := fun _ => fun
  | [d1, d2] => { results := [.lit (.bool false)], args := [d1, d2] }
  | _ => none }
def FnExactCountOfWrongFalsely : Prop := fnExactCountOfRow.holds Try.pinned (OpenSpec.ofChange fnExactCountOfWrong)

/- THE SECOND FORM. 'bulk': how many values and letters a reading holds, each counted each time it is reached (what is shared counts as often as it is met; a slice's spare places count too). A statement '..UptoSaid' is the law's where the arguments, and the package variables that the reading takes, are together of bulk at most 1048576: NARROWER than '..Said'. Prove '..Said' where nothing that the law and all that it calls make is longer than what came in: it says more and counts as full. Else prove '..UptoSaid'. A law counts once. -/
mutual
def uptoBulk {H : Type} : DataW H → Nat
  | .lit (.string bytes) => bytes.length + 1
  | .lit _ => 1
  | .nil => 1
  | .ptr d => uptoBulk d + 1
  | .slice elems spare => uptoBulkAll elems + uptoBulkAll spare + 1
  | .agg parts => uptoBulkAll parts + 1
  | .iface _ d => uptoBulk d + 1
  | .map entries => uptoBulkEntries entries + 1
  | .held _ => 1
def uptoBulkAll {H : Type} : List (DataW H) → Nat
  | [] => 0
  | d :: r => uptoBulk d + uptoBulkAll r
def uptoBulkEntries {H : Type} : List (Lit × DataW H) → Nat
  | [] => 0
  | x :: r => uptoBulkEntry x + uptoBulkEntries r
def uptoBulkEntry {H : Type} : Lit × DataW H → Nat
  | (.string bytes, d) => bytes.length + uptoBulk d + 1
  | (_, d) => uptoBulk d + 1
 end
def uptoSmall : (H : Type) → List (DataW H) → Bool := fun _ ds => decide (uptoBulkAll ds ≤ 1048576)
def OpenSpec.upto (s : _root_.Go.ChangeSpec) : _root_.Go.OpenSpec := { _root_.Go.OpenSpec.ofChange s with cond := some uptoSmall }

/-- 'laws.FnClock', WHERE WHAT IT READS IS OF BULK AT MOST 1048576: true; the input reads as it did. -/
def fnClockUptoRow : OpenClaim := { program := "ytkaahabgbngodaa", sum := "ba3becf5fea1d77a7a4d959485d638d5db24be3b48d6cdb3865a64d8d45b1fd3", func := "loop.example/g00724/laws.FnClock", spec := "fnClock", unfollowed := true, recurses := true, apart := false, narrowed := true }
def FnClockUptoSaid : Prop := fnClockUptoRow.holds Try.pinned (OpenSpec.upto fnClockSpec)

/-- 'laws.FnLoop', WHERE WHAT IT READS IS OF BULK AT MOST 1048576: true; the input reads as it did. -/
def fnLoopUptoRow : OpenClaim := { program := "ytkaahabgbngodaa", sum := "ba3becf5fea1d77a7a4d959485d638d5db24be3b48d6cdb3865a64d8d45b1fd3", func := "loop.example/g00724/laws.FnLoop", spec := "fnLoop", unfollowed := true, recurses := true, apart := false, narrowed := true }
def FnLoopUptoSaid : Prop := fnLoopUptoRow.holds Try.pinned (OpenSpec.upto fnLoopSpec)

/-- 'laws.FnExactTextCmd', WHERE WHAT IT READS IS OF BULK AT MOST 1048576: true; the input reads as it did. -/
def fnExactTextCmdUptoRow : OpenClaim := { program := "ytkaahabgbngodaa", sum := "ba3becf5fea1d77a7a4d959485d638d5db24be3b48d6cdb3865a64d8d45b1fd3", func := "loop.example/g00724/laws.FnExactTextCmd", spec := "fnExactTextCmd", recurses := true, apart := false, narrowed := true }
def FnExactTextCmdUptoSaid : Prop := fnExactTextCmdUptoRow.holds Try.pinned (OpenSpec.upto fnExactTextCmdSpec)

/-- 'laws.FnCount', WHERE WHAT IT READS IS OF BULK AT MOST 1048576: true; the input reads as it did. -/
def fnCountUptoRow : OpenClaim := { program := "ytkaahabgbngodaa", sum := "ba3becf5fea1d77a7a4d959485d638d5db24be3b48d6cdb3865a64d8d45b1fd3", func := "loop.example/g00724/laws.FnCount", spec := "fnCount", unfollowed := true, recurses := true, apart := false, narrowed := true }
def FnCountUptoSaid : Prop := fnCountUptoRow.holds Try.pinned (OpenSpec.upto fnCountSpec)

/-- 'laws.FnNone', WHERE WHAT IT READS IS OF BULK AT MOST 1048576: true; the input reads as it did. -/
def fnNoneUptoRow : OpenClaim := { program := "ytkaahabgbngodaa", sum := "ba3becf5fea1d77a7a4d959485d638d5db24be3b48d6cdb3865a64d8d45b1fd3", func := "loop.example/g00724/laws.FnNone", spec := "fnNone", unfollowed := true, recurses := true, apart := false, narrowed := true }
def FnNoneUptoSaid : Prop := fnNoneUptoRow.holds Try.pinned (OpenSpec.upto fnNoneSpec)

/-- 'laws.FnLru', WHERE WHAT IT READS IS OF BULK AT MOST 1048576: true; the input reads as it did. -/
def fnLruUptoRow : OpenClaim := { program := "ytkaahabgbngodaa", sum := "ba3becf5fea1d77a7a4d959485d638d5db24be3b48d6cdb3865a64d8d45b1fd3", func := "loop.example/g00724/laws.FnLru", spec := "fnLru", unfollowed := true, recurses := true, apart := false, narrowed := true }
def FnLruUptoSaid : Prop := fnLruUptoRow.holds Try.pinned (OpenSpec.upto fnLruSpec)

/-- 'laws.FnLab', WHERE WHAT IT READS IS OF BULK AT MOST 1048576: true; the input reads as it did. -/
def fnLabUptoRow : OpenClaim := { program := "ytkaahabgbngodaa", sum := "ba3becf5fea1d77a7a4d959485d638d5db24be3b48d6cdb3865a64d8d45b1fd3", func := "loop.example/g00724/laws.FnLab", spec := "fnLab", unfollowed := true, recurses := true, apart := false, narrowed := true }
def FnLabUptoSaid : Prop := fnLabUptoRow.holds Try.pinned (OpenSpec.upto fnLabSpec)

/-- 'laws.FnRoom', WHERE WHAT IT READS IS OF BULK AT MOST 1048576: true; the input reads as it did. -/
def fnRoomUptoRow : OpenClaim := { program := "ytkaahabgbngodaa", sum := "ba3becf5fea1d77a7a4d959485d638d5db24be3b48d6cdb3865a64d8d45b1fd3", func := "loop.example/g00724/laws.FnRoom", spec := "fnRoom", unfollowed := true, recurses := true, apart := false, narrowed := true }
def FnRoomUptoSaid : Prop := fnRoomUptoRow.holds Try.pinned (OpenSpec.upto fnRoomSpec)

/-- 'laws.FnExactReadCmds', WHERE WHAT IT READS IS OF BULK AT MOST 1048576: true; the input reads as it did. -/
def fnExactReadCmdsUptoRow : OpenClaim := { program := "ytkaahabgbngodaa", sum := "ba3becf5fea1d77a7a4d959485d638d5db24be3b48d6cdb3865a64d8d45b1fd3", func := "loop.example/g00724/laws.FnExactReadCmds", spec := "fnExactReadCmds", recurses := true, apart := false, narrowed := true }
def FnExactReadCmdsUptoSaid : Prop := fnExactReadCmdsUptoRow.holds Try.pinned (OpenSpec.upto fnExactReadCmdsSpec)

/-- 'laws.FnExactOpDo', WHERE WHAT IT READS IS OF BULK AT MOST 1048576: true; the input reads as it did. -/
def fnExactOpDoUptoRow : OpenClaim := { program := "ytkaahabgbngodaa", sum := "ba3becf5fea1d77a7a4d959485d638d5db24be3b48d6cdb3865a64d8d45b1fd3", func := "loop.example/g00724/laws.FnExactOpDo", spec := "fnExactOpDo", unfollowed := true, recurses := true, apart := false, narrowed := true }
def FnExactOpDoUptoSaid : Prop := fnExactOpDoUptoRow.holds Try.pinned (OpenSpec.upto fnExactOpDoSpec)

/-- 'laws.FnExactCountOf', WHERE WHAT IT READS IS OF BULK AT MOST 1048576: true; the input reads as it did. -/
def fnExactCountOfUptoRow : OpenClaim := { program := "ytkaahabgbngodaa", sum := "ba3becf5fea1d77a7a4d959485d638d5db24be3b48d6cdb3865a64d8d45b1fd3", func := "loop.example/g00724/laws.FnExactCountOf", spec := "fnExactCountOf", unfollowed := true, recurses := true, apart := false, narrowed := true }
def FnExactCountOfUptoSaid : Prop := fnExactCountOfUptoRow.holds Try.pinned (OpenSpec.upto fnExactCountOfSpec)

end Rows
end Go.Proofs.Ytkaahabgbngodaa
