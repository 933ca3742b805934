/-
  NARROWER THAN 'FOR EVERY INPUT', by the rows' own cells (each row's printed sentence says how): FnExactPutFor: loops · FnExactFoldCore: loops · FnExactFoldable: loops · FnExactClose: loops.
  DERIVED. THE GIVEN ROWS OF THIS SEAT. 6 by the template 'for every input the law returns true; each argument reads behind the call as it read before'; 0 by the template 'total and deterministic' (their statements: YtnnejoalamkkpaaTotals.lean).
  GIVEN WITH THE SEED: the statements are not yours to turn. If you find one false, say at which input.
  Laid BY PROGRAM, IN A SANDBOX (cutbox-rows.mjs): the forced cells as the released guide's own fill.sh prints them over the translation 766bf408465333b3… (all of the seat's roots in one cut). By AI agents, Wed Nov 11 2026. No macro, syntax, notation, axiom, sorry.
-/
import Derived.Test.YtnnejoalamkkpaaChecked
import GoSem.Claim
import GoSem.ClaimJoined
import GoSem.ClaimMapViews
import Derived.JoinedTies
import Derived.KernelRfl
namespace Go.Proofs.Ytnnejoalamkkpaa
/- THE CELL 'sum', in the pinned program and in every row, IS THE sha256 OF THE DUMP (.gsa) THAT YtnnejoalamkkpaaProg.lean LOADS. Nothing in Lean hashes anything: it is a label: what it is worth is what the hold of that sum in a sandbox is worth. -/
noncomputable def Try.pinned : Pinned := { name := "ytnnejoalamkkpaa", sum := "766bf408465333b3307fec7893e29d873f67ba7e6e56ade8b2df12f11619fbb0", checked := Try.checked }
namespace Rows
def none {H : Type} : Left H := { results := [], args := [] }

/-- 'laws.FnExactPutFor': WHATEVER THE INPUT: true; the input reads as it did. -/
def fnExactPutForSpec : ChangeSpec := { name := "fnExactPutFor", fn := fun _ => fun
  | [d1, d2, d3] => { results := [.lit (.bool true)], args := [d1, d2, d3] }
  | _ => none }
def fnExactPutForRow : OpenClaim := { program := "ytnnejoalamkkpaa", sum := "766bf408465333b3307fec7893e29d873f67ba7e6e56ade8b2df12f11619fbb0", func := "loop.example/g00396/laws.FnExactPutFor", spec := "fnExactPutFor", recurses := true, loops := true, apart := false }
def FnExactPutForSaid : Prop := fnExactPutForRow.holds Try.pinned (OpenSpec.ofChange fnExactPutForSpec)

/-- ITS FALSE NEIGHBOUR: 'it returns false'. Refute it at one input. -/
def fnExactPutForWrong : ChangeSpec := { name := "fnExactPutFor", fn := fun _ => fun
  | [d1, d2, d3] => { results := [.lit (.bool false)], args := [d1, d2, d3] }
  | _ => none }
def FnExactPutForWrongFalsely : Prop := fnExactPutForRow.holds Try.pinned (OpenSpec.ofChange fnExactPutForWrong)

/-- 'laws.FnExactPeepFuns': WHATEVER THE INPUT: true; the input reads as it did. -/
def fnExactPeepFunsSpec : ChangeSpec := { name := "fnExactPeepFuns", fn := fun _ => fun
  | [d] => { results := [.lit (.bool true)], args := [d] }
  | _ => none }
def fnExactPeepFunsRow : OpenClaim := { program := "ytnnejoalamkkpaa", sum := "766bf408465333b3307fec7893e29d873f67ba7e6e56ade8b2df12f11619fbb0", func := "loop.example/g00396/laws.FnExactPeepFuns", spec := "fnExactPeepFuns", unfollowed := true, recurses := true, apart := false }
def FnExactPeepFunsSaid : Prop := fnExactPeepFunsRow.holds Try.pinned (OpenSpec.ofChange fnExactPeepFunsSpec)

/-- ITS FALSE NEIGHBOUR: 'it returns false'. Refute it at one input. -/
def fnExactPeepFunsWrong : ChangeSpec := { name := "fnExactPeepFuns", fn := fun _ => fun
  | [d] => { results := [.lit (.bool false)], args := [d] }
  | _ => none }
def FnExactPeepFunsWrongFalsely : Prop := fnExactPeepFunsRow.holds Try.pinned (OpenSpec.ofChange fnExactPeepFunsWrong)

/-- 'laws.FnExactDead': WHATEVER THE INPUT: true; the input reads as it did. -/
def fnExactDeadSpec : ChangeSpec := { name := "fnExactDead", fn := fun _ => fun
  | [d] => { results := [.lit (.bool true)], args := [d] }
  | _ => none }
def fnExactDeadRow : OpenClaim := { program := "ytnnejoalamkkpaa", sum := "766bf408465333b3307fec7893e29d873f67ba7e6e56ade8b2df12f11619fbb0", func := "loop.example/g00396/laws.FnExactDead", spec := "fnExactDead", unfollowed := true, recurses := true, apart := false }
def FnExactDeadSaid : Prop := fnExactDeadRow.holds Try.pinned (OpenSpec.ofChange fnExactDeadSpec)

/-- ITS FALSE NEIGHBOUR: 'it returns false'. Refute it at one input. -/
def fnExactDeadWrong : ChangeSpec := { name := "fnExactDead", fn := fun _ => fun
  | [d] => { results := [.lit (.bool false)], args := [d] }
  | _ => none }
def FnExactDeadWrongFalsely : Prop := fnExactDeadRow.holds Try.pinned (OpenSpec.ofChange fnExactDeadWrong)

/-- 'laws.FnExactFoldCore': WHATEVER THE INPUT: true; the input reads as it did. -/
def fnExactFoldCoreSpec : ChangeSpec := { name := "fnExactFoldCore", fn := fun _ => fun
  | [d] => { results := [.lit (.bool true)], args := [d] }
  | _ => none }
def fnExactFoldCoreRow : OpenClaim := { program := "ytnnejoalamkkpaa", sum := "766bf408465333b3307fec7893e29d873f67ba7e6e56ade8b2df12f11619fbb0", func := "loop.example/g00396/laws.FnExactFoldCore", spec := "fnExactFoldCore", unfollowed := true, recurses := true, loops := true, apart := false }
def FnExactFoldCoreSaid : Prop := fnExactFoldCoreRow.holds Try.pinned (OpenSpec.ofChange fnExactFoldCoreSpec)

/-- ITS FALSE NEIGHBOUR: 'it returns false'. Refute it at one input. -/
def fnExactFoldCoreWrong : ChangeSpec := { name := "fnExactFoldCore", fn := fun _ => fun
  | [d] => { results := [.lit (.bool false)], args := [d] }
  | _ => none }
def FnExactFoldCoreWrongFalsely : Prop := fnExactFoldCoreRow.holds Try.pinned (OpenSpec.ofChange fnExactFoldCoreWrong)

/-- 'laws.FnExactFoldable': WHATEVER THE INPUT: true; the input reads as it did. -/
def fnExactFoldableSpec : ChangeSpec := { name := "fnExactFoldable", fn := fun _ => fun
  | [d] => { results := [.lit (.bool true)], args := [d] }
  | _ => none }
def fnExactFoldableRow : OpenClaim := { program := "ytnnejoalamkkpaa", sum := "766bf408465333b3307fec7893e29d873f67ba7e6e56ade8b2df12f11619fbb0", func := "loop.example/g00396/laws.FnExactFoldable", spec := "fnExactFoldable", unfollowed := true, recurses := true, loops := true, apart := false }
def FnExactFoldableSaid : Prop := fnExactFoldableRow.holds Try.pinned (OpenSpec.ofChange fnExactFoldableSpec)

/-- ITS FALSE NEIGHBOUR: 'it returns false'. Refute it at one input. -/
def fnExactFoldableWrong : ChangeSpec := { name := "fnExactFoldable", fn := fun _ => fun
  | [d] => { results := [.lit (.bool false)], args := [d] }
  | _ => none }
def FnExactFoldableWrongFalsely : Prop := fnExactFoldableRow.holds Try.pinned (OpenSpec.ofChange fnExactFoldableWrong)

/-- 'laws.FnExactClose': WHATEVER THE INPUT: true; the input reads as it did. -/
def fnExactCloseSpec : ChangeSpec := { name := "fnExactClose", fn := fun _ => fun
  | [d] => { results := [.lit (.bool true)], args := [d] }
  | _ => none }
def fnExactCloseRow : OpenClaim := { program := "ytnnejoalamkkpaa", sum := "766bf408465333b3307fec7893e29d873f67ba7e6e56ade8b2df12f11619fbb0", func := "loop.example/g00396/laws.FnExactClose", spec := "fnExactClose", unfollowed := true, recurses := true, loops := true, apart := false }
def FnExactCloseSaid : Prop := fnExactCloseRow.holds Try.pinned (OpenSpec.ofChange fnExactCloseSpec)

/-- ITS FALSE NEIGHBOUR: 'it returns false'. Refute it at one input. -/
def fnExactCloseWrong : ChangeSpec := { name := "fnExactClose", fn := fun _ => fun
  | [d] => { results := [.lit (.bool false)], args := [d] }
  | _ => none }
def FnExactCloseWrongFalsely : Prop := fnExactCloseRow.holds Try.pinned (OpenSpec.ofChange fnExactCloseWrong)

/- THE SECOND FORM. 'bulk': how many values and letters a reading holds, each counted each time it is reached (what is shared counts as often as it is met; a slice's spare places count too). A statement '..UptoSaid' is the law's where the arguments, and the package variables that the reading takes, are together of bulk at most 1048576: NARROWER than '..Said'. Prove '..Said' where nothing that the law and all that it calls make is longer than what came in: it says more and counts as full. Else prove '..UptoSaid'. A law counts once. -/
mutual
def uptoBulk {H : Type} : DataW H → Nat
  | .lit (.string bytes) => bytes.length + 1
  | .lit _ => 1
  | .nil => 1
  | .ptr d => uptoBulk d + 1
  | .slice elems spare => uptoBulkAll elems + uptoBulkAll spare + 1
  | .agg parts => uptoBulkAll parts + 1
  | .iface _ d => uptoBulk d + 1
  | .map entries => uptoBulkEntries entries + 1
  | .held _ => 1
def uptoBulkAll {H : Type} : List (DataW H) → Nat
  | [] => 0
  | d :: r => uptoBulk d + uptoBulkAll r
def uptoBulkEntries {H : Type} : List (Lit × DataW H) → Nat
  | [] => 0
  | x :: r => uptoBulkEntry x + uptoBulkEntries r
def uptoBulkEntry {H : Type} : Lit × DataW H → Nat
  | (.string bytes, d) => bytes.length + uptoBulk d + 1
  | (_, d) => uptoBulk d + 1
 end
def uptoSmall : (H : Type) → List (DataW H) → Bool := fun _ ds => decide (uptoBulkAll ds ≤ 1048576)
def OpenSpec.upto (s : _root_.Go.ChangeSpec) : _root_.Go.OpenSpec := { _root_.Go.OpenSpec.ofChange s with cond := some uptoSmall }

/-- 'laws.FnExactPutFor', WHERE WHAT IT READS IS OF BULK AT MOST 1048576: true; the input reads as it did. -/
def fnExactPutForUptoRow : OpenClaim := { program := "ytnnejoalamkkpaa", sum := "766bf408465333b3307fec7893e29d873f67ba7e6e56ade8b2df12f11619fbb0", func := "loop.example/g00396/laws.FnExactPutFor", spec := "fnExactPutFor", recurses := true, loops := true, apart := false, narrowed := true }
def FnExactPutForUptoSaid : Prop := fnExactPutForUptoRow.holds Try.pinned (OpenSpec.upto fnExactPutForSpec)

/-- 'laws.FnExactPeepFuns', WHERE WHAT IT READS IS OF BULK AT MOST 1048576: true; the input reads as it did. -/
def fnExactPeepFunsUptoRow : OpenClaim := { program := "ytnnejoalamkkpaa", sum := "766bf408465333b3307fec7893e29d873f67ba7e6e56ade8b2df12f11619fbb0", func := "loop.example/g00396/laws.FnExactPeepFuns", spec := "fnExactPeepFuns", unfollowed := true, recurses := true, apart := false, narrowed := true }
def FnExactPeepFunsUptoSaid : Prop := fnExactPeepFunsUptoRow.holds Try.pinned (OpenSpec.upto fnExactPeepFunsSpec)

/-- 'laws.FnExactDead', WHERE WHAT IT READS IS OF BULK AT MOST 1048576: true; the input reads as it did. -/
def fnExactDeadUptoRow : OpenClaim := { program := "ytnnejoalamkkpaa", sum := "766bf408465333b3307fec7893e29d873f67ba7e6e56ade8b2df12f11619fbb0", func := "loop.example/g00396/laws.FnExactDead", spec := "fnExactDead", unfollowed := true, recurses := true, apart := false, narrowed := true }
def FnExactDeadUptoSaid : Prop := fnExactDeadUptoRow.holds Try.pinned (OpenSpec.upto fnExactDeadSpec)

/-- 'laws.FnExactFoldCore', WHERE WHAT IT READS IS OF BULK AT MOST 1048576: true; the input reads as it did. -/
def fnExactFoldCoreUptoRow : OpenClaim := { program := "ytnnejoalamkkpaa", sum := "766bf408465333b3307fec7893e29d873f67ba7e6e56ade8b2df12f11619fbb0", func := "loop.example/g00396/laws.FnExactFoldCore", spec := "fnExactFoldCore", unfollowed := true, recurses := true, loops := true, apart := false, narrowed := true }
def FnExactFoldCoreUptoSaid : Prop := fnExactFoldCoreUptoRow.holds Try.pinned (OpenSpec.upto fnExactFoldCoreSpec)

/-- 'laws.FnExactFoldable', WHERE WHAT IT READS IS OF BULK AT MOST 1048576: true; the input reads as it did. -/
def fnExactFoldableUptoRow : OpenClaim := { program := "ytnnejoalamkkpaa", sum := "766bf408465333b3307fec7893e29d873f67ba7e6e56ade8b2df12f11619fbb0", func := "loop.example/g00396/laws.FnExactFoldable", spec := "fnExactFoldable", unfollowed := true, recurses := true, loops := true, apart := false, narrowed := true }
def FnExactFoldableUptoSaid : Prop := fnExactFoldableUptoRow.holds Try.pinned (OpenSpec.upto fnExactFoldableSpec)

/-- 'laws.FnExactClose', WHERE WHAT IT READS IS OF BULK AT MOST 1048576: true; the input reads as it did. -/
def fnExactCloseUptoRow : OpenClaim := { program := "ytnnejoalamkkpaa", sum := "766bf408465333b3307fec7893e29d873f67ba7e6e56ade8b2df12f11619fbb0", func := "loop.example/g00396/laws.FnExactClose", spec := "fnExactClose", unfollowed := true, recurses := true, loops := true, apart := false, narrowed := true }
def FnExactCloseUptoSaid : Prop := fnExactCloseUptoRow.holds Try.pinned (OpenSpec.upto fnExactCloseSpec)

end Rows
end Go.Proofs.Ytnnejoalamkkpaa
