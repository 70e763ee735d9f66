/-
  No cell of these rows narrows 'for every input' (looked for: loops, veiled, ifaces, maps, wideKeys, modest, calm, conditions, laid).
  DERIVED. THE GIVEN ROWS OF THIS SEAT. 5 by the template 'for every input the law returns true; each argument reads behind the call as it read before'; 0 by the template 'total and deterministic' (their statements: YtckilbegmbaeeaaGreatTotals.lean).
  GIVEN WITH THE SEED: the statements are not yours to turn. If you find one false, say at which input.
  Laid BY PROGRAM, IN A SANDBOX (cutbox-rows.mjs): the forced cells as the released guide's own fill.sh prints them over the translation 50c0fe8fbbe07682… (all of the seat's roots in one cut). By AI agents, Wed Nov 11 2026. No macro, syntax, notation, axiom, sorry.
-/
import Derived.Test.YtckilbegmbaeeaaGreatChecked
import GoSem.Claim
import GoSem.ClaimJoined
import GoSem.ClaimMapViews
import Derived.JoinedTies
import Derived.KernelRfl
namespace Go.Proofs.YtckilbegmbaeeaaGreat
/- THE CELL 'sum', in the pinned program and in every row, IS THE sha256 OF THE DUMP (.gsa) THAT YtckilbegmbaeeaaGreatProg.lean LOADS. Nothing in Lean hashes anything: it is a label: what it is worth is what the hold of that sum in a sandbox is worth. -/
noncomputable def Tryz.pinned : Pinned := { name := "ytckilbegmbaeeaagreat", sum := "50c0fe8fbbe07682f48ab016b3ab7da432bb5804433f2f4bf823bb6c2c61300f", checked := Tryz.checked }
namespace Rows
def none {H : Type} : Left H := { results := [], args := [] }

/-- 'wayfarerlaw16.ScreenPlays': WHATEVER THE INPUT: true; the input reads as it did. -/
def screenPlaysSpec : ChangeSpec := { name := "screenPlays", fn := fun _ => fun
  | [d1, d2] => { results := [.lit (.bool true)], args := [d1, d2] }
  | _ => none }
def screenPlaysRow : OpenClaim := { program := "ytckilbegmbaeeaagreat", sum := "50c0fe8fbbe07682f48ab016b3ab7da432bb5804433f2f4bf823bb6c2c61300f", func := "wayfarer/wayfarerlaw16.ScreenPlays", spec := "screenPlays", inPlace := ["slices.overlaps[int]"], unfollowed := true, recurses := true, apart := false }
def ScreenPlaysSaid : Prop := screenPlaysRow.holds Tryz.pinned (OpenSpec.ofChange screenPlaysSpec)

/-- ITS FALSE NEIGHBOUR: 'it returns false'. Refute it at one input. -/
def screenPlaysWrong : ChangeSpec := { name := "screenPlays", fn := fun _ => fun
  | [d1, d2] => { results := [.lit (.bool false)], args := [d1, d2] }
  | _ => none }
def ScreenPlaysWrongFalsely : Prop := screenPlaysRow.holds Tryz.pinned (OpenSpec.ofChange screenPlaysWrong)

/-- 'wayfarerlaw16.ScreenStays': WHATEVER THE INPUT: true; the input reads as it did. -/
def screenStaysSpec : ChangeSpec := { name := "screenStays", fn := fun _ => fun
  | [d1, d2] => { results := [.lit (.bool true)], args := [d1, d2] }
  | _ => none }
def screenStaysRow : OpenClaim := { program := "ytckilbegmbaeeaagreat", sum := "50c0fe8fbbe07682f48ab016b3ab7da432bb5804433f2f4bf823bb6c2c61300f", func := "wayfarer/wayfarerlaw16.ScreenStays", spec := "screenStays", inPlace := ["slices.overlaps[int]"], unfollowed := true, recurses := true, apart := false }
def ScreenStaysSaid : Prop := screenStaysRow.holds Tryz.pinned (OpenSpec.ofChange screenStaysSpec)

/-- ITS FALSE NEIGHBOUR: 'it returns false'. Refute it at one input. -/
def screenStaysWrong : ChangeSpec := { name := "screenStays", fn := fun _ => fun
  | [d1, d2] => { results := [.lit (.bool false)], args := [d1, d2] }
  | _ => none }
def ScreenStaysWrongFalsely : Prop := screenStaysRow.holds Tryz.pinned (OpenSpec.ofChange screenStaysWrong)

/-- 'wayfarerlaw16.ScreenKeeps': WHATEVER THE INPUT: true; the input reads as it did. -/
def screenKeepsSpec : ChangeSpec := { name := "screenKeeps", fn := fun _ => fun
  | [d1, d2] => { results := [.lit (.bool true)], args := [d1, d2] }
  | _ => none }
def screenKeepsRow : OpenClaim := { program := "ytckilbegmbaeeaagreat", sum := "50c0fe8fbbe07682f48ab016b3ab7da432bb5804433f2f4bf823bb6c2c61300f", func := "wayfarer/wayfarerlaw16.ScreenKeeps", spec := "screenKeeps", inPlace := ["slices.overlaps[int]"], unfollowed := true, recurses := true, apart := false }
def ScreenKeepsSaid : Prop := screenKeepsRow.holds Tryz.pinned (OpenSpec.ofChange screenKeepsSpec)

/-- ITS FALSE NEIGHBOUR: 'it returns false'. Refute it at one input. -/
def screenKeepsWrong : ChangeSpec := { name := "screenKeeps", fn := fun _ => fun
  | [d1, d2] => { results := [.lit (.bool false)], args := [d1, d2] }
  | _ => none }
def ScreenKeepsWrongFalsely : Prop := screenKeepsRow.holds Tryz.pinned (OpenSpec.ofChange screenKeepsWrong)

/-- 'wayfarerlaw16.ScreenFresh': WHATEVER THE INPUT: true; the input reads as it did. -/
def screenFreshSpec : ChangeSpec := { name := "screenFresh", fn := fun _ => fun
  | [d1, d2] => { results := [.lit (.bool true)], args := [d1, d2] }
  | _ => none }
def screenFreshRow : OpenClaim := { program := "ytckilbegmbaeeaagreat", sum := "50c0fe8fbbe07682f48ab016b3ab7da432bb5804433f2f4bf823bb6c2c61300f", func := "wayfarer/wayfarerlaw16.ScreenFresh", spec := "screenFresh", inPlace := ["slices.overlaps[int]"], unfollowed := true, recurses := true, apart := false }
def ScreenFreshSaid : Prop := screenFreshRow.holds Tryz.pinned (OpenSpec.ofChange screenFreshSpec)

/-- ITS FALSE NEIGHBOUR: 'it returns false'. Refute it at one input. -/
def screenFreshWrong : ChangeSpec := { name := "screenFresh", fn := fun _ => fun
  | [d1, d2] => { results := [.lit (.bool false)], args := [d1, d2] }
  | _ => none }
def ScreenFreshWrongFalsely : Prop := screenFreshRow.holds Tryz.pinned (OpenSpec.ofChange screenFreshWrong)

/-- 'wayfarerlaw16.ScreenDoes': WHATEVER THE INPUT: true; the input reads as it did. -/
def screenDoesSpec : ChangeSpec := { name := "screenDoes", fn := fun _ => fun
  | [d1, d2, d3] => { results := [.lit (.bool true)], args := [d1, d2, d3] }
  | _ => none }
def screenDoesRow : OpenClaim := { program := "ytckilbegmbaeeaagreat", sum := "50c0fe8fbbe07682f48ab016b3ab7da432bb5804433f2f4bf823bb6c2c61300f", func := "wayfarer/wayfarerlaw16.ScreenDoes", spec := "screenDoes", inPlace := ["slices.overlaps[int]"], unfollowed := true, recurses := true, apart := false }
def ScreenDoesSaid : Prop := screenDoesRow.holds Tryz.pinned (OpenSpec.ofChange screenDoesSpec)

/-- ITS FALSE NEIGHBOUR: 'it returns false'. Refute it at one input. -/
def screenDoesWrong : ChangeSpec := { name := "screenDoes", fn := fun _ => fun
  | [d1, d2, d3] => { results := [.lit (.bool false)], args := [d1, d2, d3] }
  | _ => none }
def ScreenDoesWrongFalsely : Prop := screenDoesRow.holds Tryz.pinned (OpenSpec.ofChange screenDoesWrong)

/- THE SECOND FORM. 'bulk': how many values and letters a reading holds, each counted each time it is reached (what is shared counts as often as it is met; a slice's spare places count too). A statement '..UptoSaid' is the law's where the arguments, and the package variables that the reading takes, are together of bulk at most 1048576: NARROWER than '..Said'. Prove '..Said' where nothing that the law and all that it calls make is longer than what came in: it says more and counts as full. Else prove '..UptoSaid'. A law counts once. -/
mutual
def uptoBulk {H : Type} : DataW H → Nat
  | .lit (.string bytes) => bytes.length + 1
  | .lit _ => 1
  | .nil => 1
  | .ptr d => uptoBulk d + 1
  | .slice elems spare => uptoBulkAll elems + uptoBulkAll spare + 1
  | .agg parts => uptoBulkAll parts + 1
  | .iface _ d => uptoBulk d + 1
  | .map entries => uptoBulkEntries entries + 1
  | .held _ => 1
def uptoBulkAll {H : Type} : List (DataW H) → Nat
  | [] => 0
  | d :: r => uptoBulk d + uptoBulkAll r
def uptoBulkEntries {H : Type} : List (Lit × DataW H) → Nat
  | [] => 0
  | x :: r => uptoBulkEntry x + uptoBulkEntries r
def uptoBulkEntry {H : Type} : Lit × DataW H → Nat
  | (.string bytes, d) => bytes.length + uptoBulk d + 1
  | (_, d) => uptoBulk d + 1
 end
def uptoSmall : (H : Type) → List (DataW H) → Bool := fun _ ds => decide (uptoBulkAll ds ≤ 1048576)
def OpenSpec.upto (s : _root_.Go.ChangeSpec) : _root_.Go.OpenSpec := { _root_.Go.OpenSpec.ofChange s with cond := some uptoSmall }

/-- 'wayfarerlaw16.ScreenPlays', WHERE WHAT IT READS IS OF BULK AT MOST 1048576: true; the input reads as it did. -/
def screenPlaysUptoRow : OpenClaim := { program := "ytckilbegmbaeeaagreat", sum := "50c0fe8fbbe07682f48ab016b3ab7da432bb5804433f2f4bf823bb6c2c61300f", func := "wayfarer/wayfarerlaw16.ScreenPlays", spec := "screenPlays", inPlace := ["slices.overlaps[int]"], unfollowed := true, recurses := true, apart := false, narrowed := true }
def ScreenPlaysUptoSaid : Prop := screenPlaysUptoRow.holds Tryz.pinned (OpenSpec.upto screenPlaysSpec)

/-- 'wayfarerlaw16.ScreenStays', WHERE WHAT IT READS IS OF BULK AT MOST 1048576: true; the input reads as it did. -/
def screenStaysUptoRow : OpenClaim := { program := "ytckilbegmbaeeaagreat", sum := "50c0fe8fbbe07682f48ab016b3ab7da432bb5804433f2f4bf823bb6c2c61300f", func := "wayfarer/wayfarerlaw16.ScreenStays", spec := "screenStays", inPlace := ["slices.overlaps[int]"], unfollowed := true, recurses := true, apart := false, narrowed := true }
def ScreenStaysUptoSaid : Prop := screenStaysUptoRow.holds Tryz.pinned (OpenSpec.upto screenStaysSpec)

/-- 'wayfarerlaw16.ScreenKeeps', WHERE WHAT IT READS IS OF BULK AT MOST 1048576: true; the input reads as it did. -/
def screenKeepsUptoRow : OpenClaim := { program := "ytckilbegmbaeeaagreat", sum := "50c0fe8fbbe07682f48ab016b3ab7da432bb5804433f2f4bf823bb6c2c61300f", func := "wayfarer/wayfarerlaw16.ScreenKeeps", spec := "screenKeeps", inPlace := ["slices.overlaps[int]"], unfollowed := true, recurses := true, apart := false, narrowed := true }
def ScreenKeepsUptoSaid : Prop := screenKeepsUptoRow.holds Tryz.pinned (OpenSpec.upto screenKeepsSpec)

/-- 'wayfarerlaw16.ScreenFresh', WHERE WHAT IT READS IS OF BULK AT MOST 1048576: true; the input reads as it did. -/
def screenFreshUptoRow : OpenClaim := { program := "ytckilbegmbaeeaagreat", sum := "50c0fe8fbbe07682f48ab016b3ab7da432bb5804433f2f4bf823bb6c2c61300f", func := "wayfarer/wayfarerlaw16.ScreenFresh", spec := "screenFresh", inPlace := ["slices.overlaps[int]"], unfollowed := true, recurses := true, apart := false, narrowed := true }
def ScreenFreshUptoSaid : Prop := screenFreshUptoRow.holds Tryz.pinned (OpenSpec.upto screenFreshSpec)

/-- 'wayfarerlaw16.ScreenDoes', WHERE WHAT IT READS IS OF BULK AT MOST 1048576: true; the input reads as it did. -/
def screenDoesUptoRow : OpenClaim := { program := "ytckilbegmbaeeaagreat", sum := "50c0fe8fbbe07682f48ab016b3ab7da432bb5804433f2f4bf823bb6c2c61300f", func := "wayfarer/wayfarerlaw16.ScreenDoes", spec := "screenDoes", inPlace := ["slices.overlaps[int]"], unfollowed := true, recurses := true, apart := false, narrowed := true }
def ScreenDoesUptoSaid : Prop := screenDoesUptoRow.holds Tryz.pinned (OpenSpec.upto screenDoesSpec)

end Rows
end Go.Proofs.YtckilbegmbaeeaaGreat
