/-
  No cell of these rows narrows 'for every input' (looked for: loops, veiled, ifaces, maps, wideKeys, modest, calm, conditions, laid).
  DERIVED. THE GIVEN ROWS OF THIS SEAT. 11 by the template 'for every input the law returns true; each argument reads behind the call as it read before'; 0 by the template 'total and deterministic' (their statements: YtodkeoibebimgaaTotals.lean).
  GIVEN WITH THE SEED: the statements are not yours to turn. If you find one false, say at which input.
  Laid BY PROGRAM, IN A SANDBOX (cutbox-rows.mjs): the forced cells as the released guide's own fill.sh prints them over the translation 43b17a04af5468ad… (all of the seat's roots in one cut). By AI agents, Wed Nov 11 2026. No macro, syntax, notation, axiom, sorry.
-/
import Derived.Test.YtodkeoibebimgaaChecked
import GoSem.Claim
import GoSem.ClaimJoined
import GoSem.ClaimMapViews
import Derived.JoinedTies
import Derived.KernelRfl
namespace Go.Proofs.Ytodkeoibebimgaa
/- THE CELL 'sum', in the pinned program and in every row, IS THE sha256 OF THE DUMP (.gsa) THAT YtodkeoibebimgaaProg.lean LOADS. Nothing in Lean hashes anything: it is a label: what it is worth is what the hold of that sum in a sandbox is worth. -/
noncomputable def Try.pinned : Pinned := { name := "ytodkeoibebimgaa", sum := "43b17a04af5468adfd19cab83f174b195e0388daeb55a993e7a1ff92139ef128", checked := Try.checked }
namespace Rows
def none {H : Type} : Left H := { results := [], args := [] }

/-- 'wayfarerlaw20.KeysEncode': WHATEVER THE INPUT: true; the input reads as it did. -/
def keysEncodeSpec : ChangeSpec := { name := "keysEncode", fn := fun _ => fun
  | [d1, d2, d3] => { results := [.lit (.bool true)], args := [d1, d2, d3] }
  | _ => none }
def keysEncodeRow : OpenClaim := { program := "ytodkeoibebimgaa", sum := "43b17a04af5468adfd19cab83f174b195e0388daeb55a993e7a1ff92139ef128", func := "wayfarer/wayfarerlaw20.KeysEncode", spec := "keysEncode", apart := false }
def KeysEncodeSaid : Prop := keysEncodeRow.holds Try.pinned (OpenSpec.ofChange keysEncodeSpec)

/-- ITS FALSE NEIGHBOUR: 'it returns false'. Refute it at one input. -/
def keysEncodeWrong : ChangeSpec := { name := "keysEncode", fn := fun _ => fun
  | [d1, d2, d3] => { results := [.lit (.bool false)], args := [d1, d2, d3] }
  | _ => none }
def KeysEncodeWrongFalsely : Prop := keysEncodeRow.holds Try.pinned (OpenSpec.ofChange keysEncodeWrong)

/-- 'wayfarerlaw23.SspSends': WHATEVER THE INPUT: true; the input reads as it did. -/
def sspSendsSpec : ChangeSpec := { name := "sspSends", fn := fun _ => fun
  | [d1, d2] => { results := [.lit (.bool true)], args := [d1, d2] }
  | _ => none }
def sspSendsRow : OpenClaim := { program := "ytodkeoibebimgaa", sum := "43b17a04af5468adfd19cab83f174b195e0388daeb55a993e7a1ff92139ef128", func := "wayfarer/wayfarerlaw23.SspSends", spec := "sspSends", unfollowed := true, recurses := true, apart := false }
def SspSendsSaid : Prop := sspSendsRow.holds Try.pinned (OpenSpec.ofChange sspSendsSpec)

/-- ITS FALSE NEIGHBOUR: 'it returns false'. Refute it at one input. -/
def sspSendsWrong : ChangeSpec := { name := "sspSends", fn := fun _ => fun
  | [d1, d2] => { results := [.lit (.bool false)], args := [d1, d2] }
  | _ => none }
def SspSendsWrongFalsely : Prop := sspSendsRow.holds Try.pinned (OpenSpec.ofChange sspSendsWrong)

/-- 'wayfarerlaw15.GridBack': WHATEVER THE INPUT: true; the input reads as it did. -/
def gridBackSpec : ChangeSpec := { name := "gridBack", fn := fun _ => fun
  | [d1, d2] => { results := [.lit (.bool true)], args := [d1, d2] }
  | _ => none }
def gridBackRow : OpenClaim := { program := "ytodkeoibebimgaa", sum := "43b17a04af5468adfd19cab83f174b195e0388daeb55a993e7a1ff92139ef128", func := "wayfarer/wayfarerlaw15.GridBack", spec := "gridBack", unfollowed := true, recurses := true, apart := false }
def GridBackSaid : Prop := gridBackRow.holds Try.pinned (OpenSpec.ofChange gridBackSpec)

/-- ITS FALSE NEIGHBOUR: 'it returns false'. Refute it at one input. -/
def gridBackWrong : ChangeSpec := { name := "gridBack", fn := fun _ => fun
  | [d1, d2] => { results := [.lit (.bool false)], args := [d1, d2] }
  | _ => none }
def GridBackWrongFalsely : Prop := gridBackRow.holds Try.pinned (OpenSpec.ofChange gridBackWrong)

/-- 'wayfarerlaw20.KeysAll': WHATEVER THE INPUT: true; the input reads as it did. -/
def keysAllSpec : ChangeSpec := { name := "keysAll", fn := fun _ => fun
  | [d1, d2] => { results := [.lit (.bool true)], args := [d1, d2] }
  | _ => none }
def keysAllRow : OpenClaim := { program := "ytodkeoibebimgaa", sum := "43b17a04af5468adfd19cab83f174b195e0388daeb55a993e7a1ff92139ef128", func := "wayfarer/wayfarerlaw20.KeysAll", spec := "keysAll", unfollowed := true, recurses := true, apart := false }
def KeysAllSaid : Prop := keysAllRow.holds Try.pinned (OpenSpec.ofChange keysAllSpec)

/-- ITS FALSE NEIGHBOUR: 'it returns false'. Refute it at one input. -/
def keysAllWrong : ChangeSpec := { name := "keysAll", fn := fun _ => fun
  | [d1, d2] => { results := [.lit (.bool false)], args := [d1, d2] }
  | _ => none }
def KeysAllWrongFalsely : Prop := keysAllRow.holds Try.pinned (OpenSpec.ofChange keysAllWrong)

/-- 'wayfarerlaw20.KeysSafe': WHATEVER THE INPUT: true; the input reads as it did. -/
def keysSafeSpec : ChangeSpec := { name := "keysSafe", fn := fun _ => fun
  | [d1, d2, d3] => { results := [.lit (.bool true)], args := [d1, d2, d3] }
  | _ => none }
def keysSafeRow : OpenClaim := { program := "ytodkeoibebimgaa", sum := "43b17a04af5468adfd19cab83f174b195e0388daeb55a993e7a1ff92139ef128", func := "wayfarer/wayfarerlaw20.KeysSafe", spec := "keysSafe", unfollowed := true, recurses := true, apart := false }
def KeysSafeSaid : Prop := keysSafeRow.holds Try.pinned (OpenSpec.ofChange keysSafeSpec)

/-- ITS FALSE NEIGHBOUR: 'it returns false'. Refute it at one input. -/
def keysSafeWrong : ChangeSpec := { name := "keysSafe", fn := fun _ => fun
  | [d1, d2, d3] => { results := [.lit (.bool false)], args := [d1, d2, d3] }
  | _ => none }
def KeysSafeWrongFalsely : Prop := keysSafeRow.holds Try.pinned (OpenSpec.ofChange keysSafeWrong)

/-- 'wayfarerlaw15.GridFresh': WHATEVER THE INPUT: true; the input reads as it did. -/
def gridFreshSpec : ChangeSpec := { name := "gridFresh", fn := fun _ => fun
  | [d1, d2] => { results := [.lit (.bool true)], args := [d1, d2] }
  | _ => none }
def gridFreshRow : OpenClaim := { program := "ytodkeoibebimgaa", sum := "43b17a04af5468adfd19cab83f174b195e0388daeb55a993e7a1ff92139ef128", func := "wayfarer/wayfarerlaw15.GridFresh", spec := "gridFresh", unfollowed := true, recurses := true, apart := false }
def GridFreshSaid : Prop := gridFreshRow.holds Try.pinned (OpenSpec.ofChange gridFreshSpec)

/-- ITS FALSE NEIGHBOUR: 'it returns false'. Refute it at one input. -/
def gridFreshWrong : ChangeSpec := { name := "gridFresh", fn := fun _ => fun
  | [d1, d2] => { results := [.lit (.bool false)], args := [d1, d2] }
  | _ => none }
def GridFreshWrongFalsely : Prop := gridFreshRow.holds Try.pinned (OpenSpec.ofChange gridFreshWrong)

/-- 'wayfarerlaw15.GridStays': WHATEVER THE INPUT: true; the input reads as it did. -/
def gridStaysSpec : ChangeSpec := { name := "gridStays", fn := fun _ => fun
  | [d1, d2] => { results := [.lit (.bool true)], args := [d1, d2] }
  | _ => none }
def gridStaysRow : OpenClaim := { program := "ytodkeoibebimgaa", sum := "43b17a04af5468adfd19cab83f174b195e0388daeb55a993e7a1ff92139ef128", func := "wayfarer/wayfarerlaw15.GridStays", spec := "gridStays", unfollowed := true, recurses := true, apart := false }
def GridStaysSaid : Prop := gridStaysRow.holds Try.pinned (OpenSpec.ofChange gridStaysSpec)

/-- ITS FALSE NEIGHBOUR: 'it returns false'. Refute it at one input. -/
def gridStaysWrong : ChangeSpec := { name := "gridStays", fn := fun _ => fun
  | [d1, d2] => { results := [.lit (.bool false)], args := [d1, d2] }
  | _ => none }
def GridStaysWrongFalsely : Prop := gridStaysRow.holds Try.pinned (OpenSpec.ofChange gridStaysWrong)

/-- 'wayfarerlaw15.GridTurns': WHATEVER THE INPUT: true; the input reads as it did. -/
def gridTurnsSpec : ChangeSpec := { name := "gridTurns", fn := fun _ => fun
  | [d1, d2, d3] => { results := [.lit (.bool true)], args := [d1, d2, d3] }
  | _ => none }
def gridTurnsRow : OpenClaim := { program := "ytodkeoibebimgaa", sum := "43b17a04af5468adfd19cab83f174b195e0388daeb55a993e7a1ff92139ef128", func := "wayfarer/wayfarerlaw15.GridTurns", spec := "gridTurns", unfollowed := true, recurses := true, apart := false }
def GridTurnsSaid : Prop := gridTurnsRow.holds Try.pinned (OpenSpec.ofChange gridTurnsSpec)

/-- ITS FALSE NEIGHBOUR: 'it returns false'. Refute it at one input. -/
def gridTurnsWrong : ChangeSpec := { name := "gridTurns", fn := fun _ => fun
  | [d1, d2, d3] => { results := [.lit (.bool false)], args := [d1, d2, d3] }
  | _ => none }
def GridTurnsWrongFalsely : Prop := gridTurnsRow.holds Try.pinned (OpenSpec.ofChange gridTurnsWrong)

/-- 'wayfarerlaw23.SspAlike': WHATEVER THE INPUT: true; the input reads as it did. -/
def sspAlikeSpec : ChangeSpec := { name := "sspAlike", fn := fun _ => fun
  | [d1, d2] => { results := [.lit (.bool true)], args := [d1, d2] }
  | _ => none }
def sspAlikeRow : OpenClaim := { program := "ytodkeoibebimgaa", sum := "43b17a04af5468adfd19cab83f174b195e0388daeb55a993e7a1ff92139ef128", func := "wayfarer/wayfarerlaw23.SspAlike", spec := "sspAlike", inPlace := ["slices.overlaps[wayfarer/ssp.sent[wayfarer/wayfarerlaw23.text]]"], unfollowed := true, recurses := true, apart := false }
def SspAlikeSaid : Prop := sspAlikeRow.holds Try.pinned (OpenSpec.ofChange sspAlikeSpec)

/-- ITS FALSE NEIGHBOUR: 'it returns false'. Refute it at one input. -/
def sspAlikeWrong : ChangeSpec := { name := "sspAlike", fn := fun _ => fun
  | [d1, d2] => { results := [.lit (.bool false)], args := [d1, d2] }
  | _ => none }
def SspAlikeWrongFalsely : Prop := sspAlikeRow.holds Try.pinned (OpenSpec.ofChange sspAlikeWrong)

/-- 'wayfarerlaw23.SspTakes': WHATEVER THE INPUT: true; the input reads as it did. -/
def sspTakesSpec : ChangeSpec := { name := "sspTakes", fn := fun _ => fun
  | [d1, d2] => { results := [.lit (.bool true)], args := [d1, d2] }
  | _ => none }
def sspTakesRow : OpenClaim := { program := "ytodkeoibebimgaa", sum := "43b17a04af5468adfd19cab83f174b195e0388daeb55a993e7a1ff92139ef128", func := "wayfarer/wayfarerlaw23.SspTakes", spec := "sspTakes", inPlace := ["slices.overlaps[wayfarer/ssp.sent[wayfarer/wayfarerlaw23.text]]"], unfollowed := true, recurses := true, apart := false }
def SspTakesSaid : Prop := sspTakesRow.holds Try.pinned (OpenSpec.ofChange sspTakesSpec)

/-- ITS FALSE NEIGHBOUR: 'it returns false'. Refute it at one input. -/
def sspTakesWrong : ChangeSpec := { name := "sspTakes", fn := fun _ => fun
  | [d1, d2] => { results := [.lit (.bool false)], args := [d1, d2] }
  | _ => none }
def SspTakesWrongFalsely : Prop := sspTakesRow.holds Try.pinned (OpenSpec.ofChange sspTakesWrong)

/-- 'wayfarerlaw23.SspNil': WHATEVER THE INPUT: true; the input reads as it did. -/
def sspNilSpec : ChangeSpec := { name := "sspNil", fn := fun _ => fun
  | [d] => { results := [.lit (.bool true)], args := [d] }
  | _ => none }
def sspNilRow : OpenClaim := { program := "ytodkeoibebimgaa", sum := "43b17a04af5468adfd19cab83f174b195e0388daeb55a993e7a1ff92139ef128", func := "wayfarer/wayfarerlaw23.SspNil", spec := "sspNil", inPlace := ["slices.overlaps[wayfarer/ssp.sent[wayfarer/wayfarerlaw23.text]]"], unfollowed := true, recurses := true, apart := false }
def SspNilSaid : Prop := sspNilRow.holds Try.pinned (OpenSpec.ofChange sspNilSpec)

/-- ITS FALSE NEIGHBOUR: 'it returns false'. Refute it at one input. -/
def sspNilWrong : ChangeSpec := { name := "sspNil", fn := fun _ => fun
  | [d] => { results := [.lit (.bool false)], args := [d] }
  | _ => none }
def SspNilWrongFalsely : Prop := sspNilRow.holds Try.pinned (OpenSpec.ofChange sspNilWrong)

/- THE SECOND FORM. 'bulk': how many values and letters a reading holds, each counted each time it is reached (what is shared counts as often as it is met; a slice's spare places count too). A statement '..UptoSaid' is the law's where the arguments, and the package variables that the reading takes, are together of bulk at most 1048576: NARROWER than '..Said'. Prove '..Said' where nothing that the law and all that it calls make is longer than what came in: it says more and counts as full. Else prove '..UptoSaid'. A law counts once. -/
mutual
def uptoBulk {H : Type} : DataW H → Nat
  | .lit (.string bytes) => bytes.length + 1
  | .lit _ => 1
  | .nil => 1
  | .ptr d => uptoBulk d + 1
  | .slice elems spare => uptoBulkAll elems + uptoBulkAll spare + 1
  | .agg parts => uptoBulkAll parts + 1
  | .iface _ d => uptoBulk d + 1
  | .map entries => uptoBulkEntries entries + 1
  | .held _ => 1
def uptoBulkAll {H : Type} : List (DataW H) → Nat
  | [] => 0
  | d :: r => uptoBulk d + uptoBulkAll r
def uptoBulkEntries {H : Type} : List (Lit × DataW H) → Nat
  | [] => 0
  | x :: r => uptoBulkEntry x + uptoBulkEntries r
def uptoBulkEntry {H : Type} : Lit × DataW H → Nat
  | (.string bytes, d) => bytes.length + uptoBulk d + 1
  | (_, d) => uptoBulk d + 1
 end
def uptoSmall : (H : Type) → List (DataW H) → Bool := fun _ ds => decide (uptoBulkAll ds ≤ 1048576)
def OpenSpec.upto (s : _root_.Go.ChangeSpec) : _root_.Go.OpenSpec := { _root_.Go.OpenSpec.ofChange s with cond := some uptoSmall }

/-- 'wayfarerlaw20.KeysEncode', WHERE WHAT IT READS IS OF BULK AT MOST 1048576: true; the input reads as it did. -/
def keysEncodeUptoRow : OpenClaim := { program := "ytodkeoibebimgaa", sum := "43b17a04af5468adfd19cab83f174b195e0388daeb55a993e7a1ff92139ef128", func := "wayfarer/wayfarerlaw20.KeysEncode", spec := "keysEncode", apart := false, narrowed := true }
def KeysEncodeUptoSaid : Prop := keysEncodeUptoRow.holds Try.pinned (OpenSpec.upto keysEncodeSpec)

/-- 'wayfarerlaw23.SspSends', WHERE WHAT IT READS IS OF BULK AT MOST 1048576: true; the input reads as it did. -/
def sspSendsUptoRow : OpenClaim := { program := "ytodkeoibebimgaa", sum := "43b17a04af5468adfd19cab83f174b195e0388daeb55a993e7a1ff92139ef128", func := "wayfarer/wayfarerlaw23.SspSends", spec := "sspSends", unfollowed := true, recurses := true, apart := false, narrowed := true }
def SspSendsUptoSaid : Prop := sspSendsUptoRow.holds Try.pinned (OpenSpec.upto sspSendsSpec)

/-- 'wayfarerlaw15.GridBack', WHERE WHAT IT READS IS OF BULK AT MOST 1048576: true; the input reads as it did. -/
def gridBackUptoRow : OpenClaim := { program := "ytodkeoibebimgaa", sum := "43b17a04af5468adfd19cab83f174b195e0388daeb55a993e7a1ff92139ef128", func := "wayfarer/wayfarerlaw15.GridBack", spec := "gridBack", unfollowed := true, recurses := true, apart := false, narrowed := true }
def GridBackUptoSaid : Prop := gridBackUptoRow.holds Try.pinned (OpenSpec.upto gridBackSpec)

/-- 'wayfarerlaw20.KeysAll', WHERE WHAT IT READS IS OF BULK AT MOST 1048576: true; the input reads as it did. -/
def keysAllUptoRow : OpenClaim := { program := "ytodkeoibebimgaa", sum := "43b17a04af5468adfd19cab83f174b195e0388daeb55a993e7a1ff92139ef128", func := "wayfarer/wayfarerlaw20.KeysAll", spec := "keysAll", unfollowed := true, recurses := true, apart := false, narrowed := true }
def KeysAllUptoSaid : Prop := keysAllUptoRow.holds Try.pinned (OpenSpec.upto keysAllSpec)

/-- 'wayfarerlaw20.KeysSafe', WHERE WHAT IT READS IS OF BULK AT MOST 1048576: true; the input reads as it did. -/
def keysSafeUptoRow : OpenClaim := { program := "ytodkeoibebimgaa", sum := "43b17a04af5468adfd19cab83f174b195e0388daeb55a993e7a1ff92139ef128", func := "wayfarer/wayfarerlaw20.KeysSafe", spec := "keysSafe", unfollowed := true, recurses := true, apart := false, narrowed := true }
def KeysSafeUptoSaid : Prop := keysSafeUptoRow.holds Try.pinned (OpenSpec.upto keysSafeSpec)

/-- 'wayfarerlaw15.GridFresh', WHERE WHAT IT READS IS OF BULK AT MOST 1048576: true; the input reads as it did. -/
def gridFreshUptoRow : OpenClaim := { program := "ytodkeoibebimgaa", sum := "43b17a04af5468adfd19cab83f174b195e0388daeb55a993e7a1ff92139ef128", func := "wayfarer/wayfarerlaw15.GridFresh", spec := "gridFresh", unfollowed := true, recurses := true, apart := false, narrowed := true }
def GridFreshUptoSaid : Prop := gridFreshUptoRow.holds Try.pinned (OpenSpec.upto gridFreshSpec)

/-- 'wayfarerlaw15.GridStays', WHERE WHAT IT READS IS OF BULK AT MOST 1048576: true; the input reads as it did. -/
def gridStaysUptoRow : OpenClaim := { program := "ytodkeoibebimgaa", sum := "43b17a04af5468adfd19cab83f174b195e0388daeb55a993e7a1ff92139ef128", func := "wayfarer/wayfarerlaw15.GridStays", spec := "gridStays", unfollowed := true, recurses := true, apart := false, narrowed := true }
def GridStaysUptoSaid : Prop := gridStaysUptoRow.holds Try.pinned (OpenSpec.upto gridStaysSpec)

/-- 'wayfarerlaw15.GridTurns', WHERE WHAT IT READS IS OF BULK AT MOST 1048576: true; the input reads as it did. -/
def gridTurnsUptoRow : OpenClaim := { program := "ytodkeoibebimgaa", sum := "43b17a04af5468adfd19cab83f174b195e0388daeb55a993e7a1ff92139ef128", func := "wayfarer/wayfarerlaw15.GridTurns", spec := "gridTurns", unfollowed := true, recurses := true, apart := false, narrowed := true }
def GridTurnsUptoSaid : Prop := gridTurnsUptoRow.holds Try.pinned (OpenSpec.upto gridTurnsSpec)

/-- 'wayfarerlaw23.SspAlike', WHERE WHAT IT READS IS OF BULK AT MOST 1048576: true; the input reads as it did. -/
def sspAlikeUptoRow : OpenClaim := { program := "ytodkeoibebimgaa", sum := "43b17a04af5468adfd19cab83f174b195e0388daeb55a993e7a1ff92139ef128", func := "wayfarer/wayfarerlaw23.SspAlike", spec := "sspAlike", inPlace := ["slices.overlaps[wayfarer/ssp.sent[wayfarer/wayfarerlaw23.text]]"], unfollowed := true, recurses := true, apart := false, narrowed := true }
def SspAlikeUptoSaid : Prop := sspAlikeUptoRow.holds Try.pinned (OpenSpec.upto sspAlikeSpec)

/-- 'wayfarerlaw23.SspTakes', WHERE WHAT IT READS IS OF BULK AT MOST 1048576: true; the input reads as it did. -/
def sspTakesUptoRow : OpenClaim := { program := "ytodkeoibebimgaa", sum := "43b17a04af5468adfd19cab83f174b195e0388daeb55a993e7a1ff92139ef128", func := "wayfarer/wayfarerlaw23.SspTakes", spec := "sspTakes", inPlace := ["slices.overlaps[wayfarer/ssp.sent[wayfarer/wayfarerlaw23.text]]"], unfollowed := true, recurses := true, apart := false, narrowed := true }
def SspTakesUptoSaid : Prop := sspTakesUptoRow.holds Try.pinned (OpenSpec.upto sspTakesSpec)

/-- 'wayfarerlaw23.SspNil', WHERE WHAT IT READS IS OF BULK AT MOST 1048576: true; the input reads as it did. -/
def sspNilUptoRow : OpenClaim := { program := "ytodkeoibebimgaa", sum := "43b17a04af5468adfd19cab83f174b195e0388daeb55a993e7a1ff92139ef128", func := "wayfarer/wayfarerlaw23.SspNil", spec := "sspNil", inPlace := ["slices.overlaps[wayfarer/ssp.sent[wayfarer/wayfarerlaw23.text]]"], unfollowed := true, recurses := true, apart := false, narrowed := true }
def SspNilUptoSaid : Prop := sspNilUptoRow.holds Try.pinned (OpenSpec.upto sspNilSpec)

end Rows
end Go.Proofs.Ytodkeoibebimgaa
