/-
  No cell of these rows narrows 'for every input' (looked for: loops, veiled, ifaces, maps, wideKeys, modest, calm, conditions, laid).
  DERIVED. THE GIVEN ROWS OF THIS SEAT. 5 by the template 'for every input the law returns true; each argument reads behind the call as it read before'; 0 by the template 'total and deterministic' (their statements: YtllohoibifcmdaaGreatTotals.lean).
  GIVEN WITH THE SEED: the statements are not yours to turn. If you find one false, say at which input.
  Laid BY PROGRAM, IN A SANDBOX (cutbox-rows.mjs): the forced cells as the released guide's own fill.sh prints them over the translation 4ba3b9cc24955894… (all of the seat's roots in one cut). By AI agents, Wed Nov 11 2026. No macro, syntax, notation, axiom, sorry.
-/
import Derived.Test.YtllohoibifcmdaaGreatChecked
import GoSem.Claim
import GoSem.ClaimJoined
import GoSem.ClaimMapViews
import Derived.JoinedTies
import Derived.KernelRfl
namespace Go.Proofs.YtllohoibifcmdaaGreat
/- THE CELL 'sum', in the pinned program and in every row, IS THE sha256 OF THE DUMP (.gsa) THAT YtllohoibifcmdaaGreatProg.lean LOADS. Nothing in Lean hashes anything: it is a label: what it is worth is what the hold of that sum in a sandbox is worth. -/
noncomputable def Tryz.pinned : Pinned := { name := "ytllohoibifcmdaagreat", sum := "4ba3b9cc24955894ec914012482e277b0236003481ef9b1dfb2c9b4ca5e373a4", checked := Tryz.checked }
namespace Rows
def none {H : Type} : Left H := { results := [], args := [] }

/-- 'tracerylaw24.HurwitzMake': WHATEVER THE INPUT: true; the input reads as it did. -/
def hurwitzMakeSpec : ChangeSpec := { name := "hurwitzMake", fn := fun _ => fun
  | [d] => { results := [.lit (.bool true)], args := [d] }
  | _ => none }
def hurwitzMakeRow : OpenClaim := { program := "ytllohoibifcmdaagreat", sum := "4ba3b9cc24955894ec914012482e277b0236003481ef9b1dfb2c9b4ca5e373a4", func := "tracery/tracerylaw24.HurwitzMake", spec := "hurwitzMake", unfollowed := true, recurses := true, apart := false }
def HurwitzMakeSaid : Prop := hurwitzMakeRow.holds Tryz.pinned (OpenSpec.ofChange hurwitzMakeSpec)

/-- ITS FALSE NEIGHBOUR: 'it returns false'. Refute it at one input. -/
def hurwitzMakeWrong : ChangeSpec := { name := "hurwitzMake", fn := fun _ => fun
  | [d] => { results := [.lit (.bool false)], args := [d] }
  | _ => none }
def HurwitzMakeWrongFalsely : Prop := hurwitzMakeRow.holds Tryz.pinned (OpenSpec.ofChange hurwitzMakeWrong)

/-- 'tracerylaw24.HurwitzQuotients': WHATEVER THE INPUT: true; the input reads as it did. -/
def hurwitzQuotientsSpec : ChangeSpec := { name := "hurwitzQuotients", fn := fun _ => fun
  | [d1, d2] => { results := [.lit (.bool true)], args := [d1, d2] }
  | _ => none }
def hurwitzQuotientsRow : OpenClaim := { program := "ytllohoibifcmdaagreat", sum := "4ba3b9cc24955894ec914012482e277b0236003481ef9b1dfb2c9b4ca5e373a4", func := "tracery/tracerylaw24.HurwitzQuotients", spec := "hurwitzQuotients", unfollowed := true, recurses := true, apart := false }
def HurwitzQuotientsSaid : Prop := hurwitzQuotientsRow.holds Tryz.pinned (OpenSpec.ofChange hurwitzQuotientsSpec)

/-- ITS FALSE NEIGHBOUR: 'it returns false'. Refute it at one input. -/
def hurwitzQuotientsWrong : ChangeSpec := { name := "hurwitzQuotients", fn := fun _ => fun
  | [d1, d2] => { results := [.lit (.bool false)], args := [d1, d2] }
  | _ => none }
def HurwitzQuotientsWrongFalsely : Prop := hurwitzQuotientsRow.holds Tryz.pinned (OpenSpec.ofChange hurwitzQuotientsWrong)

/-- 'tracerylaw24.HurwitzDivides': WHATEVER THE INPUT: true; the input reads as it did. -/
def hurwitzDividesSpec : ChangeSpec := { name := "hurwitzDivides", fn := fun _ => fun
  | [d1, d2] => { results := [.lit (.bool true)], args := [d1, d2] }
  | _ => none }
def hurwitzDividesRow : OpenClaim := { program := "ytllohoibifcmdaagreat", sum := "4ba3b9cc24955894ec914012482e277b0236003481ef9b1dfb2c9b4ca5e373a4", func := "tracery/tracerylaw24.HurwitzDivides", spec := "hurwitzDivides", unfollowed := true, recurses := true, apart := false }
def HurwitzDividesSaid : Prop := hurwitzDividesRow.holds Tryz.pinned (OpenSpec.ofChange hurwitzDividesSpec)

/-- ITS FALSE NEIGHBOUR: 'it returns false'. Refute it at one input. -/
def hurwitzDividesWrong : ChangeSpec := { name := "hurwitzDivides", fn := fun _ => fun
  | [d1, d2] => { results := [.lit (.bool false)], args := [d1, d2] }
  | _ => none }
def HurwitzDividesWrongFalsely : Prop := hurwitzDividesRow.holds Tryz.pinned (OpenSpec.ofChange hurwitzDividesWrong)

/-- 'tracerylaw24.HurwitzRests': WHATEVER THE INPUT: true; the input reads as it did. -/
def hurwitzRestsSpec : ChangeSpec := { name := "hurwitzRests", fn := fun _ => fun
  | [d1, d2, d3] => { results := [.lit (.bool true)], args := [d1, d2, d3] }
  | _ => none }
def hurwitzRestsRow : OpenClaim := { program := "ytllohoibifcmdaagreat", sum := "4ba3b9cc24955894ec914012482e277b0236003481ef9b1dfb2c9b4ca5e373a4", func := "tracery/tracerylaw24.HurwitzRests", spec := "hurwitzRests", unfollowed := true, recurses := true, apart := false }
def HurwitzRestsSaid : Prop := hurwitzRestsRow.holds Tryz.pinned (OpenSpec.ofChange hurwitzRestsSpec)

/-- ITS FALSE NEIGHBOUR: 'it returns false'. Refute it at one input. -/
def hurwitzRestsWrong : ChangeSpec := { name := "hurwitzRests", fn := fun _ => fun
  | [d1, d2, d3] => { results := [.lit (.bool false)], args := [d1, d2, d3] }
  | _ => none }
def HurwitzRestsWrongFalsely : Prop := hurwitzRestsRow.holds Tryz.pinned (OpenSpec.ofChange hurwitzRestsWrong)

/-- 'tracerylaw24.HurwitzEnds': WHATEVER THE INPUT: true; the input reads as it did. -/
def hurwitzEndsSpec : ChangeSpec := { name := "hurwitzEnds", fn := fun _ => fun
  | [d] => { results := [.lit (.bool true)], args := [d] }
  | _ => none }
def hurwitzEndsRow : OpenClaim := { program := "ytllohoibifcmdaagreat", sum := "4ba3b9cc24955894ec914012482e277b0236003481ef9b1dfb2c9b4ca5e373a4", func := "tracery/tracerylaw24.HurwitzEnds", spec := "hurwitzEnds", unfollowed := true, recurses := true, apart := false }
def HurwitzEndsSaid : Prop := hurwitzEndsRow.holds Tryz.pinned (OpenSpec.ofChange hurwitzEndsSpec)

/-- ITS FALSE NEIGHBOUR: 'it returns false'. Refute it at one input. -/
def hurwitzEndsWrong : ChangeSpec := { name := "hurwitzEnds", fn := fun _ => fun
  | [d] => { results := [.lit (.bool false)], args := [d] }
  | _ => none }
def HurwitzEndsWrongFalsely : Prop := hurwitzEndsRow.holds Tryz.pinned (OpenSpec.ofChange hurwitzEndsWrong)

/- THE SECOND FORM. 'bulk': how many values and letters a reading holds, each counted each time it is reached (what is shared counts as often as it is met; a slice's spare places count too). A statement '..UptoSaid' is the law's where the arguments, and the package variables that the reading takes, are together of bulk at most 1048576: NARROWER than '..Said'. Prove '..Said' where nothing that the law and all that it calls make is longer than what came in: it says more and counts as full. Else prove '..UptoSaid'. A law counts once. -/
mutual
def uptoBulk {H : Type} : DataW H → Nat
  | .lit (.string bytes) => bytes.length + 1
  | .lit _ => 1
  | .nil => 1
  | .ptr d => uptoBulk d + 1
  | .slice elems spare => uptoBulkAll elems + uptoBulkAll spare + 1
  | .agg parts => uptoBulkAll parts + 1
  | .iface _ d => uptoBulk d + 1
  | .map entries => uptoBulkEntries entries + 1
  | .held _ => 1
def uptoBulkAll {H : Type} : List (DataW H) → Nat
  | [] => 0
  | d :: r => uptoBulk d + uptoBulkAll r
def uptoBulkEntries {H : Type} : List (Lit × DataW H) → Nat
  | [] => 0
  | x :: r => uptoBulkEntry x + uptoBulkEntries r
def uptoBulkEntry {H : Type} : Lit × DataW H → Nat
  | (.string bytes, d) => bytes.length + uptoBulk d + 1
  | (_, d) => uptoBulk d + 1
 end
def uptoSmall : (H : Type) → List (DataW H) → Bool := fun _ ds => decide (uptoBulkAll ds ≤ 1048576)
def OpenSpec.upto (s : _root_.Go.ChangeSpec) : _root_.Go.OpenSpec := { _root_.Go.OpenSpec.ofChange s with cond := some uptoSmall }

/-- 'tracerylaw24.HurwitzMake', WHERE WHAT IT READS IS OF BULK AT MOST 1048576: true; the input reads as it did. -/
def hurwitzMakeUptoRow : OpenClaim := { program := "ytllohoibifcmdaagreat", sum := "4ba3b9cc24955894ec914012482e277b0236003481ef9b1dfb2c9b4ca5e373a4", func := "tracery/tracerylaw24.HurwitzMake", spec := "hurwitzMake", unfollowed := true, recurses := true, apart := false, narrowed := true }
def HurwitzMakeUptoSaid : Prop := hurwitzMakeUptoRow.holds Tryz.pinned (OpenSpec.upto hurwitzMakeSpec)

/-- 'tracerylaw24.HurwitzQuotients', WHERE WHAT IT READS IS OF BULK AT MOST 1048576: true; the input reads as it did. -/
def hurwitzQuotientsUptoRow : OpenClaim := { program := "ytllohoibifcmdaagreat", sum := "4ba3b9cc24955894ec914012482e277b0236003481ef9b1dfb2c9b4ca5e373a4", func := "tracery/tracerylaw24.HurwitzQuotients", spec := "hurwitzQuotients", unfollowed := true, recurses := true, apart := false, narrowed := true }
def HurwitzQuotientsUptoSaid : Prop := hurwitzQuotientsUptoRow.holds Tryz.pinned (OpenSpec.upto hurwitzQuotientsSpec)

/-- 'tracerylaw24.HurwitzDivides', WHERE WHAT IT READS IS OF BULK AT MOST 1048576: true; the input reads as it did. -/
def hurwitzDividesUptoRow : OpenClaim := { program := "ytllohoibifcmdaagreat", sum := "4ba3b9cc24955894ec914012482e277b0236003481ef9b1dfb2c9b4ca5e373a4", func := "tracery/tracerylaw24.HurwitzDivides", spec := "hurwitzDivides", unfollowed := true, recurses := true, apart := false, narrowed := true }
def HurwitzDividesUptoSaid : Prop := hurwitzDividesUptoRow.holds Tryz.pinned (OpenSpec.upto hurwitzDividesSpec)

/-- 'tracerylaw24.HurwitzRests', WHERE WHAT IT READS IS OF BULK AT MOST 1048576: true; the input reads as it did. -/
def hurwitzRestsUptoRow : OpenClaim := { program := "ytllohoibifcmdaagreat", sum := "4ba3b9cc24955894ec914012482e277b0236003481ef9b1dfb2c9b4ca5e373a4", func := "tracery/tracerylaw24.HurwitzRests", spec := "hurwitzRests", unfollowed := true, recurses := true, apart := false, narrowed := true }
def HurwitzRestsUptoSaid : Prop := hurwitzRestsUptoRow.holds Tryz.pinned (OpenSpec.upto hurwitzRestsSpec)

/-- 'tracerylaw24.HurwitzEnds', WHERE WHAT IT READS IS OF BULK AT MOST 1048576: true; the input reads as it did. -/
def hurwitzEndsUptoRow : OpenClaim := { program := "ytllohoibifcmdaagreat", sum := "4ba3b9cc24955894ec914012482e277b0236003481ef9b1dfb2c9b4ca5e373a4", func := "tracery/tracerylaw24.HurwitzEnds", spec := "hurwitzEnds", unfollowed := true, recurses := true, apart := false, narrowed := true }
def HurwitzEndsUptoSaid : Prop := hurwitzEndsUptoRow.holds Tryz.pinned (OpenSpec.upto hurwitzEndsSpec)

end Rows
end Go.Proofs.YtllohoibifcmdaaGreat
