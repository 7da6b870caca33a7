/-
  No cell of these rows narrows 'for every input' (looked for: loops, veiled, ifaces, maps, wideKeys, modest, calm, conditions, laid).
  DERIVED. THE GIVEN ROWS OF THIS SEAT. 6 by the template 'for every input the law returns true; each argument reads behind the call as it read before'; 0 by the template 'total and deterministic' (their statements: YtcboejgklgnifaaGreatTotals.lean).
  GIVEN WITH THE SEED: the statements are not yours to turn. If you find one false, say at which input.
  Laid BY PROGRAM, IN A SANDBOX (cutbox-rows.mjs): the forced cells as the released guide's own fill.sh prints them over the translation 7c6c113d69a57797… (all of the seat's roots in one cut). By AI agents, Wed Nov 11 2026. No macro, syntax, notation, axiom, sorry.
-/
import Derived.Test.YtcboejgklgnifaaGreatChecked
import GoSem.Claim
import GoSem.ClaimJoined
import GoSem.ClaimMapViews
import Derived.JoinedTies
import Derived.KernelRfl
namespace Go.Proofs.YtcboejgklgnifaaGreat
/- THE CELL 'sum', in the pinned program and in every row, IS THE sha256 OF THE DUMP (.gsa) THAT YtcboejgklgnifaaGreatProg.lean LOADS. Nothing in Lean hashes anything: it is a label: what it is worth is what the hold of that sum in a sandbox is worth. -/
noncomputable def Tryz.pinned : Pinned := { name := "ytcboejgklgnifaagreat", sum := "7c6c113d69a5779703d7f3e1337a409471476318d38179057c43462a653d4ffd", checked := Tryz.checked }
namespace Rows
def none {H : Type} : Left H := { results := [], args := [] }

/-- 'tracerylaw20.DiskSwaps': WHATEVER THE INPUT: true; the input reads as it did. -/
def diskSwapsSpec : ChangeSpec := { name := "diskSwaps", fn := fun _ => fun
  | [d1, d2, d3] => { results := [.lit (.bool true)], args := [d1, d2, d3] }
  | _ => none }
def diskSwapsRow : OpenClaim := { program := "ytcboejgklgnifaagreat", sum := "7c6c113d69a5779703d7f3e1337a409471476318d38179057c43462a653d4ffd", func := "tracery/tracerylaw20.DiskSwaps", spec := "diskSwaps", unfollowed := true, recurses := true, apart := false }
def DiskSwapsSaid : Prop := diskSwapsRow.holds Tryz.pinned (OpenSpec.ofChange diskSwapsSpec)

/-- ITS FALSE NEIGHBOUR: 'it returns false'. Refute it at one input. -/
def diskSwapsWrong : ChangeSpec := { name := "diskSwaps", fn := fun _ => fun
  | [d1, d2, d3] => { results := [.lit (.bool false)], args := [d1, d2, d3] }
  | _ => none }
def DiskSwapsWrongFalsely : Prop := diskSwapsRow.holds Tryz.pinned (OpenSpec.ofChange diskSwapsWrong)

/-- 'tracerylaw20.DiskRule': WHATEVER THE INPUT: true; the input reads as it did. -/
def diskRuleSpec : ChangeSpec := { name := "diskRule", fn := fun _ => fun
  | [d] => { results := [.lit (.bool true)], args := [d] }
  | _ => none }
def diskRuleRow : OpenClaim := { program := "ytcboejgklgnifaagreat", sum := "7c6c113d69a5779703d7f3e1337a409471476318d38179057c43462a653d4ffd", func := "tracery/tracerylaw20.DiskRule", spec := "diskRule", unfollowed := true, recurses := true, apart := false }
def DiskRuleSaid : Prop := diskRuleRow.holds Tryz.pinned (OpenSpec.ofChange diskRuleSpec)

/-- ITS FALSE NEIGHBOUR: 'it returns false'. Refute it at one input. -/
def diskRuleWrong : ChangeSpec := { name := "diskRule", fn := fun _ => fun
  | [d] => { results := [.lit (.bool false)], args := [d] }
  | _ => none }
def DiskRuleWrongFalsely : Prop := diskRuleRow.holds Tryz.pinned (OpenSpec.ofChange diskRuleWrong)

/-- 'tracerylaw14.InvertChain': WHATEVER THE INPUT: true; the input reads as it did. -/
def invertChainSpec : ChangeSpec := { name := "invertChain", fn := fun _ => fun
  | [d1, d2, d3] => { results := [.lit (.bool true)], args := [d1, d2, d3] }
  | _ => none }
def invertChainRow : OpenClaim := { program := "ytcboejgklgnifaagreat", sum := "7c6c113d69a5779703d7f3e1337a409471476318d38179057c43462a653d4ffd", func := "tracery/tracerylaw14.InvertChain", spec := "invertChain", unfollowed := true, recurses := true, apart := false }
def InvertChainSaid : Prop := invertChainRow.holds Tryz.pinned (OpenSpec.ofChange invertChainSpec)

/-- ITS FALSE NEIGHBOUR: 'it returns false'. Refute it at one input. -/
def invertChainWrong : ChangeSpec := { name := "invertChain", fn := fun _ => fun
  | [d1, d2, d3] => { results := [.lit (.bool false)], args := [d1, d2, d3] }
  | _ => none }
def InvertChainWrongFalsely : Prop := invertChainRow.holds Tryz.pinned (OpenSpec.ofChange invertChainWrong)

/-- 'tracerylaw20.DiskMakes': WHATEVER THE INPUT: true; the input reads as it did. -/
def diskMakesSpec : ChangeSpec := { name := "diskMakes", fn := fun _ => fun
  | [d] => { results := [.lit (.bool true)], args := [d] }
  | _ => none }
def diskMakesRow : OpenClaim := { program := "ytcboejgklgnifaagreat", sum := "7c6c113d69a5779703d7f3e1337a409471476318d38179057c43462a653d4ffd", func := "tracery/tracerylaw20.DiskMakes", spec := "diskMakes", unfollowed := true, recurses := true, apart := false }
def DiskMakesSaid : Prop := diskMakesRow.holds Tryz.pinned (OpenSpec.ofChange diskMakesSpec)

/-- ITS FALSE NEIGHBOUR: 'it returns false'. Refute it at one input. -/
def diskMakesWrong : ChangeSpec := { name := "diskMakes", fn := fun _ => fun
  | [d] => { results := [.lit (.bool false)], args := [d] }
  | _ => none }
def DiskMakesWrongFalsely : Prop := diskMakesRow.holds Tryz.pinned (OpenSpec.ofChange diskMakesWrong)

/-- 'tracerylaw20.DiskImages': WHATEVER THE INPUT: true; the input reads as it did. -/
def diskImagesSpec : ChangeSpec := { name := "diskImages", fn := fun _ => fun
  | [d1, d2, d3] => { results := [.lit (.bool true)], args := [d1, d2, d3] }
  | _ => none }
def diskImagesRow : OpenClaim := { program := "ytcboejgklgnifaagreat", sum := "7c6c113d69a5779703d7f3e1337a409471476318d38179057c43462a653d4ffd", func := "tracery/tracerylaw20.DiskImages", spec := "diskImages", unfollowed := true, recurses := true, apart := false }
def DiskImagesSaid : Prop := diskImagesRow.holds Tryz.pinned (OpenSpec.ofChange diskImagesSpec)

/-- ITS FALSE NEIGHBOUR: 'it returns false'. Refute it at one input. -/
def diskImagesWrong : ChangeSpec := { name := "diskImages", fn := fun _ => fun
  | [d1, d2, d3] => { results := [.lit (.bool false)], args := [d1, d2, d3] }
  | _ => none }
def DiskImagesWrongFalsely : Prop := diskImagesRow.holds Tryz.pinned (OpenSpec.ofChange diskImagesWrong)

/-- 'tracerylaw20.DiskKeeps': WHATEVER THE INPUT: true; the input reads as it did. -/
def diskKeepsSpec : ChangeSpec := { name := "diskKeeps", fn := fun _ => fun
  | [d] => { results := [.lit (.bool true)], args := [d] }
  | _ => none }
def diskKeepsRow : OpenClaim := { program := "ytcboejgklgnifaagreat", sum := "7c6c113d69a5779703d7f3e1337a409471476318d38179057c43462a653d4ffd", func := "tracery/tracerylaw20.DiskKeeps", spec := "diskKeeps", unfollowed := true, recurses := true, apart := false }
def DiskKeepsSaid : Prop := diskKeepsRow.holds Tryz.pinned (OpenSpec.ofChange diskKeepsSpec)

/-- ITS FALSE NEIGHBOUR: 'it returns false'. Refute it at one input. -/
def diskKeepsWrong : ChangeSpec := { name := "diskKeeps", fn := fun _ => fun
  | [d] => { results := [.lit (.bool false)], args := [d] }
  | _ => none }
def DiskKeepsWrongFalsely : Prop := diskKeepsRow.holds Tryz.pinned (OpenSpec.ofChange diskKeepsWrong)

/- THE SECOND FORM. 'bulk': how many values and letters a reading holds, each counted each time it is reached (what is shared counts as often as it is met; a slice's spare places count too). A statement '..UptoSaid' is the law's where the arguments, and the package variables that the reading takes, are together of bulk at most 1048576: NARROWER than '..Said'. Prove '..Said' where nothing that the law and all that it calls make is longer than what came in: it says more and counts as full. Else prove '..UptoSaid'. A law counts once. -/
mutual
def uptoBulk {H : Type} : DataW H → Nat
  | .lit (.string bytes) => bytes.length + 1
  | .lit _ => 1
  | .nil => 1
  | .ptr d => uptoBulk d + 1
  | .slice elems spare => uptoBulkAll elems + uptoBulkAll spare + 1
  | .agg parts => uptoBulkAll parts + 1
  | .iface _ d => uptoBulk d + 1
  | .map entries => uptoBulkEntries entries + 1
  | .held _ => 1
def uptoBulkAll {H : Type} : List (DataW H) → Nat
  | [] => 0
  | d :: r => uptoBulk d + uptoBulkAll r
def uptoBulkEntries {H : Type} : List (Lit × DataW H) → Nat
  | [] => 0
  | x :: r => uptoBulkEntry x + uptoBulkEntries r
def uptoBulkEntry {H : Type} : Lit × DataW H → Nat
  | (.string bytes, d) => bytes.length + uptoBulk d + 1
  | (_, d) => uptoBulk d + 1
 end
def uptoSmall : (H : Type) → List (DataW H) → Bool := fun _ ds => decide (uptoBulkAll ds ≤ 1048576)
def OpenSpec.upto (s : _root_.Go.ChangeSpec) : _root_.Go.OpenSpec := { _root_.Go.OpenSpec.ofChange s with cond := some uptoSmall }

/-- 'tracerylaw20.DiskSwaps', WHERE WHAT IT READS IS OF BULK AT MOST 1048576: true; the input reads as it did. -/
def diskSwapsUptoRow : OpenClaim := { program := "ytcboejgklgnifaagreat", sum := "7c6c113d69a5779703d7f3e1337a409471476318d38179057c43462a653d4ffd", func := "tracery/tracerylaw20.DiskSwaps", spec := "diskSwaps", unfollowed := true, recurses := true, apart := false, narrowed := true }
def DiskSwapsUptoSaid : Prop := diskSwapsUptoRow.holds Tryz.pinned (OpenSpec.upto diskSwapsSpec)

/-- 'tracerylaw20.DiskRule', WHERE WHAT IT READS IS OF BULK AT MOST 1048576: true; the input reads as it did. -/
def diskRuleUptoRow : OpenClaim := { program := "ytcboejgklgnifaagreat", sum := "7c6c113d69a5779703d7f3e1337a409471476318d38179057c43462a653d4ffd", func := "tracery/tracerylaw20.DiskRule", spec := "diskRule", unfollowed := true, recurses := true, apart := false, narrowed := true }
def DiskRuleUptoSaid : Prop := diskRuleUptoRow.holds Tryz.pinned (OpenSpec.upto diskRuleSpec)

/-- 'tracerylaw14.InvertChain', WHERE WHAT IT READS IS OF BULK AT MOST 1048576: true; the input reads as it did. -/
def invertChainUptoRow : OpenClaim := { program := "ytcboejgklgnifaagreat", sum := "7c6c113d69a5779703d7f3e1337a409471476318d38179057c43462a653d4ffd", func := "tracery/tracerylaw14.InvertChain", spec := "invertChain", unfollowed := true, recurses := true, apart := false, narrowed := true }
def InvertChainUptoSaid : Prop := invertChainUptoRow.holds Tryz.pinned (OpenSpec.upto invertChainSpec)

/-- 'tracerylaw20.DiskMakes', WHERE WHAT IT READS IS OF BULK AT MOST 1048576: true; the input reads as it did. -/
def diskMakesUptoRow : OpenClaim := { program := "ytcboejgklgnifaagreat", sum := "7c6c113d69a5779703d7f3e1337a409471476318d38179057c43462a653d4ffd", func := "tracery/tracerylaw20.DiskMakes", spec := "diskMakes", unfollowed := true, recurses := true, apart := false, narrowed := true }
def DiskMakesUptoSaid : Prop := diskMakesUptoRow.holds Tryz.pinned (OpenSpec.upto diskMakesSpec)

/-- 'tracerylaw20.DiskImages', WHERE WHAT IT READS IS OF BULK AT MOST 1048576: true; the input reads as it did. -/
def diskImagesUptoRow : OpenClaim := { program := "ytcboejgklgnifaagreat", sum := "7c6c113d69a5779703d7f3e1337a409471476318d38179057c43462a653d4ffd", func := "tracery/tracerylaw20.DiskImages", spec := "diskImages", unfollowed := true, recurses := true, apart := false, narrowed := true }
def DiskImagesUptoSaid : Prop := diskImagesUptoRow.holds Tryz.pinned (OpenSpec.upto diskImagesSpec)

/-- 'tracerylaw20.DiskKeeps', WHERE WHAT IT READS IS OF BULK AT MOST 1048576: true; the input reads as it did. -/
def diskKeepsUptoRow : OpenClaim := { program := "ytcboejgklgnifaagreat", sum := "7c6c113d69a5779703d7f3e1337a409471476318d38179057c43462a653d4ffd", func := "tracery/tracerylaw20.DiskKeeps", spec := "diskKeeps", unfollowed := true, recurses := true, apart := false, narrowed := true }
def DiskKeepsUptoSaid : Prop := diskKeepsUptoRow.holds Tryz.pinned (OpenSpec.upto diskKeepsSpec)

end Rows
end Go.Proofs.YtcboejgklgnifaaGreat
