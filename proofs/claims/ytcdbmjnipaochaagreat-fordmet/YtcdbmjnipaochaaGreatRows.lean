/-
  No cell of these rows narrows 'for every input' (looked for: loops, veiled, ifaces, maps, wideKeys, modest, calm, conditions, laid).
  DERIVED. THE GIVEN ROWS OF THIS SEAT. 9 by the template 'for every input the law returns true; each argument reads behind the call as it read before'; 0 by the template 'total and deterministic' (their statements: YtcdbmjnipaochaaGreatTotals.lean).
  GIVEN WITH THE SEED: the statements are not yours to turn. If you find one false, say at which input.
  Laid BY PROGRAM, IN A SANDBOX (cutbox-rows.mjs): the forced cells as the released guide's own fill.sh prints them over the translation 9a56f40db37e03ff… (all of the seat's roots in one cut). By AI agents, Wed Nov 11 2026. No macro, syntax, notation, axiom, sorry.
-/
import Derived.Test.YtcdbmjnipaochaaGreatChecked
import GoSem.Claim
import GoSem.ClaimJoined
import GoSem.ClaimMapViews
import Derived.JoinedTies
import Derived.KernelRfl
namespace Go.Proofs.YtcdbmjnipaochaaGreat
/- THE CELL 'sum', in the pinned program and in every row, IS THE sha256 OF THE DUMP (.gsa) THAT YtcdbmjnipaochaaGreatProg.lean LOADS. Nothing in Lean hashes anything: it is a label: what it is worth is what the hold of that sum in a sandbox is worth. -/
noncomputable def Tryz.pinned : Pinned := { name := "ytcdbmjnipaochaagreat", sum := "9a56f40db37e03ff754a05af4cd4417d7862e9f54fa9ae69e1b8607422fb0eb0", checked := Tryz.checked }
namespace Rows
def none {H : Type} : Left H := { results := [], args := [] }

/-- 'tracerylaw20.DiskSwaps': WHATEVER THE INPUT: true; the input reads as it did. -/
def diskSwapsSpec : ChangeSpec := { name := "diskSwaps", fn := fun _ => fun
  | [d1, d2, d3] => { results := [.lit (.bool true)], args := [d1, d2, d3] }
  | _ => none }
def diskSwapsRow : OpenClaim := { program := "ytcdbmjnipaochaagreat", sum := "9a56f40db37e03ff754a05af4cd4417d7862e9f54fa9ae69e1b8607422fb0eb0", func := "tracery/tracerylaw20.DiskSwaps", spec := "diskSwaps", unfollowed := true, recurses := true, apart := false }
def DiskSwapsSaid : Prop := diskSwapsRow.holds Tryz.pinned (OpenSpec.ofChange diskSwapsSpec)

/-- ITS FALSE NEIGHBOUR: 'it returns false'. Refute it at one input. -/
def diskSwapsWrong : ChangeSpec := { name := "diskSwaps", fn := fun _ => fun
  | [d1, d2, d3] => { results := [.lit (.bool false)], args := [d1, d2, d3] }
  | _ => none }
def DiskSwapsWrongFalsely : Prop := diskSwapsRow.holds Tryz.pinned (OpenSpec.ofChange diskSwapsWrong)

/-- 'tracerylaw20.DiskRule': WHATEVER THE INPUT: true; the input reads as it did. -/
def diskRuleSpec : ChangeSpec := { name := "diskRule", fn := fun _ => fun
  | [d] => { results := [.lit (.bool true)], args := [d] }
  | _ => none }
def diskRuleRow : OpenClaim := { program := "ytcdbmjnipaochaagreat", sum := "9a56f40db37e03ff754a05af4cd4417d7862e9f54fa9ae69e1b8607422fb0eb0", func := "tracery/tracerylaw20.DiskRule", spec := "diskRule", unfollowed := true, recurses := true, apart := false }
def DiskRuleSaid : Prop := diskRuleRow.holds Tryz.pinned (OpenSpec.ofChange diskRuleSpec)

/-- ITS FALSE NEIGHBOUR: 'it returns false'. Refute it at one input. -/
def diskRuleWrong : ChangeSpec := { name := "diskRule", fn := fun _ => fun
  | [d] => { results := [.lit (.bool false)], args := [d] }
  | _ => none }
def DiskRuleWrongFalsely : Prop := diskRuleRow.holds Tryz.pinned (OpenSpec.ofChange diskRuleWrong)

/-- 'tracerylaw14.InvertChain': WHATEVER THE INPUT: true; the input reads as it did. -/
def invertChainSpec : ChangeSpec := { name := "invertChain", fn := fun _ => fun
  | [d1, d2, d3] => { results := [.lit (.bool true)], args := [d1, d2, d3] }
  | _ => none }
def invertChainRow : OpenClaim := { program := "ytcdbmjnipaochaagreat", sum := "9a56f40db37e03ff754a05af4cd4417d7862e9f54fa9ae69e1b8607422fb0eb0", func := "tracery/tracerylaw14.InvertChain", spec := "invertChain", unfollowed := true, recurses := true, apart := false }
def InvertChainSaid : Prop := invertChainRow.holds Tryz.pinned (OpenSpec.ofChange invertChainSpec)

/-- ITS FALSE NEIGHBOUR: 'it returns false'. Refute it at one input. -/
def invertChainWrong : ChangeSpec := { name := "invertChain", fn := fun _ => fun
  | [d1, d2, d3] => { results := [.lit (.bool false)], args := [d1, d2, d3] }
  | _ => none }
def InvertChainWrongFalsely : Prop := invertChainRow.holds Tryz.pinned (OpenSpec.ofChange invertChainWrong)

/-- 'tracerylaw23.FordTells': WHATEVER THE INPUT: true; the input reads as it did. -/
def fordTellsSpec : ChangeSpec := { name := "fordTells", fn := fun _ => fun
  | [d1, d2, d3] => { results := [.lit (.bool true)], args := [d1, d2, d3] }
  | _ => none }
def fordTellsRow : OpenClaim := { program := "ytcdbmjnipaochaagreat", sum := "9a56f40db37e03ff754a05af4cd4417d7862e9f54fa9ae69e1b8607422fb0eb0", func := "tracery/tracerylaw23.FordTells", spec := "fordTells", apart := false }
def FordTellsSaid : Prop := fordTellsRow.holds Tryz.pinned (OpenSpec.ofChange fordTellsSpec)

/-- ITS FALSE NEIGHBOUR: 'it returns false'. Refute it at one input. -/
def fordTellsWrong : ChangeSpec := { name := "fordTells", fn := fun _ => fun
  | [d1, d2, d3] => { results := [.lit (.bool false)], args := [d1, d2, d3] }
  | _ => none }
def FordTellsWrongFalsely : Prop := fordTellsRow.holds Tryz.pinned (OpenSpec.ofChange fordTellsWrong)

/-- 'tracerylaw23.FordMet': WHATEVER THE INPUT: true; the input reads as it did. -/
def fordMetSpec : ChangeSpec := { name := "fordMet", fn := fun _ => fun
  | [d1, d2] => { results := [.lit (.bool true)], args := [d1, d2] }
  | _ => none }
def fordMetRow : OpenClaim := { program := "ytcdbmjnipaochaagreat", sum := "9a56f40db37e03ff754a05af4cd4417d7862e9f54fa9ae69e1b8607422fb0eb0", func := "tracery/tracerylaw23.FordMet", spec := "fordMet", apart := false }
def FordMetSaid : Prop := fordMetRow.holds Tryz.pinned (OpenSpec.ofChange fordMetSpec)

/-- ITS FALSE NEIGHBOUR: 'it returns false'. Refute it at one input. -/
def fordMetWrong : ChangeSpec := { name := "fordMet", fn := fun _ => fun
  | [d1, d2] => { results := [.lit (.bool false)], args := [d1, d2] }
  | _ => none }
def FordMetWrongFalsely : Prop := fordMetRow.holds Tryz.pinned (OpenSpec.ofChange fordMetWrong)

/-- 'tracerylaw23.FordTouch': WHATEVER THE INPUT: true; the input reads as it did. -/
def fordTouchSpec : ChangeSpec := { name := "fordTouch", fn := fun _ => fun
  | [d1, d2] => { results := [.lit (.bool true)], args := [d1, d2] }
  | _ => none }
def fordTouchRow : OpenClaim := { program := "ytcdbmjnipaochaagreat", sum := "9a56f40db37e03ff754a05af4cd4417d7862e9f54fa9ae69e1b8607422fb0eb0", func := "tracery/tracerylaw23.FordTouch", spec := "fordTouch", unfollowed := true, recurses := true, apart := false }
def FordTouchSaid : Prop := fordTouchRow.holds Tryz.pinned (OpenSpec.ofChange fordTouchSpec)

/-- ITS FALSE NEIGHBOUR: 'it returns false'. Refute it at one input. -/
def fordTouchWrong : ChangeSpec := { name := "fordTouch", fn := fun _ => fun
  | [d1, d2] => { results := [.lit (.bool false)], args := [d1, d2] }
  | _ => none }
def FordTouchWrongFalsely : Prop := fordTouchRow.holds Tryz.pinned (OpenSpec.ofChange fordTouchWrong)

/-- 'tracerylaw23.FordWay': WHATEVER THE INPUT: true; the input reads as it did. -/
def fordWaySpec : ChangeSpec := { name := "fordWay", fn := fun _ => fun
  | [d1, d2] => { results := [.lit (.bool true)], args := [d1, d2] }
  | _ => none }
def fordWayRow : OpenClaim := { program := "ytcdbmjnipaochaagreat", sum := "9a56f40db37e03ff754a05af4cd4417d7862e9f54fa9ae69e1b8607422fb0eb0", func := "tracery/tracerylaw23.FordWay", spec := "fordWay", unfollowed := true, recurses := true, apart := false }
def FordWaySaid : Prop := fordWayRow.holds Tryz.pinned (OpenSpec.ofChange fordWaySpec)

/-- ITS FALSE NEIGHBOUR: 'it returns false'. Refute it at one input. -/
def fordWayWrong : ChangeSpec := { name := "fordWay", fn := fun _ => fun
  | [d1, d2] => { results := [.lit (.bool false)], args := [d1, d2] }
  | _ => none }
def FordWayWrongFalsely : Prop := fordWayRow.holds Tryz.pinned (OpenSpec.ofChange fordWayWrong)

/-- 'tracerylaw20.DiskImages': WHATEVER THE INPUT: true; the input reads as it did. -/
def diskImagesSpec : ChangeSpec := { name := "diskImages", fn := fun _ => fun
  | [d1, d2, d3] => { results := [.lit (.bool true)], args := [d1, d2, d3] }
  | _ => none }
def diskImagesRow : OpenClaim := { program := "ytcdbmjnipaochaagreat", sum := "9a56f40db37e03ff754a05af4cd4417d7862e9f54fa9ae69e1b8607422fb0eb0", func := "tracery/tracerylaw20.DiskImages", spec := "diskImages", unfollowed := true, recurses := true, apart := false }
def DiskImagesSaid : Prop := diskImagesRow.holds Tryz.pinned (OpenSpec.ofChange diskImagesSpec)

/-- ITS FALSE NEIGHBOUR: 'it returns false'. Refute it at one input. -/
def diskImagesWrong : ChangeSpec := { name := "diskImages", fn := fun _ => fun
  | [d1, d2, d3] => { results := [.lit (.bool false)], args := [d1, d2, d3] }
  | _ => none }
def DiskImagesWrongFalsely : Prop := diskImagesRow.holds Tryz.pinned (OpenSpec.ofChange diskImagesWrong)

/-- 'tracerylaw23.FordNext': WHATEVER THE INPUT: true; the input reads as it did. -/
def fordNextSpec : ChangeSpec := { name := "fordNext", fn := fun _ => fun
  | [d1, d2, d3] => { results := [.lit (.bool true)], args := [d1, d2, d3] }
  | _ => none }
def fordNextRow : OpenClaim := { program := "ytcdbmjnipaochaagreat", sum := "9a56f40db37e03ff754a05af4cd4417d7862e9f54fa9ae69e1b8607422fb0eb0", func := "tracery/tracerylaw23.FordNext", spec := "fordNext", unfollowed := true, recurses := true, apart := false }
def FordNextSaid : Prop := fordNextRow.holds Tryz.pinned (OpenSpec.ofChange fordNextSpec)

/-- ITS FALSE NEIGHBOUR: 'it returns false'. Refute it at one input. -/
def fordNextWrong : ChangeSpec := { name := "fordNext", fn := fun _ => fun
  | [d1, d2, d3] => { results := [.lit (.bool false)], args := [d1, d2, d3] }
  | _ => none }
def FordNextWrongFalsely : Prop := fordNextRow.holds Tryz.pinned (OpenSpec.ofChange fordNextWrong)

/- THE SECOND FORM. 'bulk': how many values and letters a reading holds, each counted each time it is reached (what is shared counts as often as it is met; a slice's spare places count too). A statement '..UptoSaid' is the law's where the arguments, and the package variables that the reading takes, are together of bulk at most 1048576: NARROWER than '..Said'. Prove '..Said' where nothing that the law and all that it calls make is longer than what came in: it says more and counts as full. Else prove '..UptoSaid'. A law counts once. -/
mutual
def uptoBulk {H : Type} : DataW H → Nat
  | .lit (.string bytes) => bytes.length + 1
  | .lit _ => 1
  | .nil => 1
  | .ptr d => uptoBulk d + 1
  | .slice elems spare => uptoBulkAll elems + uptoBulkAll spare + 1
  | .agg parts => uptoBulkAll parts + 1
  | .iface _ d => uptoBulk d + 1
  | .map entries => uptoBulkEntries entries + 1
  | .held _ => 1
def uptoBulkAll {H : Type} : List (DataW H) → Nat
  | [] => 0
  | d :: r => uptoBulk d + uptoBulkAll r
def uptoBulkEntries {H : Type} : List (Lit × DataW H) → Nat
  | [] => 0
  | x :: r => uptoBulkEntry x + uptoBulkEntries r
def uptoBulkEntry {H : Type} : Lit × DataW H → Nat
  | (.string bytes, d) => bytes.length + uptoBulk d + 1
  | (_, d) => uptoBulk d + 1
 end
def uptoSmall : (H : Type) → List (DataW H) → Bool := fun _ ds => decide (uptoBulkAll ds ≤ 1048576)
def OpenSpec.upto (s : _root_.Go.ChangeSpec) : _root_.Go.OpenSpec := { _root_.Go.OpenSpec.ofChange s with cond := some uptoSmall }

/-- 'tracerylaw20.DiskSwaps', WHERE WHAT IT READS IS OF BULK AT MOST 1048576: true; the input reads as it did. -/
def diskSwapsUptoRow : OpenClaim := { program := "ytcdbmjnipaochaagreat", sum := "9a56f40db37e03ff754a05af4cd4417d7862e9f54fa9ae69e1b8607422fb0eb0", func := "tracery/tracerylaw20.DiskSwaps", spec := "diskSwaps", unfollowed := true, recurses := true, apart := false, narrowed := true }
def DiskSwapsUptoSaid : Prop := diskSwapsUptoRow.holds Tryz.pinned (OpenSpec.upto diskSwapsSpec)

/-- 'tracerylaw20.DiskRule', WHERE WHAT IT READS IS OF BULK AT MOST 1048576: true; the input reads as it did. -/
def diskRuleUptoRow : OpenClaim := { program := "ytcdbmjnipaochaagreat", sum := "9a56f40db37e03ff754a05af4cd4417d7862e9f54fa9ae69e1b8607422fb0eb0", func := "tracery/tracerylaw20.DiskRule", spec := "diskRule", unfollowed := true, recurses := true, apart := false, narrowed := true }
def DiskRuleUptoSaid : Prop := diskRuleUptoRow.holds Tryz.pinned (OpenSpec.upto diskRuleSpec)

/-- 'tracerylaw14.InvertChain', WHERE WHAT IT READS IS OF BULK AT MOST 1048576: true; the input reads as it did. -/
def invertChainUptoRow : OpenClaim := { program := "ytcdbmjnipaochaagreat", sum := "9a56f40db37e03ff754a05af4cd4417d7862e9f54fa9ae69e1b8607422fb0eb0", func := "tracery/tracerylaw14.InvertChain", spec := "invertChain", unfollowed := true, recurses := true, apart := false, narrowed := true }
def InvertChainUptoSaid : Prop := invertChainUptoRow.holds Tryz.pinned (OpenSpec.upto invertChainSpec)

/-- 'tracerylaw23.FordTells', WHERE WHAT IT READS IS OF BULK AT MOST 1048576: true; the input reads as it did. -/
def fordTellsUptoRow : OpenClaim := { program := "ytcdbmjnipaochaagreat", sum := "9a56f40db37e03ff754a05af4cd4417d7862e9f54fa9ae69e1b8607422fb0eb0", func := "tracery/tracerylaw23.FordTells", spec := "fordTells", apart := false, narrowed := true }
def FordTellsUptoSaid : Prop := fordTellsUptoRow.holds Tryz.pinned (OpenSpec.upto fordTellsSpec)

/-- 'tracerylaw23.FordMet', WHERE WHAT IT READS IS OF BULK AT MOST 1048576: true; the input reads as it did. -/
def fordMetUptoRow : OpenClaim := { program := "ytcdbmjnipaochaagreat", sum := "9a56f40db37e03ff754a05af4cd4417d7862e9f54fa9ae69e1b8607422fb0eb0", func := "tracery/tracerylaw23.FordMet", spec := "fordMet", apart := false, narrowed := true }
def FordMetUptoSaid : Prop := fordMetUptoRow.holds Tryz.pinned (OpenSpec.upto fordMetSpec)

/-- 'tracerylaw23.FordTouch', WHERE WHAT IT READS IS OF BULK AT MOST 1048576: true; the input reads as it did. -/
def fordTouchUptoRow : OpenClaim := { program := "ytcdbmjnipaochaagreat", sum := "9a56f40db37e03ff754a05af4cd4417d7862e9f54fa9ae69e1b8607422fb0eb0", func := "tracery/tracerylaw23.FordTouch", spec := "fordTouch", unfollowed := true, recurses := true, apart := false, narrowed := true }
def FordTouchUptoSaid : Prop := fordTouchUptoRow.holds Tryz.pinned (OpenSpec.upto fordTouchSpec)

/-- 'tracerylaw23.FordWay', WHERE WHAT IT READS IS OF BULK AT MOST 1048576: true; the input reads as it did. -/
def fordWayUptoRow : OpenClaim := { program := "ytcdbmjnipaochaagreat", sum := "9a56f40db37e03ff754a05af4cd4417d7862e9f54fa9ae69e1b8607422fb0eb0", func := "tracery/tracerylaw23.FordWay", spec := "fordWay", unfollowed := true, recurses := true, apart := false, narrowed := true }
def FordWayUptoSaid : Prop := fordWayUptoRow.holds Tryz.pinned (OpenSpec.upto fordWaySpec)

/-- 'tracerylaw20.DiskImages', WHERE WHAT IT READS IS OF BULK AT MOST 1048576: true; the input reads as it did. -/
def diskImagesUptoRow : OpenClaim := { program := "ytcdbmjnipaochaagreat", sum := "9a56f40db37e03ff754a05af4cd4417d7862e9f54fa9ae69e1b8607422fb0eb0", func := "tracery/tracerylaw20.DiskImages", spec := "diskImages", unfollowed := true, recurses := true, apart := false, narrowed := true }
def DiskImagesUptoSaid : Prop := diskImagesUptoRow.holds Tryz.pinned (OpenSpec.upto diskImagesSpec)

/-- 'tracerylaw23.FordNext', WHERE WHAT IT READS IS OF BULK AT MOST 1048576: true; the input reads as it did. -/
def fordNextUptoRow : OpenClaim := { program := "ytcdbmjnipaochaagreat", sum := "9a56f40db37e03ff754a05af4cd4417d7862e9f54fa9ae69e1b8607422fb0eb0", func := "tracery/tracerylaw23.FordNext", spec := "fordNext", unfollowed := true, recurses := true, apart := false, narrowed := true }
def FordNextUptoSaid : Prop := fordNextUptoRow.holds Tryz.pinned (OpenSpec.upto fordNextSpec)

end Rows
end Go.Proofs.YtcdbmjnipaochaaGreat
