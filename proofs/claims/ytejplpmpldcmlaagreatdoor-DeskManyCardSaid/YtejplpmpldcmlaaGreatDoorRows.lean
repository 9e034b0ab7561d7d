/-
  NARROWER THAN 'FOR EVERY INPUT', by the rows' own cells (each row's printed sentence says how): DeskHold: laid · DeskMany: laid.
  DERIVED. THE GIVEN ROWS OF THIS SEAT. 2 by the template 'for every input the law returns true; each argument reads behind the call as it read before'; 0 by the template 'total and deterministic' (their statements: YtejplpmpldcmlaaGreatDoorTotals.lean).
  GIVEN WITH THE SEED: the statements are not yours to turn. If you find one false, say at which input.
  Laid BY PROGRAM, IN A SANDBOX (cutbox-rows.mjs): the forced cells as the released guide's own fill.sh prints them over the translation 06fab995ed1ad724… (all of the seat's roots in one cut). By AI agents, Wed Nov 11 2026. No macro, syntax, notation, axiom, sorry.
-/
import Derived.Test.YtejplpmpldcmlaaGreatDoorChecked
import GoSem.Claim
import GoSem.ClaimJoined
import GoSem.ClaimMapViews
import Derived.JoinedTies
import Derived.KernelRfl
namespace Go.Proofs.YtejplpmpldcmlaaGreatDoor
/- THE CELL 'sum', in the pinned program and in every row, IS THE sha256 OF THE DUMP (.gsa) THAT YtejplpmpldcmlaaGreatDoorProg.lean LOADS. Nothing in Lean hashes anything: it is a label: what it is worth is what the hold of that sum in a sandbox is worth. -/
noncomputable def Tryz.pinned : Pinned := { name := "ytejplpmpldcmlaagreatdoor", sum := "06fab995ed1ad7243fbb033eb1dbb9019dda410b497f9d169787ee887583a7be", checked := Tryz.checked }
namespace Rows
def none {H : Type} : Left H := { results := [], args := [] }

/- WHAT THE LISTED PACKAGE-LEVEL VARIABLES READ AS WHEN THE CALL BEGINS. Each datum BY PROGRAM (the guide's laid-datum.mjs) off the statement by which the dump's own 'gosem.cut.vars' lays the variable. In a bare row this is a premise. The card (YtejplpmpldcmlaaGreatDoorCards.lean) ties it to the program's text. -/
def laid_kinesphere_space_flat {H : Type} : DataW H := .agg [.agg [.lit (.int .i64 0), .lit (.int .i64 29)], .agg [.lit (.int .i64 20), .lit (.int .i64 21)], .agg [.lit (.int .i64 29), .lit (.int .i64 0)], .agg [.lit (.int .i64 20), .lit (.int .i64 (-21))], .agg [.lit (.int .i64 0), .lit (.int .i64 (-29))], .agg [.lit (.int .i64 (-20)), .lit (.int .i64 (-21))], .agg [.lit (.int .i64 (-29)), .lit (.int .i64 0)], .agg [.lit (.int .i64 (-20)), .lit (.int .i64 21)]]
def laid_kinesphere_expand_kinds {H : Type} : DataW H := .agg [.agg [.lit (.bool false), .lit (.bool false), .lit (.bool false), .lit (.int .i64 0), .lit (.int .i64 0), .lit (.int .i64 0)], .agg [.lit (.bool true), .lit (.bool true), .lit (.bool false), .lit (.int .i64 1), .lit (.int .i64 0), .lit (.int .i64 16)], .agg [.lit (.bool false), .lit (.bool true), .lit (.bool false), .lit (.int .i64 1), .lit (.int .i64 0), .lit (.int .i64 16)], .agg [.lit (.bool true), .lit (.bool true), .lit (.bool false), .lit (.int .i64 0), .lit (.int .i64 3), .lit (.int .i64 0)], .agg [.lit (.bool true), .lit (.bool true), .lit (.bool false), .lit (.int .i64 0), .lit (.int .i64 3), .lit (.int .i64 0)], .agg [.lit (.bool false), .lit (.bool true), .lit (.bool false), .lit (.int .i64 0), .lit (.int .i64 3), .lit (.int .i64 0)], .agg [.lit (.bool false), .lit (.bool false), .lit (.bool false), .lit (.int .i64 0), .lit (.int .i64 0), .lit (.int .i64 7)], .agg [.lit (.bool false), .lit (.bool false), .lit (.bool true), .lit (.int .i64 0), .lit (.int .i64 0), .lit (.int .i64 0)], .agg [.lit (.bool false), .lit (.bool false), .lit (.bool true), .lit (.int .i64 0), .lit (.int .i64 0), .lit (.int .i64 0)], .agg [.lit (.bool true), .lit (.bool false), .lit (.bool false), .lit (.int .i64 0), .lit (.int .i64 3), .lit (.int .i64 0)]]
def laid_kinesphere_motion_kinds {H : Type} : DataW H := .agg [.agg [.nil, .nil], .agg [.slice [.lit (.int .i64 0)] [], .nil], .agg [.nil, .slice [.lit (.int .i64 0), .lit (.int .i64 1)] []], .agg [.slice [.lit (.int .i64 0)] [], .nil], .agg [.slice [.lit (.int .i64 2)] [], .nil], .agg [.nil, .slice [.lit (.int .i64 4)] []], .agg [.nil, .nil], .agg [.nil, .slice [.lit (.int .i64 2), .lit (.int .i64 3)] []], .agg [.nil, .slice [.lit (.int .i64 0), .lit (.int .i64 1)] []], .agg [.slice [.lit (.int .i64 2)] [], .nil]]

/-- 'kinespherelaw50.DeskHold': WHATEVER THE INPUT: true; the input reads as it did. -/
def deskHoldSpec : ChangeSpec := { name := "deskHold", fn := fun _ => fun
  | [d1, d2, d3] => { results := [.lit (.bool true)], args := [d1, d2, d3] }
  | _ => none }
def deskHoldRow : OpenClaim := { program := "ytejplpmpldcmlaagreatdoor", sum := "06fab995ed1ad7243fbb033eb1dbb9019dda410b497f9d169787ee887583a7be", func := "kinesphere/kinespherelaw50.DeskHold", spec := "deskHold", inPlace := ["internal/bytealg.IndexByteString"], unfollowed := true, recurses := true, named := ["kinesphere/expand.kinds", "kinesphere/space.flat", "kinesphere/motion.kinds"], plainKeys := false, apart := false, laid := [("kinesphere/space.flat", laid_kinesphere_space_flat), ("kinesphere/expand.kinds", laid_kinesphere_expand_kinds), ("kinesphere/motion.kinds", laid_kinesphere_motion_kinds)] }
def DeskHoldSaid : Prop := deskHoldRow.holds Tryz.pinned (OpenSpec.ofChange deskHoldSpec)

/-- ITS FALSE NEIGHBOUR: 'it returns false'. Refute it at one input. -/
def deskHoldWrong : ChangeSpec := { name := "deskHold", fn := fun _ => fun
  | [d1, d2, d3] => { results := [.lit (.bool false)], args := [d1, d2, d3] }
  | _ => none }
def DeskHoldWrongFalsely : Prop := deskHoldRow.holds Tryz.pinned (OpenSpec.ofChange deskHoldWrong)

/-- 'kinespherelaw50.DeskMany': WHATEVER THE INPUT: true; the input reads as it did. -/
def deskManySpec : ChangeSpec := { name := "deskMany", fn := fun _ => fun
  | [d1, d2, d3, d4] => { results := [.lit (.bool true)], args := [d1, d2, d3, d4] }
  | _ => none }
def deskManyRow : OpenClaim := { program := "ytejplpmpldcmlaagreatdoor", sum := "06fab995ed1ad7243fbb033eb1dbb9019dda410b497f9d169787ee887583a7be", func := "kinesphere/kinespherelaw50.DeskMany", spec := "deskMany", inPlace := ["internal/bytealg.IndexByteString"], unfollowed := true, recurses := true, named := ["kinesphere/expand.kinds", "kinesphere/space.flat", "kinesphere/motion.kinds"], plainKeys := false, apart := false, laid := [("kinesphere/space.flat", laid_kinesphere_space_flat), ("kinesphere/expand.kinds", laid_kinesphere_expand_kinds), ("kinesphere/motion.kinds", laid_kinesphere_motion_kinds)] }
def DeskManySaid : Prop := deskManyRow.holds Tryz.pinned (OpenSpec.ofChange deskManySpec)

/-- ITS FALSE NEIGHBOUR: 'it returns false'. Refute it at one input. -/
def deskManyWrong : ChangeSpec := { name := "deskMany", fn := fun _ => fun
  | [d1, d2, d3, d4] => { results := [.lit (.bool false)], args := [d1, d2, d3, d4] }
  | _ => none }
def DeskManyWrongFalsely : Prop := deskManyRow.holds Tryz.pinned (OpenSpec.ofChange deskManyWrong)

/- THE SECOND FORM. 'bulk': how many values and letters a reading holds, each counted each time it is reached (what is shared counts as often as it is met; a slice's spare places count too). A statement '..UptoSaid' is the law's where the arguments, and the package variables that the reading takes, are together of bulk at most 1048576: NARROWER than '..Said'. Prove '..Said' where nothing that the law and all that it calls make is longer than what came in: it says more and counts as full. Else prove '..UptoSaid'. A law counts once. -/
mutual
def uptoBulk {H : Type} : DataW H → Nat
  | .lit (.string bytes) => bytes.length + 1
  | .lit _ => 1
  | .nil => 1
  | .ptr d => uptoBulk d + 1
  | .slice elems spare => uptoBulkAll elems + uptoBulkAll spare + 1
  | .agg parts => uptoBulkAll parts + 1
  | .iface _ d => uptoBulk d + 1
  | .map entries => uptoBulkEntries entries + 1
  | .held _ => 1
def uptoBulkAll {H : Type} : List (DataW H) → Nat
  | [] => 0
  | d :: r => uptoBulk d + uptoBulkAll r
def uptoBulkEntries {H : Type} : List (Lit × DataW H) → Nat
  | [] => 0
  | x :: r => uptoBulkEntry x + uptoBulkEntries r
def uptoBulkEntry {H : Type} : Lit × DataW H → Nat
  | (.string bytes, d) => bytes.length + uptoBulk d + 1
  | (_, d) => uptoBulk d + 1
 end
def uptoSmall : (H : Type) → List (DataW H) → Bool := fun _ ds => decide (uptoBulkAll ds ≤ 1048576)
def OpenSpec.upto (s : _root_.Go.ChangeSpec) : _root_.Go.OpenSpec := { _root_.Go.OpenSpec.ofChange s with cond := some uptoSmall }

/-- 'kinespherelaw50.DeskHold', WHERE WHAT IT READS IS OF BULK AT MOST 1048576: true; the input reads as it did. -/
def deskHoldUptoRow : OpenClaim := { program := "ytejplpmpldcmlaagreatdoor", sum := "06fab995ed1ad7243fbb033eb1dbb9019dda410b497f9d169787ee887583a7be", func := "kinesphere/kinespherelaw50.DeskHold", spec := "deskHold", inPlace := ["internal/bytealg.IndexByteString"], unfollowed := true, recurses := true, named := ["kinesphere/expand.kinds", "kinesphere/space.flat", "kinesphere/motion.kinds"], plainKeys := false, apart := false, laid := [("kinesphere/space.flat", laid_kinesphere_space_flat), ("kinesphere/expand.kinds", laid_kinesphere_expand_kinds), ("kinesphere/motion.kinds", laid_kinesphere_motion_kinds)], narrowed := true }
def DeskHoldUptoSaid : Prop := deskHoldUptoRow.holds Tryz.pinned (OpenSpec.upto deskHoldSpec)

/-- 'kinespherelaw50.DeskMany', WHERE WHAT IT READS IS OF BULK AT MOST 1048576: true; the input reads as it did. -/
def deskManyUptoRow : OpenClaim := { program := "ytejplpmpldcmlaagreatdoor", sum := "06fab995ed1ad7243fbb033eb1dbb9019dda410b497f9d169787ee887583a7be", func := "kinesphere/kinespherelaw50.DeskMany", spec := "deskMany", inPlace := ["internal/bytealg.IndexByteString"], unfollowed := true, recurses := true, named := ["kinesphere/expand.kinds", "kinesphere/space.flat", "kinesphere/motion.kinds"], plainKeys := false, apart := false, laid := [("kinesphere/space.flat", laid_kinesphere_space_flat), ("kinesphere/expand.kinds", laid_kinesphere_expand_kinds), ("kinesphere/motion.kinds", laid_kinesphere_motion_kinds)], narrowed := true }
def DeskManyUptoSaid : Prop := deskManyUptoRow.holds Tryz.pinned (OpenSpec.upto deskManySpec)

end Rows
end Go.Proofs.YtejplpmpldcmlaaGreatDoor
