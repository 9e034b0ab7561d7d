/-
  NARROWER THAN 'FOR EVERY INPUT', by the rows' own cells (each row's printed sentence says how): ReplanSafe: laid · ReplanMost: laid · ReplanBudget: laid.
  DERIVED. THE GIVEN ROWS OF THIS SEAT. 3 by the template 'for every input the law returns true; each argument reads behind the call as it read before'; 0 by the template 'total and deterministic' (their statements: YtjnmghiggfgjlaaGreatDoorTotals.lean).
  GIVEN WITH THE SEED: the statements are not yours to turn. If you find one false, say at which input.
  Laid BY PROGRAM, IN A SANDBOX (cutbox-rows.mjs): the forced cells as the released guide's own fill.sh prints them over the translation 49e23cad52239d45… (all of the seat's roots in one cut). By AI agents, Wed Nov 11 2026. No macro, syntax, notation, axiom, sorry.
-/
import Derived.Test.YtjnmghiggfgjlaaGreatDoorChecked
import GoSem.Claim
import GoSem.ClaimJoined
import GoSem.ClaimMapViews
import Derived.JoinedTies
import Derived.KernelRfl
namespace Go.Proofs.YtjnmghiggfgjlaaGreatDoor
/- THE CELL 'sum', in the pinned program and in every row, IS THE sha256 OF THE DUMP (.gsa) THAT YtjnmghiggfgjlaaGreatDoorProg.lean LOADS. Nothing in Lean hashes anything: it is a label: what it is worth is what the hold of that sum in a sandbox is worth. -/
noncomputable def Tryz.pinned : Pinned := { name := "ytjnmghiggfgjlaagreatdoor", sum := "49e23cad52239d4556a95a2478b3b83e641260d664a8de06f5361e5757adbcd9", checked := Tryz.checked }
namespace Rows
def none {H : Type} : Left H := { results := [], args := [] }

/- WHAT THE LISTED PACKAGE-LEVEL VARIABLES READ AS WHEN THE CALL BEGINS. Each datum BY PROGRAM (the guide's laid-datum.mjs) off the statement by which the dump's own 'gosem.cut.vars' lays the variable. In a bare row this is a premise. The card (YtjnmghiggfgjlaaGreatDoorCards.lean) ties it to the program's text. -/
def laid_kinesphere_space_flat {H : Type} : DataW H := .agg [.agg [.lit (.int .i64 0), .lit (.int .i64 29)], .agg [.lit (.int .i64 20), .lit (.int .i64 21)], .agg [.lit (.int .i64 29), .lit (.int .i64 0)], .agg [.lit (.int .i64 20), .lit (.int .i64 (-21))], .agg [.lit (.int .i64 0), .lit (.int .i64 (-29))], .agg [.lit (.int .i64 (-20)), .lit (.int .i64 (-21))], .agg [.lit (.int .i64 (-29)), .lit (.int .i64 0)], .agg [.lit (.int .i64 (-20)), .lit (.int .i64 21)]]
def laid_kinesphere_expand_kinds {H : Type} : DataW H := .agg [.agg [.lit (.bool false), .lit (.bool false), .lit (.bool false), .lit (.int .i64 0), .lit (.int .i64 0), .lit (.int .i64 0)], .agg [.lit (.bool true), .lit (.bool true), .lit (.bool false), .lit (.int .i64 1), .lit (.int .i64 0), .lit (.int .i64 16)], .agg [.lit (.bool false), .lit (.bool true), .lit (.bool false), .lit (.int .i64 1), .lit (.int .i64 0), .lit (.int .i64 16)], .agg [.lit (.bool true), .lit (.bool true), .lit (.bool false), .lit (.int .i64 0), .lit (.int .i64 3), .lit (.int .i64 0)], .agg [.lit (.bool true), .lit (.bool true), .lit (.bool false), .lit (.int .i64 0), .lit (.int .i64 3), .lit (.int .i64 0)], .agg [.lit (.bool false), .lit (.bool true), .lit (.bool false), .lit (.int .i64 0), .lit (.int .i64 3), .lit (.int .i64 0)], .agg [.lit (.bool false), .lit (.bool false), .lit (.bool false), .lit (.int .i64 0), .lit (.int .i64 0), .lit (.int .i64 7)], .agg [.lit (.bool false), .lit (.bool false), .lit (.bool true), .lit (.int .i64 0), .lit (.int .i64 0), .lit (.int .i64 0)], .agg [.lit (.bool false), .lit (.bool false), .lit (.bool true), .lit (.int .i64 0), .lit (.int .i64 0), .lit (.int .i64 0)], .agg [.lit (.bool true), .lit (.bool false), .lit (.bool false), .lit (.int .i64 0), .lit (.int .i64 3), .lit (.int .i64 0)]]
def laid_kinesphere_motion_kinds {H : Type} : DataW H := .agg [.agg [.nil, .nil], .agg [.slice [.lit (.int .i64 0)] [], .nil], .agg [.nil, .slice [.lit (.int .i64 0), .lit (.int .i64 1)] []], .agg [.slice [.lit (.int .i64 0)] [], .nil], .agg [.slice [.lit (.int .i64 2)] [], .nil], .agg [.nil, .slice [.lit (.int .i64 4)] []], .agg [.nil, .nil], .agg [.nil, .slice [.lit (.int .i64 2), .lit (.int .i64 3)] []], .agg [.nil, .slice [.lit (.int .i64 0), .lit (.int .i64 1)] []], .agg [.slice [.lit (.int .i64 2)] [], .nil]]

/-- 'kinespherelaw52.ReplanSafe': WHATEVER THE INPUT: true; the input reads as it did. -/
def replanSafeSpec : ChangeSpec := { name := "replanSafe", fn := fun _ => fun
  | [d1, d2, d3] => { results := [.lit (.bool true)], args := [d1, d2, d3] }
  | _ => none }
def replanSafeRow : OpenClaim := { program := "ytjnmghiggfgjlaagreatdoor", sum := "49e23cad52239d4556a95a2478b3b83e641260d664a8de06f5361e5757adbcd9", func := "kinesphere/kinespherelaw52.ReplanSafe", spec := "replanSafe", inPlace := ["internal/bytealg.IndexByteString"], unfollowed := true, recurses := true, named := ["kinesphere/expand.kinds", "kinesphere/space.flat", "kinesphere/motion.kinds"], plainKeys := false, apart := false, laid := [("kinesphere/space.flat", laid_kinesphere_space_flat), ("kinesphere/expand.kinds", laid_kinesphere_expand_kinds), ("kinesphere/motion.kinds", laid_kinesphere_motion_kinds)] }
def ReplanSafeSaid : Prop := replanSafeRow.holds Tryz.pinned (OpenSpec.ofChange replanSafeSpec)

/-- ITS FALSE NEIGHBOUR: 'it returns false'. Refute it at one input. -/
def replanSafeWrong : ChangeSpec := { name := "replanSafe", fn := fun _ => fun
  | [d1, d2, d3] => { results := [.lit (.bool false)], args := [d1, d2, d3] }
  | _ => none }
def ReplanSafeWrongFalsely : Prop := replanSafeRow.holds Tryz.pinned (OpenSpec.ofChange replanSafeWrong)

/-- 'kinespherelaw52.ReplanMost': WHATEVER THE INPUT: true; the input reads as it did. -/
def replanMostSpec : ChangeSpec := { name := "replanMost", fn := fun _ => fun
  | [d1, d2, d3, d4] => { results := [.lit (.bool true)], args := [d1, d2, d3, d4] }
  | _ => none }
def replanMostRow : OpenClaim := { program := "ytjnmghiggfgjlaagreatdoor", sum := "49e23cad52239d4556a95a2478b3b83e641260d664a8de06f5361e5757adbcd9", func := "kinesphere/kinespherelaw52.ReplanMost", spec := "replanMost", inPlace := ["internal/bytealg.IndexByteString"], unfollowed := true, recurses := true, named := ["kinesphere/expand.kinds", "kinesphere/space.flat", "kinesphere/motion.kinds"], plainKeys := false, apart := false, laid := [("kinesphere/space.flat", laid_kinesphere_space_flat), ("kinesphere/expand.kinds", laid_kinesphere_expand_kinds), ("kinesphere/motion.kinds", laid_kinesphere_motion_kinds)] }
def ReplanMostSaid : Prop := replanMostRow.holds Tryz.pinned (OpenSpec.ofChange replanMostSpec)

/-- ITS FALSE NEIGHBOUR: 'it returns false'. Refute it at one input. -/
def replanMostWrong : ChangeSpec := { name := "replanMost", fn := fun _ => fun
  | [d1, d2, d3, d4] => { results := [.lit (.bool false)], args := [d1, d2, d3, d4] }
  | _ => none }
def ReplanMostWrongFalsely : Prop := replanMostRow.holds Tryz.pinned (OpenSpec.ofChange replanMostWrong)

/-- 'kinespherelaw52.ReplanBudget': WHATEVER THE INPUT: true; the input reads as it did. -/
def replanBudgetSpec : ChangeSpec := { name := "replanBudget", fn := fun _ => fun
  | [d1, d2, d3, d4] => { results := [.lit (.bool true)], args := [d1, d2, d3, d4] }
  | _ => none }
def replanBudgetRow : OpenClaim := { program := "ytjnmghiggfgjlaagreatdoor", sum := "49e23cad52239d4556a95a2478b3b83e641260d664a8de06f5361e5757adbcd9", func := "kinesphere/kinespherelaw52.ReplanBudget", spec := "replanBudget", inPlace := ["internal/bytealg.IndexByteString"], unfollowed := true, recurses := true, named := ["kinesphere/expand.kinds", "kinesphere/space.flat", "kinesphere/motion.kinds"], plainKeys := false, apart := false, laid := [("kinesphere/space.flat", laid_kinesphere_space_flat), ("kinesphere/expand.kinds", laid_kinesphere_expand_kinds), ("kinesphere/motion.kinds", laid_kinesphere_motion_kinds)] }
def ReplanBudgetSaid : Prop := replanBudgetRow.holds Tryz.pinned (OpenSpec.ofChange replanBudgetSpec)

/-- ITS FALSE NEIGHBOUR: 'it returns false'. Refute it at one input. -/
def replanBudgetWrong : ChangeSpec := { name := "replanBudget", fn := fun _ => fun
  | [d1, d2, d3, d4] => { results := [.lit (.bool false)], args := [d1, d2, d3, d4] }
  | _ => none }
def ReplanBudgetWrongFalsely : Prop := replanBudgetRow.holds Tryz.pinned (OpenSpec.ofChange replanBudgetWrong)

/- THE SECOND FORM. 'bulk': how many values and letters a reading holds, each counted each time it is reached (what is shared counts as often as it is met; a slice's spare places count too). A statement '..UptoSaid' is the law's where the arguments, and the package variables that the reading takes, are together of bulk at most 1048576: NARROWER than '..Said'. Prove '..Said' where nothing that the law and all that it calls make is longer than what came in: it says more and counts as full. Else prove '..UptoSaid'. A law counts once. -/
mutual
def uptoBulk {H : Type} : DataW H → Nat
  | .lit (.string bytes) => bytes.length + 1
  | .lit _ => 1
  | .nil => 1
  | .ptr d => uptoBulk d + 1
  | .slice elems spare => uptoBulkAll elems + uptoBulkAll spare + 1
  | .agg parts => uptoBulkAll parts + 1
  | .iface _ d => uptoBulk d + 1
  | .map entries => uptoBulkEntries entries + 1
  | .held _ => 1
def uptoBulkAll {H : Type} : List (DataW H) → Nat
  | [] => 0
  | d :: r => uptoBulk d + uptoBulkAll r
def uptoBulkEntries {H : Type} : List (Lit × DataW H) → Nat
  | [] => 0
  | x :: r => uptoBulkEntry x + uptoBulkEntries r
def uptoBulkEntry {H : Type} : Lit × DataW H → Nat
  | (.string bytes, d) => bytes.length + uptoBulk d + 1
  | (_, d) => uptoBulk d + 1
 end
def uptoSmall : (H : Type) → List (DataW H) → Bool := fun _ ds => decide (uptoBulkAll ds ≤ 1048576)
def OpenSpec.upto (s : _root_.Go.ChangeSpec) : _root_.Go.OpenSpec := { _root_.Go.OpenSpec.ofChange s with cond := some uptoSmall }

/-- 'kinespherelaw52.ReplanSafe', WHERE WHAT IT READS IS OF BULK AT MOST 1048576: true; the input reads as it did. -/
def replanSafeUptoRow : OpenClaim := { program := "ytjnmghiggfgjlaagreatdoor", sum := "49e23cad52239d4556a95a2478b3b83e641260d664a8de06f5361e5757adbcd9", func := "kinesphere/kinespherelaw52.ReplanSafe", spec := "replanSafe", inPlace := ["internal/bytealg.IndexByteString"], unfollowed := true, recurses := true, named := ["kinesphere/expand.kinds", "kinesphere/space.flat", "kinesphere/motion.kinds"], plainKeys := false, apart := false, laid := [("kinesphere/space.flat", laid_kinesphere_space_flat), ("kinesphere/expand.kinds", laid_kinesphere_expand_kinds), ("kinesphere/motion.kinds", laid_kinesphere_motion_kinds)], narrowed := true }
def ReplanSafeUptoSaid : Prop := replanSafeUptoRow.holds Tryz.pinned (OpenSpec.upto replanSafeSpec)

/-- 'kinespherelaw52.ReplanMost', WHERE WHAT IT READS IS OF BULK AT MOST 1048576: true; the input reads as it did. -/
def replanMostUptoRow : OpenClaim := { program := "ytjnmghiggfgjlaagreatdoor", sum := "49e23cad52239d4556a95a2478b3b83e641260d664a8de06f5361e5757adbcd9", func := "kinesphere/kinespherelaw52.ReplanMost", spec := "replanMost", inPlace := ["internal/bytealg.IndexByteString"], unfollowed := true, recurses := true, named := ["kinesphere/expand.kinds", "kinesphere/space.flat", "kinesphere/motion.kinds"], plainKeys := false, apart := false, laid := [("kinesphere/space.flat", laid_kinesphere_space_flat), ("kinesphere/expand.kinds", laid_kinesphere_expand_kinds), ("kinesphere/motion.kinds", laid_kinesphere_motion_kinds)], narrowed := true }
def ReplanMostUptoSaid : Prop := replanMostUptoRow.holds Tryz.pinned (OpenSpec.upto replanMostSpec)

/-- 'kinespherelaw52.ReplanBudget', WHERE WHAT IT READS IS OF BULK AT MOST 1048576: true; the input reads as it did. -/
def replanBudgetUptoRow : OpenClaim := { program := "ytjnmghiggfgjlaagreatdoor", sum := "49e23cad52239d4556a95a2478b3b83e641260d664a8de06f5361e5757adbcd9", func := "kinesphere/kinespherelaw52.ReplanBudget", spec := "replanBudget", inPlace := ["internal/bytealg.IndexByteString"], unfollowed := true, recurses := true, named := ["kinesphere/expand.kinds", "kinesphere/space.flat", "kinesphere/motion.kinds"], plainKeys := false, apart := false, laid := [("kinesphere/space.flat", laid_kinesphere_space_flat), ("kinesphere/expand.kinds", laid_kinesphere_expand_kinds), ("kinesphere/motion.kinds", laid_kinesphere_motion_kinds)], narrowed := true }
def ReplanBudgetUptoSaid : Prop := replanBudgetUptoRow.holds Tryz.pinned (OpenSpec.upto replanBudgetSpec)

end Rows
end Go.Proofs.YtjnmghiggfgjlaaGreatDoor
