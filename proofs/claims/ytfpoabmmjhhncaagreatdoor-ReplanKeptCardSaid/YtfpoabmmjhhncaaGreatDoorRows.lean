/-
  NARROWER THAN 'FOR EVERY INPUT', by the rows' own cells (each row's printed sentence says how): ReplanKept: laid.
  DERIVED. THE GIVEN ROWS OF THIS SEAT. 1 by the template 'for every input the law returns true; each argument reads behind the call as it read before'; 0 by the template 'total and deterministic' (their statements: YtfpoabmmjhhncaaGreatDoorTotals.lean).
  GIVEN WITH THE SEED: the statements are not yours to turn. If you find one false, say at which input.
  Laid BY PROGRAM, IN A SANDBOX (cutbox-rows.mjs): the forced cells as the released guide's own fill.sh prints them over the translation 53fa449729f8a711… (all of the seat's roots in one cut). By AI agents, Wed Nov 11 2026. No macro, syntax, notation, axiom, sorry.
-/
import Derived.Test.YtfpoabmmjhhncaaGreatDoorChecked
import GoSem.Claim
import GoSem.ClaimJoined
import GoSem.ClaimMapViews
import Derived.JoinedTies
import Derived.KernelRfl
namespace Go.Proofs.YtfpoabmmjhhncaaGreatDoor
/- THE CELL 'sum', in the pinned program and in every row, IS THE sha256 OF THE DUMP (.gsa) THAT YtfpoabmmjhhncaaGreatDoorProg.lean LOADS. Nothing in Lean hashes anything: it is a label: what it is worth is what the hold of that sum in a sandbox is worth. -/
noncomputable def Tryz.pinned : Pinned := { name := "ytfpoabmmjhhncaagreatdoor", sum := "53fa449729f8a7112ea069d703866b90a8033382c1a2812ac285634163a41884", checked := Tryz.checked }
namespace Rows
def none {H : Type} : Left H := { results := [], args := [] }

/- WHAT THE LISTED PACKAGE-LEVEL VARIABLES READ AS WHEN THE CALL BEGINS. Each datum BY PROGRAM (the guide's laid-datum.mjs) off the statement by which the dump's own 'gosem.cut.vars' lays the variable. In a bare row this is a premise. The card (YtfpoabmmjhhncaaGreatDoorCards.lean) ties it to the program's text. -/
def laid_kinesphere_space_flat {H : Type} : DataW H := .agg [.agg [.lit (.int .i64 0), .lit (.int .i64 29)], .agg [.lit (.int .i64 20), .lit (.int .i64 21)], .agg [.lit (.int .i64 29), .lit (.int .i64 0)], .agg [.lit (.int .i64 20), .lit (.int .i64 (-21))], .agg [.lit (.int .i64 0), .lit (.int .i64 (-29))], .agg [.lit (.int .i64 (-20)), .lit (.int .i64 (-21))], .agg [.lit (.int .i64 (-29)), .lit (.int .i64 0)], .agg [.lit (.int .i64 (-20)), .lit (.int .i64 21)]]
def laid_kinesphere_expand_kinds {H : Type} : DataW H := .agg [.agg [.lit (.bool false), .lit (.bool false), .lit (.bool false), .lit (.int .i64 0), .lit (.int .i64 0), .lit (.int .i64 0)], .agg [.lit (.bool true), .lit (.bool true), .lit (.bool false), .lit (.int .i64 1), .lit (.int .i64 0), .lit (.int .i64 16)], .agg [.lit (.bool false), .lit (.bool true), .lit (.bool false), .lit (.int .i64 1), .lit (.int .i64 0), .lit (.int .i64 16)], .agg [.lit (.bool true), .lit (.bool true), .lit (.bool false), .lit (.int .i64 0), .lit (.int .i64 3), .lit (.int .i64 0)], .agg [.lit (.bool true), .lit (.bool true), .lit (.bool false), .lit (.int .i64 0), .lit (.int .i64 3), .lit (.int .i64 0)], .agg [.lit (.bool false), .lit (.bool true), .lit (.bool false), .lit (.int .i64 0), .lit (.int .i64 3), .lit (.int .i64 0)], .agg [.lit (.bool false), .lit (.bool false), .lit (.bool false), .lit (.int .i64 0), .lit (.int .i64 0), .lit (.int .i64 7)], .agg [.lit (.bool false), .lit (.bool false), .lit (.bool true), .lit (.int .i64 0), .lit (.int .i64 0), .lit (.int .i64 0)], .agg [.lit (.bool false), .lit (.bool false), .lit (.bool true), .lit (.int .i64 0), .lit (.int .i64 0), .lit (.int .i64 0)], .agg [.lit (.bool true), .lit (.bool false), .lit (.bool false), .lit (.int .i64 0), .lit (.int .i64 3), .lit (.int .i64 0)]]
def laid_kinesphere_motion_kinds {H : Type} : DataW H := .agg [.agg [.nil, .nil], .agg [.slice [.lit (.int .i64 0)] [], .nil], .agg [.nil, .slice [.lit (.int .i64 0), .lit (.int .i64 1)] []], .agg [.slice [.lit (.int .i64 0)] [], .nil], .agg [.slice [.lit (.int .i64 2)] [], .nil], .agg [.nil, .slice [.lit (.int .i64 4)] []], .agg [.nil, .nil], .agg [.nil, .slice [.lit (.int .i64 2), .lit (.int .i64 3)] []], .agg [.nil, .slice [.lit (.int .i64 0), .lit (.int .i64 1)] []], .agg [.slice [.lit (.int .i64 2)] [], .nil]]

/-- 'kinespherelaw52.ReplanKept': WHATEVER THE INPUT: true; the input reads as it did. -/
def replanKeptSpec : ChangeSpec := { name := "replanKept", fn := fun _ => fun
  | [d1, d2, d3] => { results := [.lit (.bool true)], args := [d1, d2, d3] }
  | _ => none }
def replanKeptRow : OpenClaim := { program := "ytfpoabmmjhhncaagreatdoor", sum := "53fa449729f8a7112ea069d703866b90a8033382c1a2812ac285634163a41884", func := "kinesphere/kinespherelaw52.ReplanKept", spec := "replanKept", inPlace := ["internal/bytealg.IndexByteString"], unfollowed := true, recurses := true, named := ["kinesphere/expand.kinds", "kinesphere/space.flat", "kinesphere/motion.kinds"], plainKeys := false, apart := false, laid := [("kinesphere/space.flat", laid_kinesphere_space_flat), ("kinesphere/expand.kinds", laid_kinesphere_expand_kinds), ("kinesphere/motion.kinds", laid_kinesphere_motion_kinds)] }
def ReplanKeptSaid : Prop := replanKeptRow.holds Tryz.pinned (OpenSpec.ofChange replanKeptSpec)

/-- ITS FALSE NEIGHBOUR: 'it returns false'. Refute it at one input. -/
def replanKeptWrong : ChangeSpec := { name := "replanKept", fn := fun _ => fun
  | [d1, d2, d3] => { results := [.lit (.bool false)], args := [d1, d2, d3] }
  | _ => none }
def ReplanKeptWrongFalsely : Prop := replanKeptRow.holds Tryz.pinned (OpenSpec.ofChange replanKeptWrong)

/- THE SECOND FORM. 'bulk': how many values and letters a reading holds, each counted each time it is reached (what is shared counts as often as it is met; a slice's spare places count too). A statement '..UptoSaid' is the law's where the arguments, and the package variables that the reading takes, are together of bulk at most 1048576: NARROWER than '..Said'. Prove '..Said' where nothing that the law and all that it calls make is longer than what came in: it says more and counts as full. Else prove '..UptoSaid'. A law counts once. -/
mutual
def uptoBulk {H : Type} : DataW H → Nat
  | .lit (.string bytes) => bytes.length + 1
  | .lit _ => 1
  | .nil => 1
  | .ptr d => uptoBulk d + 1
  | .slice elems spare => uptoBulkAll elems + uptoBulkAll spare + 1
  | .agg parts => uptoBulkAll parts + 1
  | .iface _ d => uptoBulk d + 1
  | .map entries => uptoBulkEntries entries + 1
  | .held _ => 1
def uptoBulkAll {H : Type} : List (DataW H) → Nat
  | [] => 0
  | d :: r => uptoBulk d + uptoBulkAll r
def uptoBulkEntries {H : Type} : List (Lit × DataW H) → Nat
  | [] => 0
  | x :: r => uptoBulkEntry x + uptoBulkEntries r
def uptoBulkEntry {H : Type} : Lit × DataW H → Nat
  | (.string bytes, d) => bytes.length + uptoBulk d + 1
  | (_, d) => uptoBulk d + 1
 end
def uptoSmall : (H : Type) → List (DataW H) → Bool := fun _ ds => decide (uptoBulkAll ds ≤ 1048576)
def OpenSpec.upto (s : _root_.Go.ChangeSpec) : _root_.Go.OpenSpec := { _root_.Go.OpenSpec.ofChange s with cond := some uptoSmall }

/-- 'kinespherelaw52.ReplanKept', WHERE WHAT IT READS IS OF BULK AT MOST 1048576: true; the input reads as it did. -/
def replanKeptUptoRow : OpenClaim := { program := "ytfpoabmmjhhncaagreatdoor", sum := "53fa449729f8a7112ea069d703866b90a8033382c1a2812ac285634163a41884", func := "kinesphere/kinespherelaw52.ReplanKept", spec := "replanKept", inPlace := ["internal/bytealg.IndexByteString"], unfollowed := true, recurses := true, named := ["kinesphere/expand.kinds", "kinesphere/space.flat", "kinesphere/motion.kinds"], plainKeys := false, apart := false, laid := [("kinesphere/space.flat", laid_kinesphere_space_flat), ("kinesphere/expand.kinds", laid_kinesphere_expand_kinds), ("kinesphere/motion.kinds", laid_kinesphere_motion_kinds)], narrowed := true }
def ReplanKeptUptoSaid : Prop := replanKeptUptoRow.holds Tryz.pinned (OpenSpec.upto replanKeptSpec)

end Rows
end Go.Proofs.YtfpoabmmjhhncaaGreatDoor
