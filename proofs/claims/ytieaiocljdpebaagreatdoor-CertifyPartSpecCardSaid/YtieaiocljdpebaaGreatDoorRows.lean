/-
  NARROWER THAN 'FOR EVERY INPUT', by the rows' own cells (each row's printed sentence says how): CertifySpec: laid · CertifyObjectionsSpec: laid · CertifyPartSpec: laid · CertifySafe: laid · CertifyParts: laid · CertifyWagon: laid · CertifyMade: laid · CertifyStronger: laid.
  DERIVED. THE GIVEN ROWS OF THIS SEAT. 8 by the template 'for every input the law returns true; each argument reads behind the call as it read before'; 0 by the template 'total and deterministic' (their statements: YtieaiocljdpebaaGreatDoorTotals.lean).
  GIVEN WITH THE SEED: the statements are not yours to turn. If you find one false, say at which input.
  Laid BY PROGRAM, IN A SANDBOX (cutbox-rows.mjs): the forced cells as the released guide's own fill.sh prints them over the translation 5da395e6bceb7d1c… (all of the seat's roots in one cut). By AI agents, Wed Nov 11 2026. No macro, syntax, notation, axiom, sorry.
-/
import Derived.Test.YtieaiocljdpebaaGreatDoorChecked
import GoSem.Claim
import GoSem.ClaimJoined
import GoSem.ClaimMapViews
import Derived.JoinedTies
import Derived.KernelRfl
namespace Go.Proofs.YtieaiocljdpebaaGreatDoor
/- THE CELL 'sum', in the pinned program and in every row, IS THE sha256 OF THE DUMP (.gsa) THAT YtieaiocljdpebaaGreatDoorProg.lean LOADS. Nothing in Lean hashes anything: it is a label: what it is worth is what the hold of that sum in a sandbox is worth. -/
noncomputable def Tryz.pinned : Pinned := { name := "ytieaiocljdpebaagreatdoor", sum := "5da395e6bceb7d1c8cdf6df86811d0415827a30e02bb36d753c0f3098c0510eb", checked := Tryz.checked }
namespace Rows
def none {H : Type} : Left H := { results := [], args := [] }

/- WHAT THE LISTED PACKAGE-LEVEL VARIABLES READ AS WHEN THE CALL BEGINS. Each datum BY PROGRAM (the guide's laid-datum.mjs) off the statement by which the dump's own 'gosem.cut.vars' lays the variable. In a bare row this is a premise. The card (YtieaiocljdpebaaGreatDoorCards.lean) ties it to the program's text. -/
def laid_kinesphere_space_flat {H : Type} : DataW H := .agg [.agg [.lit (.int .i64 0), .lit (.int .i64 29)], .agg [.lit (.int .i64 20), .lit (.int .i64 21)], .agg [.lit (.int .i64 29), .lit (.int .i64 0)], .agg [.lit (.int .i64 20), .lit (.int .i64 (-21))], .agg [.lit (.int .i64 0), .lit (.int .i64 (-29))], .agg [.lit (.int .i64 (-20)), .lit (.int .i64 (-21))], .agg [.lit (.int .i64 (-29)), .lit (.int .i64 0)], .agg [.lit (.int .i64 (-20)), .lit (.int .i64 21)]]
def laid_kinesphere_expand_kinds {H : Type} : DataW H := .agg [.agg [.lit (.bool false), .lit (.bool false), .lit (.bool false), .lit (.int .i64 0), .lit (.int .i64 0), .lit (.int .i64 0)], .agg [.lit (.bool true), .lit (.bool true), .lit (.bool false), .lit (.int .i64 1), .lit (.int .i64 0), .lit (.int .i64 16)], .agg [.lit (.bool false), .lit (.bool true), .lit (.bool false), .lit (.int .i64 1), .lit (.int .i64 0), .lit (.int .i64 16)], .agg [.lit (.bool true), .lit (.bool true), .lit (.bool false), .lit (.int .i64 0), .lit (.int .i64 3), .lit (.int .i64 0)], .agg [.lit (.bool true), .lit (.bool true), .lit (.bool false), .lit (.int .i64 0), .lit (.int .i64 3), .lit (.int .i64 0)], .agg [.lit (.bool false), .lit (.bool true), .lit (.bool false), .lit (.int .i64 0), .lit (.int .i64 3), .lit (.int .i64 0)], .agg [.lit (.bool false), .lit (.bool false), .lit (.bool false), .lit (.int .i64 0), .lit (.int .i64 0), .lit (.int .i64 7)], .agg [.lit (.bool false), .lit (.bool false), .lit (.bool true), .lit (.int .i64 0), .lit (.int .i64 0), .lit (.int .i64 0)], .agg [.lit (.bool false), .lit (.bool false), .lit (.bool true), .lit (.int .i64 0), .lit (.int .i64 0), .lit (.int .i64 0)], .agg [.lit (.bool true), .lit (.bool false), .lit (.bool false), .lit (.int .i64 0), .lit (.int .i64 3), .lit (.int .i64 0)]]
def laid_kinesphere_motion_kinds {H : Type} : DataW H := .agg [.agg [.nil, .nil], .agg [.slice [.lit (.int .i64 0)] [], .nil], .agg [.nil, .slice [.lit (.int .i64 0), .lit (.int .i64 1)] []], .agg [.slice [.lit (.int .i64 0)] [], .nil], .agg [.slice [.lit (.int .i64 2)] [], .nil], .agg [.nil, .slice [.lit (.int .i64 4)] []], .agg [.nil, .nil], .agg [.nil, .slice [.lit (.int .i64 2), .lit (.int .i64 3)] []], .agg [.nil, .slice [.lit (.int .i64 0), .lit (.int .i64 1)] []], .agg [.slice [.lit (.int .i64 2)] [], .nil]]

/-- 'kinespherelaw31.CertifySpec': WHATEVER THE INPUT: true; the input reads as it did. -/
def certifySpecSpec : ChangeSpec := { name := "certifySpec", fn := fun _ => fun
  | [d1, d2, d3, d4, d5, d6, d7] => { results := [.lit (.bool true)], args := [d1, d2, d3, d4, d5, d6, d7] }
  | _ => none }
def certifySpecRow : OpenClaim := { program := "ytieaiocljdpebaagreatdoor", sum := "5da395e6bceb7d1c8cdf6df86811d0415827a30e02bb36d753c0f3098c0510eb", func := "kinesphere/kinespherelaw31.CertifySpec", spec := "certifySpec", inPlace := ["internal/bytealg.IndexByteString"], unfollowed := true, recurses := true, named := ["kinesphere/expand.kinds", "kinesphere/space.flat", "kinesphere/motion.kinds"], plainKeys := false, apart := false, laid := [("kinesphere/space.flat", laid_kinesphere_space_flat), ("kinesphere/expand.kinds", laid_kinesphere_expand_kinds), ("kinesphere/motion.kinds", laid_kinesphere_motion_kinds)] }
def CertifySpecSaid : Prop := certifySpecRow.holds Tryz.pinned (OpenSpec.ofChange certifySpecSpec)

/-- ITS FALSE NEIGHBOUR: 'it returns false'. Refute it at one input. -/
def certifySpecWrong : ChangeSpec := { name := "certifySpec", fn := fun _ => fun
  | [d1, d2, d3, d4, d5, d6, d7] => { results := [.lit (.bool false)], args := [d1, d2, d3, d4, d5, d6, d7] }
  | _ => none }
def CertifySpecWrongFalsely : Prop := certifySpecRow.holds Tryz.pinned (OpenSpec.ofChange certifySpecWrong)

/-- 'kinespherelaw31.CertifyObjectionsSpec': WHATEVER THE INPUT: true; the input reads as it did. -/
def certifyObjectionsSpecSpec : ChangeSpec := { name := "certifyObjectionsSpec", fn := fun _ => fun
  | [d1, d2, d3, d4] => { results := [.lit (.bool true)], args := [d1, d2, d3, d4] }
  | _ => none }
def certifyObjectionsSpecRow : OpenClaim := { program := "ytieaiocljdpebaagreatdoor", sum := "5da395e6bceb7d1c8cdf6df86811d0415827a30e02bb36d753c0f3098c0510eb", func := "kinesphere/kinespherelaw31.CertifyObjectionsSpec", spec := "certifyObjectionsSpec", inPlace := ["internal/bytealg.IndexByteString"], unfollowed := true, recurses := true, named := ["kinesphere/expand.kinds", "kinesphere/space.flat", "kinesphere/motion.kinds"], plainKeys := false, apart := false, laid := [("kinesphere/space.flat", laid_kinesphere_space_flat), ("kinesphere/expand.kinds", laid_kinesphere_expand_kinds), ("kinesphere/motion.kinds", laid_kinesphere_motion_kinds)] }
def CertifyObjectionsSpecSaid : Prop := certifyObjectionsSpecRow.holds Tryz.pinned (OpenSpec.ofChange certifyObjectionsSpecSpec)

/-- ITS FALSE NEIGHBOUR: 'it returns false'. Refute it at one input. -/
def certifyObjectionsSpecWrong : ChangeSpec := { name := "certifyObjectionsSpec", fn := fun _ => fun
  | [d1, d2, d3, d4] => { results := [.lit (.bool false)], args := [d1, d2, d3, d4] }
  | _ => none }
def CertifyObjectionsSpecWrongFalsely : Prop := certifyObjectionsSpecRow.holds Tryz.pinned (OpenSpec.ofChange certifyObjectionsSpecWrong)

/-- 'kinespherelaw31.CertifyPartSpec': WHATEVER THE INPUT: true; the input reads as it did. -/
def certifyPartSpecSpec : ChangeSpec := { name := "certifyPartSpec", fn := fun _ => fun
  | [d1, d2, d3, d4, d5] => { results := [.lit (.bool true)], args := [d1, d2, d3, d4, d5] }
  | _ => none }
def certifyPartSpecRow : OpenClaim := { program := "ytieaiocljdpebaagreatdoor", sum := "5da395e6bceb7d1c8cdf6df86811d0415827a30e02bb36d753c0f3098c0510eb", func := "kinesphere/kinespherelaw31.CertifyPartSpec", spec := "certifyPartSpec", inPlace := ["internal/bytealg.IndexByteString"], unfollowed := true, recurses := true, named := ["kinesphere/expand.kinds", "kinesphere/space.flat", "kinesphere/motion.kinds"], plainKeys := false, apart := false, laid := [("kinesphere/space.flat", laid_kinesphere_space_flat), ("kinesphere/expand.kinds", laid_kinesphere_expand_kinds), ("kinesphere/motion.kinds", laid_kinesphere_motion_kinds)] }
def CertifyPartSpecSaid : Prop := certifyPartSpecRow.holds Tryz.pinned (OpenSpec.ofChange certifyPartSpecSpec)

/-- ITS FALSE NEIGHBOUR: 'it returns false'. Refute it at one input. -/
def certifyPartSpecWrong : ChangeSpec := { name := "certifyPartSpec", fn := fun _ => fun
  | [d1, d2, d3, d4, d5] => { results := [.lit (.bool false)], args := [d1, d2, d3, d4, d5] }
  | _ => none }
def CertifyPartSpecWrongFalsely : Prop := certifyPartSpecRow.holds Tryz.pinned (OpenSpec.ofChange certifyPartSpecWrong)

/-- 'kinespherelaw31.CertifySafe': WHATEVER THE INPUT: true; the input reads as it did. -/
def certifySafeSpec : ChangeSpec := { name := "certifySafe", fn := fun _ => fun
  | [d1, d2, d3, d4, d5] => { results := [.lit (.bool true)], args := [d1, d2, d3, d4, d5] }
  | _ => none }
def certifySafeRow : OpenClaim := { program := "ytieaiocljdpebaagreatdoor", sum := "5da395e6bceb7d1c8cdf6df86811d0415827a30e02bb36d753c0f3098c0510eb", func := "kinesphere/kinespherelaw31.CertifySafe", spec := "certifySafe", inPlace := ["internal/bytealg.IndexByteString"], unfollowed := true, recurses := true, named := ["kinesphere/expand.kinds", "kinesphere/space.flat", "kinesphere/motion.kinds"], plainKeys := false, apart := false, laid := [("kinesphere/space.flat", laid_kinesphere_space_flat), ("kinesphere/expand.kinds", laid_kinesphere_expand_kinds), ("kinesphere/motion.kinds", laid_kinesphere_motion_kinds)] }
def CertifySafeSaid : Prop := certifySafeRow.holds Tryz.pinned (OpenSpec.ofChange certifySafeSpec)

/-- ITS FALSE NEIGHBOUR: 'it returns false'. Refute it at one input. -/
def certifySafeWrong : ChangeSpec := { name := "certifySafe", fn := fun _ => fun
  | [d1, d2, d3, d4, d5] => { results := [.lit (.bool false)], args := [d1, d2, d3, d4, d5] }
  | _ => none }
def CertifySafeWrongFalsely : Prop := certifySafeRow.holds Tryz.pinned (OpenSpec.ofChange certifySafeWrong)

/-- 'kinespherelaw31.CertifyParts': WHATEVER THE INPUT: true; the input reads as it did. -/
def certifyPartsSpec : ChangeSpec := { name := "certifyParts", fn := fun _ => fun
  | [d1, d2, d3, d4, d5, d6] => { results := [.lit (.bool true)], args := [d1, d2, d3, d4, d5, d6] }
  | _ => none }
def certifyPartsRow : OpenClaim := { program := "ytieaiocljdpebaagreatdoor", sum := "5da395e6bceb7d1c8cdf6df86811d0415827a30e02bb36d753c0f3098c0510eb", func := "kinesphere/kinespherelaw31.CertifyParts", spec := "certifyParts", inPlace := ["internal/bytealg.IndexByteString"], unfollowed := true, recurses := true, named := ["kinesphere/expand.kinds", "kinesphere/space.flat", "kinesphere/motion.kinds"], plainKeys := false, apart := false, laid := [("kinesphere/space.flat", laid_kinesphere_space_flat), ("kinesphere/expand.kinds", laid_kinesphere_expand_kinds), ("kinesphere/motion.kinds", laid_kinesphere_motion_kinds)] }
def CertifyPartsSaid : Prop := certifyPartsRow.holds Tryz.pinned (OpenSpec.ofChange certifyPartsSpec)

/-- ITS FALSE NEIGHBOUR: 'it returns false'. Refute it at one input. -/
def certifyPartsWrong : ChangeSpec := { name := "certifyParts", fn := fun _ => fun
  | [d1, d2, d3, d4, d5, d6] => { results := [.lit (.bool false)], args := [d1, d2, d3, d4, d5, d6] }
  | _ => none }
def CertifyPartsWrongFalsely : Prop := certifyPartsRow.holds Tryz.pinned (OpenSpec.ofChange certifyPartsWrong)

/-- 'kinespherelaw31.CertifyWagon': WHATEVER THE INPUT: true; the input reads as it did. -/
def certifyWagonSpec : ChangeSpec := { name := "certifyWagon", fn := fun _ => fun
  | [d1, d2, d3, d4, d5] => { results := [.lit (.bool true)], args := [d1, d2, d3, d4, d5] }
  | _ => none }
def certifyWagonRow : OpenClaim := { program := "ytieaiocljdpebaagreatdoor", sum := "5da395e6bceb7d1c8cdf6df86811d0415827a30e02bb36d753c0f3098c0510eb", func := "kinesphere/kinespherelaw31.CertifyWagon", spec := "certifyWagon", inPlace := ["internal/bytealg.IndexByteString"], unfollowed := true, recurses := true, named := ["kinesphere/expand.kinds", "kinesphere/space.flat", "kinesphere/motion.kinds"], plainKeys := false, apart := false, laid := [("kinesphere/space.flat", laid_kinesphere_space_flat), ("kinesphere/expand.kinds", laid_kinesphere_expand_kinds), ("kinesphere/motion.kinds", laid_kinesphere_motion_kinds)] }
def CertifyWagonSaid : Prop := certifyWagonRow.holds Tryz.pinned (OpenSpec.ofChange certifyWagonSpec)

/-- ITS FALSE NEIGHBOUR: 'it returns false'. Refute it at one input. -/
def certifyWagonWrong : ChangeSpec := { name := "certifyWagon", fn := fun _ => fun
  | [d1, d2, d3, d4, d5] => { results := [.lit (.bool false)], args := [d1, d2, d3, d4, d5] }
  | _ => none }
def CertifyWagonWrongFalsely : Prop := certifyWagonRow.holds Tryz.pinned (OpenSpec.ofChange certifyWagonWrong)

/-- 'kinespherelaw31.CertifyMade': WHATEVER THE INPUT: true; the input reads as it did. -/
def certifyMadeSpec : ChangeSpec := { name := "certifyMade", fn := fun _ => fun
  | [d1, d2, d3, d4, d5, d6, d7, d8, d9] => { results := [.lit (.bool true)], args := [d1, d2, d3, d4, d5, d6, d7, d8, d9] }
  | _ => none }
def certifyMadeRow : OpenClaim := { program := "ytieaiocljdpebaagreatdoor", sum := "5da395e6bceb7d1c8cdf6df86811d0415827a30e02bb36d753c0f3098c0510eb", func := "kinesphere/kinespherelaw31.CertifyMade", spec := "certifyMade", inPlace := ["internal/bytealg.IndexByteString"], unfollowed := true, recurses := true, named := ["kinesphere/expand.kinds", "kinesphere/space.flat", "kinesphere/motion.kinds"], plainKeys := false, apart := false, laid := [("kinesphere/space.flat", laid_kinesphere_space_flat), ("kinesphere/expand.kinds", laid_kinesphere_expand_kinds), ("kinesphere/motion.kinds", laid_kinesphere_motion_kinds)] }
def CertifyMadeSaid : Prop := certifyMadeRow.holds Tryz.pinned (OpenSpec.ofChange certifyMadeSpec)

/-- ITS FALSE NEIGHBOUR: 'it returns false'. Refute it at one input. -/
def certifyMadeWrong : ChangeSpec := { name := "certifyMade", fn := fun _ => fun
  | [d1, d2, d3, d4, d5, d6, d7, d8, d9] => { results := [.lit (.bool false)], args := [d1, d2, d3, d4, d5, d6, d7, d8, d9] }
  | _ => none }
def CertifyMadeWrongFalsely : Prop := certifyMadeRow.holds Tryz.pinned (OpenSpec.ofChange certifyMadeWrong)

/-- 'kinespherelaw31.CertifyStronger': WHATEVER THE INPUT: true; the input reads as it did. -/
def certifyStrongerSpec : ChangeSpec := { name := "certifyStronger", fn := fun _ => fun
  | [d1, d2, d3, d4, d5] => { results := [.lit (.bool true)], args := [d1, d2, d3, d4, d5] }
  | _ => none }
def certifyStrongerRow : OpenClaim := { program := "ytieaiocljdpebaagreatdoor", sum := "5da395e6bceb7d1c8cdf6df86811d0415827a30e02bb36d753c0f3098c0510eb", func := "kinesphere/kinespherelaw31.CertifyStronger", spec := "certifyStronger", inPlace := ["internal/bytealg.IndexByteString"], unfollowed := true, recurses := true, named := ["kinesphere/expand.kinds", "kinesphere/space.flat", "kinesphere/motion.kinds"], plainKeys := false, apart := false, laid := [("kinesphere/space.flat", laid_kinesphere_space_flat), ("kinesphere/expand.kinds", laid_kinesphere_expand_kinds), ("kinesphere/motion.kinds", laid_kinesphere_motion_kinds)] }
def CertifyStrongerSaid : Prop := certifyStrongerRow.holds Tryz.pinned (OpenSpec.ofChange certifyStrongerSpec)

/-- ITS FALSE NEIGHBOUR: 'it returns false'. Refute it at one input. -/
def certifyStrongerWrong : ChangeSpec := { name := "certifyStronger", fn := fun _ => fun
  | [d1, d2, d3, d4, d5] => { results := [.lit (.bool false)], args := [d1, d2, d3, d4, d5] }
  | _ => none }
def CertifyStrongerWrongFalsely : Prop := certifyStrongerRow.holds Tryz.pinned (OpenSpec.ofChange certifyStrongerWrong)

/- THE SECOND FORM. 'bulk': how many values and letters a reading holds, each counted each time it is reached (what is shared counts as often as it is met; a slice's spare places count too). A statement '..UptoSaid' is the law's where the arguments, and the package variables that the reading takes, are together of bulk at most 1048576: NARROWER than '..Said'. Prove '..Said' where nothing that the law and all that it calls make is longer than what came in: it says more and counts as full. Else prove '..UptoSaid'. A law counts once. -/
mutual
def uptoBulk {H : Type} : DataW H → Nat
  | .lit (.string bytes) => bytes.length + 1
  | .lit _ => 1
  | .nil => 1
  | .ptr d => uptoBulk d + 1
  | .slice elems spare => uptoBulkAll elems + uptoBulkAll spare + 1
  | .agg parts => uptoBulkAll parts + 1
  | .iface _ d => uptoBulk d + 1
  | .map entries => uptoBulkEntries entries + 1
  | .held _ => 1
def uptoBulkAll {H : Type} : List (DataW H) → Nat
  | [] => 0
  | d :: r => uptoBulk d + uptoBulkAll r
def uptoBulkEntries {H : Type} : List (Lit × DataW H) → Nat
  | [] => 0
  | x :: r => uptoBulkEntry x + uptoBulkEntries r
def uptoBulkEntry {H : Type} : Lit × DataW H → Nat
  | (.string bytes, d) => bytes.length + uptoBulk d + 1
  | (_, d) => uptoBulk d + 1
 end
def uptoSmall : (H : Type) → List (DataW H) → Bool := fun _ ds => decide (uptoBulkAll ds ≤ 1048576)
def OpenSpec.upto (s : _root_.Go.ChangeSpec) : _root_.Go.OpenSpec := { _root_.Go.OpenSpec.ofChange s with cond := some uptoSmall }

/-- 'kinespherelaw31.CertifySpec', WHERE WHAT IT READS IS OF BULK AT MOST 1048576: true; the input reads as it did. -/
def certifySpecUptoRow : OpenClaim := { program := "ytieaiocljdpebaagreatdoor", sum := "5da395e6bceb7d1c8cdf6df86811d0415827a30e02bb36d753c0f3098c0510eb", func := "kinesphere/kinespherelaw31.CertifySpec", spec := "certifySpec", inPlace := ["internal/bytealg.IndexByteString"], unfollowed := true, recurses := true, named := ["kinesphere/expand.kinds", "kinesphere/space.flat", "kinesphere/motion.kinds"], plainKeys := false, apart := false, laid := [("kinesphere/space.flat", laid_kinesphere_space_flat), ("kinesphere/expand.kinds", laid_kinesphere_expand_kinds), ("kinesphere/motion.kinds", laid_kinesphere_motion_kinds)], narrowed := true }
def CertifySpecUptoSaid : Prop := certifySpecUptoRow.holds Tryz.pinned (OpenSpec.upto certifySpecSpec)

/-- 'kinespherelaw31.CertifyObjectionsSpec', WHERE WHAT IT READS IS OF BULK AT MOST 1048576: true; the input reads as it did. -/
def certifyObjectionsSpecUptoRow : OpenClaim := { program := "ytieaiocljdpebaagreatdoor", sum := "5da395e6bceb7d1c8cdf6df86811d0415827a30e02bb36d753c0f3098c0510eb", func := "kinesphere/kinespherelaw31.CertifyObjectionsSpec", spec := "certifyObjectionsSpec", inPlace := ["internal/bytealg.IndexByteString"], unfollowed := true, recurses := true, named := ["kinesphere/expand.kinds", "kinesphere/space.flat", "kinesphere/motion.kinds"], plainKeys := false, apart := false, laid := [("kinesphere/space.flat", laid_kinesphere_space_flat), ("kinesphere/expand.kinds", laid_kinesphere_expand_kinds), ("kinesphere/motion.kinds", laid_kinesphere_motion_kinds)], narrowed := true }
def CertifyObjectionsSpecUptoSaid : Prop := certifyObjectionsSpecUptoRow.holds Tryz.pinned (OpenSpec.upto certifyObjectionsSpecSpec)

/-- 'kinespherelaw31.CertifyPartSpec', WHERE WHAT IT READS IS OF BULK AT MOST 1048576: true; the input reads as it did. -/
def certifyPartSpecUptoRow : OpenClaim := { program := "ytieaiocljdpebaagreatdoor", sum := "5da395e6bceb7d1c8cdf6df86811d0415827a30e02bb36d753c0f3098c0510eb", func := "kinesphere/kinespherelaw31.CertifyPartSpec", spec := "certifyPartSpec", inPlace := ["internal/bytealg.IndexByteString"], unfollowed := true, recurses := true, named := ["kinesphere/expand.kinds", "kinesphere/space.flat", "kinesphere/motion.kinds"], plainKeys := false, apart := false, laid := [("kinesphere/space.flat", laid_kinesphere_space_flat), ("kinesphere/expand.kinds", laid_kinesphere_expand_kinds), ("kinesphere/motion.kinds", laid_kinesphere_motion_kinds)], narrowed := true }
def CertifyPartSpecUptoSaid : Prop := certifyPartSpecUptoRow.holds Tryz.pinned (OpenSpec.upto certifyPartSpecSpec)

/-- 'kinespherelaw31.CertifySafe', WHERE WHAT IT READS IS OF BULK AT MOST 1048576: true; the input reads as it did. -/
def certifySafeUptoRow : OpenClaim := { program := "ytieaiocljdpebaagreatdoor", sum := "5da395e6bceb7d1c8cdf6df86811d0415827a30e02bb36d753c0f3098c0510eb", func := "kinesphere/kinespherelaw31.CertifySafe", spec := "certifySafe", inPlace := ["internal/bytealg.IndexByteString"], unfollowed := true, recurses := true, named := ["kinesphere/expand.kinds", "kinesphere/space.flat", "kinesphere/motion.kinds"], plainKeys := false, apart := false, laid := [("kinesphere/space.flat", laid_kinesphere_space_flat), ("kinesphere/expand.kinds", laid_kinesphere_expand_kinds), ("kinesphere/motion.kinds", laid_kinesphere_motion_kinds)], narrowed := true }
def CertifySafeUptoSaid : Prop := certifySafeUptoRow.holds Tryz.pinned (OpenSpec.upto certifySafeSpec)

/-- 'kinespherelaw31.CertifyParts', WHERE WHAT IT READS IS OF BULK AT MOST 1048576: true; the input reads as it did. -/
def certifyPartsUptoRow : OpenClaim := { program := "ytieaiocljdpebaagreatdoor", sum := "5da395e6bceb7d1c8cdf6df86811d0415827a30e02bb36d753c0f3098c0510eb", func := "kinesphere/kinespherelaw31.CertifyParts", spec := "certifyParts", inPlace := ["internal/bytealg.IndexByteString"], unfollowed := true, recurses := true, named := ["kinesphere/expand.kinds", "kinesphere/space.flat", "kinesphere/motion.kinds"], plainKeys := false, apart := false, laid := [("kinesphere/space.flat", laid_kinesphere_space_flat), ("kinesphere/expand.kinds", laid_kinesphere_expand_kinds), ("kinesphere/motion.kinds", laid_kinesphere_motion_kinds)], narrowed := true }
def CertifyPartsUptoSaid : Prop := certifyPartsUptoRow.holds Tryz.pinned (OpenSpec.upto certifyPartsSpec)

/-- 'kinespherelaw31.CertifyWagon', WHERE WHAT IT READS IS OF BULK AT MOST 1048576: true; the input reads as it did. -/
def certifyWagonUptoRow : OpenClaim := { program := "ytieaiocljdpebaagreatdoor", sum := "5da395e6bceb7d1c8cdf6df86811d0415827a30e02bb36d753c0f3098c0510eb", func := "kinesphere/kinespherelaw31.CertifyWagon", spec := "certifyWagon", inPlace := ["internal/bytealg.IndexByteString"], unfollowed := true, recurses := true, named := ["kinesphere/expand.kinds", "kinesphere/space.flat", "kinesphere/motion.kinds"], plainKeys := false, apart := false, laid := [("kinesphere/space.flat", laid_kinesphere_space_flat), ("kinesphere/expand.kinds", laid_kinesphere_expand_kinds), ("kinesphere/motion.kinds", laid_kinesphere_motion_kinds)], narrowed := true }
def CertifyWagonUptoSaid : Prop := certifyWagonUptoRow.holds Tryz.pinned (OpenSpec.upto certifyWagonSpec)

/-- 'kinespherelaw31.CertifyMade', WHERE WHAT IT READS IS OF BULK AT MOST 1048576: true; the input reads as it did. -/
def certifyMadeUptoRow : OpenClaim := { program := "ytieaiocljdpebaagreatdoor", sum := "5da395e6bceb7d1c8cdf6df86811d0415827a30e02bb36d753c0f3098c0510eb", func := "kinesphere/kinespherelaw31.CertifyMade", spec := "certifyMade", inPlace := ["internal/bytealg.IndexByteString"], unfollowed := true, recurses := true, named := ["kinesphere/expand.kinds", "kinesphere/space.flat", "kinesphere/motion.kinds"], plainKeys := false, apart := false, laid := [("kinesphere/space.flat", laid_kinesphere_space_flat), ("kinesphere/expand.kinds", laid_kinesphere_expand_kinds), ("kinesphere/motion.kinds", laid_kinesphere_motion_kinds)], narrowed := true }
def CertifyMadeUptoSaid : Prop := certifyMadeUptoRow.holds Tryz.pinned (OpenSpec.upto certifyMadeSpec)

/-- 'kinespherelaw31.CertifyStronger', WHERE WHAT IT READS IS OF BULK AT MOST 1048576: true; the input reads as it did. -/
def certifyStrongerUptoRow : OpenClaim := { program := "ytieaiocljdpebaagreatdoor", sum := "5da395e6bceb7d1c8cdf6df86811d0415827a30e02bb36d753c0f3098c0510eb", func := "kinesphere/kinespherelaw31.CertifyStronger", spec := "certifyStronger", inPlace := ["internal/bytealg.IndexByteString"], unfollowed := true, recurses := true, named := ["kinesphere/expand.kinds", "kinesphere/space.flat", "kinesphere/motion.kinds"], plainKeys := false, apart := false, laid := [("kinesphere/space.flat", laid_kinesphere_space_flat), ("kinesphere/expand.kinds", laid_kinesphere_expand_kinds), ("kinesphere/motion.kinds", laid_kinesphere_motion_kinds)], narrowed := true }
def CertifyStrongerUptoSaid : Prop := certifyStrongerUptoRow.holds Tryz.pinned (OpenSpec.upto certifyStrongerSpec)

end Rows
end Go.Proofs.YtieaiocljdpebaaGreatDoor
