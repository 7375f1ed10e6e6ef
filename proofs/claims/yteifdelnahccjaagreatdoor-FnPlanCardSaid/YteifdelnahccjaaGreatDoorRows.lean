/-
  NARROWER THAN 'FOR EVERY INPUT', by the rows' own cells (each row's printed sentence says how): FnExactPlanOf: laid · FnPlan: laid · FnExactReplicaOK: laid · FnExactGroupOK: laid · FnExactCertsAgree: laid · FnExactLogsAgree: laid · FnExactLongestLog: laid · FnForged: laid · FnReplica: laid · FnExactWorldOK: laid.
  DERIVED. THE GIVEN ROWS OF THIS SEAT. 10 by the template 'for every input the law returns true; each argument reads behind the call as it read before'; 0 by the template 'total and deterministic' (their statements: YteifdelnahccjaaGreatDoorTotals.lean).
  GIVEN WITH THE SEED: the statements are not yours to turn. If you find one false, say at which input.
  Laid BY PROGRAM, IN A SANDBOX (cutbox-rows.mjs): the forced cells as the released guide's own fill.sh prints them over the translation 0be7d1973ef49565… (all of the seat's roots in one cut). By AI agents, Wed Nov 11 2026. No macro, syntax, notation, axiom, sorry.
-/
import Derived.Test.YteifdelnahccjaaGreatDoorChecked
import GoSem.Claim
import GoSem.ClaimJoined
import GoSem.ClaimMapViews
import Derived.JoinedTies
import Derived.KernelRfl
namespace Go.Proofs.YteifdelnahccjaaGreatDoor
/- THE CELL 'sum', in the pinned program and in every row, IS THE sha256 OF THE DUMP (.gsa) THAT YteifdelnahccjaaGreatDoorProg.lean LOADS. Nothing in Lean hashes anything: it is a label: what it is worth is what the hold of that sum in a sandbox is worth. -/
noncomputable def Tryz.pinned : Pinned := { name := "yteifdelnahccjaagreatdoor", sum := "0be7d1973ef49565a6f62e85c3133f1cc8684d95e0b317ca67b303b1ac5e9549", checked := Tryz.checked }
namespace Rows
def none {H : Type} : Left H := { results := [], args := [] }

/- WHAT THE LISTED PACKAGE-LEVEL VARIABLES READ AS WHEN THE CALL BEGINS. Each datum BY PROGRAM (the guide's laid-datum.mjs) off the statement by which the dump's own 'gosem.cut.vars' lays the variable. In a bare row this is a premise. The card (YteifdelnahccjaaGreatDoorCards.lean) ties it to the program's text. -/
def laid_loop_example_g00292_impl_roundWords {H : Type} : DataW H := .agg [.lit (.int .u32 1116352408), .lit (.int .u32 1899447441), .lit (.int .u32 3049323471), .lit (.int .u32 3921009573), .lit (.int .u32 961987163), .lit (.int .u32 1508970993), .lit (.int .u32 2453635748), .lit (.int .u32 2870763221), .lit (.int .u32 3624381080), .lit (.int .u32 310598401), .lit (.int .u32 607225278), .lit (.int .u32 1426881987), .lit (.int .u32 1925078388), .lit (.int .u32 2162078206), .lit (.int .u32 2614888103), .lit (.int .u32 3248222580), .lit (.int .u32 3835390401), .lit (.int .u32 4022224774), .lit (.int .u32 264347078), .lit (.int .u32 604807628), .lit (.int .u32 770255983), .lit (.int .u32 1249150122), .lit (.int .u32 1555081692), .lit (.int .u32 1996064986), .lit (.int .u32 2554220882), .lit (.int .u32 2821834349), .lit (.int .u32 2952996808), .lit (.int .u32 3210313671), .lit (.int .u32 3336571891), .lit (.int .u32 3584528711), .lit (.int .u32 113926993), .lit (.int .u32 338241895), .lit (.int .u32 666307205), .lit (.int .u32 773529912), .lit (.int .u32 1294757372), .lit (.int .u32 1396182291), .lit (.int .u32 1695183700), .lit (.int .u32 1986661051), .lit (.int .u32 2177026350), .lit (.int .u32 2456956037), .lit (.int .u32 2730485921), .lit (.int .u32 2820302411), .lit (.int .u32 3259730800), .lit (.int .u32 3345764771), .lit (.int .u32 3516065817), .lit (.int .u32 3600352804), .lit (.int .u32 4094571909), .lit (.int .u32 275423344), .lit (.int .u32 430227734), .lit (.int .u32 506948616), .lit (.int .u32 659060556), .lit (.int .u32 883997877), .lit (.int .u32 958139571), .lit (.int .u32 1322822218), .lit (.int .u32 1537002063), .lit (.int .u32 1747873779), .lit (.int .u32 1955562222), .lit (.int .u32 2024104815), .lit (.int .u32 2227730452), .lit (.int .u32 2361852424), .lit (.int .u32 2428436474), .lit (.int .u32 2756734187), .lit (.int .u32 3204031479), .lit (.int .u32 3329325298)]

/-- 'laws.FnExactPlanOf': WHATEVER THE INPUT: true; the input reads as it did. -/
def fnExactPlanOfSpec : ChangeSpec := { name := "fnExactPlanOf", vars := ["loop.example/g00292/impl.roundWords"], fn := fun _ => fun
  | [d1, d2, d3, g1] => { results := [.lit (.bool true)], args := [d1, d2, d3], vars := [g1] }
  | _ => none }
def fnExactPlanOfRow : OpenClaim := { program := "yteifdelnahccjaagreatdoor", sum := "0be7d1973ef49565a6f62e85c3133f1cc8684d95e0b317ca67b303b1ac5e9549", func := "loop.example/g00292/laws.FnExactPlanOf", spec := "fnExactPlanOf", unfollowed := true, recurses := true, named := ["loop.example/g00292/impl.roundWords"], plainKeys := false, apart := false, laid := [("loop.example/g00292/impl.roundWords", laid_loop_example_g00292_impl_roundWords)] }
def FnExactPlanOfSaid : Prop := fnExactPlanOfRow.holds Tryz.pinned (OpenSpec.ofChange fnExactPlanOfSpec)

/-- ITS FALSE NEIGHBOUR: 'it returns false'. Refute it at one input. -/
def fnExactPlanOfWrong : ChangeSpec := { name := "fnExactPlanOf", vars := ["loop.example/g00292/impl.roundWords"], fn := fun _ => fun
  | [d1, d2, d3, g1] => { results := [.lit (.bool false)], args := [d1, d2, d3], vars := [g1] }
  | _ => none }
def FnExactPlanOfWrongFalsely : Prop := fnExactPlanOfRow.holds Tryz.pinned (OpenSpec.ofChange fnExactPlanOfWrong)

/-- 'laws.FnPlan': WHATEVER THE INPUT: true; the input reads as it did. -/
def fnPlanSpec : ChangeSpec := { name := "fnPlan", vars := ["loop.example/g00292/impl.roundWords"], fn := fun _ => fun
  | [d1, d2, g1] => { results := [.lit (.bool true)], args := [d1, d2], vars := [g1] }
  | _ => none }
def fnPlanRow : OpenClaim := { program := "yteifdelnahccjaagreatdoor", sum := "0be7d1973ef49565a6f62e85c3133f1cc8684d95e0b317ca67b303b1ac5e9549", func := "loop.example/g00292/laws.FnPlan", spec := "fnPlan", unfollowed := true, recurses := true, named := ["loop.example/g00292/impl.roundWords"], plainKeys := false, apart := false, laid := [("loop.example/g00292/impl.roundWords", laid_loop_example_g00292_impl_roundWords)] }
def FnPlanSaid : Prop := fnPlanRow.holds Tryz.pinned (OpenSpec.ofChange fnPlanSpec)

/-- ITS FALSE NEIGHBOUR: 'it returns false'. Refute it at one input. -/
def fnPlanWrong : ChangeSpec := { name := "fnPlan", vars := ["loop.example/g00292/impl.roundWords"], fn := fun _ => fun
  | [d1, d2, g1] => { results := [.lit (.bool false)], args := [d1, d2], vars := [g1] }
  | _ => none }
def FnPlanWrongFalsely : Prop := fnPlanRow.holds Tryz.pinned (OpenSpec.ofChange fnPlanWrong)

/-- 'laws.FnExactReplicaOK': WHATEVER THE INPUT: true; the input reads as it did. -/
def fnExactReplicaOKSpec : ChangeSpec := { name := "fnExactReplicaOK", vars := ["loop.example/g00292/impl.roundWords"], fn := fun _ => fun
  | [d, g1] => { results := [.lit (.bool true)], args := [d], vars := [g1] }
  | _ => none }
def fnExactReplicaOKRow : OpenClaim := { program := "yteifdelnahccjaagreatdoor", sum := "0be7d1973ef49565a6f62e85c3133f1cc8684d95e0b317ca67b303b1ac5e9549", func := "loop.example/g00292/laws.FnExactReplicaOK", spec := "fnExactReplicaOK", unfollowed := true, recurses := true, named := ["loop.example/g00292/impl.roundWords"], plainKeys := false, apart := false, laid := [("loop.example/g00292/impl.roundWords", laid_loop_example_g00292_impl_roundWords)] }
def FnExactReplicaOKSaid : Prop := fnExactReplicaOKRow.holds Tryz.pinned (OpenSpec.ofChange fnExactReplicaOKSpec)

/-- ITS FALSE NEIGHBOUR: 'it returns false'. Refute it at one input. -/
def fnExactReplicaOKWrong : ChangeSpec := { name := "fnExactReplicaOK", vars := ["loop.example/g00292/impl.roundWords"], fn := fun _ => fun
  | [d, g1] => { results := [.lit (.bool false)], args := [d], vars := [g1] }
  | _ => none }
def FnExactReplicaOKWrongFalsely : Prop := fnExactReplicaOKRow.holds Tryz.pinned (OpenSpec.ofChange fnExactReplicaOKWrong)

/-- 'laws.FnExactGroupOK': WHATEVER THE INPUT: true; the input reads as it did. -/
def fnExactGroupOKSpec : ChangeSpec := { name := "fnExactGroupOK", vars := ["loop.example/g00292/impl.roundWords"], fn := fun _ => fun
  | [d, g1] => { results := [.lit (.bool true)], args := [d], vars := [g1] }
  | _ => none }
def fnExactGroupOKRow : OpenClaim := { program := "yteifdelnahccjaagreatdoor", sum := "0be7d1973ef49565a6f62e85c3133f1cc8684d95e0b317ca67b303b1ac5e9549", func := "loop.example/g00292/laws.FnExactGroupOK", spec := "fnExactGroupOK", unfollowed := true, recurses := true, named := ["loop.example/g00292/impl.roundWords"], plainKeys := false, apart := false, laid := [("loop.example/g00292/impl.roundWords", laid_loop_example_g00292_impl_roundWords)] }
def FnExactGroupOKSaid : Prop := fnExactGroupOKRow.holds Tryz.pinned (OpenSpec.ofChange fnExactGroupOKSpec)

/-- ITS FALSE NEIGHBOUR: 'it returns false'. Refute it at one input. -/
def fnExactGroupOKWrong : ChangeSpec := { name := "fnExactGroupOK", vars := ["loop.example/g00292/impl.roundWords"], fn := fun _ => fun
  | [d, g1] => { results := [.lit (.bool false)], args := [d], vars := [g1] }
  | _ => none }
def FnExactGroupOKWrongFalsely : Prop := fnExactGroupOKRow.holds Tryz.pinned (OpenSpec.ofChange fnExactGroupOKWrong)

/-- 'laws.FnExactCertsAgree': WHATEVER THE INPUT: true; the input reads as it did. -/
def fnExactCertsAgreeSpec : ChangeSpec := { name := "fnExactCertsAgree", vars := ["loop.example/g00292/impl.roundWords"], fn := fun _ => fun
  | [d, g1] => { results := [.lit (.bool true)], args := [d], vars := [g1] }
  | _ => none }
def fnExactCertsAgreeRow : OpenClaim := { program := "yteifdelnahccjaagreatdoor", sum := "0be7d1973ef49565a6f62e85c3133f1cc8684d95e0b317ca67b303b1ac5e9549", func := "loop.example/g00292/laws.FnExactCertsAgree", spec := "fnExactCertsAgree", unfollowed := true, recurses := true, named := ["loop.example/g00292/impl.roundWords"], plainKeys := false, apart := false, laid := [("loop.example/g00292/impl.roundWords", laid_loop_example_g00292_impl_roundWords)] }
def FnExactCertsAgreeSaid : Prop := fnExactCertsAgreeRow.holds Tryz.pinned (OpenSpec.ofChange fnExactCertsAgreeSpec)

/-- ITS FALSE NEIGHBOUR: 'it returns false'. Refute it at one input. -/
def fnExactCertsAgreeWrong : ChangeSpec := { name := "fnExactCertsAgree", vars := ["loop.example/g00292/impl.roundWords"], fn := fun _ => fun
  | [d, g1] => { results := [.lit (.bool false)], args := [d], vars := [g1] }
  | _ => none }
def FnExactCertsAgreeWrongFalsely : Prop := fnExactCertsAgreeRow.holds Tryz.pinned (OpenSpec.ofChange fnExactCertsAgreeWrong)

/-- 'laws.FnExactLogsAgree': WHATEVER THE INPUT: true; the input reads as it did. -/
def fnExactLogsAgreeSpec : ChangeSpec := { name := "fnExactLogsAgree", vars := ["loop.example/g00292/impl.roundWords"], fn := fun _ => fun
  | [d, g1] => { results := [.lit (.bool true)], args := [d], vars := [g1] }
  | _ => none }
def fnExactLogsAgreeRow : OpenClaim := { program := "yteifdelnahccjaagreatdoor", sum := "0be7d1973ef49565a6f62e85c3133f1cc8684d95e0b317ca67b303b1ac5e9549", func := "loop.example/g00292/laws.FnExactLogsAgree", spec := "fnExactLogsAgree", unfollowed := true, recurses := true, named := ["loop.example/g00292/impl.roundWords"], plainKeys := false, apart := false, laid := [("loop.example/g00292/impl.roundWords", laid_loop_example_g00292_impl_roundWords)] }
def FnExactLogsAgreeSaid : Prop := fnExactLogsAgreeRow.holds Tryz.pinned (OpenSpec.ofChange fnExactLogsAgreeSpec)

/-- ITS FALSE NEIGHBOUR: 'it returns false'. Refute it at one input. -/
def fnExactLogsAgreeWrong : ChangeSpec := { name := "fnExactLogsAgree", vars := ["loop.example/g00292/impl.roundWords"], fn := fun _ => fun
  | [d, g1] => { results := [.lit (.bool false)], args := [d], vars := [g1] }
  | _ => none }
def FnExactLogsAgreeWrongFalsely : Prop := fnExactLogsAgreeRow.holds Tryz.pinned (OpenSpec.ofChange fnExactLogsAgreeWrong)

/-- 'laws.FnExactLongestLog': WHATEVER THE INPUT: true; the input reads as it did. -/
def fnExactLongestLogSpec : ChangeSpec := { name := "fnExactLongestLog", vars := ["loop.example/g00292/impl.roundWords"], fn := fun _ => fun
  | [d, g1] => { results := [.lit (.bool true)], args := [d], vars := [g1] }
  | _ => none }
def fnExactLongestLogRow : OpenClaim := { program := "yteifdelnahccjaagreatdoor", sum := "0be7d1973ef49565a6f62e85c3133f1cc8684d95e0b317ca67b303b1ac5e9549", func := "loop.example/g00292/laws.FnExactLongestLog", spec := "fnExactLongestLog", unfollowed := true, recurses := true, named := ["loop.example/g00292/impl.roundWords"], plainKeys := false, apart := false, laid := [("loop.example/g00292/impl.roundWords", laid_loop_example_g00292_impl_roundWords)] }
def FnExactLongestLogSaid : Prop := fnExactLongestLogRow.holds Tryz.pinned (OpenSpec.ofChange fnExactLongestLogSpec)

/-- ITS FALSE NEIGHBOUR: 'it returns false'. Refute it at one input. -/
def fnExactLongestLogWrong : ChangeSpec := { name := "fnExactLongestLog", vars := ["loop.example/g00292/impl.roundWords"], fn := fun _ => fun
  | [d, g1] => { results := [.lit (.bool false)], args := [d], vars := [g1] }
  | _ => none }
def FnExactLongestLogWrongFalsely : Prop := fnExactLongestLogRow.holds Tryz.pinned (OpenSpec.ofChange fnExactLongestLogWrong)

/-- 'laws.FnForged': WHATEVER THE INPUT: true; the input reads as it did. -/
def fnForgedSpec : ChangeSpec := { name := "fnForged", vars := ["loop.example/g00292/impl.roundWords"], fn := fun _ => fun
  | [d1, d2, g1] => { results := [.lit (.bool true)], args := [d1, d2], vars := [g1] }
  | _ => none }
def fnForgedRow : OpenClaim := { program := "yteifdelnahccjaagreatdoor", sum := "0be7d1973ef49565a6f62e85c3133f1cc8684d95e0b317ca67b303b1ac5e9549", func := "loop.example/g00292/laws.FnForged", spec := "fnForged", inPlace := ["slices.overlaps[loop.example/g00292/impl.Message]"], unfollowed := true, recurses := true, named := ["loop.example/g00292/impl.roundWords"], plainKeys := false, apart := false, laid := [("loop.example/g00292/impl.roundWords", laid_loop_example_g00292_impl_roundWords)] }
def FnForgedSaid : Prop := fnForgedRow.holds Tryz.pinned (OpenSpec.ofChange fnForgedSpec)

/-- ITS FALSE NEIGHBOUR: 'it returns false'. Refute it at one input. -/
def fnForgedWrong : ChangeSpec := { name := "fnForged", vars := ["loop.example/g00292/impl.roundWords"], fn := fun _ => fun
  | [d1, d2, g1] => { results := [.lit (.bool false)], args := [d1, d2], vars := [g1] }
  | _ => none }
def FnForgedWrongFalsely : Prop := fnForgedRow.holds Tryz.pinned (OpenSpec.ofChange fnForgedWrong)

/-- 'laws.FnReplica': WHATEVER THE INPUT: true; the input reads as it did. -/
def fnReplicaSpec : ChangeSpec := { name := "fnReplica", vars := ["loop.example/g00292/impl.roundWords"], fn := fun _ => fun
  | [d1, d2, g1] => { results := [.lit (.bool true)], args := [d1, d2], vars := [g1] }
  | _ => none }
def fnReplicaRow : OpenClaim := { program := "yteifdelnahccjaagreatdoor", sum := "0be7d1973ef49565a6f62e85c3133f1cc8684d95e0b317ca67b303b1ac5e9549", func := "loop.example/g00292/laws.FnReplica", spec := "fnReplica", inPlace := ["slices.overlaps[loop.example/g00292/impl.Message]"], unfollowed := true, recurses := true, named := ["loop.example/g00292/impl.roundWords"], plainKeys := false, apart := false, laid := [("loop.example/g00292/impl.roundWords", laid_loop_example_g00292_impl_roundWords)] }
def FnReplicaSaid : Prop := fnReplicaRow.holds Tryz.pinned (OpenSpec.ofChange fnReplicaSpec)

/-- ITS FALSE NEIGHBOUR: 'it returns false'. Refute it at one input. -/
def fnReplicaWrong : ChangeSpec := { name := "fnReplica", vars := ["loop.example/g00292/impl.roundWords"], fn := fun _ => fun
  | [d1, d2, g1] => { results := [.lit (.bool false)], args := [d1, d2], vars := [g1] }
  | _ => none }
def FnReplicaWrongFalsely : Prop := fnReplicaRow.holds Tryz.pinned (OpenSpec.ofChange fnReplicaWrong)

/-- 'laws.FnExactWorldOK': WHATEVER THE INPUT: true; the input reads as it did. -/
def fnExactWorldOKSpec : ChangeSpec := { name := "fnExactWorldOK", vars := ["loop.example/g00292/impl.roundWords"], fn := fun _ => fun
  | [d, g1] => { results := [.lit (.bool true)], args := [d], vars := [g1] }
  | _ => none }
def fnExactWorldOKRow : OpenClaim := { program := "yteifdelnahccjaagreatdoor", sum := "0be7d1973ef49565a6f62e85c3133f1cc8684d95e0b317ca67b303b1ac5e9549", func := "loop.example/g00292/laws.FnExactWorldOK", spec := "fnExactWorldOK", unfollowed := true, recurses := true, named := ["loop.example/g00292/impl.roundWords"], plainKeys := false, apart := false, laid := [("loop.example/g00292/impl.roundWords", laid_loop_example_g00292_impl_roundWords)] }
def FnExactWorldOKSaid : Prop := fnExactWorldOKRow.holds Tryz.pinned (OpenSpec.ofChange fnExactWorldOKSpec)

/-- ITS FALSE NEIGHBOUR: 'it returns false'. Refute it at one input. -/
def fnExactWorldOKWrong : ChangeSpec := { name := "fnExactWorldOK", vars := ["loop.example/g00292/impl.roundWords"], fn := fun _ => fun
  | [d, g1] => { results := [.lit (.bool false)], args := [d], vars := [g1] }
  | _ => none }
def FnExactWorldOKWrongFalsely : Prop := fnExactWorldOKRow.holds Tryz.pinned (OpenSpec.ofChange fnExactWorldOKWrong)

/- THE SECOND FORM. 'bulk': how many values and letters a reading holds, each counted each time it is reached (what is shared counts as often as it is met; a slice's spare places count too). A statement '..UptoSaid' is the law's where the arguments, and the package variables that the reading takes, are together of bulk at most 1048576: NARROWER than '..Said'. Prove '..Said' where nothing that the law and all that it calls make is longer than what came in: it says more and counts as full. Else prove '..UptoSaid'. A law counts once. -/
mutual
def uptoBulk {H : Type} : DataW H → Nat
  | .lit (.string bytes) => bytes.length + 1
  | .lit _ => 1
  | .nil => 1
  | .ptr d => uptoBulk d + 1
  | .slice elems spare => uptoBulkAll elems + uptoBulkAll spare + 1
  | .agg parts => uptoBulkAll parts + 1
  | .iface _ d => uptoBulk d + 1
  | .map entries => uptoBulkEntries entries + 1
  | .held _ => 1
def uptoBulkAll {H : Type} : List (DataW H) → Nat
  | [] => 0
  | d :: r => uptoBulk d + uptoBulkAll r
def uptoBulkEntries {H : Type} : List (Lit × DataW H) → Nat
  | [] => 0
  | x :: r => uptoBulkEntry x + uptoBulkEntries r
def uptoBulkEntry {H : Type} : Lit × DataW H → Nat
  | (.string bytes, d) => bytes.length + uptoBulk d + 1
  | (_, d) => uptoBulk d + 1
 end
def uptoSmall : (H : Type) → List (DataW H) → Bool := fun _ ds => decide (uptoBulkAll ds ≤ 1048576)
def OpenSpec.upto (s : _root_.Go.ChangeSpec) : _root_.Go.OpenSpec := { _root_.Go.OpenSpec.ofChange s with cond := some uptoSmall }

/-- 'laws.FnExactPlanOf', WHERE WHAT IT READS IS OF BULK AT MOST 1048576: true; the input reads as it did. -/
def fnExactPlanOfUptoRow : OpenClaim := { program := "yteifdelnahccjaagreatdoor", sum := "0be7d1973ef49565a6f62e85c3133f1cc8684d95e0b317ca67b303b1ac5e9549", func := "loop.example/g00292/laws.FnExactPlanOf", spec := "fnExactPlanOf", unfollowed := true, recurses := true, named := ["loop.example/g00292/impl.roundWords"], plainKeys := false, apart := false, laid := [("loop.example/g00292/impl.roundWords", laid_loop_example_g00292_impl_roundWords)], narrowed := true }
def FnExactPlanOfUptoSaid : Prop := fnExactPlanOfUptoRow.holds Tryz.pinned (OpenSpec.upto fnExactPlanOfSpec)

/-- 'laws.FnPlan', WHERE WHAT IT READS IS OF BULK AT MOST 1048576: true; the input reads as it did. -/
def fnPlanUptoRow : OpenClaim := { program := "yteifdelnahccjaagreatdoor", sum := "0be7d1973ef49565a6f62e85c3133f1cc8684d95e0b317ca67b303b1ac5e9549", func := "loop.example/g00292/laws.FnPlan", spec := "fnPlan", unfollowed := true, recurses := true, named := ["loop.example/g00292/impl.roundWords"], plainKeys := false, apart := false, laid := [("loop.example/g00292/impl.roundWords", laid_loop_example_g00292_impl_roundWords)], narrowed := true }
def FnPlanUptoSaid : Prop := fnPlanUptoRow.holds Tryz.pinned (OpenSpec.upto fnPlanSpec)

/-- 'laws.FnExactReplicaOK', WHERE WHAT IT READS IS OF BULK AT MOST 1048576: true; the input reads as it did. -/
def fnExactReplicaOKUptoRow : OpenClaim := { program := "yteifdelnahccjaagreatdoor", sum := "0be7d1973ef49565a6f62e85c3133f1cc8684d95e0b317ca67b303b1ac5e9549", func := "loop.example/g00292/laws.FnExactReplicaOK", spec := "fnExactReplicaOK", unfollowed := true, recurses := true, named := ["loop.example/g00292/impl.roundWords"], plainKeys := false, apart := false, laid := [("loop.example/g00292/impl.roundWords", laid_loop_example_g00292_impl_roundWords)], narrowed := true }
def FnExactReplicaOKUptoSaid : Prop := fnExactReplicaOKUptoRow.holds Tryz.pinned (OpenSpec.upto fnExactReplicaOKSpec)

/-- 'laws.FnExactGroupOK', WHERE WHAT IT READS IS OF BULK AT MOST 1048576: true; the input reads as it did. -/
def fnExactGroupOKUptoRow : OpenClaim := { program := "yteifdelnahccjaagreatdoor", sum := "0be7d1973ef49565a6f62e85c3133f1cc8684d95e0b317ca67b303b1ac5e9549", func := "loop.example/g00292/laws.FnExactGroupOK", spec := "fnExactGroupOK", unfollowed := true, recurses := true, named := ["loop.example/g00292/impl.roundWords"], plainKeys := false, apart := false, laid := [("loop.example/g00292/impl.roundWords", laid_loop_example_g00292_impl_roundWords)], narrowed := true }
def FnExactGroupOKUptoSaid : Prop := fnExactGroupOKUptoRow.holds Tryz.pinned (OpenSpec.upto fnExactGroupOKSpec)

/-- 'laws.FnExactCertsAgree', WHERE WHAT IT READS IS OF BULK AT MOST 1048576: true; the input reads as it did. -/
def fnExactCertsAgreeUptoRow : OpenClaim := { program := "yteifdelnahccjaagreatdoor", sum := "0be7d1973ef49565a6f62e85c3133f1cc8684d95e0b317ca67b303b1ac5e9549", func := "loop.example/g00292/laws.FnExactCertsAgree", spec := "fnExactCertsAgree", unfollowed := true, recurses := true, named := ["loop.example/g00292/impl.roundWords"], plainKeys := false, apart := false, laid := [("loop.example/g00292/impl.roundWords", laid_loop_example_g00292_impl_roundWords)], narrowed := true }
def FnExactCertsAgreeUptoSaid : Prop := fnExactCertsAgreeUptoRow.holds Tryz.pinned (OpenSpec.upto fnExactCertsAgreeSpec)

/-- 'laws.FnExactLogsAgree', WHERE WHAT IT READS IS OF BULK AT MOST 1048576: true; the input reads as it did. -/
def fnExactLogsAgreeUptoRow : OpenClaim := { program := "yteifdelnahccjaagreatdoor", sum := "0be7d1973ef49565a6f62e85c3133f1cc8684d95e0b317ca67b303b1ac5e9549", func := "loop.example/g00292/laws.FnExactLogsAgree", spec := "fnExactLogsAgree", unfollowed := true, recurses := true, named := ["loop.example/g00292/impl.roundWords"], plainKeys := false, apart := false, laid := [("loop.example/g00292/impl.roundWords", laid_loop_example_g00292_impl_roundWords)], narrowed := true }
def FnExactLogsAgreeUptoSaid : Prop := fnExactLogsAgreeUptoRow.holds Tryz.pinned (OpenSpec.upto fnExactLogsAgreeSpec)

/-- 'laws.FnExactLongestLog', WHERE WHAT IT READS IS OF BULK AT MOST 1048576: true; the input reads as it did. -/
def fnExactLongestLogUptoRow : OpenClaim := { program := "yteifdelnahccjaagreatdoor", sum := "0be7d1973ef49565a6f62e85c3133f1cc8684d95e0b317ca67b303b1ac5e9549", func := "loop.example/g00292/laws.FnExactLongestLog", spec := "fnExactLongestLog", unfollowed := true, recurses := true, named := ["loop.example/g00292/impl.roundWords"], plainKeys := false, apart := false, laid := [("loop.example/g00292/impl.roundWords", laid_loop_example_g00292_impl_roundWords)], narrowed := true }
def FnExactLongestLogUptoSaid : Prop := fnExactLongestLogUptoRow.holds Tryz.pinned (OpenSpec.upto fnExactLongestLogSpec)

/-- 'laws.FnForged', WHERE WHAT IT READS IS OF BULK AT MOST 1048576: true; the input reads as it did. -/
def fnForgedUptoRow : OpenClaim := { program := "yteifdelnahccjaagreatdoor", sum := "0be7d1973ef49565a6f62e85c3133f1cc8684d95e0b317ca67b303b1ac5e9549", func := "loop.example/g00292/laws.FnForged", spec := "fnForged", inPlace := ["slices.overlaps[loop.example/g00292/impl.Message]"], unfollowed := true, recurses := true, named := ["loop.example/g00292/impl.roundWords"], plainKeys := false, apart := false, laid := [("loop.example/g00292/impl.roundWords", laid_loop_example_g00292_impl_roundWords)], narrowed := true }
def FnForgedUptoSaid : Prop := fnForgedUptoRow.holds Tryz.pinned (OpenSpec.upto fnForgedSpec)

/-- 'laws.FnReplica', WHERE WHAT IT READS IS OF BULK AT MOST 1048576: true; the input reads as it did. -/
def fnReplicaUptoRow : OpenClaim := { program := "yteifdelnahccjaagreatdoor", sum := "0be7d1973ef49565a6f62e85c3133f1cc8684d95e0b317ca67b303b1ac5e9549", func := "loop.example/g00292/laws.FnReplica", spec := "fnReplica", inPlace := ["slices.overlaps[loop.example/g00292/impl.Message]"], unfollowed := true, recurses := true, named := ["loop.example/g00292/impl.roundWords"], plainKeys := false, apart := false, laid := [("loop.example/g00292/impl.roundWords", laid_loop_example_g00292_impl_roundWords)], narrowed := true }
def FnReplicaUptoSaid : Prop := fnReplicaUptoRow.holds Tryz.pinned (OpenSpec.upto fnReplicaSpec)

/-- 'laws.FnExactWorldOK', WHERE WHAT IT READS IS OF BULK AT MOST 1048576: true; the input reads as it did. -/
def fnExactWorldOKUptoRow : OpenClaim := { program := "yteifdelnahccjaagreatdoor", sum := "0be7d1973ef49565a6f62e85c3133f1cc8684d95e0b317ca67b303b1ac5e9549", func := "loop.example/g00292/laws.FnExactWorldOK", spec := "fnExactWorldOK", unfollowed := true, recurses := true, named := ["loop.example/g00292/impl.roundWords"], plainKeys := false, apart := false, laid := [("loop.example/g00292/impl.roundWords", laid_loop_example_g00292_impl_roundWords)], narrowed := true }
def FnExactWorldOKUptoSaid : Prop := fnExactWorldOKUptoRow.holds Tryz.pinned (OpenSpec.upto fnExactWorldOKSpec)

end Rows
end Go.Proofs.YteifdelnahccjaaGreatDoor
