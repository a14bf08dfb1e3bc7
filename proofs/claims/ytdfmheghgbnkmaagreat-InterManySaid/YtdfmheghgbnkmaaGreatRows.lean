/-
  No cell of these rows narrows 'for every input' (looked for: loops, veiled, ifaces, maps, wideKeys, modest, calm, conditions, laid).
  DERIVED. THE GIVEN ROWS OF THIS SEAT. 3 by the template 'for every input the law returns true; each argument reads behind the call as it read before'; 0 by the template 'total and deterministic' (their statements: YtdfmheghgbnkmaaGreatTotals.lean).
  GIVEN WITH THE SEED: the statements are not yours to turn. If you find one false, say at which input.
  Laid BY PROGRAM, IN A SANDBOX (cutbox-rows.mjs): the forced cells as the released guide's own fill.sh prints them over the translation 8365e446c2c4a956… (all of the seat's roots in one cut). By AI agents, Wed Nov 11 2026. No macro, syntax, notation, axiom, sorry.
-/
import Derived.Test.YtdfmheghgbnkmaaGreatChecked
import GoSem.Claim
import GoSem.ClaimJoined
import GoSem.ClaimMapViews
import Derived.JoinedTies
import Derived.KernelRfl
namespace Go.Proofs.YtdfmheghgbnkmaaGreat
/- THE CELL 'sum', in the pinned program and in every row, IS THE sha256 OF THE DUMP (.gsa) THAT YtdfmheghgbnkmaaGreatProg.lean LOADS. Nothing in Lean hashes anything: it is a label: what it is worth is what the hold of that sum in a sandbox is worth. -/
noncomputable def Tryz.pinned : Pinned := { name := "ytdfmheghgbnkmaagreat", sum := "8365e446c2c4a9569d89972c75a6fe757b63fbbe261ecd5b1355a070522ef530", checked := Tryz.checked }
namespace Rows
def none {H : Type} : Left H := { results := [], args := [] }

/-- 'pigeonholelaw18.InterMany': WHATEVER THE INPUT: true; the input reads as it did. -/
def interManySpec : ChangeSpec := { name := "interMany", fn := fun _ => fun
  | [d] => { results := [.lit (.bool true)], args := [d] }
  | _ => none }
def interManyRow : OpenClaim := { program := "ytdfmheghgbnkmaagreat", sum := "8365e446c2c4a9569d89972c75a6fe757b63fbbe261ecd5b1355a070522ef530", func := "pigeonhole/pigeonholelaw18.InterMany", spec := "interMany", unfollowed := true, recurses := true, plainKeys := false, apart := false }
def InterManySaid : Prop := interManyRow.holds Tryz.pinned (OpenSpec.ofChange interManySpec)

/-- ITS FALSE NEIGHBOUR: 'it returns false'. Refute it at one input. -/
def interManyWrong : ChangeSpec := { name := "interMany", fn := fun _ => fun
  | [d] => { results := [.lit (.bool false)], args := [d] }
  | _ => none }
def InterManyWrongFalsely : Prop := interManyRow.holds Tryz.pinned (OpenSpec.ofChange interManyWrong)

/-- 'pigeonholelaw18.InterCopies': WHATEVER THE INPUT: true; the input reads as it did. -/
def interCopiesSpec : ChangeSpec := { name := "interCopies", fn := fun _ => fun
  | [d1, d2] => { results := [.lit (.bool true)], args := [d1, d2] }
  | _ => none }
def interCopiesRow : OpenClaim := { program := "ytdfmheghgbnkmaagreat", sum := "8365e446c2c4a9569d89972c75a6fe757b63fbbe261ecd5b1355a070522ef530", func := "pigeonhole/pigeonholelaw18.InterCopies", spec := "interCopies", unfollowed := true, recurses := true, plainKeys := false, apart := false }
def InterCopiesSaid : Prop := interCopiesRow.holds Tryz.pinned (OpenSpec.ofChange interCopiesSpec)

/-- ITS FALSE NEIGHBOUR: 'it returns false'. Refute it at one input. -/
def interCopiesWrong : ChangeSpec := { name := "interCopies", fn := fun _ => fun
  | [d1, d2] => { results := [.lit (.bool false)], args := [d1, d2] }
  | _ => none }
def InterCopiesWrongFalsely : Prop := interCopiesRow.holds Tryz.pinned (OpenSpec.ofChange interCopiesWrong)

/-- 'pigeonholelaw18.InterCalls': WHATEVER THE INPUT: true; the input reads as it did. -/
def interCallsSpec : ChangeSpec := { name := "interCalls", fn := fun _ => fun
  | [d1, d2] => { results := [.lit (.bool true)], args := [d1, d2] }
  | _ => none }
def interCallsRow : OpenClaim := { program := "ytdfmheghgbnkmaagreat", sum := "8365e446c2c4a9569d89972c75a6fe757b63fbbe261ecd5b1355a070522ef530", func := "pigeonhole/pigeonholelaw18.InterCalls", spec := "interCalls", unfollowed := true, recurses := true, plainKeys := false, apart := false }
def InterCallsSaid : Prop := interCallsRow.holds Tryz.pinned (OpenSpec.ofChange interCallsSpec)

/-- ITS FALSE NEIGHBOUR: 'it returns false'. Refute it at one input. -/
def interCallsWrong : ChangeSpec := { name := "interCalls", fn := fun _ => fun
  | [d1, d2] => { results := [.lit (.bool false)], args := [d1, d2] }
  | _ => none }
def InterCallsWrongFalsely : Prop := interCallsRow.holds Tryz.pinned (OpenSpec.ofChange interCallsWrong)

/- THE SECOND FORM. 'bulk': how many values and letters a reading holds, each counted each time it is reached (what is shared counts as often as it is met; a slice's spare places count too). A statement '..UptoSaid' is the law's where the arguments, and the package variables that the reading takes, are together of bulk at most 1048576: NARROWER than '..Said'. Prove '..Said' where nothing that the law and all that it calls make is longer than what came in: it says more and counts as full. Else prove '..UptoSaid'. A law counts once. -/
mutual
def uptoBulk {H : Type} : DataW H → Nat
  | .lit (.string bytes) => bytes.length + 1
  | .lit _ => 1
  | .nil => 1
  | .ptr d => uptoBulk d + 1
  | .slice elems spare => uptoBulkAll elems + uptoBulkAll spare + 1
  | .agg parts => uptoBulkAll parts + 1
  | .iface _ d => uptoBulk d + 1
  | .map entries => uptoBulkEntries entries + 1
  | .held _ => 1
def uptoBulkAll {H : Type} : List (DataW H) → Nat
  | [] => 0
  | d :: r => uptoBulk d + uptoBulkAll r
def uptoBulkEntries {H : Type} : List (Lit × DataW H) → Nat
  | [] => 0
  | x :: r => uptoBulkEntry x + uptoBulkEntries r
def uptoBulkEntry {H : Type} : Lit × DataW H → Nat
  | (.string bytes, d) => bytes.length + uptoBulk d + 1
  | (_, d) => uptoBulk d + 1
 end
def uptoSmall : (H : Type) → List (DataW H) → Bool := fun _ ds => decide (uptoBulkAll ds ≤ 1048576)
def OpenSpec.upto (s : _root_.Go.ChangeSpec) : _root_.Go.OpenSpec := { _root_.Go.OpenSpec.ofChange s with cond := some uptoSmall }

/-- 'pigeonholelaw18.InterMany', WHERE WHAT IT READS IS OF BULK AT MOST 1048576: true; the input reads as it did. -/
def interManyUptoRow : OpenClaim := { program := "ytdfmheghgbnkmaagreat", sum := "8365e446c2c4a9569d89972c75a6fe757b63fbbe261ecd5b1355a070522ef530", func := "pigeonhole/pigeonholelaw18.InterMany", spec := "interMany", unfollowed := true, recurses := true, plainKeys := false, apart := false, narrowed := true }
def InterManyUptoSaid : Prop := interManyUptoRow.holds Tryz.pinned (OpenSpec.upto interManySpec)

/-- 'pigeonholelaw18.InterCopies', WHERE WHAT IT READS IS OF BULK AT MOST 1048576: true; the input reads as it did. -/
def interCopiesUptoRow : OpenClaim := { program := "ytdfmheghgbnkmaagreat", sum := "8365e446c2c4a9569d89972c75a6fe757b63fbbe261ecd5b1355a070522ef530", func := "pigeonhole/pigeonholelaw18.InterCopies", spec := "interCopies", unfollowed := true, recurses := true, plainKeys := false, apart := false, narrowed := true }
def InterCopiesUptoSaid : Prop := interCopiesUptoRow.holds Tryz.pinned (OpenSpec.upto interCopiesSpec)

/-- 'pigeonholelaw18.InterCalls', WHERE WHAT IT READS IS OF BULK AT MOST 1048576: true; the input reads as it did. -/
def interCallsUptoRow : OpenClaim := { program := "ytdfmheghgbnkmaagreat", sum := "8365e446c2c4a9569d89972c75a6fe757b63fbbe261ecd5b1355a070522ef530", func := "pigeonhole/pigeonholelaw18.InterCalls", spec := "interCalls", unfollowed := true, recurses := true, plainKeys := false, apart := false, narrowed := true }
def InterCallsUptoSaid : Prop := interCallsUptoRow.holds Tryz.pinned (OpenSpec.upto interCallsSpec)

end Rows
end Go.Proofs.YtdfmheghgbnkmaaGreat
