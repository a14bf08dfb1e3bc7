/-
  NARROWER THAN 'FOR EVERY INPUT', by the rows' own cells (each row's printed sentence says how): InterNear: loops · InterTells: loops.
  DERIVED. THE GIVEN ROWS OF THIS SEAT. 3 by the template 'for every input the law returns true; each argument reads behind the call as it read before'; 0 by the template 'total and deterministic' (their statements: YtcmohelnoldfbaaGreatTotals.lean).
  GIVEN WITH THE SEED: the statements are not yours to turn. If you find one false, say at which input.
  Laid BY PROGRAM, IN A SANDBOX (cutbox-rows.mjs): the forced cells as the released guide's own fill.sh prints them over the translation 5ce6d4a7addd14d1… (all of the seat's roots in one cut). By AI agents, Wed Nov 11 2026. No macro, syntax, notation, axiom, sorry.
-/
import Derived.Test.YtcmohelnoldfbaaGreatChecked
import GoSem.Claim
import GoSem.ClaimJoined
import GoSem.ClaimMapViews
import Derived.JoinedTies
import Derived.KernelRfl
namespace Go.Proofs.YtcmohelnoldfbaaGreat
/- THE CELL 'sum', in the pinned program and in every row, IS THE sha256 OF THE DUMP (.gsa) THAT YtcmohelnoldfbaaGreatProg.lean LOADS. Nothing in Lean hashes anything: it is a label: what it is worth is what the hold of that sum in a sandbox is worth. -/
noncomputable def Tryz.pinned : Pinned := { name := "ytcmohelnoldfbaagreat", sum := "5ce6d4a7addd14d1df1e9ee456dc3f1f0aa1ed526a5675b4b8bc17e801fd5d41", checked := Tryz.checked }
namespace Rows
def none {H : Type} : Left H := { results := [], args := [] }

/-- 'pigeonholelaw18.InterNear': WHATEVER THE INPUT: true; the input reads as it did. -/
def interNearSpec : ChangeSpec := { name := "interNear", fn := fun _ => fun
  | [d1, d2, d3] => { results := [.lit (.bool true)], args := [d1, d2, d3] }
  | _ => none }
def interNearRow : OpenClaim := { program := "ytcmohelnoldfbaagreat", sum := "5ce6d4a7addd14d1df1e9ee456dc3f1f0aa1ed526a5675b4b8bc17e801fd5d41", func := "pigeonhole/pigeonholelaw18.InterNear", spec := "interNear", unfollowed := true, recurses := true, loops := true, plainKeys := false, apart := false }
def InterNearSaid : Prop := interNearRow.holds Tryz.pinned (OpenSpec.ofChange interNearSpec)

/-- ITS FALSE NEIGHBOUR: 'it returns false'. Refute it at one input. -/
def interNearWrong : ChangeSpec := { name := "interNear", fn := fun _ => fun
  | [d1, d2, d3] => { results := [.lit (.bool false)], args := [d1, d2, d3] }
  | _ => none }
def InterNearWrongFalsely : Prop := interNearRow.holds Tryz.pinned (OpenSpec.ofChange interNearWrong)

/-- 'pigeonholelaw18.InterCalls': WHATEVER THE INPUT: true; the input reads as it did. -/
def interCallsSpec : ChangeSpec := { name := "interCalls", fn := fun _ => fun
  | [d1, d2] => { results := [.lit (.bool true)], args := [d1, d2] }
  | _ => none }
def interCallsRow : OpenClaim := { program := "ytcmohelnoldfbaagreat", sum := "5ce6d4a7addd14d1df1e9ee456dc3f1f0aa1ed526a5675b4b8bc17e801fd5d41", func := "pigeonhole/pigeonholelaw18.InterCalls", spec := "interCalls", unfollowed := true, recurses := true, plainKeys := false, apart := false }
def InterCallsSaid : Prop := interCallsRow.holds Tryz.pinned (OpenSpec.ofChange interCallsSpec)

/-- ITS FALSE NEIGHBOUR: 'it returns false'. Refute it at one input. -/
def interCallsWrong : ChangeSpec := { name := "interCalls", fn := fun _ => fun
  | [d1, d2] => { results := [.lit (.bool false)], args := [d1, d2] }
  | _ => none }
def InterCallsWrongFalsely : Prop := interCallsRow.holds Tryz.pinned (OpenSpec.ofChange interCallsWrong)

/-- 'pigeonholelaw18.InterTells': WHATEVER THE INPUT: true; the input reads as it did. -/
def interTellsSpec : ChangeSpec := { name := "interTells", fn := fun _ => fun
  | [d1, d2] => { results := [.lit (.bool true)], args := [d1, d2] }
  | _ => none }
def interTellsRow : OpenClaim := { program := "ytcmohelnoldfbaagreat", sum := "5ce6d4a7addd14d1df1e9ee456dc3f1f0aa1ed526a5675b4b8bc17e801fd5d41", func := "pigeonhole/pigeonholelaw18.InterTells", spec := "interTells", unfollowed := true, recurses := true, loops := true, plainKeys := false, apart := false }
def InterTellsSaid : Prop := interTellsRow.holds Tryz.pinned (OpenSpec.ofChange interTellsSpec)

/-- ITS FALSE NEIGHBOUR: 'it returns false'. Refute it at one input. -/
def interTellsWrong : ChangeSpec := { name := "interTells", fn := fun _ => fun
  | [d1, d2] => { results := [.lit (.bool false)], args := [d1, d2] }
  | _ => none }
def InterTellsWrongFalsely : Prop := interTellsRow.holds Tryz.pinned (OpenSpec.ofChange interTellsWrong)

/- THE SECOND FORM. 'bulk': how many values and letters a reading holds, each counted each time it is reached (what is shared counts as often as it is met; a slice's spare places count too). A statement '..UptoSaid' is the law's where the arguments, and the package variables that the reading takes, are together of bulk at most 1048576: NARROWER than '..Said'. Prove '..Said' where nothing that the law and all that it calls make is longer than what came in: it says more and counts as full. Else prove '..UptoSaid'. A law counts once. -/
mutual
def uptoBulk {H : Type} : DataW H → Nat
  | .lit (.string bytes) => bytes.length + 1
  | .lit _ => 1
  | .nil => 1
  | .ptr d => uptoBulk d + 1
  | .slice elems spare => uptoBulkAll elems + uptoBulkAll spare + 1
  | .agg parts => uptoBulkAll parts + 1
  | .iface _ d => uptoBulk d + 1
  | .map entries => uptoBulkEntries entries + 1
  | .held _ => 1
def uptoBulkAll {H : Type} : List (DataW H) → Nat
  | [] => 0
  | d :: r => uptoBulk d + uptoBulkAll r
def uptoBulkEntries {H : Type} : List (Lit × DataW H) → Nat
  | [] => 0
  | x :: r => uptoBulkEntry x + uptoBulkEntries r
def uptoBulkEntry {H : Type} : Lit × DataW H → Nat
  | (.string bytes, d) => bytes.length + uptoBulk d + 1
  | (_, d) => uptoBulk d + 1
 end
def uptoSmall : (H : Type) → List (DataW H) → Bool := fun _ ds => decide (uptoBulkAll ds ≤ 1048576)
def OpenSpec.upto (s : _root_.Go.ChangeSpec) : _root_.Go.OpenSpec := { _root_.Go.OpenSpec.ofChange s with cond := some uptoSmall }

/-- 'pigeonholelaw18.InterNear', WHERE WHAT IT READS IS OF BULK AT MOST 1048576: true; the input reads as it did. -/
def interNearUptoRow : OpenClaim := { program := "ytcmohelnoldfbaagreat", sum := "5ce6d4a7addd14d1df1e9ee456dc3f1f0aa1ed526a5675b4b8bc17e801fd5d41", func := "pigeonhole/pigeonholelaw18.InterNear", spec := "interNear", unfollowed := true, recurses := true, loops := true, plainKeys := false, apart := false, narrowed := true }
def InterNearUptoSaid : Prop := interNearUptoRow.holds Tryz.pinned (OpenSpec.upto interNearSpec)

/-- 'pigeonholelaw18.InterCalls', WHERE WHAT IT READS IS OF BULK AT MOST 1048576: true; the input reads as it did. -/
def interCallsUptoRow : OpenClaim := { program := "ytcmohelnoldfbaagreat", sum := "5ce6d4a7addd14d1df1e9ee456dc3f1f0aa1ed526a5675b4b8bc17e801fd5d41", func := "pigeonhole/pigeonholelaw18.InterCalls", spec := "interCalls", unfollowed := true, recurses := true, plainKeys := false, apart := false, narrowed := true }
def InterCallsUptoSaid : Prop := interCallsUptoRow.holds Tryz.pinned (OpenSpec.upto interCallsSpec)

/-- 'pigeonholelaw18.InterTells', WHERE WHAT IT READS IS OF BULK AT MOST 1048576: true; the input reads as it did. -/
def interTellsUptoRow : OpenClaim := { program := "ytcmohelnoldfbaagreat", sum := "5ce6d4a7addd14d1df1e9ee456dc3f1f0aa1ed526a5675b4b8bc17e801fd5d41", func := "pigeonhole/pigeonholelaw18.InterTells", spec := "interTells", unfollowed := true, recurses := true, loops := true, plainKeys := false, apart := false, narrowed := true }
def InterTellsUptoSaid : Prop := interTellsUptoRow.holds Tryz.pinned (OpenSpec.upto interTellsSpec)

end Rows
end Go.Proofs.YtcmohelnoldfbaaGreat
