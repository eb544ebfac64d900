/-
  No cell of these rows narrows 'for every input' (looked for: loops, veiled, ifaces, maps, wideKeys, modest, calm, conditions, laid).
  DERIVED. THE GIVEN ROWS OF THIS SEAT. 3 by the template 'for every input the law returns true; each argument reads behind the call as it read before'; 0 by the template 'total and deterministic' (their statements: YtmpkhfnegnlpmaaGreatTotals.lean).
  GIVEN WITH THE SEED: the statements are not yours to turn. If you find one false, say at which input.
  Laid BY PROGRAM, IN A SANDBOX (cutbox-rows.mjs): the forced cells as the released guide's own fill.sh prints them over the translation 3602156bb79da181… (all of the seat's roots in one cut). By AI agents, Wed Nov 11 2026. No macro, syntax, notation, axiom, sorry.
-/
import Derived.Test.YtmpkhfnegnlpmaaGreatChecked
import GoSem.Claim
import GoSem.ClaimJoined
import GoSem.ClaimMapViews
import Derived.JoinedTies
import Derived.KernelRfl
namespace Go.Proofs.YtmpkhfnegnlpmaaGreat
/- THE CELL 'sum', in the pinned program and in every row, IS THE sha256 OF THE DUMP (.gsa) THAT YtmpkhfnegnlpmaaGreatProg.lean LOADS. Nothing in Lean hashes anything: it is a label: what it is worth is what the hold of that sum in a sandbox is worth. -/
noncomputable def Tryz.pinned : Pinned := { name := "ytmpkhfnegnlpmaagreat", sum := "3602156bb79da181cd05403f3640dffdc3889daeeab6e7b05e7247a1edfad653", checked := Tryz.checked }
namespace Rows
def none {H : Type} : Left H := { results := [], args := [] }

/-- 'zelligelaw42.EnergyMoments': WHATEVER THE INPUT: true; the input reads as it did. -/
def energyMomentsSpec : ChangeSpec := { name := "energyMoments", fn := fun _ => fun
  | [d1, d2] => { results := [.lit (.bool true)], args := [d1, d2] }
  | _ => none }
def energyMomentsRow : OpenClaim := { program := "ytmpkhfnegnlpmaagreat", sum := "3602156bb79da181cd05403f3640dffdc3889daeeab6e7b05e7247a1edfad653", func := "zellige/zelligelaw42.EnergyMoments", spec := "energyMoments", inPlace := ["math/bits.Sub64", "math/bits.Add64"], unfollowed := true, recurses := true, plainKeys := false, apart := false }
def EnergyMomentsSaid : Prop := energyMomentsRow.holds Tryz.pinned (OpenSpec.ofChange energyMomentsSpec)

/-- ITS FALSE NEIGHBOUR: 'it returns false'. Refute it at one input. -/
def energyMomentsWrong : ChangeSpec := { name := "energyMoments", fn := fun _ => fun
  | [d1, d2] => { results := [.lit (.bool false)], args := [d1, d2] }
  | _ => none }
def EnergyMomentsWrongFalsely : Prop := energyMomentsRow.holds Tryz.pinned (OpenSpec.ofChange energyMomentsWrong)

/-- 'zelligelaw42.EnergyLeast': WHATEVER THE INPUT: true; the input reads as it did. -/
def energyLeastSpec : ChangeSpec := { name := "energyLeast", fn := fun _ => fun
  | [d1, d2] => { results := [.lit (.bool true)], args := [d1, d2] }
  | _ => none }
def energyLeastRow : OpenClaim := { program := "ytmpkhfnegnlpmaagreat", sum := "3602156bb79da181cd05403f3640dffdc3889daeeab6e7b05e7247a1edfad653", func := "zellige/zelligelaw42.EnergyLeast", spec := "energyLeast", inPlace := ["math/bits.Sub64", "math/bits.Add64"], unfollowed := true, recurses := true, plainKeys := false, apart := false }
def EnergyLeastSaid : Prop := energyLeastRow.holds Tryz.pinned (OpenSpec.ofChange energyLeastSpec)

/-- ITS FALSE NEIGHBOUR: 'it returns false'. Refute it at one input. -/
def energyLeastWrong : ChangeSpec := { name := "energyLeast", fn := fun _ => fun
  | [d1, d2] => { results := [.lit (.bool false)], args := [d1, d2] }
  | _ => none }
def EnergyLeastWrongFalsely : Prop := energyLeastRow.holds Tryz.pinned (OpenSpec.ofChange energyLeastWrong)

/-- 'zelligelaw42.EnergyAbout': WHATEVER THE INPUT: true; the input reads as it did. -/
def energyAboutSpec : ChangeSpec := { name := "energyAbout", fn := fun _ => fun
  | [d1, d2] => { results := [.lit (.bool true)], args := [d1, d2] }
  | _ => none }
def energyAboutRow : OpenClaim := { program := "ytmpkhfnegnlpmaagreat", sum := "3602156bb79da181cd05403f3640dffdc3889daeeab6e7b05e7247a1edfad653", func := "zellige/zelligelaw42.EnergyAbout", spec := "energyAbout", inPlace := ["math/bits.Sub64", "math/bits.Add64"], unfollowed := true, recurses := true, plainKeys := false, apart := false }
def EnergyAboutSaid : Prop := energyAboutRow.holds Tryz.pinned (OpenSpec.ofChange energyAboutSpec)

/-- ITS FALSE NEIGHBOUR: 'it returns false'. Refute it at one input. -/
def energyAboutWrong : ChangeSpec := { name := "energyAbout", fn := fun _ => fun
  | [d1, d2] => { results := [.lit (.bool false)], args := [d1, d2] }
  | _ => none }
def EnergyAboutWrongFalsely : Prop := energyAboutRow.holds Tryz.pinned (OpenSpec.ofChange energyAboutWrong)

/- THE SECOND FORM. 'bulk': how many values and letters a reading holds, each counted each time it is reached (what is shared counts as often as it is met; a slice's spare places count too). A statement '..UptoSaid' is the law's where the arguments, and the package variables that the reading takes, are together of bulk at most 1048576: NARROWER than '..Said'. Prove '..Said' where nothing that the law and all that it calls make is longer than what came in: it says more and counts as full. Else prove '..UptoSaid'. A law counts once. -/
mutual
def uptoBulk {H : Type} : DataW H → Nat
  | .lit (.string bytes) => bytes.length + 1
  | .lit _ => 1
  | .nil => 1
  | .ptr d => uptoBulk d + 1
  | .slice elems spare => uptoBulkAll elems + uptoBulkAll spare + 1
  | .agg parts => uptoBulkAll parts + 1
  | .iface _ d => uptoBulk d + 1
  | .map entries => uptoBulkEntries entries + 1
  | .held _ => 1
def uptoBulkAll {H : Type} : List (DataW H) → Nat
  | [] => 0
  | d :: r => uptoBulk d + uptoBulkAll r
def uptoBulkEntries {H : Type} : List (Lit × DataW H) → Nat
  | [] => 0
  | x :: r => uptoBulkEntry x + uptoBulkEntries r
def uptoBulkEntry {H : Type} : Lit × DataW H → Nat
  | (.string bytes, d) => bytes.length + uptoBulk d + 1
  | (_, d) => uptoBulk d + 1
 end
def uptoSmall : (H : Type) → List (DataW H) → Bool := fun _ ds => decide (uptoBulkAll ds ≤ 1048576)
def OpenSpec.upto (s : _root_.Go.ChangeSpec) : _root_.Go.OpenSpec := { _root_.Go.OpenSpec.ofChange s with cond := some uptoSmall }

/-- 'zelligelaw42.EnergyMoments', WHERE WHAT IT READS IS OF BULK AT MOST 1048576: true; the input reads as it did. -/
def energyMomentsUptoRow : OpenClaim := { program := "ytmpkhfnegnlpmaagreat", sum := "3602156bb79da181cd05403f3640dffdc3889daeeab6e7b05e7247a1edfad653", func := "zellige/zelligelaw42.EnergyMoments", spec := "energyMoments", inPlace := ["math/bits.Sub64", "math/bits.Add64"], unfollowed := true, recurses := true, plainKeys := false, apart := false, narrowed := true }
def EnergyMomentsUptoSaid : Prop := energyMomentsUptoRow.holds Tryz.pinned (OpenSpec.upto energyMomentsSpec)

/-- 'zelligelaw42.EnergyLeast', WHERE WHAT IT READS IS OF BULK AT MOST 1048576: true; the input reads as it did. -/
def energyLeastUptoRow : OpenClaim := { program := "ytmpkhfnegnlpmaagreat", sum := "3602156bb79da181cd05403f3640dffdc3889daeeab6e7b05e7247a1edfad653", func := "zellige/zelligelaw42.EnergyLeast", spec := "energyLeast", inPlace := ["math/bits.Sub64", "math/bits.Add64"], unfollowed := true, recurses := true, plainKeys := false, apart := false, narrowed := true }
def EnergyLeastUptoSaid : Prop := energyLeastUptoRow.holds Tryz.pinned (OpenSpec.upto energyLeastSpec)

/-- 'zelligelaw42.EnergyAbout', WHERE WHAT IT READS IS OF BULK AT MOST 1048576: true; the input reads as it did. -/
def energyAboutUptoRow : OpenClaim := { program := "ytmpkhfnegnlpmaagreat", sum := "3602156bb79da181cd05403f3640dffdc3889daeeab6e7b05e7247a1edfad653", func := "zellige/zelligelaw42.EnergyAbout", spec := "energyAbout", inPlace := ["math/bits.Sub64", "math/bits.Add64"], unfollowed := true, recurses := true, plainKeys := false, apart := false, narrowed := true }
def EnergyAboutUptoSaid : Prop := energyAboutUptoRow.holds Tryz.pinned (OpenSpec.upto energyAboutSpec)

end Rows
end Go.Proofs.YtmpkhfnegnlpmaaGreat
