/-
  No cell of these rows narrows 'for every input' (looked for: loops, veiled, ifaces, maps, wideKeys, modest, calm, conditions, laid).
  DERIVED. THE GIVEN ROWS OF THIS SEAT. 11 by the template 'for every input the law returns true; each argument reads behind the call as it read before'; 0 by the template 'total and deterministic' (their statements: YtphnnmecmiodhaaGreatTotals.lean).
  GIVEN WITH THE SEED: the statements are not yours to turn. If you find one false, say at which input.
  Laid BY PROGRAM, IN A SANDBOX (cutbox-rows.mjs): the forced cells as the released guide's own fill.sh prints them over the translation 205ede7802427613… (all of the seat's roots in one cut). By AI agents, Wed Nov 11 2026. No macro, syntax, notation, axiom, sorry.
-/
import Derived.Test.YtphnnmecmiodhaaGreatChecked
import GoSem.Claim
import GoSem.ClaimJoined
import GoSem.ClaimMapViews
import Derived.JoinedTies
import Derived.KernelRfl
namespace Go.Proofs.YtphnnmecmiodhaaGreat
/- THE CELL 'sum', in the pinned program and in every row, IS THE sha256 OF THE DUMP (.gsa) THAT YtphnnmecmiodhaaGreatProg.lean LOADS. Nothing in Lean hashes anything: it is a label: what it is worth is what the hold of that sum in a sandbox is worth. -/
noncomputable def Tryz.pinned : Pinned := { name := "ytphnnmecmiodhaagreat", sum := "205ede78024276131953846bd1c779295f1531a45f74dfa306b022dd10aea77e", checked := Tryz.checked }
namespace Rows
def none {H : Type} : Left H := { results := [], args := [] }

/-- 'gnomonlaw11.SoundKnown': WHATEVER THE INPUT: true; the input reads as it did. -/
def soundKnownSpec : ChangeSpec := { name := "soundKnown", fn := fun _ => fun
  | [] => { results := [.lit (.bool true)], args := [] }
  | _ => none }
def soundKnownRow : OpenClaim := { program := "ytphnnmecmiodhaagreat", sum := "205ede78024276131953846bd1c779295f1531a45f74dfa306b022dd10aea77e", func := "gnomon/gnomonlaw11.SoundKnown", spec := "soundKnown", unfollowed := true, recurses := true, plainKeys := false, apart := false }
def SoundKnownSaid : Prop := soundKnownRow.holds Tryz.pinned (OpenSpec.ofChange soundKnownSpec)

/-- ITS FALSE NEIGHBOUR: 'it returns false'. Refute it at one input. -/
def soundKnownWrong : ChangeSpec := { name := "soundKnown", fn := fun _ => fun
  | [] => { results := [.lit (.bool false)], args := [] }
  | _ => none }
def SoundKnownWrongFalsely : Prop := soundKnownRow.holds Tryz.pinned (OpenSpec.ofChange soundKnownWrong)

/-- 'gnomonlaw12.SitesApart': WHATEVER THE INPUT: true; the input reads as it did. -/
def sitesApartSpec : ChangeSpec := { name := "sitesApart", fn := fun _ => fun
  | [d] => { results := [.lit (.bool true)], args := [d] }
  | _ => none }
def sitesApartRow : OpenClaim := { program := "ytphnnmecmiodhaagreat", sum := "205ede78024276131953846bd1c779295f1531a45f74dfa306b022dd10aea77e", func := "gnomon/gnomonlaw12.SitesApart", spec := "sitesApart", unfollowed := true, recurses := true, plainKeys := false, apart := false }
def SitesApartSaid : Prop := sitesApartRow.holds Tryz.pinned (OpenSpec.ofChange sitesApartSpec)

/-- ITS FALSE NEIGHBOUR: 'it returns false'. Refute it at one input. -/
def sitesApartWrong : ChangeSpec := { name := "sitesApart", fn := fun _ => fun
  | [d] => { results := [.lit (.bool false)], args := [d] }
  | _ => none }
def SitesApartWrongFalsely : Prop := sitesApartRow.holds Tryz.pinned (OpenSpec.ofChange sitesApartWrong)

/-- 'gnomonlaw14.StepDefined': WHATEVER THE INPUT: true; the input reads as it did. -/
def stepDefinedSpec : ChangeSpec := { name := "stepDefined", fn := fun _ => fun
  | [d1, d2] => { results := [.lit (.bool true)], args := [d1, d2] }
  | _ => none }
def stepDefinedRow : OpenClaim := { program := "ytphnnmecmiodhaagreat", sum := "205ede78024276131953846bd1c779295f1531a45f74dfa306b022dd10aea77e", func := "gnomon/gnomonlaw14.StepDefined", spec := "stepDefined", unfollowed := true, recurses := true, plainKeys := false, apart := false }
def StepDefinedSaid : Prop := stepDefinedRow.holds Tryz.pinned (OpenSpec.ofChange stepDefinedSpec)

/-- ITS FALSE NEIGHBOUR: 'it returns false'. Refute it at one input. -/
def stepDefinedWrong : ChangeSpec := { name := "stepDefined", fn := fun _ => fun
  | [d1, d2] => { results := [.lit (.bool false)], args := [d1, d2] }
  | _ => none }
def StepDefinedWrongFalsely : Prop := stepDefinedRow.holds Tryz.pinned (OpenSpec.ofChange stepDefinedWrong)

/-- 'gnomonlaw14.StepDeep': WHATEVER THE INPUT: true; the input reads as it did. -/
def stepDeepSpec : ChangeSpec := { name := "stepDeep", fn := fun _ => fun
  | [d1, d2] => { results := [.lit (.bool true)], args := [d1, d2] }
  | _ => none }
def stepDeepRow : OpenClaim := { program := "ytphnnmecmiodhaagreat", sum := "205ede78024276131953846bd1c779295f1531a45f74dfa306b022dd10aea77e", func := "gnomon/gnomonlaw14.StepDeep", spec := "stepDeep", unfollowed := true, recurses := true, plainKeys := false, apart := false }
def StepDeepSaid : Prop := stepDeepRow.holds Tryz.pinned (OpenSpec.ofChange stepDeepSpec)

/-- ITS FALSE NEIGHBOUR: 'it returns false'. Refute it at one input. -/
def stepDeepWrong : ChangeSpec := { name := "stepDeep", fn := fun _ => fun
  | [d1, d2] => { results := [.lit (.bool false)], args := [d1, d2] }
  | _ => none }
def StepDeepWrongFalsely : Prop := stepDeepRow.holds Tryz.pinned (OpenSpec.ofChange stepDeepWrong)

/-- 'gnomonlaw14.StepNil': WHATEVER THE INPUT: true; the input reads as it did. -/
def stepNilSpec : ChangeSpec := { name := "stepNil", fn := fun _ => fun
  | [d1, d2] => { results := [.lit (.bool true)], args := [d1, d2] }
  | _ => none }
def stepNilRow : OpenClaim := { program := "ytphnnmecmiodhaagreat", sum := "205ede78024276131953846bd1c779295f1531a45f74dfa306b022dd10aea77e", func := "gnomon/gnomonlaw14.StepNil", spec := "stepNil", unfollowed := true, recurses := true, plainKeys := false, apart := false }
def StepNilSaid : Prop := stepNilRow.holds Tryz.pinned (OpenSpec.ofChange stepNilSpec)

/-- ITS FALSE NEIGHBOUR: 'it returns false'. Refute it at one input. -/
def stepNilWrong : ChangeSpec := { name := "stepNil", fn := fun _ => fun
  | [d1, d2] => { results := [.lit (.bool false)], args := [d1, d2] }
  | _ => none }
def StepNilWrongFalsely : Prop := stepNilRow.holds Tryz.pinned (OpenSpec.ofChange stepNilWrong)

/-- 'gnomonlaw14.StepOne': WHATEVER THE INPUT: true; the input reads as it did. -/
def stepOneSpec : ChangeSpec := { name := "stepOne", fn := fun _ => fun
  | [d1, d2, d3] => { results := [.lit (.bool true)], args := [d1, d2, d3] }
  | _ => none }
def stepOneRow : OpenClaim := { program := "ytphnnmecmiodhaagreat", sum := "205ede78024276131953846bd1c779295f1531a45f74dfa306b022dd10aea77e", func := "gnomon/gnomonlaw14.StepOne", spec := "stepOne", unfollowed := true, recurses := true, plainKeys := false, apart := false }
def StepOneSaid : Prop := stepOneRow.holds Tryz.pinned (OpenSpec.ofChange stepOneSpec)

/-- ITS FALSE NEIGHBOUR: 'it returns false'. Refute it at one input. -/
def stepOneWrong : ChangeSpec := { name := "stepOne", fn := fun _ => fun
  | [d1, d2, d3] => { results := [.lit (.bool false)], args := [d1, d2, d3] }
  | _ => none }
def StepOneWrongFalsely : Prop := stepOneRow.holds Tryz.pinned (OpenSpec.ofChange stepOneWrong)

/-- 'gnomonlaw14.StepPlaces': WHATEVER THE INPUT: true; the input reads as it did. -/
def stepPlacesSpec : ChangeSpec := { name := "stepPlaces", fn := fun _ => fun
  | [d1, d2] => { results := [.lit (.bool true)], args := [d1, d2] }
  | _ => none }
def stepPlacesRow : OpenClaim := { program := "ytphnnmecmiodhaagreat", sum := "205ede78024276131953846bd1c779295f1531a45f74dfa306b022dd10aea77e", func := "gnomon/gnomonlaw14.StepPlaces", spec := "stepPlaces", unfollowed := true, recurses := true, plainKeys := false, apart := false }
def StepPlacesSaid : Prop := stepPlacesRow.holds Tryz.pinned (OpenSpec.ofChange stepPlacesSpec)

/-- ITS FALSE NEIGHBOUR: 'it returns false'. Refute it at one input. -/
def stepPlacesWrong : ChangeSpec := { name := "stepPlaces", fn := fun _ => fun
  | [d1, d2] => { results := [.lit (.bool false)], args := [d1, d2] }
  | _ => none }
def StepPlacesWrongFalsely : Prop := stepPlacesRow.holds Tryz.pinned (OpenSpec.ofChange stepPlacesWrong)

/-- 'gnomonlaw15.RunOrders': WHATEVER THE INPUT: true; the input reads as it did. -/
def runOrdersSpec : ChangeSpec := { name := "runOrders", fn := fun _ => fun
  | [d1, d2, d3, d4] => { results := [.lit (.bool true)], args := [d1, d2, d3, d4] }
  | _ => none }
def runOrdersRow : OpenClaim := { program := "ytphnnmecmiodhaagreat", sum := "205ede78024276131953846bd1c779295f1531a45f74dfa306b022dd10aea77e", func := "gnomon/gnomonlaw15.RunOrders", spec := "runOrders", unfollowed := true, recurses := true, plainKeys := false, apart := false }
def RunOrdersSaid : Prop := runOrdersRow.holds Tryz.pinned (OpenSpec.ofChange runOrdersSpec)

/-- ITS FALSE NEIGHBOUR: 'it returns false'. Refute it at one input. -/
def runOrdersWrong : ChangeSpec := { name := "runOrders", fn := fun _ => fun
  | [d1, d2, d3, d4] => { results := [.lit (.bool false)], args := [d1, d2, d3, d4] }
  | _ => none }
def RunOrdersWrongFalsely : Prop := runOrdersRow.holds Tryz.pinned (OpenSpec.ofChange runOrdersWrong)

/-- 'gnomonlaw15.RunMore': WHATEVER THE INPUT: true; the input reads as it did. -/
def runMoreSpec : ChangeSpec := { name := "runMore", fn := fun _ => fun
  | [d1, d2, d3] => { results := [.lit (.bool true)], args := [d1, d2, d3] }
  | _ => none }
def runMoreRow : OpenClaim := { program := "ytphnnmecmiodhaagreat", sum := "205ede78024276131953846bd1c779295f1531a45f74dfa306b022dd10aea77e", func := "gnomon/gnomonlaw15.RunMore", spec := "runMore", unfollowed := true, recurses := true, plainKeys := false, apart := false }
def RunMoreSaid : Prop := runMoreRow.holds Tryz.pinned (OpenSpec.ofChange runMoreSpec)

/-- ITS FALSE NEIGHBOUR: 'it returns false'. Refute it at one input. -/
def runMoreWrong : ChangeSpec := { name := "runMore", fn := fun _ => fun
  | [d1, d2, d3] => { results := [.lit (.bool false)], args := [d1, d2, d3] }
  | _ => none }
def RunMoreWrongFalsely : Prop := runMoreRow.holds Tryz.pinned (OpenSpec.ofChange runMoreWrong)

/-- 'gnomonlaw15.RunStepped': WHATEVER THE INPUT: true; the input reads as it did. -/
def runSteppedSpec : ChangeSpec := { name := "runStepped", fn := fun _ => fun
  | [d1, d2] => { results := [.lit (.bool true)], args := [d1, d2] }
  | _ => none }
def runSteppedRow : OpenClaim := { program := "ytphnnmecmiodhaagreat", sum := "205ede78024276131953846bd1c779295f1531a45f74dfa306b022dd10aea77e", func := "gnomon/gnomonlaw15.RunStepped", spec := "runStepped", unfollowed := true, recurses := true, plainKeys := false, apart := false }
def RunSteppedSaid : Prop := runSteppedRow.holds Tryz.pinned (OpenSpec.ofChange runSteppedSpec)

/-- ITS FALSE NEIGHBOUR: 'it returns false'. Refute it at one input. -/
def runSteppedWrong : ChangeSpec := { name := "runStepped", fn := fun _ => fun
  | [d1, d2] => { results := [.lit (.bool false)], args := [d1, d2] }
  | _ => none }
def RunSteppedWrongFalsely : Prop := runSteppedRow.holds Tryz.pinned (OpenSpec.ofChange runSteppedWrong)

/-- 'gnomonlaw15.RunSound': WHATEVER THE INPUT: true; the input reads as it did. -/
def runSoundSpec : ChangeSpec := { name := "runSound", fn := fun _ => fun
  | [d1, d2] => { results := [.lit (.bool true)], args := [d1, d2] }
  | _ => none }
def runSoundRow : OpenClaim := { program := "ytphnnmecmiodhaagreat", sum := "205ede78024276131953846bd1c779295f1531a45f74dfa306b022dd10aea77e", func := "gnomon/gnomonlaw15.RunSound", spec := "runSound", unfollowed := true, recurses := true, plainKeys := false, apart := false }
def RunSoundSaid : Prop := runSoundRow.holds Tryz.pinned (OpenSpec.ofChange runSoundSpec)

/-- ITS FALSE NEIGHBOUR: 'it returns false'. Refute it at one input. -/
def runSoundWrong : ChangeSpec := { name := "runSound", fn := fun _ => fun
  | [d1, d2] => { results := [.lit (.bool false)], args := [d1, d2] }
  | _ => none }
def RunSoundWrongFalsely : Prop := runSoundRow.holds Tryz.pinned (OpenSpec.ofChange runSoundWrong)

/- THE SECOND FORM. 'bulk': how many values and letters a reading holds, each counted each time it is reached (what is shared counts as often as it is met; a slice's spare places count too). A statement '..UptoSaid' is the law's where the arguments, and the package variables that the reading takes, are together of bulk at most 1048576: NARROWER than '..Said'. Prove '..Said' where nothing that the law and all that it calls make is longer than what came in: it says more and counts as full. Else prove '..UptoSaid'. A law counts once. -/
mutual
def uptoBulk {H : Type} : DataW H → Nat
  | .lit (.string bytes) => bytes.length + 1
  | .lit _ => 1
  | .nil => 1
  | .ptr d => uptoBulk d + 1
  | .slice elems spare => uptoBulkAll elems + uptoBulkAll spare + 1
  | .agg parts => uptoBulkAll parts + 1
  | .iface _ d => uptoBulk d + 1
  | .map entries => uptoBulkEntries entries + 1
  | .held _ => 1
def uptoBulkAll {H : Type} : List (DataW H) → Nat
  | [] => 0
  | d :: r => uptoBulk d + uptoBulkAll r
def uptoBulkEntries {H : Type} : List (Lit × DataW H) → Nat
  | [] => 0
  | x :: r => uptoBulkEntry x + uptoBulkEntries r
def uptoBulkEntry {H : Type} : Lit × DataW H → Nat
  | (.string bytes, d) => bytes.length + uptoBulk d + 1
  | (_, d) => uptoBulk d + 1
 end
def uptoSmall : (H : Type) → List (DataW H) → Bool := fun _ ds => decide (uptoBulkAll ds ≤ 1048576)
def OpenSpec.upto (s : _root_.Go.ChangeSpec) : _root_.Go.OpenSpec := { _root_.Go.OpenSpec.ofChange s with cond := some uptoSmall }

/-- 'gnomonlaw11.SoundKnown', WHERE WHAT IT READS IS OF BULK AT MOST 1048576: true; the input reads as it did. -/
def soundKnownUptoRow : OpenClaim := { program := "ytphnnmecmiodhaagreat", sum := "205ede78024276131953846bd1c779295f1531a45f74dfa306b022dd10aea77e", func := "gnomon/gnomonlaw11.SoundKnown", spec := "soundKnown", unfollowed := true, recurses := true, plainKeys := false, apart := false, narrowed := true }
def SoundKnownUptoSaid : Prop := soundKnownUptoRow.holds Tryz.pinned (OpenSpec.upto soundKnownSpec)

/-- 'gnomonlaw12.SitesApart', WHERE WHAT IT READS IS OF BULK AT MOST 1048576: true; the input reads as it did. -/
def sitesApartUptoRow : OpenClaim := { program := "ytphnnmecmiodhaagreat", sum := "205ede78024276131953846bd1c779295f1531a45f74dfa306b022dd10aea77e", func := "gnomon/gnomonlaw12.SitesApart", spec := "sitesApart", unfollowed := true, recurses := true, plainKeys := false, apart := false, narrowed := true }
def SitesApartUptoSaid : Prop := sitesApartUptoRow.holds Tryz.pinned (OpenSpec.upto sitesApartSpec)

/-- 'gnomonlaw14.StepDefined', WHERE WHAT IT READS IS OF BULK AT MOST 1048576: true; the input reads as it did. -/
def stepDefinedUptoRow : OpenClaim := { program := "ytphnnmecmiodhaagreat", sum := "205ede78024276131953846bd1c779295f1531a45f74dfa306b022dd10aea77e", func := "gnomon/gnomonlaw14.StepDefined", spec := "stepDefined", unfollowed := true, recurses := true, plainKeys := false, apart := false, narrowed := true }
def StepDefinedUptoSaid : Prop := stepDefinedUptoRow.holds Tryz.pinned (OpenSpec.upto stepDefinedSpec)

/-- 'gnomonlaw14.StepDeep', WHERE WHAT IT READS IS OF BULK AT MOST 1048576: true; the input reads as it did. -/
def stepDeepUptoRow : OpenClaim := { program := "ytphnnmecmiodhaagreat", sum := "205ede78024276131953846bd1c779295f1531a45f74dfa306b022dd10aea77e", func := "gnomon/gnomonlaw14.StepDeep", spec := "stepDeep", unfollowed := true, recurses := true, plainKeys := false, apart := false, narrowed := true }
def StepDeepUptoSaid : Prop := stepDeepUptoRow.holds Tryz.pinned (OpenSpec.upto stepDeepSpec)

/-- 'gnomonlaw14.StepNil', WHERE WHAT IT READS IS OF BULK AT MOST 1048576: true; the input reads as it did. -/
def stepNilUptoRow : OpenClaim := { program := "ytphnnmecmiodhaagreat", sum := "205ede78024276131953846bd1c779295f1531a45f74dfa306b022dd10aea77e", func := "gnomon/gnomonlaw14.StepNil", spec := "stepNil", unfollowed := true, recurses := true, plainKeys := false, apart := false, narrowed := true }
def StepNilUptoSaid : Prop := stepNilUptoRow.holds Tryz.pinned (OpenSpec.upto stepNilSpec)

/-- 'gnomonlaw14.StepOne', WHERE WHAT IT READS IS OF BULK AT MOST 1048576: true; the input reads as it did. -/
def stepOneUptoRow : OpenClaim := { program := "ytphnnmecmiodhaagreat", sum := "205ede78024276131953846bd1c779295f1531a45f74dfa306b022dd10aea77e", func := "gnomon/gnomonlaw14.StepOne", spec := "stepOne", unfollowed := true, recurses := true, plainKeys := false, apart := false, narrowed := true }
def StepOneUptoSaid : Prop := stepOneUptoRow.holds Tryz.pinned (OpenSpec.upto stepOneSpec)

/-- 'gnomonlaw14.StepPlaces', WHERE WHAT IT READS IS OF BULK AT MOST 1048576: true; the input reads as it did. -/
def stepPlacesUptoRow : OpenClaim := { program := "ytphnnmecmiodhaagreat", sum := "205ede78024276131953846bd1c779295f1531a45f74dfa306b022dd10aea77e", func := "gnomon/gnomonlaw14.StepPlaces", spec := "stepPlaces", unfollowed := true, recurses := true, plainKeys := false, apart := false, narrowed := true }
def StepPlacesUptoSaid : Prop := stepPlacesUptoRow.holds Tryz.pinned (OpenSpec.upto stepPlacesSpec)

/-- 'gnomonlaw15.RunOrders', WHERE WHAT IT READS IS OF BULK AT MOST 1048576: true; the input reads as it did. -/
def runOrdersUptoRow : OpenClaim := { program := "ytphnnmecmiodhaagreat", sum := "205ede78024276131953846bd1c779295f1531a45f74dfa306b022dd10aea77e", func := "gnomon/gnomonlaw15.RunOrders", spec := "runOrders", unfollowed := true, recurses := true, plainKeys := false, apart := false, narrowed := true }
def RunOrdersUptoSaid : Prop := runOrdersUptoRow.holds Tryz.pinned (OpenSpec.upto runOrdersSpec)

/-- 'gnomonlaw15.RunMore', WHERE WHAT IT READS IS OF BULK AT MOST 1048576: true; the input reads as it did. -/
def runMoreUptoRow : OpenClaim := { program := "ytphnnmecmiodhaagreat", sum := "205ede78024276131953846bd1c779295f1531a45f74dfa306b022dd10aea77e", func := "gnomon/gnomonlaw15.RunMore", spec := "runMore", unfollowed := true, recurses := true, plainKeys := false, apart := false, narrowed := true }
def RunMoreUptoSaid : Prop := runMoreUptoRow.holds Tryz.pinned (OpenSpec.upto runMoreSpec)

/-- 'gnomonlaw15.RunStepped', WHERE WHAT IT READS IS OF BULK AT MOST 1048576: true; the input reads as it did. -/
def runSteppedUptoRow : OpenClaim := { program := "ytphnnmecmiodhaagreat", sum := "205ede78024276131953846bd1c779295f1531a45f74dfa306b022dd10aea77e", func := "gnomon/gnomonlaw15.RunStepped", spec := "runStepped", unfollowed := true, recurses := true, plainKeys := false, apart := false, narrowed := true }
def RunSteppedUptoSaid : Prop := runSteppedUptoRow.holds Tryz.pinned (OpenSpec.upto runSteppedSpec)

/-- 'gnomonlaw15.RunSound', WHERE WHAT IT READS IS OF BULK AT MOST 1048576: true; the input reads as it did. -/
def runSoundUptoRow : OpenClaim := { program := "ytphnnmecmiodhaagreat", sum := "205ede78024276131953846bd1c779295f1531a45f74dfa306b022dd10aea77e", func := "gnomon/gnomonlaw15.RunSound", spec := "runSound", unfollowed := true, recurses := true, plainKeys := false, apart := false, narrowed := true }
def RunSoundUptoSaid : Prop := runSoundUptoRow.holds Tryz.pinned (OpenSpec.upto runSoundSpec)

end Rows
end Go.Proofs.YtphnnmecmiodhaaGreat
