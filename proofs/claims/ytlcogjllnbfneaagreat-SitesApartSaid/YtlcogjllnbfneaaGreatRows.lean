/-
  No cell of these rows narrows 'for every input' (looked for: loops, veiled, ifaces, maps, wideKeys, modest, calm, conditions, laid).
  DERIVED. THE GIVEN ROWS OF THIS SEAT. 5 by the template 'for every input the law returns true; each argument reads behind the call as it read before'; 0 by the template 'total and deterministic' (their statements: YtlcogjllnbfneaaGreatTotals.lean).
  GIVEN WITH THE SEED: the statements are not yours to turn. If you find one false, say at which input.
  Laid BY PROGRAM, IN A SANDBOX (cutbox-rows.mjs): the forced cells as the released guide's own fill.sh prints them over the translation 3fef2552c09beea7… (all of the seat's roots in one cut). By AI agents, Wed Nov 11 2026. No macro, syntax, notation, axiom, sorry.
-/
import Derived.Test.YtlcogjllnbfneaaGreatChecked
import GoSem.Claim
import GoSem.ClaimJoined
import GoSem.ClaimMapViews
import Derived.JoinedTies
import Derived.KernelRfl
namespace Go.Proofs.YtlcogjllnbfneaaGreat
/- THE CELL 'sum', in the pinned program and in every row, IS THE sha256 OF THE DUMP (.gsa) THAT YtlcogjllnbfneaaGreatProg.lean LOADS. Nothing in Lean hashes anything: it is a label: what it is worth is what the hold of that sum in a sandbox is worth. -/
noncomputable def Tryz.pinned : Pinned := { name := "ytlcogjllnbfneaagreat", sum := "3fef2552c09beea73eead31130279b6453062c6cf1a99b4dac1734cd27b79d45", checked := Tryz.checked }
namespace Rows
def none {H : Type} : Left H := { results := [], args := [] }

/-- 'gnomonlaw11.SoundKnown': WHATEVER THE INPUT: true; the input reads as it did. -/
def soundKnownSpec : ChangeSpec := { name := "soundKnown", fn := fun _ => fun
  | [] => { results := [.lit (.bool true)], args := [] }
  | _ => none }
def soundKnownRow : OpenClaim := { program := "ytlcogjllnbfneaagreat", sum := "3fef2552c09beea73eead31130279b6453062c6cf1a99b4dac1734cd27b79d45", func := "gnomon/gnomonlaw11.SoundKnown", spec := "soundKnown", unfollowed := true, recurses := true, plainKeys := false, apart := false }
def SoundKnownSaid : Prop := soundKnownRow.holds Tryz.pinned (OpenSpec.ofChange soundKnownSpec)

/-- ITS FALSE NEIGHBOUR: 'it returns false'. Refute it at one input. -/
def soundKnownWrong : ChangeSpec := { name := "soundKnown", fn := fun _ => fun
  | [] => { results := [.lit (.bool false)], args := [] }
  | _ => none }
def SoundKnownWrongFalsely : Prop := soundKnownRow.holds Tryz.pinned (OpenSpec.ofChange soundKnownWrong)

/-- 'gnomonlaw12.SitesApart': WHATEVER THE INPUT: true; the input reads as it did. -/
def sitesApartSpec : ChangeSpec := { name := "sitesApart", fn := fun _ => fun
  | [d] => { results := [.lit (.bool true)], args := [d] }
  | _ => none }
def sitesApartRow : OpenClaim := { program := "ytlcogjllnbfneaagreat", sum := "3fef2552c09beea73eead31130279b6453062c6cf1a99b4dac1734cd27b79d45", func := "gnomon/gnomonlaw12.SitesApart", spec := "sitesApart", unfollowed := true, recurses := true, plainKeys := false, apart := false }
def SitesApartSaid : Prop := sitesApartRow.holds Tryz.pinned (OpenSpec.ofChange sitesApartSpec)

/-- ITS FALSE NEIGHBOUR: 'it returns false'. Refute it at one input. -/
def sitesApartWrong : ChangeSpec := { name := "sitesApart", fn := fun _ => fun
  | [d] => { results := [.lit (.bool false)], args := [d] }
  | _ => none }
def SitesApartWrongFalsely : Prop := sitesApartRow.holds Tryz.pinned (OpenSpec.ofChange sitesApartWrong)

/-- 'gnomonlaw12.SitesAsks': WHATEVER THE INPUT: true; the input reads as it did. -/
def sitesAsksSpec : ChangeSpec := { name := "sitesAsks", fn := fun _ => fun
  | [d1, d2, d3, d4, d5, d6] => { results := [.lit (.bool true)], args := [d1, d2, d3, d4, d5, d6] }
  | _ => none }
def sitesAsksRow : OpenClaim := { program := "ytlcogjllnbfneaagreat", sum := "3fef2552c09beea73eead31130279b6453062c6cf1a99b4dac1734cd27b79d45", func := "gnomon/gnomonlaw12.SitesAsks", spec := "sitesAsks", unfollowed := true, recurses := true, plainKeys := false, apart := false }
def SitesAsksSaid : Prop := sitesAsksRow.holds Tryz.pinned (OpenSpec.ofChange sitesAsksSpec)

/-- ITS FALSE NEIGHBOUR: 'it returns false'. Refute it at one input. -/
def sitesAsksWrong : ChangeSpec := { name := "sitesAsks", fn := fun _ => fun
  | [d1, d2, d3, d4, d5, d6] => { results := [.lit (.bool false)], args := [d1, d2, d3, d4, d5, d6] }
  | _ => none }
def SitesAsksWrongFalsely : Prop := sitesAsksRow.holds Tryz.pinned (OpenSpec.ofChange sitesAsksWrong)

/-- 'gnomonlaw12.SitesMaps': WHATEVER THE INPUT: true; the input reads as it did. -/
def sitesMapsSpec : ChangeSpec := { name := "sitesMaps", fn := fun _ => fun
  | [d] => { results := [.lit (.bool true)], args := [d] }
  | _ => none }
def sitesMapsRow : OpenClaim := { program := "ytlcogjllnbfneaagreat", sum := "3fef2552c09beea73eead31130279b6453062c6cf1a99b4dac1734cd27b79d45", func := "gnomon/gnomonlaw12.SitesMaps", spec := "sitesMaps", unfollowed := true, recurses := true, plainKeys := false, apart := false }
def SitesMapsSaid : Prop := sitesMapsRow.holds Tryz.pinned (OpenSpec.ofChange sitesMapsSpec)

/-- ITS FALSE NEIGHBOUR: 'it returns false'. Refute it at one input. -/
def sitesMapsWrong : ChangeSpec := { name := "sitesMaps", fn := fun _ => fun
  | [d] => { results := [.lit (.bool false)], args := [d] }
  | _ => none }
def SitesMapsWrongFalsely : Prop := sitesMapsRow.holds Tryz.pinned (OpenSpec.ofChange sitesMapsWrong)

/-- 'gnomonlaw16.RuleTells': WHATEVER THE INPUT: true; the input reads as it did. -/
def ruleTellsSpec : ChangeSpec := { name := "ruleTells", fn := fun _ => fun
  | [d] => { results := [.lit (.bool true)], args := [d] }
  | _ => none }
def ruleTellsRow : OpenClaim := { program := "ytlcogjllnbfneaagreat", sum := "3fef2552c09beea73eead31130279b6453062c6cf1a99b4dac1734cd27b79d45", func := "gnomon/gnomonlaw16.RuleTells", spec := "ruleTells", unfollowed := true, recurses := true, plainKeys := false, apart := false }
def RuleTellsSaid : Prop := ruleTellsRow.holds Tryz.pinned (OpenSpec.ofChange ruleTellsSpec)

/-- ITS FALSE NEIGHBOUR: 'it returns false'. Refute it at one input. -/
def ruleTellsWrong : ChangeSpec := { name := "ruleTells", fn := fun _ => fun
  | [d] => { results := [.lit (.bool false)], args := [d] }
  | _ => none }
def RuleTellsWrongFalsely : Prop := ruleTellsRow.holds Tryz.pinned (OpenSpec.ofChange ruleTellsWrong)

/- THE SECOND FORM. 'bulk': how many values and letters a reading holds, each counted each time it is reached (what is shared counts as often as it is met; a slice's spare places count too). A statement '..UptoSaid' is the law's where the arguments, and the package variables that the reading takes, are together of bulk at most 1048576: NARROWER than '..Said'. Prove '..Said' where nothing that the law and all that it calls make is longer than what came in: it says more and counts as full. Else prove '..UptoSaid'. A law counts once. -/
mutual
def uptoBulk {H : Type} : DataW H → Nat
  | .lit (.string bytes) => bytes.length + 1
  | .lit _ => 1
  | .nil => 1
  | .ptr d => uptoBulk d + 1
  | .slice elems spare => uptoBulkAll elems + uptoBulkAll spare + 1
  | .agg parts => uptoBulkAll parts + 1
  | .iface _ d => uptoBulk d + 1
  | .map entries => uptoBulkEntries entries + 1
  | .held _ => 1
def uptoBulkAll {H : Type} : List (DataW H) → Nat
  | [] => 0
  | d :: r => uptoBulk d + uptoBulkAll r
def uptoBulkEntries {H : Type} : List (Lit × DataW H) → Nat
  | [] => 0
  | x :: r => uptoBulkEntry x + uptoBulkEntries r
def uptoBulkEntry {H : Type} : Lit × DataW H → Nat
  | (.string bytes, d) => bytes.length + uptoBulk d + 1
  | (_, d) => uptoBulk d + 1
 end
def uptoSmall : (H : Type) → List (DataW H) → Bool := fun _ ds => decide (uptoBulkAll ds ≤ 1048576)
def OpenSpec.upto (s : _root_.Go.ChangeSpec) : _root_.Go.OpenSpec := { _root_.Go.OpenSpec.ofChange s with cond := some uptoSmall }

/-- 'gnomonlaw11.SoundKnown', WHERE WHAT IT READS IS OF BULK AT MOST 1048576: true; the input reads as it did. -/
def soundKnownUptoRow : OpenClaim := { program := "ytlcogjllnbfneaagreat", sum := "3fef2552c09beea73eead31130279b6453062c6cf1a99b4dac1734cd27b79d45", func := "gnomon/gnomonlaw11.SoundKnown", spec := "soundKnown", unfollowed := true, recurses := true, plainKeys := false, apart := false, narrowed := true }
def SoundKnownUptoSaid : Prop := soundKnownUptoRow.holds Tryz.pinned (OpenSpec.upto soundKnownSpec)

/-- 'gnomonlaw12.SitesApart', WHERE WHAT IT READS IS OF BULK AT MOST 1048576: true; the input reads as it did. -/
def sitesApartUptoRow : OpenClaim := { program := "ytlcogjllnbfneaagreat", sum := "3fef2552c09beea73eead31130279b6453062c6cf1a99b4dac1734cd27b79d45", func := "gnomon/gnomonlaw12.SitesApart", spec := "sitesApart", unfollowed := true, recurses := true, plainKeys := false, apart := false, narrowed := true }
def SitesApartUptoSaid : Prop := sitesApartUptoRow.holds Tryz.pinned (OpenSpec.upto sitesApartSpec)

/-- 'gnomonlaw12.SitesAsks', WHERE WHAT IT READS IS OF BULK AT MOST 1048576: true; the input reads as it did. -/
def sitesAsksUptoRow : OpenClaim := { program := "ytlcogjllnbfneaagreat", sum := "3fef2552c09beea73eead31130279b6453062c6cf1a99b4dac1734cd27b79d45", func := "gnomon/gnomonlaw12.SitesAsks", spec := "sitesAsks", unfollowed := true, recurses := true, plainKeys := false, apart := false, narrowed := true }
def SitesAsksUptoSaid : Prop := sitesAsksUptoRow.holds Tryz.pinned (OpenSpec.upto sitesAsksSpec)

/-- 'gnomonlaw12.SitesMaps', WHERE WHAT IT READS IS OF BULK AT MOST 1048576: true; the input reads as it did. -/
def sitesMapsUptoRow : OpenClaim := { program := "ytlcogjllnbfneaagreat", sum := "3fef2552c09beea73eead31130279b6453062c6cf1a99b4dac1734cd27b79d45", func := "gnomon/gnomonlaw12.SitesMaps", spec := "sitesMaps", unfollowed := true, recurses := true, plainKeys := false, apart := false, narrowed := true }
def SitesMapsUptoSaid : Prop := sitesMapsUptoRow.holds Tryz.pinned (OpenSpec.upto sitesMapsSpec)

/-- 'gnomonlaw16.RuleTells', WHERE WHAT IT READS IS OF BULK AT MOST 1048576: true; the input reads as it did. -/
def ruleTellsUptoRow : OpenClaim := { program := "ytlcogjllnbfneaagreat", sum := "3fef2552c09beea73eead31130279b6453062c6cf1a99b4dac1734cd27b79d45", func := "gnomon/gnomonlaw16.RuleTells", spec := "ruleTells", unfollowed := true, recurses := true, plainKeys := false, apart := false, narrowed := true }
def RuleTellsUptoSaid : Prop := ruleTellsUptoRow.holds Tryz.pinned (OpenSpec.upto ruleTellsSpec)

end Rows
end Go.Proofs.YtlcogjllnbfneaaGreat
