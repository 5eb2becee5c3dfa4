/-
  No cell of these rows narrows 'for every input' (looked for: loops, veiled, ifaces, maps, wideKeys, modest, calm, conditions, laid).
  DERIVED. THE GIVEN ROWS OF THIS SEAT. 4 by the template 'for every input the law returns true; each argument reads behind the call as it read before'; 0 by the template 'total and deterministic' (their statements: YtpemkbjbbcnddaaGreatTotals.lean).
  GIVEN WITH THE SEED: the statements are not yours to turn. If you find one false, say at which input.
  Laid BY PROGRAM, IN A SANDBOX (cutbox-rows.mjs): the forced cells as the released guide's own fill.sh prints them over the translation adef919dd3c20f33… (all of the seat's roots in one cut). By AI agents, Wed Nov 11 2026. No macro, syntax, notation, axiom, sorry.
-/
import Derived.Test.YtpemkbjbbcnddaaGreatChecked
import GoSem.Claim
import GoSem.ClaimJoined
import GoSem.ClaimMapViews
import Derived.JoinedTies
import Derived.KernelRfl
namespace Go.Proofs.YtpemkbjbbcnddaaGreat
/- THE CELL 'sum', in the pinned program and in every row, IS THE sha256 OF THE DUMP (.gsa) THAT YtpemkbjbbcnddaaGreatProg.lean LOADS. Nothing in Lean hashes anything: it is a label: what it is worth is what the hold of that sum in a sandbox is worth. -/
noncomputable def Tryz.pinned : Pinned := { name := "ytpemkbjbbcnddaagreat", sum := "adef919dd3c20f33af1667a8ad638e0d0436d38614e25fae3efa3a962a93ea19", checked := Tryz.checked }
namespace Rows
def none {H : Type} : Left H := { results := [], args := [] }

/-- 'gnomonlaw11.SoundWalks': WHATEVER THE INPUT: true; the input reads as it did. -/
def soundWalksSpec : ChangeSpec := { name := "soundWalks", fn := fun _ => fun
  | [d1, d2, d3] => { results := [.lit (.bool true)], args := [d1, d2, d3] }
  | _ => none }
def soundWalksRow : OpenClaim := { program := "ytpemkbjbbcnddaagreat", sum := "adef919dd3c20f33af1667a8ad638e0d0436d38614e25fae3efa3a962a93ea19", func := "gnomon/gnomonlaw11.SoundWalks", spec := "soundWalks", unfollowed := true, recurses := true, apart := false }
def SoundWalksSaid : Prop := soundWalksRow.holds Tryz.pinned (OpenSpec.ofChange soundWalksSpec)

/-- ITS FALSE NEIGHBOUR: 'it returns false'. Refute it at one input. -/
def soundWalksWrong : ChangeSpec := { name := "soundWalks", fn := fun _ => fun
  | [d1, d2, d3] => { results := [.lit (.bool false)], args := [d1, d2, d3] }
  | _ => none }
def SoundWalksWrongFalsely : Prop := soundWalksRow.holds Tryz.pinned (OpenSpec.ofChange soundWalksWrong)

/-- 'gnomonlaw11.SoundReaches': WHATEVER THE INPUT: true; the input reads as it did. -/
def soundReachesSpec : ChangeSpec := { name := "soundReaches", fn := fun _ => fun
  | [d] => { results := [.lit (.bool true)], args := [d] }
  | _ => none }
def soundReachesRow : OpenClaim := { program := "ytpemkbjbbcnddaagreat", sum := "adef919dd3c20f33af1667a8ad638e0d0436d38614e25fae3efa3a962a93ea19", func := "gnomon/gnomonlaw11.SoundReaches", spec := "soundReaches", unfollowed := true, recurses := true, apart := false }
def SoundReachesSaid : Prop := soundReachesRow.holds Tryz.pinned (OpenSpec.ofChange soundReachesSpec)

/-- ITS FALSE NEIGHBOUR: 'it returns false'. Refute it at one input. -/
def soundReachesWrong : ChangeSpec := { name := "soundReaches", fn := fun _ => fun
  | [d] => { results := [.lit (.bool false)], args := [d] }
  | _ => none }
def SoundReachesWrongFalsely : Prop := soundReachesRow.holds Tryz.pinned (OpenSpec.ofChange soundReachesWrong)

/-- 'gnomonlaw11.SoundChain': WHATEVER THE INPUT: true; the input reads as it did. -/
def soundChainSpec : ChangeSpec := { name := "soundChain", fn := fun _ => fun
  | [d1, d2, d3, d4, d5] => { results := [.lit (.bool true)], args := [d1, d2, d3, d4, d5] }
  | _ => none }
def soundChainRow : OpenClaim := { program := "ytpemkbjbbcnddaagreat", sum := "adef919dd3c20f33af1667a8ad638e0d0436d38614e25fae3efa3a962a93ea19", func := "gnomon/gnomonlaw11.SoundChain", spec := "soundChain", unfollowed := true, recurses := true, apart := false }
def SoundChainSaid : Prop := soundChainRow.holds Tryz.pinned (OpenSpec.ofChange soundChainSpec)

/-- ITS FALSE NEIGHBOUR: 'it returns false'. Refute it at one input. -/
def soundChainWrong : ChangeSpec := { name := "soundChain", fn := fun _ => fun
  | [d1, d2, d3, d4, d5] => { results := [.lit (.bool false)], args := [d1, d2, d3, d4, d5] }
  | _ => none }
def SoundChainWrongFalsely : Prop := soundChainRow.holds Tryz.pinned (OpenSpec.ofChange soundChainWrong)

/-- 'gnomonlaw11.SoundKnown': WHATEVER THE INPUT: true; the input reads as it did. -/
def soundKnownSpec : ChangeSpec := { name := "soundKnown", fn := fun _ => fun
  | [] => { results := [.lit (.bool true)], args := [] }
  | _ => none }
def soundKnownRow : OpenClaim := { program := "ytpemkbjbbcnddaagreat", sum := "adef919dd3c20f33af1667a8ad638e0d0436d38614e25fae3efa3a962a93ea19", func := "gnomon/gnomonlaw11.SoundKnown", spec := "soundKnown", unfollowed := true, recurses := true, apart := false }
def SoundKnownSaid : Prop := soundKnownRow.holds Tryz.pinned (OpenSpec.ofChange soundKnownSpec)

/-- ITS FALSE NEIGHBOUR: 'it returns false'. Refute it at one input. -/
def soundKnownWrong : ChangeSpec := { name := "soundKnown", fn := fun _ => fun
  | [] => { results := [.lit (.bool false)], args := [] }
  | _ => none }
def SoundKnownWrongFalsely : Prop := soundKnownRow.holds Tryz.pinned (OpenSpec.ofChange soundKnownWrong)

/- THE SECOND FORM. 'bulk': how many values and letters a reading holds, each counted each time it is reached (what is shared counts as often as it is met; a slice's spare places count too). A statement '..UptoSaid' is the law's where the arguments, and the package variables that the reading takes, are together of bulk at most 1048576: NARROWER than '..Said'. Prove '..Said' where nothing that the law and all that it calls make is longer than what came in: it says more and counts as full. Else prove '..UptoSaid'. A law counts once. -/
mutual
def uptoBulk {H : Type} : DataW H → Nat
  | .lit (.string bytes) => bytes.length + 1
  | .lit _ => 1
  | .nil => 1
  | .ptr d => uptoBulk d + 1
  | .slice elems spare => uptoBulkAll elems + uptoBulkAll spare + 1
  | .agg parts => uptoBulkAll parts + 1
  | .iface _ d => uptoBulk d + 1
  | .map entries => uptoBulkEntries entries + 1
  | .held _ => 1
def uptoBulkAll {H : Type} : List (DataW H) → Nat
  | [] => 0
  | d :: r => uptoBulk d + uptoBulkAll r
def uptoBulkEntries {H : Type} : List (Lit × DataW H) → Nat
  | [] => 0
  | x :: r => uptoBulkEntry x + uptoBulkEntries r
def uptoBulkEntry {H : Type} : Lit × DataW H → Nat
  | (.string bytes, d) => bytes.length + uptoBulk d + 1
  | (_, d) => uptoBulk d + 1
 end
def uptoSmall : (H : Type) → List (DataW H) → Bool := fun _ ds => decide (uptoBulkAll ds ≤ 1048576)
def OpenSpec.upto (s : _root_.Go.ChangeSpec) : _root_.Go.OpenSpec := { _root_.Go.OpenSpec.ofChange s with cond := some uptoSmall }

/-- 'gnomonlaw11.SoundWalks', WHERE WHAT IT READS IS OF BULK AT MOST 1048576: true; the input reads as it did. -/
def soundWalksUptoRow : OpenClaim := { program := "ytpemkbjbbcnddaagreat", sum := "adef919dd3c20f33af1667a8ad638e0d0436d38614e25fae3efa3a962a93ea19", func := "gnomon/gnomonlaw11.SoundWalks", spec := "soundWalks", unfollowed := true, recurses := true, apart := false, narrowed := true }
def SoundWalksUptoSaid : Prop := soundWalksUptoRow.holds Tryz.pinned (OpenSpec.upto soundWalksSpec)

/-- 'gnomonlaw11.SoundReaches', WHERE WHAT IT READS IS OF BULK AT MOST 1048576: true; the input reads as it did. -/
def soundReachesUptoRow : OpenClaim := { program := "ytpemkbjbbcnddaagreat", sum := "adef919dd3c20f33af1667a8ad638e0d0436d38614e25fae3efa3a962a93ea19", func := "gnomon/gnomonlaw11.SoundReaches", spec := "soundReaches", unfollowed := true, recurses := true, apart := false, narrowed := true }
def SoundReachesUptoSaid : Prop := soundReachesUptoRow.holds Tryz.pinned (OpenSpec.upto soundReachesSpec)

/-- 'gnomonlaw11.SoundChain', WHERE WHAT IT READS IS OF BULK AT MOST 1048576: true; the input reads as it did. -/
def soundChainUptoRow : OpenClaim := { program := "ytpemkbjbbcnddaagreat", sum := "adef919dd3c20f33af1667a8ad638e0d0436d38614e25fae3efa3a962a93ea19", func := "gnomon/gnomonlaw11.SoundChain", spec := "soundChain", unfollowed := true, recurses := true, apart := false, narrowed := true }
def SoundChainUptoSaid : Prop := soundChainUptoRow.holds Tryz.pinned (OpenSpec.upto soundChainSpec)

/-- 'gnomonlaw11.SoundKnown', WHERE WHAT IT READS IS OF BULK AT MOST 1048576: true; the input reads as it did. -/
def soundKnownUptoRow : OpenClaim := { program := "ytpemkbjbbcnddaagreat", sum := "adef919dd3c20f33af1667a8ad638e0d0436d38614e25fae3efa3a962a93ea19", func := "gnomon/gnomonlaw11.SoundKnown", spec := "soundKnown", unfollowed := true, recurses := true, apart := false, narrowed := true }
def SoundKnownUptoSaid : Prop := soundKnownUptoRow.holds Tryz.pinned (OpenSpec.upto soundKnownSpec)

end Rows
end Go.Proofs.YtpemkbjbbcnddaaGreat
