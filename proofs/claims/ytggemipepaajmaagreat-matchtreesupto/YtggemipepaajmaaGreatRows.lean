/-
  NARROWER THAN 'FOR EVERY INPUT', by the rows' own cells (each row's printed sentence says how): MatchAll: loops · MatchTrees: loops · MatchArms: loops · MatchTwo: loops · MatchValues: loops · MatchSame: loops · MatchChecks: loops.
  DERIVED. THE GIVEN ROWS OF THIS SEAT. 7 by the template 'for every input the law returns true; each argument reads behind the call as it read before'; 0 by the template 'total and deterministic' (their statements: YtggemipepaajmaaGreatTotals.lean).
  GIVEN WITH THE SEED: the statements are not yours to turn. If you find one false, say at which input.
  Laid BY PROGRAM, IN A SANDBOX (cutbox-rows.mjs): the forced cells as the released guide's own fill.sh prints them over the translation 684863188c5b82a5… (all of the seat's roots in one cut). By AI agents, Wed Nov 11 2026. No macro, syntax, notation, axiom, sorry.
-/
import Derived.Test.YtggemipepaajmaaGreatChecked
import GoSem.Claim
import GoSem.ClaimJoined
import GoSem.ClaimMapViews
import Derived.JoinedTies
import Derived.KernelRfl
namespace Go.Proofs.YtggemipepaajmaaGreat
/- THE CELL 'sum', in the pinned program and in every row, IS THE sha256 OF THE DUMP (.gsa) THAT YtggemipepaajmaaGreatProg.lean LOADS. Nothing in Lean hashes anything: it is a label: what it is worth is what the hold of that sum in a sandbox is worth. -/
noncomputable def Tryz.pinned : Pinned := { name := "ytggemipepaajmaagreat", sum := "684863188c5b82a5394d7e541346d0a8225e5f0865d82b401aa6c694d0c0c103", checked := Tryz.checked }
namespace Rows
def none {H : Type} : Left H := { results := [], args := [] }

/-- 'ratchetlaw12.MatchAll': WHATEVER THE INPUT: true; the input reads as it did. -/
def matchAllSpec : ChangeSpec := { name := "matchAll", fn := fun _ => fun
  | [d] => { results := [.lit (.bool true)], args := [d] }
  | _ => none }
def matchAllRow : OpenClaim := { program := "ytggemipepaajmaagreat", sum := "684863188c5b82a5394d7e541346d0a8225e5f0865d82b401aa6c694d0c0c103", func := "ratchet/ratchetlaw12.MatchAll", spec := "matchAll", unfollowed := true, recurses := true, loops := true, apart := false }
def MatchAllSaid : Prop := matchAllRow.holds Tryz.pinned (OpenSpec.ofChange matchAllSpec)

/-- ITS FALSE NEIGHBOUR: 'it returns false'. Refute it at one input. -/
def matchAllWrong : ChangeSpec := { name := "matchAll", fn := fun _ => fun
  | [d] => { results := [.lit (.bool false)], args := [d] }
  | _ => none }
def MatchAllWrongFalsely : Prop := matchAllRow.holds Tryz.pinned (OpenSpec.ofChange matchAllWrong)

/-- 'ratchetlaw12.MatchTrees': WHATEVER THE INPUT: true; the input reads as it did. -/
def matchTreesSpec : ChangeSpec := { name := "matchTrees", fn := fun _ => fun
  | [d] => { results := [.lit (.bool true)], args := [d] }
  | _ => none }
def matchTreesRow : OpenClaim := { program := "ytggemipepaajmaagreat", sum := "684863188c5b82a5394d7e541346d0a8225e5f0865d82b401aa6c694d0c0c103", func := "ratchet/ratchetlaw12.MatchTrees", spec := "matchTrees", unfollowed := true, recurses := true, loops := true, apart := false }
def MatchTreesSaid : Prop := matchTreesRow.holds Tryz.pinned (OpenSpec.ofChange matchTreesSpec)

/-- ITS FALSE NEIGHBOUR: 'it returns false'. Refute it at one input. -/
def matchTreesWrong : ChangeSpec := { name := "matchTrees", fn := fun _ => fun
  | [d] => { results := [.lit (.bool false)], args := [d] }
  | _ => none }
def MatchTreesWrongFalsely : Prop := matchTreesRow.holds Tryz.pinned (OpenSpec.ofChange matchTreesWrong)

/-- 'ratchetlaw12.MatchArms': WHATEVER THE INPUT: true; the input reads as it did. -/
def matchArmsSpec : ChangeSpec := { name := "matchArms", fn := fun _ => fun
  | [d] => { results := [.lit (.bool true)], args := [d] }
  | _ => none }
def matchArmsRow : OpenClaim := { program := "ytggemipepaajmaagreat", sum := "684863188c5b82a5394d7e541346d0a8225e5f0865d82b401aa6c694d0c0c103", func := "ratchet/ratchetlaw12.MatchArms", spec := "matchArms", unfollowed := true, recurses := true, loops := true, apart := false }
def MatchArmsSaid : Prop := matchArmsRow.holds Tryz.pinned (OpenSpec.ofChange matchArmsSpec)

/-- ITS FALSE NEIGHBOUR: 'it returns false'. Refute it at one input. -/
def matchArmsWrong : ChangeSpec := { name := "matchArms", fn := fun _ => fun
  | [d] => { results := [.lit (.bool false)], args := [d] }
  | _ => none }
def MatchArmsWrongFalsely : Prop := matchArmsRow.holds Tryz.pinned (OpenSpec.ofChange matchArmsWrong)

/-- 'ratchetlaw12.MatchTwo': WHATEVER THE INPUT: true; the input reads as it did. -/
def matchTwoSpec : ChangeSpec := { name := "matchTwo", fn := fun _ => fun
  | [d] => { results := [.lit (.bool true)], args := [d] }
  | _ => none }
def matchTwoRow : OpenClaim := { program := "ytggemipepaajmaagreat", sum := "684863188c5b82a5394d7e541346d0a8225e5f0865d82b401aa6c694d0c0c103", func := "ratchet/ratchetlaw12.MatchTwo", spec := "matchTwo", unfollowed := true, recurses := true, loops := true, apart := false }
def MatchTwoSaid : Prop := matchTwoRow.holds Tryz.pinned (OpenSpec.ofChange matchTwoSpec)

/-- ITS FALSE NEIGHBOUR: 'it returns false'. Refute it at one input. -/
def matchTwoWrong : ChangeSpec := { name := "matchTwo", fn := fun _ => fun
  | [d] => { results := [.lit (.bool false)], args := [d] }
  | _ => none }
def MatchTwoWrongFalsely : Prop := matchTwoRow.holds Tryz.pinned (OpenSpec.ofChange matchTwoWrong)

/-- 'ratchetlaw12.MatchValues': WHATEVER THE INPUT: true; the input reads as it did. -/
def matchValuesSpec : ChangeSpec := { name := "matchValues", fn := fun _ => fun
  | [d1, d2] => { results := [.lit (.bool true)], args := [d1, d2] }
  | _ => none }
def matchValuesRow : OpenClaim := { program := "ytggemipepaajmaagreat", sum := "684863188c5b82a5394d7e541346d0a8225e5f0865d82b401aa6c694d0c0c103", func := "ratchet/ratchetlaw12.MatchValues", spec := "matchValues", unfollowed := true, recurses := true, loops := true, apart := false }
def MatchValuesSaid : Prop := matchValuesRow.holds Tryz.pinned (OpenSpec.ofChange matchValuesSpec)

/-- ITS FALSE NEIGHBOUR: 'it returns false'. Refute it at one input. -/
def matchValuesWrong : ChangeSpec := { name := "matchValues", fn := fun _ => fun
  | [d1, d2] => { results := [.lit (.bool false)], args := [d1, d2] }
  | _ => none }
def MatchValuesWrongFalsely : Prop := matchValuesRow.holds Tryz.pinned (OpenSpec.ofChange matchValuesWrong)

/-- 'ratchetlaw12.MatchSame': WHATEVER THE INPUT: true; the input reads as it did. -/
def matchSameSpec : ChangeSpec := { name := "matchSame", fn := fun _ => fun
  | [d1, d2] => { results := [.lit (.bool true)], args := [d1, d2] }
  | _ => none }
def matchSameRow : OpenClaim := { program := "ytggemipepaajmaagreat", sum := "684863188c5b82a5394d7e541346d0a8225e5f0865d82b401aa6c694d0c0c103", func := "ratchet/ratchetlaw12.MatchSame", spec := "matchSame", unfollowed := true, recurses := true, loops := true, apart := false }
def MatchSameSaid : Prop := matchSameRow.holds Tryz.pinned (OpenSpec.ofChange matchSameSpec)

/-- ITS FALSE NEIGHBOUR: 'it returns false'. Refute it at one input. -/
def matchSameWrong : ChangeSpec := { name := "matchSame", fn := fun _ => fun
  | [d1, d2] => { results := [.lit (.bool false)], args := [d1, d2] }
  | _ => none }
def MatchSameWrongFalsely : Prop := matchSameRow.holds Tryz.pinned (OpenSpec.ofChange matchSameWrong)

/-- 'ratchetlaw12.MatchChecks': WHATEVER THE INPUT: true; the input reads as it did. -/
def matchChecksSpec : ChangeSpec := { name := "matchChecks", fn := fun _ => fun
  | [d1, d2, d3] => { results := [.lit (.bool true)], args := [d1, d2, d3] }
  | _ => none }
def matchChecksRow : OpenClaim := { program := "ytggemipepaajmaagreat", sum := "684863188c5b82a5394d7e541346d0a8225e5f0865d82b401aa6c694d0c0c103", func := "ratchet/ratchetlaw12.MatchChecks", spec := "matchChecks", unfollowed := true, recurses := true, loops := true, apart := false }
def MatchChecksSaid : Prop := matchChecksRow.holds Tryz.pinned (OpenSpec.ofChange matchChecksSpec)

/-- ITS FALSE NEIGHBOUR: 'it returns false'. Refute it at one input. -/
def matchChecksWrong : ChangeSpec := { name := "matchChecks", fn := fun _ => fun
  | [d1, d2, d3] => { results := [.lit (.bool false)], args := [d1, d2, d3] }
  | _ => none }
def MatchChecksWrongFalsely : Prop := matchChecksRow.holds Tryz.pinned (OpenSpec.ofChange matchChecksWrong)

/- THE SECOND FORM. 'bulk': how many values and letters a reading holds, each counted each time it is reached (what is shared counts as often as it is met; a slice's spare places count too). A statement '..UptoSaid' is the law's where the arguments, and the package variables that the reading takes, are together of bulk at most 1048576: NARROWER than '..Said'. Prove '..Said' where nothing that the law and all that it calls make is longer than what came in: it says more and counts as full. Else prove '..UptoSaid'. A law counts once. -/
mutual
def uptoBulk {H : Type} : DataW H → Nat
  | .lit (.string bytes) => bytes.length + 1
  | .lit _ => 1
  | .nil => 1
  | .ptr d => uptoBulk d + 1
  | .slice elems spare => uptoBulkAll elems + uptoBulkAll spare + 1
  | .agg parts => uptoBulkAll parts + 1
  | .iface _ d => uptoBulk d + 1
  | .map entries => uptoBulkEntries entries + 1
  | .held _ => 1
def uptoBulkAll {H : Type} : List (DataW H) → Nat
  | [] => 0
  | d :: r => uptoBulk d + uptoBulkAll r
def uptoBulkEntries {H : Type} : List (Lit × DataW H) → Nat
  | [] => 0
  | x :: r => uptoBulkEntry x + uptoBulkEntries r
def uptoBulkEntry {H : Type} : Lit × DataW H → Nat
  | (.string bytes, d) => bytes.length + uptoBulk d + 1
  | (_, d) => uptoBulk d + 1
 end
def uptoSmall : (H : Type) → List (DataW H) → Bool := fun _ ds => decide (uptoBulkAll ds ≤ 1048576)
def OpenSpec.upto (s : _root_.Go.ChangeSpec) : _root_.Go.OpenSpec := { _root_.Go.OpenSpec.ofChange s with cond := some uptoSmall }

/-- 'ratchetlaw12.MatchAll', WHERE WHAT IT READS IS OF BULK AT MOST 1048576: true; the input reads as it did. -/
def matchAllUptoRow : OpenClaim := { program := "ytggemipepaajmaagreat", sum := "684863188c5b82a5394d7e541346d0a8225e5f0865d82b401aa6c694d0c0c103", func := "ratchet/ratchetlaw12.MatchAll", spec := "matchAll", unfollowed := true, recurses := true, loops := true, apart := false, narrowed := true }
def MatchAllUptoSaid : Prop := matchAllUptoRow.holds Tryz.pinned (OpenSpec.upto matchAllSpec)

/-- 'ratchetlaw12.MatchTrees', WHERE WHAT IT READS IS OF BULK AT MOST 1048576: true; the input reads as it did. -/
def matchTreesUptoRow : OpenClaim := { program := "ytggemipepaajmaagreat", sum := "684863188c5b82a5394d7e541346d0a8225e5f0865d82b401aa6c694d0c0c103", func := "ratchet/ratchetlaw12.MatchTrees", spec := "matchTrees", unfollowed := true, recurses := true, loops := true, apart := false, narrowed := true }
def MatchTreesUptoSaid : Prop := matchTreesUptoRow.holds Tryz.pinned (OpenSpec.upto matchTreesSpec)

/-- 'ratchetlaw12.MatchArms', WHERE WHAT IT READS IS OF BULK AT MOST 1048576: true; the input reads as it did. -/
def matchArmsUptoRow : OpenClaim := { program := "ytggemipepaajmaagreat", sum := "684863188c5b82a5394d7e541346d0a8225e5f0865d82b401aa6c694d0c0c103", func := "ratchet/ratchetlaw12.MatchArms", spec := "matchArms", unfollowed := true, recurses := true, loops := true, apart := false, narrowed := true }
def MatchArmsUptoSaid : Prop := matchArmsUptoRow.holds Tryz.pinned (OpenSpec.upto matchArmsSpec)

/-- 'ratchetlaw12.MatchTwo', WHERE WHAT IT READS IS OF BULK AT MOST 1048576: true; the input reads as it did. -/
def matchTwoUptoRow : OpenClaim := { program := "ytggemipepaajmaagreat", sum := "684863188c5b82a5394d7e541346d0a8225e5f0865d82b401aa6c694d0c0c103", func := "ratchet/ratchetlaw12.MatchTwo", spec := "matchTwo", unfollowed := true, recurses := true, loops := true, apart := false, narrowed := true }
def MatchTwoUptoSaid : Prop := matchTwoUptoRow.holds Tryz.pinned (OpenSpec.upto matchTwoSpec)

/-- 'ratchetlaw12.MatchValues', WHERE WHAT IT READS IS OF BULK AT MOST 1048576: true; the input reads as it did. -/
def matchValuesUptoRow : OpenClaim := { program := "ytggemipepaajmaagreat", sum := "684863188c5b82a5394d7e541346d0a8225e5f0865d82b401aa6c694d0c0c103", func := "ratchet/ratchetlaw12.MatchValues", spec := "matchValues", unfollowed := true, recurses := true, loops := true, apart := false, narrowed := true }
def MatchValuesUptoSaid : Prop := matchValuesUptoRow.holds Tryz.pinned (OpenSpec.upto matchValuesSpec)

/-- 'ratchetlaw12.MatchSame', WHERE WHAT IT READS IS OF BULK AT MOST 1048576: true; the input reads as it did. -/
def matchSameUptoRow : OpenClaim := { program := "ytggemipepaajmaagreat", sum := "684863188c5b82a5394d7e541346d0a8225e5f0865d82b401aa6c694d0c0c103", func := "ratchet/ratchetlaw12.MatchSame", spec := "matchSame", unfollowed := true, recurses := true, loops := true, apart := false, narrowed := true }
def MatchSameUptoSaid : Prop := matchSameUptoRow.holds Tryz.pinned (OpenSpec.upto matchSameSpec)

/-- 'ratchetlaw12.MatchChecks', WHERE WHAT IT READS IS OF BULK AT MOST 1048576: true; the input reads as it did. -/
def matchChecksUptoRow : OpenClaim := { program := "ytggemipepaajmaagreat", sum := "684863188c5b82a5394d7e541346d0a8225e5f0865d82b401aa6c694d0c0c103", func := "ratchet/ratchetlaw12.MatchChecks", spec := "matchChecks", unfollowed := true, recurses := true, loops := true, apart := false, narrowed := true }
def MatchChecksUptoSaid : Prop := matchChecksUptoRow.holds Tryz.pinned (OpenSpec.upto matchChecksSpec)

end Rows
end Go.Proofs.YtggemipepaajmaaGreat
