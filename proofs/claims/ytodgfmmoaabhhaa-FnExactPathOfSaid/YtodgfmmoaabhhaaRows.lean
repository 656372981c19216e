/-
  No cell of these rows narrows 'for every input' (looked for: loops, veiled, ifaces, maps, wideKeys, modest, calm, conditions, laid).
  DERIVED. THE GIVEN ROWS OF THIS SEAT. 4 by the template 'for every input the law returns true; each argument reads behind the call as it read before'; 0 by the template 'total and deterministic' (their statements: YtodgfmmoaabhhaaTotals.lean).
  GIVEN WITH THE SEED: the statements are not yours to turn. If you find one false, say at which input.
  Laid BY PROGRAM, IN A SANDBOX (cutbox-rows.mjs): the forced cells as the released guide's own fill.sh prints them over the translation 406c8d197bea629e… (all of the seat's roots in one cut). By AI agents, Wed Nov 11 2026. No macro, syntax, notation, axiom, sorry.
-/
import Derived.Test.YtodgfmmoaabhhaaChecked
import GoSem.Claim
import GoSem.ClaimJoined
import GoSem.ClaimMapViews
import Derived.JoinedTies
import Derived.KernelRfl
namespace Go.Proofs.Ytodgfmmoaabhhaa
/- THE CELL 'sum', in the pinned program and in every row, IS THE sha256 OF THE DUMP (.gsa) THAT YtodgfmmoaabhhaaProg.lean LOADS. Nothing in Lean hashes anything: it is a label: what it is worth is what the hold of that sum in a sandbox is worth. -/
noncomputable def Try.pinned : Pinned := { name := "ytodgfmmoaabhhaa", sum := "406c8d197bea629e4c4d2e8ee871bb7190abc86631d7375da91ddec436256b5a", checked := Try.checked }
namespace Rows
def none {H : Type} : Left H := { results := [], args := [] }

/-- 'laws.FnExactPathOk': WHATEVER THE INPUT: true; the input reads as it did. -/
def fnExactPathOkSpec : ChangeSpec := { name := "fnExactPathOk", fn := fun _ => fun
  | [d1, d2] => { results := [.lit (.bool true)], args := [d1, d2] }
  | _ => none }
def fnExactPathOkRow : OpenClaim := { program := "ytodgfmmoaabhhaa", sum := "406c8d197bea629e4c4d2e8ee871bb7190abc86631d7375da91ddec436256b5a", func := "loop.example/causey/laws.FnExactPathOk", spec := "fnExactPathOk", unfollowed := true, recurses := true, apart := false }
def FnExactPathOkSaid : Prop := fnExactPathOkRow.holds Try.pinned (OpenSpec.ofChange fnExactPathOkSpec)

/-- ITS FALSE NEIGHBOUR: 'it returns false'. Refute it at one input. -/
def fnExactPathOkWrong : ChangeSpec := { name := "fnExactPathOk", fn := fun _ => fun
  | [d1, d2] => { results := [.lit (.bool false)], args := [d1, d2] }
  | _ => none }
def FnExactPathOkWrongFalsely : Prop := fnExactPathOkRow.holds Try.pinned (OpenSpec.ofChange fnExactPathOkWrong)

/-- 'laws.FnExactPlaceNone': WHATEVER THE INPUT: true; the input reads as it did. -/
def fnExactPlaceNoneSpec : ChangeSpec := { name := "fnExactPlaceNone", fn := fun _ => fun
  | [d1, d2] => { results := [.lit (.bool true)], args := [d1, d2] }
  | _ => none }
def fnExactPlaceNoneRow : OpenClaim := { program := "ytodgfmmoaabhhaa", sum := "406c8d197bea629e4c4d2e8ee871bb7190abc86631d7375da91ddec436256b5a", func := "loop.example/causey/laws.FnExactPlaceNone", spec := "fnExactPlaceNone", unfollowed := true, recurses := true, apart := false }
def FnExactPlaceNoneSaid : Prop := fnExactPlaceNoneRow.holds Try.pinned (OpenSpec.ofChange fnExactPlaceNoneSpec)

/-- ITS FALSE NEIGHBOUR: 'it returns false'. Refute it at one input. -/
def fnExactPlaceNoneWrong : ChangeSpec := { name := "fnExactPlaceNone", fn := fun _ => fun
  | [d1, d2] => { results := [.lit (.bool false)], args := [d1, d2] }
  | _ => none }
def FnExactPlaceNoneWrongFalsely : Prop := fnExactPlaceNoneRow.holds Try.pinned (OpenSpec.ofChange fnExactPlaceNoneWrong)

/-- 'laws.FnExactPathOf': WHATEVER THE INPUT: true; the input reads as it did. -/
def fnExactPathOfSpec : ChangeSpec := { name := "fnExactPathOf", fn := fun _ => fun
  | [d1, d2] => { results := [.lit (.bool true)], args := [d1, d2] }
  | _ => none }
def fnExactPathOfRow : OpenClaim := { program := "ytodgfmmoaabhhaa", sum := "406c8d197bea629e4c4d2e8ee871bb7190abc86631d7375da91ddec436256b5a", func := "loop.example/causey/laws.FnExactPathOf", spec := "fnExactPathOf", unfollowed := true, recurses := true, apart := false }
def FnExactPathOfSaid : Prop := fnExactPathOfRow.holds Try.pinned (OpenSpec.ofChange fnExactPathOfSpec)

/-- ITS FALSE NEIGHBOUR: 'it returns false'. Refute it at one input. -/
def fnExactPathOfWrong : ChangeSpec := { name := "fnExactPathOf", fn := fun _ => fun
  | [d1, d2] => { results := [.lit (.bool false)], args := [d1, d2] }
  | _ => none }
def FnExactPathOfWrongFalsely : Prop := fnExactPathOfRow.holds Try.pinned (OpenSpec.ofChange fnExactPathOfWrong)

/-- 'laws.FnExactLiveOf': WHATEVER THE INPUT: true; the input reads as it did. -/
def fnExactLiveOfSpec : ChangeSpec := { name := "fnExactLiveOf", fn := fun _ => fun
  | [d] => { results := [.lit (.bool true)], args := [d] }
  | _ => none }
def fnExactLiveOfRow : OpenClaim := { program := "ytodgfmmoaabhhaa", sum := "406c8d197bea629e4c4d2e8ee871bb7190abc86631d7375da91ddec436256b5a", func := "loop.example/causey/laws.FnExactLiveOf", spec := "fnExactLiveOf", unfollowed := true, recurses := true, apart := false }
def FnExactLiveOfSaid : Prop := fnExactLiveOfRow.holds Try.pinned (OpenSpec.ofChange fnExactLiveOfSpec)

/-- ITS FALSE NEIGHBOUR: 'it returns false'. Refute it at one input. -/
def fnExactLiveOfWrong : ChangeSpec := { name := "fnExactLiveOf", fn := fun _ => fun
  | [d] => { results := [.lit (.bool false)], args := [d] }
  | _ => none }
def FnExactLiveOfWrongFalsely : Prop := fnExactLiveOfRow.holds Try.pinned (OpenSpec.ofChange fnExactLiveOfWrong)

/- THE SECOND FORM. 'bulk': how many values and letters a reading holds, each counted each time it is reached (what is shared counts as often as it is met; a slice's spare places count too). A statement '..UptoSaid' is the law's where the arguments, and the package variables that the reading takes, are together of bulk at most 1048576: NARROWER than '..Said'. Prove '..Said' where nothing that the law and all that it calls make is longer than what came in: it says more and counts as full. Else prove '..UptoSaid'. A law counts once. -/
mutual
def uptoBulk {H : Type} : DataW H → Nat
  | .lit (.string bytes) => bytes.length + 1
  | .lit _ => 1
  | .nil => 1
  | .ptr d => uptoBulk d + 1
  | .slice elems spare => uptoBulkAll elems + uptoBulkAll spare + 1
  | .agg parts => uptoBulkAll parts + 1
  | .iface _ d => uptoBulk d + 1
  | .map entries => uptoBulkEntries entries + 1
  | .held _ => 1
def uptoBulkAll {H : Type} : List (DataW H) → Nat
  | [] => 0
  | d :: r => uptoBulk d + uptoBulkAll r
def uptoBulkEntries {H : Type} : List (Lit × DataW H) → Nat
  | [] => 0
  | x :: r => uptoBulkEntry x + uptoBulkEntries r
def uptoBulkEntry {H : Type} : Lit × DataW H → Nat
  | (.string bytes, d) => bytes.length + uptoBulk d + 1
  | (_, d) => uptoBulk d + 1
 end
def uptoSmall : (H : Type) → List (DataW H) → Bool := fun _ ds => decide (uptoBulkAll ds ≤ 1048576)
def OpenSpec.upto (s : _root_.Go.ChangeSpec) : _root_.Go.OpenSpec := { _root_.Go.OpenSpec.ofChange s with cond := some uptoSmall }

/-- 'laws.FnExactPathOk', WHERE WHAT IT READS IS OF BULK AT MOST 1048576: true; the input reads as it did. -/
def fnExactPathOkUptoRow : OpenClaim := { program := "ytodgfmmoaabhhaa", sum := "406c8d197bea629e4c4d2e8ee871bb7190abc86631d7375da91ddec436256b5a", func := "loop.example/causey/laws.FnExactPathOk", spec := "fnExactPathOk", unfollowed := true, recurses := true, apart := false, narrowed := true }
def FnExactPathOkUptoSaid : Prop := fnExactPathOkUptoRow.holds Try.pinned (OpenSpec.upto fnExactPathOkSpec)

/-- 'laws.FnExactPlaceNone', WHERE WHAT IT READS IS OF BULK AT MOST 1048576: true; the input reads as it did. -/
def fnExactPlaceNoneUptoRow : OpenClaim := { program := "ytodgfmmoaabhhaa", sum := "406c8d197bea629e4c4d2e8ee871bb7190abc86631d7375da91ddec436256b5a", func := "loop.example/causey/laws.FnExactPlaceNone", spec := "fnExactPlaceNone", unfollowed := true, recurses := true, apart := false, narrowed := true }
def FnExactPlaceNoneUptoSaid : Prop := fnExactPlaceNoneUptoRow.holds Try.pinned (OpenSpec.upto fnExactPlaceNoneSpec)

/-- 'laws.FnExactPathOf', WHERE WHAT IT READS IS OF BULK AT MOST 1048576: true; the input reads as it did. -/
def fnExactPathOfUptoRow : OpenClaim := { program := "ytodgfmmoaabhhaa", sum := "406c8d197bea629e4c4d2e8ee871bb7190abc86631d7375da91ddec436256b5a", func := "loop.example/causey/laws.FnExactPathOf", spec := "fnExactPathOf", unfollowed := true, recurses := true, apart := false, narrowed := true }
def FnExactPathOfUptoSaid : Prop := fnExactPathOfUptoRow.holds Try.pinned (OpenSpec.upto fnExactPathOfSpec)

/-- 'laws.FnExactLiveOf', WHERE WHAT IT READS IS OF BULK AT MOST 1048576: true; the input reads as it did. -/
def fnExactLiveOfUptoRow : OpenClaim := { program := "ytodgfmmoaabhhaa", sum := "406c8d197bea629e4c4d2e8ee871bb7190abc86631d7375da91ddec436256b5a", func := "loop.example/causey/laws.FnExactLiveOf", spec := "fnExactLiveOf", unfollowed := true, recurses := true, apart := false, narrowed := true }
def FnExactLiveOfUptoSaid : Prop := fnExactLiveOfUptoRow.holds Try.pinned (OpenSpec.upto fnExactLiveOfSpec)

end Rows
end Go.Proofs.Ytodgfmmoaabhhaa
