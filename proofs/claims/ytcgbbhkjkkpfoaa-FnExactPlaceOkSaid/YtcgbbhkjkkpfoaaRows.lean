/-
  No cell of these rows narrows 'for every input' (looked for: loops, veiled, ifaces, maps, wideKeys, modest, calm, conditions, laid).
  DERIVED. THE GIVEN ROWS OF THIS SEAT. 8 by the template 'for every input the law returns true; each argument reads behind the call as it read before'; 0 by the template 'total and deterministic' (their statements: YtcgbbhkjkkpfoaaTotals.lean).
  GIVEN WITH THE SEED: the statements are not yours to turn. If you find one false, say at which input.
  Laid BY PROGRAM, IN A SANDBOX (cutbox-rows.mjs): the forced cells as the released guide's own fill.sh prints them over the translation a485461a56fc3933… (all of the seat's roots in one cut). By AI agents, Wed Nov 11 2026. No macro, syntax, notation, axiom, sorry.
-/
import Derived.Test.YtcgbbhkjkkpfoaaChecked
import GoSem.Claim
import GoSem.ClaimJoined
import GoSem.ClaimMapViews
import Derived.JoinedTies
import Derived.KernelRfl
namespace Go.Proofs.Ytcgbbhkjkkpfoaa
/- THE CELL 'sum', in the pinned program and in every row, IS THE sha256 OF THE DUMP (.gsa) THAT YtcgbbhkjkkpfoaaProg.lean LOADS. Nothing in Lean hashes anything: it is a label: what it is worth is what the hold of that sum in a sandbox is worth. -/
noncomputable def Try.pinned : Pinned := { name := "ytcgbbhkjkkpfoaa", sum := "a485461a56fc39332c0e03f9f88c7841f3024306c2ad844e45c3fd08aad4a43a", checked := Try.checked }
namespace Rows
def none {H : Type} : Left H := { results := [], args := [] }

/-- 'laws.FnExactPathCount': WHATEVER THE INPUT: true; the input reads as it did. -/
def fnExactPathCountSpec : ChangeSpec := { name := "fnExactPathCount", fn := fun _ => fun
  | [d1, d2, d3, d4] => { results := [.lit (.bool true)], args := [d1, d2, d3, d4] }
  | _ => none }
def fnExactPathCountRow : OpenClaim := { program := "ytcgbbhkjkkpfoaa", sum := "a485461a56fc39332c0e03f9f88c7841f3024306c2ad844e45c3fd08aad4a43a", func := "loop.example/causey/laws.FnExactPathCount", spec := "fnExactPathCount", unfollowed := true, recurses := true, apart := false }
def FnExactPathCountSaid : Prop := fnExactPathCountRow.holds Try.pinned (OpenSpec.ofChange fnExactPathCountSpec)

/-- ITS FALSE NEIGHBOUR: 'it returns false'. Refute it at one input. -/
def fnExactPathCountWrong : ChangeSpec := { name := "fnExactPathCount", fn := fun _ => fun
  | [d1, d2, d3, d4] => { results := [.lit (.bool false)], args := [d1, d2, d3, d4] }
  | _ => none }
def FnExactPathCountWrongFalsely : Prop := fnExactPathCountRow.holds Try.pinned (OpenSpec.ofChange fnExactPathCountWrong)

/-- 'laws.FnExactPlaceLive': WHATEVER THE INPUT: true; the input reads as it did. -/
def fnExactPlaceLiveSpec : ChangeSpec := { name := "fnExactPlaceLive", fn := fun _ => fun
  | [d1, d2, d3] => { results := [.lit (.bool true)], args := [d1, d2, d3] }
  | _ => none }
def fnExactPlaceLiveRow : OpenClaim := { program := "ytcgbbhkjkkpfoaa", sum := "a485461a56fc39332c0e03f9f88c7841f3024306c2ad844e45c3fd08aad4a43a", func := "loop.example/causey/laws.FnExactPlaceLive", spec := "fnExactPlaceLive", unfollowed := true, recurses := true, apart := false }
def FnExactPlaceLiveSaid : Prop := fnExactPlaceLiveRow.holds Try.pinned (OpenSpec.ofChange fnExactPlaceLiveSpec)

/-- ITS FALSE NEIGHBOUR: 'it returns false'. Refute it at one input. -/
def fnExactPlaceLiveWrong : ChangeSpec := { name := "fnExactPlaceLive", fn := fun _ => fun
  | [d1, d2, d3] => { results := [.lit (.bool false)], args := [d1, d2, d3] }
  | _ => none }
def FnExactPlaceLiveWrongFalsely : Prop := fnExactPlaceLiveRow.holds Try.pinned (OpenSpec.ofChange fnExactPlaceLiveWrong)

/-- 'laws.FnExactPlaceOk': WHATEVER THE INPUT: true; the input reads as it did. -/
def fnExactPlaceOkSpec : ChangeSpec := { name := "fnExactPlaceOk", fn := fun _ => fun
  | [d1, d2, d3] => { results := [.lit (.bool true)], args := [d1, d2, d3] }
  | _ => none }
def fnExactPlaceOkRow : OpenClaim := { program := "ytcgbbhkjkkpfoaa", sum := "a485461a56fc39332c0e03f9f88c7841f3024306c2ad844e45c3fd08aad4a43a", func := "loop.example/causey/laws.FnExactPlaceOk", spec := "fnExactPlaceOk", unfollowed := true, recurses := true, apart := false }
def FnExactPlaceOkSaid : Prop := fnExactPlaceOkRow.holds Try.pinned (OpenSpec.ofChange fnExactPlaceOkSpec)

/-- ITS FALSE NEIGHBOUR: 'it returns false'. Refute it at one input. -/
def fnExactPlaceOkWrong : ChangeSpec := { name := "fnExactPlaceOk", fn := fun _ => fun
  | [d1, d2, d3] => { results := [.lit (.bool false)], args := [d1, d2, d3] }
  | _ => none }
def FnExactPlaceOkWrongFalsely : Prop := fnExactPlaceOkRow.holds Try.pinned (OpenSpec.ofChange fnExactPlaceOkWrong)

/-- 'laws.FnExactPathBest': WHATEVER THE INPUT: true; the input reads as it did. -/
def fnExactPathBestSpec : ChangeSpec := { name := "fnExactPathBest", fn := fun _ => fun
  | [d1, d2, d3] => { results := [.lit (.bool true)], args := [d1, d2, d3] }
  | _ => none }
def fnExactPathBestRow : OpenClaim := { program := "ytcgbbhkjkkpfoaa", sum := "a485461a56fc39332c0e03f9f88c7841f3024306c2ad844e45c3fd08aad4a43a", func := "loop.example/causey/laws.FnExactPathBest", spec := "fnExactPathBest", unfollowed := true, recurses := true, apart := false }
def FnExactPathBestSaid : Prop := fnExactPathBestRow.holds Try.pinned (OpenSpec.ofChange fnExactPathBestSpec)

/-- ITS FALSE NEIGHBOUR: 'it returns false'. Refute it at one input. -/
def fnExactPathBestWrong : ChangeSpec := { name := "fnExactPathBest", fn := fun _ => fun
  | [d1, d2, d3] => { results := [.lit (.bool false)], args := [d1, d2, d3] }
  | _ => none }
def FnExactPathBestWrongFalsely : Prop := fnExactPathBestRow.holds Try.pinned (OpenSpec.ofChange fnExactPathBestWrong)

/-- 'laws.FnExactPlaceBusy': WHATEVER THE INPUT: true; the input reads as it did. -/
def fnExactPlaceBusySpec : ChangeSpec := { name := "fnExactPlaceBusy", fn := fun _ => fun
  | [d1, d2] => { results := [.lit (.bool true)], args := [d1, d2] }
  | _ => none }
def fnExactPlaceBusyRow : OpenClaim := { program := "ytcgbbhkjkkpfoaa", sum := "a485461a56fc39332c0e03f9f88c7841f3024306c2ad844e45c3fd08aad4a43a", func := "loop.example/causey/laws.FnExactPlaceBusy", spec := "fnExactPlaceBusy", unfollowed := true, recurses := true, apart := false }
def FnExactPlaceBusySaid : Prop := fnExactPlaceBusyRow.holds Try.pinned (OpenSpec.ofChange fnExactPlaceBusySpec)

/-- ITS FALSE NEIGHBOUR: 'it returns false'. Refute it at one input. -/
def fnExactPlaceBusyWrong : ChangeSpec := { name := "fnExactPlaceBusy", fn := fun _ => fun
  | [d1, d2] => { results := [.lit (.bool false)], args := [d1, d2] }
  | _ => none }
def FnExactPlaceBusyWrongFalsely : Prop := fnExactPlaceBusyRow.holds Try.pinned (OpenSpec.ofChange fnExactPlaceBusyWrong)

/-- 'laws.FnExactSafeLate': WHATEVER THE INPUT: true; the input reads as it did. -/
def fnExactSafeLateSpec : ChangeSpec := { name := "fnExactSafeLate", fn := fun _ => fun
  | [d1, d2] => { results := [.lit (.bool true)], args := [d1, d2] }
  | _ => none }
def fnExactSafeLateRow : OpenClaim := { program := "ytcgbbhkjkkpfoaa", sum := "a485461a56fc39332c0e03f9f88c7841f3024306c2ad844e45c3fd08aad4a43a", func := "loop.example/causey/laws.FnExactSafeLate", spec := "fnExactSafeLate", unfollowed := true, recurses := true, apart := false }
def FnExactSafeLateSaid : Prop := fnExactSafeLateRow.holds Try.pinned (OpenSpec.ofChange fnExactSafeLateSpec)

/-- ITS FALSE NEIGHBOUR: 'it returns false'. Refute it at one input. -/
def fnExactSafeLateWrong : ChangeSpec := { name := "fnExactSafeLate", fn := fun _ => fun
  | [d1, d2] => { results := [.lit (.bool false)], args := [d1, d2] }
  | _ => none }
def FnExactSafeLateWrongFalsely : Prop := fnExactSafeLateRow.holds Try.pinned (OpenSpec.ofChange fnExactSafeLateWrong)

/-- 'laws.FnExactSafeAlone': WHATEVER THE INPUT: true; the input reads as it did. -/
def fnExactSafeAloneSpec : ChangeSpec := { name := "fnExactSafeAlone", fn := fun _ => fun
  | [d1, d2] => { results := [.lit (.bool true)], args := [d1, d2] }
  | _ => none }
def fnExactSafeAloneRow : OpenClaim := { program := "ytcgbbhkjkkpfoaa", sum := "a485461a56fc39332c0e03f9f88c7841f3024306c2ad844e45c3fd08aad4a43a", func := "loop.example/causey/laws.FnExactSafeAlone", spec := "fnExactSafeAlone", unfollowed := true, recurses := true, apart := false }
def FnExactSafeAloneSaid : Prop := fnExactSafeAloneRow.holds Try.pinned (OpenSpec.ofChange fnExactSafeAloneSpec)

/-- ITS FALSE NEIGHBOUR: 'it returns false'. Refute it at one input. -/
def fnExactSafeAloneWrong : ChangeSpec := { name := "fnExactSafeAlone", fn := fun _ => fun
  | [d1, d2] => { results := [.lit (.bool false)], args := [d1, d2] }
  | _ => none }
def FnExactSafeAloneWrongFalsely : Prop := fnExactSafeAloneRow.holds Try.pinned (OpenSpec.ofChange fnExactSafeAloneWrong)

/-- 'laws.FnExactPlaceLazy': WHATEVER THE INPUT: true; the input reads as it did. -/
def fnExactPlaceLazySpec : ChangeSpec := { name := "fnExactPlaceLazy", fn := fun _ => fun
  | [d1, d2] => { results := [.lit (.bool true)], args := [d1, d2] }
  | _ => none }
def fnExactPlaceLazyRow : OpenClaim := { program := "ytcgbbhkjkkpfoaa", sum := "a485461a56fc39332c0e03f9f88c7841f3024306c2ad844e45c3fd08aad4a43a", func := "loop.example/causey/laws.FnExactPlaceLazy", spec := "fnExactPlaceLazy", unfollowed := true, recurses := true, apart := false }
def FnExactPlaceLazySaid : Prop := fnExactPlaceLazyRow.holds Try.pinned (OpenSpec.ofChange fnExactPlaceLazySpec)

/-- ITS FALSE NEIGHBOUR: 'it returns false'. Refute it at one input. -/
def fnExactPlaceLazyWrong : ChangeSpec := { name := "fnExactPlaceLazy", fn := fun _ => fun
  | [d1, d2] => { results := [.lit (.bool false)], args := [d1, d2] }
  | _ => none }
def FnExactPlaceLazyWrongFalsely : Prop := fnExactPlaceLazyRow.holds Try.pinned (OpenSpec.ofChange fnExactPlaceLazyWrong)

/- THE SECOND FORM. 'bulk': how many values and letters a reading holds, each counted each time it is reached (what is shared counts as often as it is met; a slice's spare places count too). A statement '..UptoSaid' is the law's where the arguments, and the package variables that the reading takes, are together of bulk at most 1048576: NARROWER than '..Said'. Prove '..Said' where nothing that the law and all that it calls make is longer than what came in: it says more and counts as full. Else prove '..UptoSaid'. A law counts once. -/
mutual
def uptoBulk {H : Type} : DataW H → Nat
  | .lit (.string bytes) => bytes.length + 1
  | .lit _ => 1
  | .nil => 1
  | .ptr d => uptoBulk d + 1
  | .slice elems spare => uptoBulkAll elems + uptoBulkAll spare + 1
  | .agg parts => uptoBulkAll parts + 1
  | .iface _ d => uptoBulk d + 1
  | .map entries => uptoBulkEntries entries + 1
  | .held _ => 1
def uptoBulkAll {H : Type} : List (DataW H) → Nat
  | [] => 0
  | d :: r => uptoBulk d + uptoBulkAll r
def uptoBulkEntries {H : Type} : List (Lit × DataW H) → Nat
  | [] => 0
  | x :: r => uptoBulkEntry x + uptoBulkEntries r
def uptoBulkEntry {H : Type} : Lit × DataW H → Nat
  | (.string bytes, d) => bytes.length + uptoBulk d + 1
  | (_, d) => uptoBulk d + 1
 end
def uptoSmall : (H : Type) → List (DataW H) → Bool := fun _ ds => decide (uptoBulkAll ds ≤ 1048576)
def OpenSpec.upto (s : _root_.Go.ChangeSpec) : _root_.Go.OpenSpec := { _root_.Go.OpenSpec.ofChange s with cond := some uptoSmall }

/-- 'laws.FnExactPathCount', WHERE WHAT IT READS IS OF BULK AT MOST 1048576: true; the input reads as it did. -/
def fnExactPathCountUptoRow : OpenClaim := { program := "ytcgbbhkjkkpfoaa", sum := "a485461a56fc39332c0e03f9f88c7841f3024306c2ad844e45c3fd08aad4a43a", func := "loop.example/causey/laws.FnExactPathCount", spec := "fnExactPathCount", unfollowed := true, recurses := true, apart := false, narrowed := true }
def FnExactPathCountUptoSaid : Prop := fnExactPathCountUptoRow.holds Try.pinned (OpenSpec.upto fnExactPathCountSpec)

/-- 'laws.FnExactPlaceLive', WHERE WHAT IT READS IS OF BULK AT MOST 1048576: true; the input reads as it did. -/
def fnExactPlaceLiveUptoRow : OpenClaim := { program := "ytcgbbhkjkkpfoaa", sum := "a485461a56fc39332c0e03f9f88c7841f3024306c2ad844e45c3fd08aad4a43a", func := "loop.example/causey/laws.FnExactPlaceLive", spec := "fnExactPlaceLive", unfollowed := true, recurses := true, apart := false, narrowed := true }
def FnExactPlaceLiveUptoSaid : Prop := fnExactPlaceLiveUptoRow.holds Try.pinned (OpenSpec.upto fnExactPlaceLiveSpec)

/-- 'laws.FnExactPlaceOk', WHERE WHAT IT READS IS OF BULK AT MOST 1048576: true; the input reads as it did. -/
def fnExactPlaceOkUptoRow : OpenClaim := { program := "ytcgbbhkjkkpfoaa", sum := "a485461a56fc39332c0e03f9f88c7841f3024306c2ad844e45c3fd08aad4a43a", func := "loop.example/causey/laws.FnExactPlaceOk", spec := "fnExactPlaceOk", unfollowed := true, recurses := true, apart := false, narrowed := true }
def FnExactPlaceOkUptoSaid : Prop := fnExactPlaceOkUptoRow.holds Try.pinned (OpenSpec.upto fnExactPlaceOkSpec)

/-- 'laws.FnExactPathBest', WHERE WHAT IT READS IS OF BULK AT MOST 1048576: true; the input reads as it did. -/
def fnExactPathBestUptoRow : OpenClaim := { program := "ytcgbbhkjkkpfoaa", sum := "a485461a56fc39332c0e03f9f88c7841f3024306c2ad844e45c3fd08aad4a43a", func := "loop.example/causey/laws.FnExactPathBest", spec := "fnExactPathBest", unfollowed := true, recurses := true, apart := false, narrowed := true }
def FnExactPathBestUptoSaid : Prop := fnExactPathBestUptoRow.holds Try.pinned (OpenSpec.upto fnExactPathBestSpec)

/-- 'laws.FnExactPlaceBusy', WHERE WHAT IT READS IS OF BULK AT MOST 1048576: true; the input reads as it did. -/
def fnExactPlaceBusyUptoRow : OpenClaim := { program := "ytcgbbhkjkkpfoaa", sum := "a485461a56fc39332c0e03f9f88c7841f3024306c2ad844e45c3fd08aad4a43a", func := "loop.example/causey/laws.FnExactPlaceBusy", spec := "fnExactPlaceBusy", unfollowed := true, recurses := true, apart := false, narrowed := true }
def FnExactPlaceBusyUptoSaid : Prop := fnExactPlaceBusyUptoRow.holds Try.pinned (OpenSpec.upto fnExactPlaceBusySpec)

/-- 'laws.FnExactSafeLate', WHERE WHAT IT READS IS OF BULK AT MOST 1048576: true; the input reads as it did. -/
def fnExactSafeLateUptoRow : OpenClaim := { program := "ytcgbbhkjkkpfoaa", sum := "a485461a56fc39332c0e03f9f88c7841f3024306c2ad844e45c3fd08aad4a43a", func := "loop.example/causey/laws.FnExactSafeLate", spec := "fnExactSafeLate", unfollowed := true, recurses := true, apart := false, narrowed := true }
def FnExactSafeLateUptoSaid : Prop := fnExactSafeLateUptoRow.holds Try.pinned (OpenSpec.upto fnExactSafeLateSpec)

/-- 'laws.FnExactSafeAlone', WHERE WHAT IT READS IS OF BULK AT MOST 1048576: true; the input reads as it did. -/
def fnExactSafeAloneUptoRow : OpenClaim := { program := "ytcgbbhkjkkpfoaa", sum := "a485461a56fc39332c0e03f9f88c7841f3024306c2ad844e45c3fd08aad4a43a", func := "loop.example/causey/laws.FnExactSafeAlone", spec := "fnExactSafeAlone", unfollowed := true, recurses := true, apart := false, narrowed := true }
def FnExactSafeAloneUptoSaid : Prop := fnExactSafeAloneUptoRow.holds Try.pinned (OpenSpec.upto fnExactSafeAloneSpec)

/-- 'laws.FnExactPlaceLazy', WHERE WHAT IT READS IS OF BULK AT MOST 1048576: true; the input reads as it did. -/
def fnExactPlaceLazyUptoRow : OpenClaim := { program := "ytcgbbhkjkkpfoaa", sum := "a485461a56fc39332c0e03f9f88c7841f3024306c2ad844e45c3fd08aad4a43a", func := "loop.example/causey/laws.FnExactPlaceLazy", spec := "fnExactPlaceLazy", unfollowed := true, recurses := true, apart := false, narrowed := true }
def FnExactPlaceLazyUptoSaid : Prop := fnExactPlaceLazyUptoRow.holds Try.pinned (OpenSpec.upto fnExactPlaceLazySpec)

end Rows
end Go.Proofs.Ytcgbbhkjkkpfoaa
