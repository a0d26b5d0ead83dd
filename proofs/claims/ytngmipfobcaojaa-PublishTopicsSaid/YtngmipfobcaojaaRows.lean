/-
  No cell of these rows narrows 'for every input' (looked for: loops, veiled, ifaces, maps, wideKeys, modest, calm, conditions, laid).
  DERIVED. THE GIVEN ROWS OF THIS SEAT. 8 by the template 'for every input the law returns true; each argument reads behind the call as it read before'; 0 by the template 'total and deterministic' (their statements: YtngmipfobcaojaaTotals.lean).
  GIVEN WITH THE SEED: the statements are not yours to turn. If you find one false, say at which input.
  Laid BY PROGRAM, IN A SANDBOX (cutbox-rows.mjs): the forced cells as the released guide's own fill.sh prints them over the translation 77b7fd9b60f16040… (all of the seat's roots in one cut). By AI agents, Wed Nov 11 2026. No macro, syntax, notation, axiom, sorry.
-/
import Derived.Test.YtngmipfobcaojaaChecked
import GoSem.Claim
import GoSem.ClaimJoined
import GoSem.ClaimMapViews
import Derived.JoinedTies
import Derived.KernelRfl
namespace Go.Proofs.Ytngmipfobcaojaa
/- THE CELL 'sum', in the pinned program and in every row, IS THE sha256 OF THE DUMP (.gsa) THAT YtngmipfobcaojaaProg.lean LOADS. Nothing in Lean hashes anything: it is a label: what it is worth is what the hold of that sum in a sandbox is worth. -/
noncomputable def Try.pinned : Pinned := { name := "ytngmipfobcaojaa", sum := "77b7fd9b60f16040a3ef365f0ec34f2ffb6994272c46a7d58fe2bb830e5c1e00", checked := Try.checked }
namespace Rows
def none {H : Type} : Left H := { results := [], args := [] }

/-- 'polyglotlaw05.PropTexts': WHATEVER THE INPUT: true; the input reads as it did. -/
def propTextsSpec : ChangeSpec := { name := "propTexts", fn := fun _ => fun
  | [d1, d2] => { results := [.lit (.bool true)], args := [d1, d2] }
  | _ => none }
def propTextsRow : OpenClaim := { program := "ytngmipfobcaojaa", sum := "77b7fd9b60f16040a3ef365f0ec34f2ffb6994272c46a7d58fe2bb830e5c1e00", func := "polyglot/polyglotlaw05.PropTexts", spec := "propTexts", inPlace := ["internal/bytealg.IndexByteString", "internal/bytealg.IndexString"], named := ["internal/bytealg.MaxLen"], apart := false }
def PropTextsSaid : Prop := propTextsRow.holds Try.pinned (OpenSpec.ofChange propTextsSpec)

/-- ITS FALSE NEIGHBOUR: 'it returns false'. Refute it at one input. -/
def propTextsWrong : ChangeSpec := { name := "propTexts", fn := fun _ => fun
  | [d1, d2] => { results := [.lit (.bool false)], args := [d1, d2] }
  | _ => none }
def PropTextsWrongFalsely : Prop := propTextsRow.holds Try.pinned (OpenSpec.ofChange propTextsWrong)

/-- 'polyglotlaw05.PropTurns': WHATEVER THE INPUT: true; the input reads as it did. -/
def propTurnsSpec : ChangeSpec := { name := "propTurns", fn := fun _ => fun
  | [d1, d2, d3] => { results := [.lit (.bool true)], args := [d1, d2, d3] }
  | _ => none }
def propTurnsRow : OpenClaim := { program := "ytngmipfobcaojaa", sum := "77b7fd9b60f16040a3ef365f0ec34f2ffb6994272c46a7d58fe2bb830e5c1e00", func := "polyglot/polyglotlaw05.PropTurns", spec := "propTurns", inPlace := ["internal/bytealg.IndexByteString", "internal/bytealg.IndexString"], named := ["internal/bytealg.MaxLen"], apart := false }
def PropTurnsSaid : Prop := propTurnsRow.holds Try.pinned (OpenSpec.ofChange propTurnsSpec)

/-- ITS FALSE NEIGHBOUR: 'it returns false'. Refute it at one input. -/
def propTurnsWrong : ChangeSpec := { name := "propTurns", fn := fun _ => fun
  | [d1, d2, d3] => { results := [.lit (.bool false)], args := [d1, d2, d3] }
  | _ => none }
def PropTurnsWrongFalsely : Prop := propTurnsRow.holds Try.pinned (OpenSpec.ofChange propTurnsWrong)

/-- 'polyglotlaw05.PropHalves': WHATEVER THE INPUT: true; the input reads as it did. -/
def propHalvesSpec : ChangeSpec := { name := "propHalves", fn := fun _ => fun
  | [d1, d2, d3] => { results := [.lit (.bool true)], args := [d1, d2, d3] }
  | _ => none }
def propHalvesRow : OpenClaim := { program := "ytngmipfobcaojaa", sum := "77b7fd9b60f16040a3ef365f0ec34f2ffb6994272c46a7d58fe2bb830e5c1e00", func := "polyglot/polyglotlaw05.PropHalves", spec := "propHalves", inPlace := ["internal/bytealg.IndexByteString", "internal/bytealg.IndexString"], named := ["internal/bytealg.MaxLen"], apart := false }
def PropHalvesSaid : Prop := propHalvesRow.holds Try.pinned (OpenSpec.ofChange propHalvesSpec)

/-- ITS FALSE NEIGHBOUR: 'it returns false'. Refute it at one input. -/
def propHalvesWrong : ChangeSpec := { name := "propHalves", fn := fun _ => fun
  | [d1, d2, d3] => { results := [.lit (.bool false)], args := [d1, d2, d3] }
  | _ => none }
def PropHalvesWrongFalsely : Prop := propHalvesRow.holds Try.pinned (OpenSpec.ofChange propHalvesWrong)

/-- 'polyglotlaw09.PublishTopics': WHATEVER THE INPUT: true; the input reads as it did. -/
def publishTopicsSpec : ChangeSpec := { name := "publishTopics", fn := fun _ => fun
  | [d1, d2, d3] => { results := [.lit (.bool true)], args := [d1, d2, d3] }
  | _ => none }
def publishTopicsRow : OpenClaim := { program := "ytngmipfobcaojaa", sum := "77b7fd9b60f16040a3ef365f0ec34f2ffb6994272c46a7d58fe2bb830e5c1e00", func := "polyglot/polyglotlaw09.PublishTopics", spec := "publishTopics", inPlace := ["internal/bytealg.IndexByteString", "internal/bytealg.IndexString"], unfollowed := true, recurses := true, named := ["internal/bytealg.MaxLen"], apart := false }
def PublishTopicsSaid : Prop := publishTopicsRow.holds Try.pinned (OpenSpec.ofChange publishTopicsSpec)

/-- ITS FALSE NEIGHBOUR: 'it returns false'. Refute it at one input. -/
def publishTopicsWrong : ChangeSpec := { name := "publishTopics", fn := fun _ => fun
  | [d1, d2, d3] => { results := [.lit (.bool false)], args := [d1, d2, d3] }
  | _ => none }
def PublishTopicsWrongFalsely : Prop := publishTopicsRow.holds Try.pinned (OpenSpec.ofChange publishTopicsWrong)

/-- 'polyglotlaw09.PublishIDs': WHATEVER THE INPUT: true; the input reads as it did. -/
def publishIDsSpec : ChangeSpec := { name := "publishIDs", fn := fun _ => fun
  | [d1, d2, d3, d4] => { results := [.lit (.bool true)], args := [d1, d2, d3, d4] }
  | _ => none }
def publishIDsRow : OpenClaim := { program := "ytngmipfobcaojaa", sum := "77b7fd9b60f16040a3ef365f0ec34f2ffb6994272c46a7d58fe2bb830e5c1e00", func := "polyglot/polyglotlaw09.PublishIDs", spec := "publishIDs", inPlace := ["internal/bytealg.IndexByteString", "internal/bytealg.IndexString"], unfollowed := true, recurses := true, named := ["internal/bytealg.MaxLen"], apart := false }
def PublishIDsSaid : Prop := publishIDsRow.holds Try.pinned (OpenSpec.ofChange publishIDsSpec)

/-- ITS FALSE NEIGHBOUR: 'it returns false'. Refute it at one input. -/
def publishIDsWrong : ChangeSpec := { name := "publishIDs", fn := fun _ => fun
  | [d1, d2, d3, d4] => { results := [.lit (.bool false)], args := [d1, d2, d3, d4] }
  | _ => none }
def PublishIDsWrongFalsely : Prop := publishIDsRow.holds Try.pinned (OpenSpec.ofChange publishIDsWrong)

/-- 'polyglotlaw05.PropShort': WHATEVER THE INPUT: true; the input reads as it did. -/
def propShortSpec : ChangeSpec := { name := "propShort", fn := fun _ => fun
  | [d1, d2, d3] => { results := [.lit (.bool true)], args := [d1, d2, d3] }
  | _ => none }
def propShortRow : OpenClaim := { program := "ytngmipfobcaojaa", sum := "77b7fd9b60f16040a3ef365f0ec34f2ffb6994272c46a7d58fe2bb830e5c1e00", func := "polyglot/polyglotlaw05.PropShort", spec := "propShort", inPlace := ["internal/bytealg.IndexByteString", "internal/bytealg.IndexString"], unfollowed := true, recurses := true, named := ["internal/bytealg.MaxLen"], apart := false }
def PropShortSaid : Prop := propShortRow.holds Try.pinned (OpenSpec.ofChange propShortSpec)

/-- ITS FALSE NEIGHBOUR: 'it returns false'. Refute it at one input. -/
def propShortWrong : ChangeSpec := { name := "propShort", fn := fun _ => fun
  | [d1, d2, d3] => { results := [.lit (.bool false)], args := [d1, d2, d3] }
  | _ => none }
def PropShortWrongFalsely : Prop := propShortRow.holds Try.pinned (OpenSpec.ofChange propShortWrong)

/-- 'polyglotlaw05.PropBack': WHATEVER THE INPUT: true; the input reads as it did. -/
def propBackSpec : ChangeSpec := { name := "propBack", fn := fun _ => fun
  | [d1, d2, d3, d4] => { results := [.lit (.bool true)], args := [d1, d2, d3, d4] }
  | _ => none }
def propBackRow : OpenClaim := { program := "ytngmipfobcaojaa", sum := "77b7fd9b60f16040a3ef365f0ec34f2ffb6994272c46a7d58fe2bb830e5c1e00", func := "polyglot/polyglotlaw05.PropBack", spec := "propBack", inPlace := ["internal/bytealg.IndexByteString", "internal/bytealg.IndexString"], unfollowed := true, recurses := true, named := ["internal/bytealg.MaxLen"], apart := false }
def PropBackSaid : Prop := propBackRow.holds Try.pinned (OpenSpec.ofChange propBackSpec)

/-- ITS FALSE NEIGHBOUR: 'it returns false'. Refute it at one input. -/
def propBackWrong : ChangeSpec := { name := "propBack", fn := fun _ => fun
  | [d1, d2, d3, d4] => { results := [.lit (.bool false)], args := [d1, d2, d3, d4] }
  | _ => none }
def PropBackWrongFalsely : Prop := propBackRow.holds Try.pinned (OpenSpec.ofChange propBackWrong)

/-- 'polyglotlaw05.PropNames': WHATEVER THE INPUT: true; the input reads as it did. -/
def propNamesSpec : ChangeSpec := { name := "propNames", fn := fun _ => fun
  | [] => { results := [.lit (.bool true)], args := [] }
  | _ => none }
def propNamesRow : OpenClaim := { program := "ytngmipfobcaojaa", sum := "77b7fd9b60f16040a3ef365f0ec34f2ffb6994272c46a7d58fe2bb830e5c1e00", func := "polyglot/polyglotlaw05.PropNames", spec := "propNames", inPlace := ["internal/bytealg.IndexByteString", "internal/bytealg.IndexString"], unfollowed := true, recurses := true, named := ["internal/bytealg.MaxLen"], apart := false }
def PropNamesSaid : Prop := propNamesRow.holds Try.pinned (OpenSpec.ofChange propNamesSpec)

/-- ITS FALSE NEIGHBOUR: 'it returns false'. Refute it at one input. -/
def propNamesWrong : ChangeSpec := { name := "propNames", fn := fun _ => fun
  | [] => { results := [.lit (.bool false)], args := [] }
  | _ => none }
def PropNamesWrongFalsely : Prop := propNamesRow.holds Try.pinned (OpenSpec.ofChange propNamesWrong)

/- THE SECOND FORM. 'bulk': how many values and letters a reading holds, each counted each time it is reached (what is shared counts as often as it is met; a slice's spare places count too). A statement '..UptoSaid' is the law's where the arguments, and the package variables that the reading takes, are together of bulk at most 1048576: NARROWER than '..Said'. Prove '..Said' where nothing that the law and all that it calls make is longer than what came in: it says more and counts as full. Else prove '..UptoSaid'. A law counts once. -/
mutual
def uptoBulk {H : Type} : DataW H → Nat
  | .lit (.string bytes) => bytes.length + 1
  | .lit _ => 1
  | .nil => 1
  | .ptr d => uptoBulk d + 1
  | .slice elems spare => uptoBulkAll elems + uptoBulkAll spare + 1
  | .agg parts => uptoBulkAll parts + 1
  | .iface _ d => uptoBulk d + 1
  | .map entries => uptoBulkEntries entries + 1
  | .held _ => 1
def uptoBulkAll {H : Type} : List (DataW H) → Nat
  | [] => 0
  | d :: r => uptoBulk d + uptoBulkAll r
def uptoBulkEntries {H : Type} : List (Lit × DataW H) → Nat
  | [] => 0
  | x :: r => uptoBulkEntry x + uptoBulkEntries r
def uptoBulkEntry {H : Type} : Lit × DataW H → Nat
  | (.string bytes, d) => bytes.length + uptoBulk d + 1
  | (_, d) => uptoBulk d + 1
 end
def uptoSmall : (H : Type) → List (DataW H) → Bool := fun _ ds => decide (uptoBulkAll ds ≤ 1048576)
def OpenSpec.upto (s : _root_.Go.ChangeSpec) : _root_.Go.OpenSpec := { _root_.Go.OpenSpec.ofChange s with cond := some uptoSmall }

/-- 'polyglotlaw05.PropTexts', WHERE WHAT IT READS IS OF BULK AT MOST 1048576: true; the input reads as it did. -/
def propTextsUptoRow : OpenClaim := { program := "ytngmipfobcaojaa", sum := "77b7fd9b60f16040a3ef365f0ec34f2ffb6994272c46a7d58fe2bb830e5c1e00", func := "polyglot/polyglotlaw05.PropTexts", spec := "propTexts", inPlace := ["internal/bytealg.IndexByteString", "internal/bytealg.IndexString"], named := ["internal/bytealg.MaxLen"], apart := false, narrowed := true }
def PropTextsUptoSaid : Prop := propTextsUptoRow.holds Try.pinned (OpenSpec.upto propTextsSpec)

/-- 'polyglotlaw05.PropTurns', WHERE WHAT IT READS IS OF BULK AT MOST 1048576: true; the input reads as it did. -/
def propTurnsUptoRow : OpenClaim := { program := "ytngmipfobcaojaa", sum := "77b7fd9b60f16040a3ef365f0ec34f2ffb6994272c46a7d58fe2bb830e5c1e00", func := "polyglot/polyglotlaw05.PropTurns", spec := "propTurns", inPlace := ["internal/bytealg.IndexByteString", "internal/bytealg.IndexString"], named := ["internal/bytealg.MaxLen"], apart := false, narrowed := true }
def PropTurnsUptoSaid : Prop := propTurnsUptoRow.holds Try.pinned (OpenSpec.upto propTurnsSpec)

/-- 'polyglotlaw05.PropHalves', WHERE WHAT IT READS IS OF BULK AT MOST 1048576: true; the input reads as it did. -/
def propHalvesUptoRow : OpenClaim := { program := "ytngmipfobcaojaa", sum := "77b7fd9b60f16040a3ef365f0ec34f2ffb6994272c46a7d58fe2bb830e5c1e00", func := "polyglot/polyglotlaw05.PropHalves", spec := "propHalves", inPlace := ["internal/bytealg.IndexByteString", "internal/bytealg.IndexString"], named := ["internal/bytealg.MaxLen"], apart := false, narrowed := true }
def PropHalvesUptoSaid : Prop := propHalvesUptoRow.holds Try.pinned (OpenSpec.upto propHalvesSpec)

/-- 'polyglotlaw09.PublishTopics', WHERE WHAT IT READS IS OF BULK AT MOST 1048576: true; the input reads as it did. -/
def publishTopicsUptoRow : OpenClaim := { program := "ytngmipfobcaojaa", sum := "77b7fd9b60f16040a3ef365f0ec34f2ffb6994272c46a7d58fe2bb830e5c1e00", func := "polyglot/polyglotlaw09.PublishTopics", spec := "publishTopics", inPlace := ["internal/bytealg.IndexByteString", "internal/bytealg.IndexString"], unfollowed := true, recurses := true, named := ["internal/bytealg.MaxLen"], apart := false, narrowed := true }
def PublishTopicsUptoSaid : Prop := publishTopicsUptoRow.holds Try.pinned (OpenSpec.upto publishTopicsSpec)

/-- 'polyglotlaw09.PublishIDs', WHERE WHAT IT READS IS OF BULK AT MOST 1048576: true; the input reads as it did. -/
def publishIDsUptoRow : OpenClaim := { program := "ytngmipfobcaojaa", sum := "77b7fd9b60f16040a3ef365f0ec34f2ffb6994272c46a7d58fe2bb830e5c1e00", func := "polyglot/polyglotlaw09.PublishIDs", spec := "publishIDs", inPlace := ["internal/bytealg.IndexByteString", "internal/bytealg.IndexString"], unfollowed := true, recurses := true, named := ["internal/bytealg.MaxLen"], apart := false, narrowed := true }
def PublishIDsUptoSaid : Prop := publishIDsUptoRow.holds Try.pinned (OpenSpec.upto publishIDsSpec)

/-- 'polyglotlaw05.PropShort', WHERE WHAT IT READS IS OF BULK AT MOST 1048576: true; the input reads as it did. -/
def propShortUptoRow : OpenClaim := { program := "ytngmipfobcaojaa", sum := "77b7fd9b60f16040a3ef365f0ec34f2ffb6994272c46a7d58fe2bb830e5c1e00", func := "polyglot/polyglotlaw05.PropShort", spec := "propShort", inPlace := ["internal/bytealg.IndexByteString", "internal/bytealg.IndexString"], unfollowed := true, recurses := true, named := ["internal/bytealg.MaxLen"], apart := false, narrowed := true }
def PropShortUptoSaid : Prop := propShortUptoRow.holds Try.pinned (OpenSpec.upto propShortSpec)

/-- 'polyglotlaw05.PropBack', WHERE WHAT IT READS IS OF BULK AT MOST 1048576: true; the input reads as it did. -/
def propBackUptoRow : OpenClaim := { program := "ytngmipfobcaojaa", sum := "77b7fd9b60f16040a3ef365f0ec34f2ffb6994272c46a7d58fe2bb830e5c1e00", func := "polyglot/polyglotlaw05.PropBack", spec := "propBack", inPlace := ["internal/bytealg.IndexByteString", "internal/bytealg.IndexString"], unfollowed := true, recurses := true, named := ["internal/bytealg.MaxLen"], apart := false, narrowed := true }
def PropBackUptoSaid : Prop := propBackUptoRow.holds Try.pinned (OpenSpec.upto propBackSpec)

/-- 'polyglotlaw05.PropNames', WHERE WHAT IT READS IS OF BULK AT MOST 1048576: true; the input reads as it did. -/
def propNamesUptoRow : OpenClaim := { program := "ytngmipfobcaojaa", sum := "77b7fd9b60f16040a3ef365f0ec34f2ffb6994272c46a7d58fe2bb830e5c1e00", func := "polyglot/polyglotlaw05.PropNames", spec := "propNames", inPlace := ["internal/bytealg.IndexByteString", "internal/bytealg.IndexString"], unfollowed := true, recurses := true, named := ["internal/bytealg.MaxLen"], apart := false, narrowed := true }
def PropNamesUptoSaid : Prop := propNamesUptoRow.holds Try.pinned (OpenSpec.upto propNamesSpec)

end Rows
end Go.Proofs.Ytngmipfobcaojaa
