/-
  No cell of these rows narrows 'for every input' (looked for: loops, veiled, ifaces, maps, wideKeys, modest, calm, conditions, laid).
  DERIVED. THE GIVEN ROWS OF THIS SEAT. 4 by the template 'for every input the law returns true; each argument reads behind the call as it read before'; 0 by the template 'total and deterministic' (their statements: YtngmipfobcaojaaGreatTotals.lean).
  GIVEN WITH THE SEED: the statements are not yours to turn. If you find one false, say at which input.
  Laid BY PROGRAM, IN A SANDBOX (cutbox-rows.mjs): the forced cells as the released guide's own fill.sh prints them over the translation 9816527029e8bdf8… (all of the seat's roots in one cut). By AI agents, Wed Nov 11 2026. No macro, syntax, notation, axiom, sorry.
-/
import Derived.Test.YtngmipfobcaojaaGreatChecked
import GoSem.Claim
import GoSem.ClaimJoined
import GoSem.ClaimMapViews
import Derived.JoinedTies
import Derived.KernelRfl
namespace Go.Proofs.YtngmipfobcaojaaGreat
/- THE CELL 'sum', in the pinned program and in every row, IS THE sha256 OF THE DUMP (.gsa) THAT YtngmipfobcaojaaGreatProg.lean LOADS. Nothing in Lean hashes anything: it is a label: what it is worth is what the hold of that sum in a sandbox is worth. -/
noncomputable def Tryz.pinned : Pinned := { name := "ytngmipfobcaojaagreat", sum := "9816527029e8bdf88c11ddb73e44948b65b01d59901bbdc4847f09530218fda9", checked := Tryz.checked }
namespace Rows
def none {H : Type} : Left H := { results := [], args := [] }

/-- 'polyglotlaw05.PropCalls': WHATEVER THE INPUT: true; the input reads as it did. -/
def propCallsSpec : ChangeSpec := { name := "propCalls", fn := fun _ => fun
  | [d1, d2, d3, d4, d5] => { results := [.lit (.bool true)], args := [d1, d2, d3, d4, d5] }
  | _ => none }
def propCallsRow : OpenClaim := { program := "ytngmipfobcaojaagreat", sum := "9816527029e8bdf88c11ddb73e44948b65b01d59901bbdc4847f09530218fda9", func := "polyglot/polyglotlaw05.PropCalls", spec := "propCalls", inPlace := ["internal/bytealg.IndexByteString", "internal/bytealg.IndexString"], unfollowed := true, recurses := true, named := ["internal/bytealg.MaxLen"], apart := false }
def PropCallsSaid : Prop := propCallsRow.holds Tryz.pinned (OpenSpec.ofChange propCallsSpec)

/-- ITS FALSE NEIGHBOUR: 'it returns false'. Refute it at one input. -/
def propCallsWrong : ChangeSpec := { name := "propCalls", fn := fun _ => fun
  | [d1, d2, d3, d4, d5] => { results := [.lit (.bool false)], args := [d1, d2, d3, d4, d5] }
  | _ => none }
def PropCallsWrongFalsely : Prop := propCallsRow.holds Tryz.pinned (OpenSpec.ofChange propCallsWrong)

/-- 'polyglotlaw09.PublishNames': WHATEVER THE INPUT: true; the input reads as it did. -/
def publishNamesSpec : ChangeSpec := { name := "publishNames", fn := fun _ => fun
  | [] => { results := [.lit (.bool true)], args := [] }
  | _ => none }
def publishNamesRow : OpenClaim := { program := "ytngmipfobcaojaagreat", sum := "9816527029e8bdf88c11ddb73e44948b65b01d59901bbdc4847f09530218fda9", func := "polyglot/polyglotlaw09.PublishNames", spec := "publishNames", inPlace := ["internal/bytealg.IndexByteString", "internal/bytealg.IndexString"], unfollowed := true, recurses := true, named := ["internal/bytealg.MaxLen"], apart := false }
def PublishNamesSaid : Prop := publishNamesRow.holds Tryz.pinned (OpenSpec.ofChange publishNamesSpec)

/-- ITS FALSE NEIGHBOUR: 'it returns false'. Refute it at one input. -/
def publishNamesWrong : ChangeSpec := { name := "publishNames", fn := fun _ => fun
  | [] => { results := [.lit (.bool false)], args := [] }
  | _ => none }
def PublishNamesWrongFalsely : Prop := publishNamesRow.holds Tryz.pinned (OpenSpec.ofChange publishNamesWrong)

/-- 'polyglotlaw09.PublishCalls': WHATEVER THE INPUT: true; the input reads as it did. -/
def publishCallsSpec : ChangeSpec := { name := "publishCalls", fn := fun _ => fun
  | [d1, d2, d3, d4] => { results := [.lit (.bool true)], args := [d1, d2, d3, d4] }
  | _ => none }
def publishCallsRow : OpenClaim := { program := "ytngmipfobcaojaagreat", sum := "9816527029e8bdf88c11ddb73e44948b65b01d59901bbdc4847f09530218fda9", func := "polyglot/polyglotlaw09.PublishCalls", spec := "publishCalls", inPlace := ["internal/bytealg.IndexByteString", "internal/bytealg.IndexString"], unfollowed := true, recurses := true, named := ["internal/bytealg.MaxLen"], apart := false }
def PublishCallsSaid : Prop := publishCallsRow.holds Tryz.pinned (OpenSpec.ofChange publishCallsSpec)

/-- ITS FALSE NEIGHBOUR: 'it returns false'. Refute it at one input. -/
def publishCallsWrong : ChangeSpec := { name := "publishCalls", fn := fun _ => fun
  | [d1, d2, d3, d4] => { results := [.lit (.bool false)], args := [d1, d2, d3, d4] }
  | _ => none }
def PublishCallsWrongFalsely : Prop := publishCallsRow.holds Tryz.pinned (OpenSpec.ofChange publishCallsWrong)

/-- 'polyglotlaw09.PublishBack': WHATEVER THE INPUT: true; the input reads as it did. -/
def publishBackSpec : ChangeSpec := { name := "publishBack", fn := fun _ => fun
  | [d1, d2, d3, d4] => { results := [.lit (.bool true)], args := [d1, d2, d3, d4] }
  | _ => none }
def publishBackRow : OpenClaim := { program := "ytngmipfobcaojaagreat", sum := "9816527029e8bdf88c11ddb73e44948b65b01d59901bbdc4847f09530218fda9", func := "polyglot/polyglotlaw09.PublishBack", spec := "publishBack", inPlace := ["internal/bytealg.IndexByteString", "internal/bytealg.IndexString"], unfollowed := true, recurses := true, named := ["internal/bytealg.MaxLen"], apart := false }
def PublishBackSaid : Prop := publishBackRow.holds Tryz.pinned (OpenSpec.ofChange publishBackSpec)

/-- ITS FALSE NEIGHBOUR: 'it returns false'. Refute it at one input. -/
def publishBackWrong : ChangeSpec := { name := "publishBack", fn := fun _ => fun
  | [d1, d2, d3, d4] => { results := [.lit (.bool false)], args := [d1, d2, d3, d4] }
  | _ => none }
def PublishBackWrongFalsely : Prop := publishBackRow.holds Tryz.pinned (OpenSpec.ofChange publishBackWrong)

/- THE SECOND FORM. 'bulk': how many values and letters a reading holds, each counted each time it is reached (what is shared counts as often as it is met; a slice's spare places count too). A statement '..UptoSaid' is the law's where the arguments, and the package variables that the reading takes, are together of bulk at most 1048576: NARROWER than '..Said'. Prove '..Said' where nothing that the law and all that it calls make is longer than what came in: it says more and counts as full. Else prove '..UptoSaid'. A law counts once. -/
mutual
def uptoBulk {H : Type} : DataW H → Nat
  | .lit (.string bytes) => bytes.length + 1
  | .lit _ => 1
  | .nil => 1
  | .ptr d => uptoBulk d + 1
  | .slice elems spare => uptoBulkAll elems + uptoBulkAll spare + 1
  | .agg parts => uptoBulkAll parts + 1
  | .iface _ d => uptoBulk d + 1
  | .map entries => uptoBulkEntries entries + 1
  | .held _ => 1
def uptoBulkAll {H : Type} : List (DataW H) → Nat
  | [] => 0
  | d :: r => uptoBulk d + uptoBulkAll r
def uptoBulkEntries {H : Type} : List (Lit × DataW H) → Nat
  | [] => 0
  | x :: r => uptoBulkEntry x + uptoBulkEntries r
def uptoBulkEntry {H : Type} : Lit × DataW H → Nat
  | (.string bytes, d) => bytes.length + uptoBulk d + 1
  | (_, d) => uptoBulk d + 1
 end
def uptoSmall : (H : Type) → List (DataW H) → Bool := fun _ ds => decide (uptoBulkAll ds ≤ 1048576)
def OpenSpec.upto (s : _root_.Go.ChangeSpec) : _root_.Go.OpenSpec := { _root_.Go.OpenSpec.ofChange s with cond := some uptoSmall }

/-- 'polyglotlaw05.PropCalls', WHERE WHAT IT READS IS OF BULK AT MOST 1048576: true; the input reads as it did. -/
def propCallsUptoRow : OpenClaim := { program := "ytngmipfobcaojaagreat", sum := "9816527029e8bdf88c11ddb73e44948b65b01d59901bbdc4847f09530218fda9", func := "polyglot/polyglotlaw05.PropCalls", spec := "propCalls", inPlace := ["internal/bytealg.IndexByteString", "internal/bytealg.IndexString"], unfollowed := true, recurses := true, named := ["internal/bytealg.MaxLen"], apart := false, narrowed := true }
def PropCallsUptoSaid : Prop := propCallsUptoRow.holds Tryz.pinned (OpenSpec.upto propCallsSpec)

/-- 'polyglotlaw09.PublishNames', WHERE WHAT IT READS IS OF BULK AT MOST 1048576: true; the input reads as it did. -/
def publishNamesUptoRow : OpenClaim := { program := "ytngmipfobcaojaagreat", sum := "9816527029e8bdf88c11ddb73e44948b65b01d59901bbdc4847f09530218fda9", func := "polyglot/polyglotlaw09.PublishNames", spec := "publishNames", inPlace := ["internal/bytealg.IndexByteString", "internal/bytealg.IndexString"], unfollowed := true, recurses := true, named := ["internal/bytealg.MaxLen"], apart := false, narrowed := true }
def PublishNamesUptoSaid : Prop := publishNamesUptoRow.holds Tryz.pinned (OpenSpec.upto publishNamesSpec)

/-- 'polyglotlaw09.PublishCalls', WHERE WHAT IT READS IS OF BULK AT MOST 1048576: true; the input reads as it did. -/
def publishCallsUptoRow : OpenClaim := { program := "ytngmipfobcaojaagreat", sum := "9816527029e8bdf88c11ddb73e44948b65b01d59901bbdc4847f09530218fda9", func := "polyglot/polyglotlaw09.PublishCalls", spec := "publishCalls", inPlace := ["internal/bytealg.IndexByteString", "internal/bytealg.IndexString"], unfollowed := true, recurses := true, named := ["internal/bytealg.MaxLen"], apart := false, narrowed := true }
def PublishCallsUptoSaid : Prop := publishCallsUptoRow.holds Tryz.pinned (OpenSpec.upto publishCallsSpec)

/-- 'polyglotlaw09.PublishBack', WHERE WHAT IT READS IS OF BULK AT MOST 1048576: true; the input reads as it did. -/
def publishBackUptoRow : OpenClaim := { program := "ytngmipfobcaojaagreat", sum := "9816527029e8bdf88c11ddb73e44948b65b01d59901bbdc4847f09530218fda9", func := "polyglot/polyglotlaw09.PublishBack", spec := "publishBack", inPlace := ["internal/bytealg.IndexByteString", "internal/bytealg.IndexString"], unfollowed := true, recurses := true, named := ["internal/bytealg.MaxLen"], apart := false, narrowed := true }
def PublishBackUptoSaid : Prop := publishBackUptoRow.holds Tryz.pinned (OpenSpec.upto publishBackSpec)

end Rows
end Go.Proofs.YtngmipfobcaojaaGreat
