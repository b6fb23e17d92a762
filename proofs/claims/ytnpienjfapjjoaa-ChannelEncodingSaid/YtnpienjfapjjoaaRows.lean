/-
  No cell of these rows narrows 'for every input' (looked for: loops, veiled, ifaces, maps, wideKeys, modest, calm, conditions, laid).
  DERIVED. THE GIVEN ROWS OF THIS SEAT. 7 by the template 'for every input the law returns true; each argument reads behind the call as it read before'; 0 by the template 'total and deterministic' (their statements: YtnpienjfapjjoaaTotals.lean).
  GIVEN WITH THE SEED: the statements are not yours to turn. If you find one false, say at which input.
  Laid BY PROGRAM, IN A SANDBOX (cutbox-rows.mjs): the forced cells as the released guide's own fill.sh prints them over the translation 00b1b6ad9187739a… (all of the seat's roots in one cut). By AI agents, Wed Nov 11 2026. No macro, syntax, notation, axiom, sorry.
-/
import Derived.Test.YtnpienjfapjjoaaChecked
import GoSem.Claim
import GoSem.ClaimJoined
import GoSem.ClaimMapViews
import Derived.JoinedTies
import Derived.KernelRfl
namespace Go.Proofs.Ytnpienjfapjjoaa
/- THE CELL 'sum', in the pinned program and in every row, IS THE sha256 OF THE DUMP (.gsa) THAT YtnpienjfapjjoaaProg.lean LOADS. Nothing in Lean hashes anything: it is a label: what it is worth is what the hold of that sum in a sandbox is worth. -/
noncomputable def Try.pinned : Pinned := { name := "ytnpienjfapjjoaa", sum := "00b1b6ad9187739a3f7d893dce766c9cc4c6b7e05b52d2bfcd3c235e125a774c", checked := Try.checked }
namespace Rows
def none {H : Type} : Left H := { results := [], args := [] }

/-- 'worldmintlaw23.ChannelRuns': WHATEVER THE INPUT: true; the input reads as it did. -/
def channelRunsSpec : ChangeSpec := { name := "channelRuns", fn := fun _ => fun
  | [d1, d2] => { results := [.lit (.bool true)], args := [d1, d2] }
  | _ => none }
def channelRunsRow : OpenClaim := { program := "ytnpienjfapjjoaa", sum := "00b1b6ad9187739a3f7d893dce766c9cc4c6b7e05b52d2bfcd3c235e125a774c", func := "worldmint/worldmintlaw23.ChannelRuns", spec := "channelRuns", apart := false }
def ChannelRunsSaid : Prop := channelRunsRow.holds Try.pinned (OpenSpec.ofChange channelRunsSpec)

/-- ITS FALSE NEIGHBOUR: 'it returns false'. Refute it at one input. -/
def channelRunsWrong : ChangeSpec := { name := "channelRuns", fn := fun _ => fun
  | [d1, d2] => { results := [.lit (.bool false)], args := [d1, d2] }
  | _ => none }
def ChannelRunsWrongFalsely : Prop := channelRunsRow.holds Try.pinned (OpenSpec.ofChange channelRunsWrong)

/-- 'worldmintlaw23.ChannelOrder': WHATEVER THE INPUT: true; the input reads as it did. -/
def channelOrderSpec : ChangeSpec := { name := "channelOrder", fn := fun _ => fun
  | [d1, d2] => { results := [.lit (.bool true)], args := [d1, d2] }
  | _ => none }
def channelOrderRow : OpenClaim := { program := "ytnpienjfapjjoaa", sum := "00b1b6ad9187739a3f7d893dce766c9cc4c6b7e05b52d2bfcd3c235e125a774c", func := "worldmint/worldmintlaw23.ChannelOrder", spec := "channelOrder", apart := false }
def ChannelOrderSaid : Prop := channelOrderRow.holds Try.pinned (OpenSpec.ofChange channelOrderSpec)

/-- ITS FALSE NEIGHBOUR: 'it returns false'. Refute it at one input. -/
def channelOrderWrong : ChangeSpec := { name := "channelOrder", fn := fun _ => fun
  | [d1, d2] => { results := [.lit (.bool false)], args := [d1, d2] }
  | _ => none }
def ChannelOrderWrongFalsely : Prop := channelOrderRow.holds Try.pinned (OpenSpec.ofChange channelOrderWrong)

/-- 'worldmintlaw23.ChannelProgress': WHATEVER THE INPUT: true; the input reads as it did. -/
def channelProgressSpec : ChangeSpec := { name := "channelProgress", fn := fun _ => fun
  | [d1, d2, d3, d4] => { results := [.lit (.bool true)], args := [d1, d2, d3, d4] }
  | _ => none }
def channelProgressRow : OpenClaim := { program := "ytnpienjfapjjoaa", sum := "00b1b6ad9187739a3f7d893dce766c9cc4c6b7e05b52d2bfcd3c235e125a774c", func := "worldmint/worldmintlaw23.ChannelProgress", spec := "channelProgress", apart := false }
def ChannelProgressSaid : Prop := channelProgressRow.holds Try.pinned (OpenSpec.ofChange channelProgressSpec)

/-- ITS FALSE NEIGHBOUR: 'it returns false'. Refute it at one input. -/
def channelProgressWrong : ChangeSpec := { name := "channelProgress", fn := fun _ => fun
  | [d1, d2, d3, d4] => { results := [.lit (.bool false)], args := [d1, d2, d3, d4] }
  | _ => none }
def ChannelProgressWrongFalsely : Prop := channelProgressRow.holds Try.pinned (OpenSpec.ofChange channelProgressWrong)

/-- 'worldmintlaw23.ChannelWindow': WHATEVER THE INPUT: true; the input reads as it did. -/
def channelWindowSpec : ChangeSpec := { name := "channelWindow", fn := fun _ => fun
  | [d1, d2, d3] => { results := [.lit (.bool true)], args := [d1, d2, d3] }
  | _ => none }
def channelWindowRow : OpenClaim := { program := "ytnpienjfapjjoaa", sum := "00b1b6ad9187739a3f7d893dce766c9cc4c6b7e05b52d2bfcd3c235e125a774c", func := "worldmint/worldmintlaw23.ChannelWindow", spec := "channelWindow", apart := false }
def ChannelWindowSaid : Prop := channelWindowRow.holds Try.pinned (OpenSpec.ofChange channelWindowSpec)

/-- ITS FALSE NEIGHBOUR: 'it returns false'. Refute it at one input. -/
def channelWindowWrong : ChangeSpec := { name := "channelWindow", fn := fun _ => fun
  | [d1, d2, d3] => { results := [.lit (.bool false)], args := [d1, d2, d3] }
  | _ => none }
def ChannelWindowWrongFalsely : Prop := channelWindowRow.holds Try.pinned (OpenSpec.ofChange channelWindowWrong)

/-- 'worldmintlaw23.ChannelCopies': WHATEVER THE INPUT: true; the input reads as it did. -/
def channelCopiesSpec : ChangeSpec := { name := "channelCopies", fn := fun _ => fun
  | [d1, d2, d3] => { results := [.lit (.bool true)], args := [d1, d2, d3] }
  | _ => none }
def channelCopiesRow : OpenClaim := { program := "ytnpienjfapjjoaa", sum := "00b1b6ad9187739a3f7d893dce766c9cc4c6b7e05b52d2bfcd3c235e125a774c", func := "worldmint/worldmintlaw23.ChannelCopies", spec := "channelCopies", inPlace := ["maps.clone"], apart := false }
def ChannelCopiesSaid : Prop := channelCopiesRow.holds Try.pinned (OpenSpec.ofChange channelCopiesSpec)

/-- ITS FALSE NEIGHBOUR: 'it returns false'. Refute it at one input. -/
def channelCopiesWrong : ChangeSpec := { name := "channelCopies", fn := fun _ => fun
  | [d1, d2, d3] => { results := [.lit (.bool false)], args := [d1, d2, d3] }
  | _ => none }
def ChannelCopiesWrongFalsely : Prop := channelCopiesRow.holds Try.pinned (OpenSpec.ofChange channelCopiesWrong)

/-- 'worldmintlaw23.ChannelEncoding': WHATEVER THE INPUT: true; the input reads as it did. -/
def channelEncodingSpec : ChangeSpec := { name := "channelEncoding", fn := fun _ => fun
  | [d1, d2, d3, d4] => { results := [.lit (.bool true)], args := [d1, d2, d3, d4] }
  | _ => none }
def channelEncodingRow : OpenClaim := { program := "ytnpienjfapjjoaa", sum := "00b1b6ad9187739a3f7d893dce766c9cc4c6b7e05b52d2bfcd3c235e125a774c", func := "worldmint/worldmintlaw23.ChannelEncoding", spec := "channelEncoding", unfollowed := true, recurses := true, apart := false }
def ChannelEncodingSaid : Prop := channelEncodingRow.holds Try.pinned (OpenSpec.ofChange channelEncodingSpec)

/-- ITS FALSE NEIGHBOUR: 'it returns false'. Refute it at one input. -/
def channelEncodingWrong : ChangeSpec := { name := "channelEncoding", fn := fun _ => fun
  | [d1, d2, d3, d4] => { results := [.lit (.bool false)], args := [d1, d2, d3, d4] }
  | _ => none }
def ChannelEncodingWrongFalsely : Prop := channelEncodingRow.holds Try.pinned (OpenSpec.ofChange channelEncodingWrong)

/-- 'worldmintlaw23.ChannelDetects': WHATEVER THE INPUT: true; the input reads as it did. -/
def channelDetectsSpec : ChangeSpec := { name := "channelDetects", fn := fun _ => fun
  | [d1, d2, d3, d4, d5] => { results := [.lit (.bool true)], args := [d1, d2, d3, d4, d5] }
  | _ => none }
def channelDetectsRow : OpenClaim := { program := "ytnpienjfapjjoaa", sum := "00b1b6ad9187739a3f7d893dce766c9cc4c6b7e05b52d2bfcd3c235e125a774c", func := "worldmint/worldmintlaw23.ChannelDetects", spec := "channelDetects", unfollowed := true, recurses := true, apart := false }
def ChannelDetectsSaid : Prop := channelDetectsRow.holds Try.pinned (OpenSpec.ofChange channelDetectsSpec)

/-- ITS FALSE NEIGHBOUR: 'it returns false'. Refute it at one input. -/
def channelDetectsWrong : ChangeSpec := { name := "channelDetects", fn := fun _ => fun
  | [d1, d2, d3, d4, d5] => { results := [.lit (.bool false)], args := [d1, d2, d3, d4, d5] }
  | _ => none }
def ChannelDetectsWrongFalsely : Prop := channelDetectsRow.holds Try.pinned (OpenSpec.ofChange channelDetectsWrong)

/- THE SECOND FORM. 'bulk': how many values and letters a reading holds, each counted each time it is reached (what is shared counts as often as it is met; a slice's spare places count too). A statement '..UptoSaid' is the law's where the arguments, and the package variables that the reading takes, are together of bulk at most 1048576: NARROWER than '..Said'. Prove '..Said' where nothing that the law and all that it calls make is longer than what came in: it says more and counts as full. Else prove '..UptoSaid'. A law counts once. -/
mutual
def uptoBulk {H : Type} : DataW H → Nat
  | .lit (.string bytes) => bytes.length + 1
  | .lit _ => 1
  | .nil => 1
  | .ptr d => uptoBulk d + 1
  | .slice elems spare => uptoBulkAll elems + uptoBulkAll spare + 1
  | .agg parts => uptoBulkAll parts + 1
  | .iface _ d => uptoBulk d + 1
  | .map entries => uptoBulkEntries entries + 1
  | .held _ => 1
def uptoBulkAll {H : Type} : List (DataW H) → Nat
  | [] => 0
  | d :: r => uptoBulk d + uptoBulkAll r
def uptoBulkEntries {H : Type} : List (Lit × DataW H) → Nat
  | [] => 0
  | x :: r => uptoBulkEntry x + uptoBulkEntries r
def uptoBulkEntry {H : Type} : Lit × DataW H → Nat
  | (.string bytes, d) => bytes.length + uptoBulk d + 1
  | (_, d) => uptoBulk d + 1
 end
def uptoSmall : (H : Type) → List (DataW H) → Bool := fun _ ds => decide (uptoBulkAll ds ≤ 1048576)
def OpenSpec.upto (s : _root_.Go.ChangeSpec) : _root_.Go.OpenSpec := { _root_.Go.OpenSpec.ofChange s with cond := some uptoSmall }

/-- 'worldmintlaw23.ChannelRuns', WHERE WHAT IT READS IS OF BULK AT MOST 1048576: true; the input reads as it did. -/
def channelRunsUptoRow : OpenClaim := { program := "ytnpienjfapjjoaa", sum := "00b1b6ad9187739a3f7d893dce766c9cc4c6b7e05b52d2bfcd3c235e125a774c", func := "worldmint/worldmintlaw23.ChannelRuns", spec := "channelRuns", apart := false, narrowed := true }
def ChannelRunsUptoSaid : Prop := channelRunsUptoRow.holds Try.pinned (OpenSpec.upto channelRunsSpec)

/-- 'worldmintlaw23.ChannelOrder', WHERE WHAT IT READS IS OF BULK AT MOST 1048576: true; the input reads as it did. -/
def channelOrderUptoRow : OpenClaim := { program := "ytnpienjfapjjoaa", sum := "00b1b6ad9187739a3f7d893dce766c9cc4c6b7e05b52d2bfcd3c235e125a774c", func := "worldmint/worldmintlaw23.ChannelOrder", spec := "channelOrder", apart := false, narrowed := true }
def ChannelOrderUptoSaid : Prop := channelOrderUptoRow.holds Try.pinned (OpenSpec.upto channelOrderSpec)

/-- 'worldmintlaw23.ChannelProgress', WHERE WHAT IT READS IS OF BULK AT MOST 1048576: true; the input reads as it did. -/
def channelProgressUptoRow : OpenClaim := { program := "ytnpienjfapjjoaa", sum := "00b1b6ad9187739a3f7d893dce766c9cc4c6b7e05b52d2bfcd3c235e125a774c", func := "worldmint/worldmintlaw23.ChannelProgress", spec := "channelProgress", apart := false, narrowed := true }
def ChannelProgressUptoSaid : Prop := channelProgressUptoRow.holds Try.pinned (OpenSpec.upto channelProgressSpec)

/-- 'worldmintlaw23.ChannelWindow', WHERE WHAT IT READS IS OF BULK AT MOST 1048576: true; the input reads as it did. -/
def channelWindowUptoRow : OpenClaim := { program := "ytnpienjfapjjoaa", sum := "00b1b6ad9187739a3f7d893dce766c9cc4c6b7e05b52d2bfcd3c235e125a774c", func := "worldmint/worldmintlaw23.ChannelWindow", spec := "channelWindow", apart := false, narrowed := true }
def ChannelWindowUptoSaid : Prop := channelWindowUptoRow.holds Try.pinned (OpenSpec.upto channelWindowSpec)

/-- 'worldmintlaw23.ChannelCopies', WHERE WHAT IT READS IS OF BULK AT MOST 1048576: true; the input reads as it did. -/
def channelCopiesUptoRow : OpenClaim := { program := "ytnpienjfapjjoaa", sum := "00b1b6ad9187739a3f7d893dce766c9cc4c6b7e05b52d2bfcd3c235e125a774c", func := "worldmint/worldmintlaw23.ChannelCopies", spec := "channelCopies", inPlace := ["maps.clone"], apart := false, narrowed := true }
def ChannelCopiesUptoSaid : Prop := channelCopiesUptoRow.holds Try.pinned (OpenSpec.upto channelCopiesSpec)

/-- 'worldmintlaw23.ChannelEncoding', WHERE WHAT IT READS IS OF BULK AT MOST 1048576: true; the input reads as it did. -/
def channelEncodingUptoRow : OpenClaim := { program := "ytnpienjfapjjoaa", sum := "00b1b6ad9187739a3f7d893dce766c9cc4c6b7e05b52d2bfcd3c235e125a774c", func := "worldmint/worldmintlaw23.ChannelEncoding", spec := "channelEncoding", unfollowed := true, recurses := true, apart := false, narrowed := true }
def ChannelEncodingUptoSaid : Prop := channelEncodingUptoRow.holds Try.pinned (OpenSpec.upto channelEncodingSpec)

/-- 'worldmintlaw23.ChannelDetects', WHERE WHAT IT READS IS OF BULK AT MOST 1048576: true; the input reads as it did. -/
def channelDetectsUptoRow : OpenClaim := { program := "ytnpienjfapjjoaa", sum := "00b1b6ad9187739a3f7d893dce766c9cc4c6b7e05b52d2bfcd3c235e125a774c", func := "worldmint/worldmintlaw23.ChannelDetects", spec := "channelDetects", unfollowed := true, recurses := true, apart := false, narrowed := true }
def ChannelDetectsUptoSaid : Prop := channelDetectsUptoRow.holds Try.pinned (OpenSpec.upto channelDetectsSpec)

end Rows
end Go.Proofs.Ytnpienjfapjjoaa
