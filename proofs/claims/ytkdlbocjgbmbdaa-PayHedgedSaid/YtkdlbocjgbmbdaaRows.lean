/-
  No cell of these rows narrows 'for every input' (looked for: loops, veiled, ifaces, maps, wideKeys, modest, calm, conditions, laid).
  DERIVED. THE GIVEN ROWS OF THIS SEAT. 13 by the template 'for every input the law returns true; each argument reads behind the call as it read before'; 0 by the template 'total and deterministic' (their statements: YtkdlbocjgbmbdaaTotals.lean).
  GIVEN WITH THE SEED: the statements are not yours to turn. If you find one false, say at which input.
  Laid BY PROGRAM, IN A SANDBOX (cutbox-rows.mjs): the forced cells as the released guide's own fill.sh prints them over the translation cafbee07cffc583d… (all of the seat's roots in one cut). By AI agents, Wed Nov 11 2026. No macro, syntax, notation, axiom, sorry.
-/
import Derived.Test.YtkdlbocjgbmbdaaChecked
import GoSem.Claim
import GoSem.ClaimJoined
import GoSem.ClaimMapViews
import Derived.JoinedTies
import Derived.KernelRfl
namespace Go.Proofs.Ytkdlbocjgbmbdaa
/- THE CELL 'sum', in the pinned program and in every row, IS THE sha256 OF THE DUMP (.gsa) THAT YtkdlbocjgbmbdaaProg.lean LOADS. Nothing in Lean hashes anything: it is a label: what it is worth is what the hold of that sum in a sandbox is worth. -/
noncomputable def Try.pinned : Pinned := { name := "ytkdlbocjgbmbdaa", sum := "cafbee07cffc583d72644362524103325a0426655ff34c95ed4203bbe1436815", checked := Try.checked }
namespace Rows
def none {H : Type} : Left H := { results := [], args := [] }

/-- 'swarflaw08.PayValues': WHATEVER THE INPUT: true; the input reads as it did. -/
def payValuesSpec : ChangeSpec := { name := "payValues", fn := fun _ => fun
  | [d1, d2, d3, d4, d5, d6, d7] => { results := [.lit (.bool true)], args := [d1, d2, d3, d4, d5, d6, d7] }
  | _ => none }
def payValuesRow : OpenClaim := { program := "ytkdlbocjgbmbdaa", sum := "cafbee07cffc583d72644362524103325a0426655ff34c95ed4203bbe1436815", func := "swarf/swarflaw08.PayValues", spec := "payValues", inPlace := ["internal/bytealg.IndexByteString", "internal/bytealg.IndexString"], unfollowed := true, recurses := true, named := ["internal/bytealg.MaxLen"], plainKeys := false, apart := false }
def PayValuesSaid : Prop := payValuesRow.holds Try.pinned (OpenSpec.ofChange payValuesSpec)

/-- ITS FALSE NEIGHBOUR: 'it returns false'. Refute it at one input. -/
def payValuesWrong : ChangeSpec := { name := "payValues", fn := fun _ => fun
  | [d1, d2, d3, d4, d5, d6, d7] => { results := [.lit (.bool false)], args := [d1, d2, d3, d4, d5, d6, d7] }
  | _ => none }
def PayValuesWrongFalsely : Prop := payValuesRow.holds Try.pinned (OpenSpec.ofChange payValuesWrong)

/-- 'swarflaw08.PayValued': WHATEVER THE INPUT: true; the input reads as it did. -/
def payValuedSpec : ChangeSpec := { name := "payValued", fn := fun _ => fun
  | [d] => { results := [.lit (.bool true)], args := [d] }
  | _ => none }
def payValuedRow : OpenClaim := { program := "ytkdlbocjgbmbdaa", sum := "cafbee07cffc583d72644362524103325a0426655ff34c95ed4203bbe1436815", func := "swarf/swarflaw08.PayValued", spec := "payValued", inPlace := ["internal/bytealg.IndexByteString", "internal/bytealg.IndexString"], unfollowed := true, recurses := true, named := ["internal/bytealg.MaxLen"], plainKeys := false, apart := false }
def PayValuedSaid : Prop := payValuedRow.holds Try.pinned (OpenSpec.ofChange payValuedSpec)

/-- ITS FALSE NEIGHBOUR: 'it returns false'. Refute it at one input. -/
def payValuedWrong : ChangeSpec := { name := "payValued", fn := fun _ => fun
  | [d] => { results := [.lit (.bool false)], args := [d] }
  | _ => none }
def PayValuedWrongFalsely : Prop := payValuedRow.holds Try.pinned (OpenSpec.ofChange payValuedWrong)

/-- 'swarflaw08.PayRooms': WHATEVER THE INPUT: true; the input reads as it did. -/
def payRoomsSpec : ChangeSpec := { name := "payRooms", fn := fun _ => fun
  | [d1, d2, d3, d4, d5] => { results := [.lit (.bool true)], args := [d1, d2, d3, d4, d5] }
  | _ => none }
def payRoomsRow : OpenClaim := { program := "ytkdlbocjgbmbdaa", sum := "cafbee07cffc583d72644362524103325a0426655ff34c95ed4203bbe1436815", func := "swarf/swarflaw08.PayRooms", spec := "payRooms", inPlace := ["internal/bytealg.IndexByteString", "internal/bytealg.IndexString"], unfollowed := true, recurses := true, named := ["internal/bytealg.MaxLen"], plainKeys := false, apart := false }
def PayRoomsSaid : Prop := payRoomsRow.holds Try.pinned (OpenSpec.ofChange payRoomsSpec)

/-- ITS FALSE NEIGHBOUR: 'it returns false'. Refute it at one input. -/
def payRoomsWrong : ChangeSpec := { name := "payRooms", fn := fun _ => fun
  | [d1, d2, d3, d4, d5] => { results := [.lit (.bool false)], args := [d1, d2, d3, d4, d5] }
  | _ => none }
def PayRoomsWrongFalsely : Prop := payRoomsRow.holds Try.pinned (OpenSpec.ofChange payRoomsWrong)

/-- 'swarflaw08.PayRoom': WHATEVER THE INPUT: true; the input reads as it did. -/
def payRoomSpec : ChangeSpec := { name := "payRoom", fn := fun _ => fun
  | [d] => { results := [.lit (.bool true)], args := [d] }
  | _ => none }
def payRoomRow : OpenClaim := { program := "ytkdlbocjgbmbdaa", sum := "cafbee07cffc583d72644362524103325a0426655ff34c95ed4203bbe1436815", func := "swarf/swarflaw08.PayRoom", spec := "payRoom", inPlace := ["internal/bytealg.IndexByteString", "internal/bytealg.IndexString"], unfollowed := true, recurses := true, named := ["internal/bytealg.MaxLen"], plainKeys := false, apart := false }
def PayRoomSaid : Prop := payRoomRow.holds Try.pinned (OpenSpec.ofChange payRoomSpec)

/-- ITS FALSE NEIGHBOUR: 'it returns false'. Refute it at one input. -/
def payRoomWrong : ChangeSpec := { name := "payRoom", fn := fun _ => fun
  | [d] => { results := [.lit (.bool false)], args := [d] }
  | _ => none }
def PayRoomWrongFalsely : Prop := payRoomRow.holds Try.pinned (OpenSpec.ofChange payRoomWrong)

/-- 'swarflaw08.PaySoonest': WHATEVER THE INPUT: true; the input reads as it did. -/
def paySoonestSpec : ChangeSpec := { name := "paySoonest", fn := fun _ => fun
  | [d] => { results := [.lit (.bool true)], args := [d] }
  | _ => none }
def paySoonestRow : OpenClaim := { program := "ytkdlbocjgbmbdaa", sum := "cafbee07cffc583d72644362524103325a0426655ff34c95ed4203bbe1436815", func := "swarf/swarflaw08.PaySoonest", spec := "paySoonest", inPlace := ["internal/bytealg.IndexByteString", "internal/bytealg.IndexString"], unfollowed := true, recurses := true, named := ["internal/bytealg.MaxLen"], plainKeys := false, apart := false }
def PaySoonestSaid : Prop := paySoonestRow.holds Try.pinned (OpenSpec.ofChange paySoonestSpec)

/-- ITS FALSE NEIGHBOUR: 'it returns false'. Refute it at one input. -/
def paySoonestWrong : ChangeSpec := { name := "paySoonest", fn := fun _ => fun
  | [d] => { results := [.lit (.bool false)], args := [d] }
  | _ => none }
def PaySoonestWrongFalsely : Prop := paySoonestRow.holds Try.pinned (OpenSpec.ofChange paySoonestWrong)

/-- 'swarflaw08.PayTags': WHATEVER THE INPUT: true; the input reads as it did. -/
def payTagsSpec : ChangeSpec := { name := "payTags", fn := fun _ => fun
  | [d1, d2, d3, d4, d5] => { results := [.lit (.bool true)], args := [d1, d2, d3, d4, d5] }
  | _ => none }
def payTagsRow : OpenClaim := { program := "ytkdlbocjgbmbdaa", sum := "cafbee07cffc583d72644362524103325a0426655ff34c95ed4203bbe1436815", func := "swarf/swarflaw08.PayTags", spec := "payTags", inPlace := ["internal/bytealg.IndexByteString", "internal/bytealg.IndexString"], unfollowed := true, recurses := true, named := ["internal/bytealg.MaxLen"], plainKeys := false, apart := false }
def PayTagsSaid : Prop := payTagsRow.holds Try.pinned (OpenSpec.ofChange payTagsSpec)

/-- ITS FALSE NEIGHBOUR: 'it returns false'. Refute it at one input. -/
def payTagsWrong : ChangeSpec := { name := "payTags", fn := fun _ => fun
  | [d1, d2, d3, d4, d5] => { results := [.lit (.bool false)], args := [d1, d2, d3, d4, d5] }
  | _ => none }
def PayTagsWrongFalsely : Prop := payTagsRow.holds Try.pinned (OpenSpec.ofChange payTagsWrong)

/-- 'swarflaw08.PayFound': WHATEVER THE INPUT: true; the input reads as it did. -/
def payFoundSpec : ChangeSpec := { name := "payFound", fn := fun _ => fun
  | [d] => { results := [.lit (.bool true)], args := [d] }
  | _ => none }
def payFoundRow : OpenClaim := { program := "ytkdlbocjgbmbdaa", sum := "cafbee07cffc583d72644362524103325a0426655ff34c95ed4203bbe1436815", func := "swarf/swarflaw08.PayFound", spec := "payFound", inPlace := ["internal/bytealg.IndexByteString", "internal/bytealg.IndexString"], unfollowed := true, recurses := true, named := ["internal/bytealg.MaxLen"], plainKeys := false, apart := false }
def PayFoundSaid : Prop := payFoundRow.holds Try.pinned (OpenSpec.ofChange payFoundSpec)

/-- ITS FALSE NEIGHBOUR: 'it returns false'. Refute it at one input. -/
def payFoundWrong : ChangeSpec := { name := "payFound", fn := fun _ => fun
  | [d] => { results := [.lit (.bool false)], args := [d] }
  | _ => none }
def PayFoundWrongFalsely : Prop := payFoundRow.holds Try.pinned (OpenSpec.ofChange payFoundWrong)

/-- 'swarflaw08.PayTrue': WHATEVER THE INPUT: true; the input reads as it did. -/
def payTrueSpec : ChangeSpec := { name := "payTrue", fn := fun _ => fun
  | [d] => { results := [.lit (.bool true)], args := [d] }
  | _ => none }
def payTrueRow : OpenClaim := { program := "ytkdlbocjgbmbdaa", sum := "cafbee07cffc583d72644362524103325a0426655ff34c95ed4203bbe1436815", func := "swarf/swarflaw08.PayTrue", spec := "payTrue", inPlace := ["internal/bytealg.IndexByteString", "internal/bytealg.IndexString"], unfollowed := true, recurses := true, named := ["internal/bytealg.MaxLen"], plainKeys := false, apart := false }
def PayTrueSaid : Prop := payTrueRow.holds Try.pinned (OpenSpec.ofChange payTrueSpec)

/-- ITS FALSE NEIGHBOUR: 'it returns false'. Refute it at one input. -/
def payTrueWrong : ChangeSpec := { name := "payTrue", fn := fun _ => fun
  | [d] => { results := [.lit (.bool false)], args := [d] }
  | _ => none }
def PayTrueWrongFalsely : Prop := payTrueRow.holds Try.pinned (OpenSpec.ofChange payTrueWrong)

/-- 'swarflaw08.PayHedges': WHATEVER THE INPUT: true; the input reads as it did. -/
def payHedgesSpec : ChangeSpec := { name := "payHedges", fn := fun _ => fun
  | [d1, d2, d3] => { results := [.lit (.bool true)], args := [d1, d2, d3] }
  | _ => none }
def payHedgesRow : OpenClaim := { program := "ytkdlbocjgbmbdaa", sum := "cafbee07cffc583d72644362524103325a0426655ff34c95ed4203bbe1436815", func := "swarf/swarflaw08.PayHedges", spec := "payHedges", inPlace := ["internal/bytealg.IndexByteString", "internal/bytealg.IndexString"], unfollowed := true, recurses := true, named := ["internal/bytealg.MaxLen"], plainKeys := false, apart := false }
def PayHedgesSaid : Prop := payHedgesRow.holds Try.pinned (OpenSpec.ofChange payHedgesSpec)

/-- ITS FALSE NEIGHBOUR: 'it returns false'. Refute it at one input. -/
def payHedgesWrong : ChangeSpec := { name := "payHedges", fn := fun _ => fun
  | [d1, d2, d3] => { results := [.lit (.bool false)], args := [d1, d2, d3] }
  | _ => none }
def PayHedgesWrongFalsely : Prop := payHedgesRow.holds Try.pinned (OpenSpec.ofChange payHedgesWrong)

/-- 'swarftop.TopPaid': WHATEVER THE INPUT: true; the input reads as it did. -/
def topPaidSpec : ChangeSpec := { name := "topPaid", fn := fun _ => fun
  | [d] => { results := [.lit (.bool true)], args := [d] }
  | _ => none }
def topPaidRow : OpenClaim := { program := "ytkdlbocjgbmbdaa", sum := "cafbee07cffc583d72644362524103325a0426655ff34c95ed4203bbe1436815", func := "swarf/swarftop.TopPaid", spec := "topPaid", unfollowed := true, recurses := true, plainKeys := false, apart := false }
def TopPaidSaid : Prop := topPaidRow.holds Try.pinned (OpenSpec.ofChange topPaidSpec)

/-- ITS FALSE NEIGHBOUR: 'it returns false'. Refute it at one input. -/
def topPaidWrong : ChangeSpec := { name := "topPaid", fn := fun _ => fun
  | [d] => { results := [.lit (.bool false)], args := [d] }
  | _ => none }
def TopPaidWrongFalsely : Prop := topPaidRow.holds Try.pinned (OpenSpec.ofChange topPaidWrong)

/-- 'swarflaw08.PayHedged': WHATEVER THE INPUT: true; the input reads as it did. -/
def payHedgedSpec : ChangeSpec := { name := "payHedged", fn := fun _ => fun
  | [d] => { results := [.lit (.bool true)], args := [d] }
  | _ => none }
def payHedgedRow : OpenClaim := { program := "ytkdlbocjgbmbdaa", sum := "cafbee07cffc583d72644362524103325a0426655ff34c95ed4203bbe1436815", func := "swarf/swarflaw08.PayHedged", spec := "payHedged", inPlace := ["internal/bytealg.IndexByteString", "internal/bytealg.IndexString"], unfollowed := true, recurses := true, named := ["internal/bytealg.MaxLen"], plainKeys := false, apart := false }
def PayHedgedSaid : Prop := payHedgedRow.holds Try.pinned (OpenSpec.ofChange payHedgedSpec)

/-- ITS FALSE NEIGHBOUR: 'it returns false'. Refute it at one input. -/
def payHedgedWrong : ChangeSpec := { name := "payHedged", fn := fun _ => fun
  | [d] => { results := [.lit (.bool false)], args := [d] }
  | _ => none }
def PayHedgedWrongFalsely : Prop := payHedgedRow.holds Try.pinned (OpenSpec.ofChange payHedgedWrong)

/-- 'swarflaw08.PaySplit': WHATEVER THE INPUT: true; the input reads as it did. -/
def paySplitSpec : ChangeSpec := { name := "paySplit", fn := fun _ => fun
  | [d] => { results := [.lit (.bool true)], args := [d] }
  | _ => none }
def paySplitRow : OpenClaim := { program := "ytkdlbocjgbmbdaa", sum := "cafbee07cffc583d72644362524103325a0426655ff34c95ed4203bbe1436815", func := "swarf/swarflaw08.PaySplit", spec := "paySplit", inPlace := ["internal/bytealg.IndexByteString", "internal/bytealg.IndexString"], unfollowed := true, recurses := true, named := ["internal/bytealg.MaxLen"], plainKeys := false, apart := false }
def PaySplitSaid : Prop := paySplitRow.holds Try.pinned (OpenSpec.ofChange paySplitSpec)

/-- ITS FALSE NEIGHBOUR: 'it returns false'. Refute it at one input. -/
def paySplitWrong : ChangeSpec := { name := "paySplit", fn := fun _ => fun
  | [d] => { results := [.lit (.bool false)], args := [d] }
  | _ => none }
def PaySplitWrongFalsely : Prop := paySplitRow.holds Try.pinned (OpenSpec.ofChange paySplitWrong)

/-- 'swarflaw08.PayLaws': WHATEVER THE INPUT: true; the input reads as it did. -/
def payLawsSpec : ChangeSpec := { name := "payLaws", fn := fun _ => fun
  | [d1, d2, d3, d4, d5] => { results := [.lit (.bool true)], args := [d1, d2, d3, d4, d5] }
  | _ => none }
def payLawsRow : OpenClaim := { program := "ytkdlbocjgbmbdaa", sum := "cafbee07cffc583d72644362524103325a0426655ff34c95ed4203bbe1436815", func := "swarf/swarflaw08.PayLaws", spec := "payLaws", inPlace := ["internal/bytealg.IndexByteString", "internal/bytealg.IndexString"], unfollowed := true, recurses := true, named := ["internal/bytealg.MaxLen"], plainKeys := false, apart := false }
def PayLawsSaid : Prop := payLawsRow.holds Try.pinned (OpenSpec.ofChange payLawsSpec)

/-- ITS FALSE NEIGHBOUR: 'it returns false'. Refute it at one input. -/
def payLawsWrong : ChangeSpec := { name := "payLaws", fn := fun _ => fun
  | [d1, d2, d3, d4, d5] => { results := [.lit (.bool false)], args := [d1, d2, d3, d4, d5] }
  | _ => none }
def PayLawsWrongFalsely : Prop := payLawsRow.holds Try.pinned (OpenSpec.ofChange payLawsWrong)

/- THE SECOND FORM. 'bulk': how many values and letters a reading holds, each counted each time it is reached (what is shared counts as often as it is met; a slice's spare places count too). A statement '..UptoSaid' is the law's where the arguments, and the package variables that the reading takes, are together of bulk at most 1048576: NARROWER than '..Said'. Prove '..Said' where nothing that the law and all that it calls make is longer than what came in: it says more and counts as full. Else prove '..UptoSaid'. A law counts once. -/
mutual
def uptoBulk {H : Type} : DataW H → Nat
  | .lit (.string bytes) => bytes.length + 1
  | .lit _ => 1
  | .nil => 1
  | .ptr d => uptoBulk d + 1
  | .slice elems spare => uptoBulkAll elems + uptoBulkAll spare + 1
  | .agg parts => uptoBulkAll parts + 1
  | .iface _ d => uptoBulk d + 1
  | .map entries => uptoBulkEntries entries + 1
  | .held _ => 1
def uptoBulkAll {H : Type} : List (DataW H) → Nat
  | [] => 0
  | d :: r => uptoBulk d + uptoBulkAll r
def uptoBulkEntries {H : Type} : List (Lit × DataW H) → Nat
  | [] => 0
  | x :: r => uptoBulkEntry x + uptoBulkEntries r
def uptoBulkEntry {H : Type} : Lit × DataW H → Nat
  | (.string bytes, d) => bytes.length + uptoBulk d + 1
  | (_, d) => uptoBulk d + 1
 end
def uptoSmall : (H : Type) → List (DataW H) → Bool := fun _ ds => decide (uptoBulkAll ds ≤ 1048576)
def OpenSpec.upto (s : _root_.Go.ChangeSpec) : _root_.Go.OpenSpec := { _root_.Go.OpenSpec.ofChange s with cond := some uptoSmall }

/-- 'swarflaw08.PayValues', WHERE WHAT IT READS IS OF BULK AT MOST 1048576: true; the input reads as it did. -/
def payValuesUptoRow : OpenClaim := { program := "ytkdlbocjgbmbdaa", sum := "cafbee07cffc583d72644362524103325a0426655ff34c95ed4203bbe1436815", func := "swarf/swarflaw08.PayValues", spec := "payValues", inPlace := ["internal/bytealg.IndexByteString", "internal/bytealg.IndexString"], unfollowed := true, recurses := true, named := ["internal/bytealg.MaxLen"], plainKeys := false, apart := false, narrowed := true }
def PayValuesUptoSaid : Prop := payValuesUptoRow.holds Try.pinned (OpenSpec.upto payValuesSpec)

/-- 'swarflaw08.PayValued', WHERE WHAT IT READS IS OF BULK AT MOST 1048576: true; the input reads as it did. -/
def payValuedUptoRow : OpenClaim := { program := "ytkdlbocjgbmbdaa", sum := "cafbee07cffc583d72644362524103325a0426655ff34c95ed4203bbe1436815", func := "swarf/swarflaw08.PayValued", spec := "payValued", inPlace := ["internal/bytealg.IndexByteString", "internal/bytealg.IndexString"], unfollowed := true, recurses := true, named := ["internal/bytealg.MaxLen"], plainKeys := false, apart := false, narrowed := true }
def PayValuedUptoSaid : Prop := payValuedUptoRow.holds Try.pinned (OpenSpec.upto payValuedSpec)

/-- 'swarflaw08.PayRooms', WHERE WHAT IT READS IS OF BULK AT MOST 1048576: true; the input reads as it did. -/
def payRoomsUptoRow : OpenClaim := { program := "ytkdlbocjgbmbdaa", sum := "cafbee07cffc583d72644362524103325a0426655ff34c95ed4203bbe1436815", func := "swarf/swarflaw08.PayRooms", spec := "payRooms", inPlace := ["internal/bytealg.IndexByteString", "internal/bytealg.IndexString"], unfollowed := true, recurses := true, named := ["internal/bytealg.MaxLen"], plainKeys := false, apart := false, narrowed := true }
def PayRoomsUptoSaid : Prop := payRoomsUptoRow.holds Try.pinned (OpenSpec.upto payRoomsSpec)

/-- 'swarflaw08.PayRoom', WHERE WHAT IT READS IS OF BULK AT MOST 1048576: true; the input reads as it did. -/
def payRoomUptoRow : OpenClaim := { program := "ytkdlbocjgbmbdaa", sum := "cafbee07cffc583d72644362524103325a0426655ff34c95ed4203bbe1436815", func := "swarf/swarflaw08.PayRoom", spec := "payRoom", inPlace := ["internal/bytealg.IndexByteString", "internal/bytealg.IndexString"], unfollowed := true, recurses := true, named := ["internal/bytealg.MaxLen"], plainKeys := false, apart := false, narrowed := true }
def PayRoomUptoSaid : Prop := payRoomUptoRow.holds Try.pinned (OpenSpec.upto payRoomSpec)

/-- 'swarflaw08.PaySoonest', WHERE WHAT IT READS IS OF BULK AT MOST 1048576: true; the input reads as it did. -/
def paySoonestUptoRow : OpenClaim := { program := "ytkdlbocjgbmbdaa", sum := "cafbee07cffc583d72644362524103325a0426655ff34c95ed4203bbe1436815", func := "swarf/swarflaw08.PaySoonest", spec := "paySoonest", inPlace := ["internal/bytealg.IndexByteString", "internal/bytealg.IndexString"], unfollowed := true, recurses := true, named := ["internal/bytealg.MaxLen"], plainKeys := false, apart := false, narrowed := true }
def PaySoonestUptoSaid : Prop := paySoonestUptoRow.holds Try.pinned (OpenSpec.upto paySoonestSpec)

/-- 'swarflaw08.PayTags', WHERE WHAT IT READS IS OF BULK AT MOST 1048576: true; the input reads as it did. -/
def payTagsUptoRow : OpenClaim := { program := "ytkdlbocjgbmbdaa", sum := "cafbee07cffc583d72644362524103325a0426655ff34c95ed4203bbe1436815", func := "swarf/swarflaw08.PayTags", spec := "payTags", inPlace := ["internal/bytealg.IndexByteString", "internal/bytealg.IndexString"], unfollowed := true, recurses := true, named := ["internal/bytealg.MaxLen"], plainKeys := false, apart := false, narrowed := true }
def PayTagsUptoSaid : Prop := payTagsUptoRow.holds Try.pinned (OpenSpec.upto payTagsSpec)

/-- 'swarflaw08.PayFound', WHERE WHAT IT READS IS OF BULK AT MOST 1048576: true; the input reads as it did. -/
def payFoundUptoRow : OpenClaim := { program := "ytkdlbocjgbmbdaa", sum := "cafbee07cffc583d72644362524103325a0426655ff34c95ed4203bbe1436815", func := "swarf/swarflaw08.PayFound", spec := "payFound", inPlace := ["internal/bytealg.IndexByteString", "internal/bytealg.IndexString"], unfollowed := true, recurses := true, named := ["internal/bytealg.MaxLen"], plainKeys := false, apart := false, narrowed := true }
def PayFoundUptoSaid : Prop := payFoundUptoRow.holds Try.pinned (OpenSpec.upto payFoundSpec)

/-- 'swarflaw08.PayTrue', WHERE WHAT IT READS IS OF BULK AT MOST 1048576: true; the input reads as it did. -/
def payTrueUptoRow : OpenClaim := { program := "ytkdlbocjgbmbdaa", sum := "cafbee07cffc583d72644362524103325a0426655ff34c95ed4203bbe1436815", func := "swarf/swarflaw08.PayTrue", spec := "payTrue", inPlace := ["internal/bytealg.IndexByteString", "internal/bytealg.IndexString"], unfollowed := true, recurses := true, named := ["internal/bytealg.MaxLen"], plainKeys := false, apart := false, narrowed := true }
def PayTrueUptoSaid : Prop := payTrueUptoRow.holds Try.pinned (OpenSpec.upto payTrueSpec)

/-- 'swarflaw08.PayHedges', WHERE WHAT IT READS IS OF BULK AT MOST 1048576: true; the input reads as it did. -/
def payHedgesUptoRow : OpenClaim := { program := "ytkdlbocjgbmbdaa", sum := "cafbee07cffc583d72644362524103325a0426655ff34c95ed4203bbe1436815", func := "swarf/swarflaw08.PayHedges", spec := "payHedges", inPlace := ["internal/bytealg.IndexByteString", "internal/bytealg.IndexString"], unfollowed := true, recurses := true, named := ["internal/bytealg.MaxLen"], plainKeys := false, apart := false, narrowed := true }
def PayHedgesUptoSaid : Prop := payHedgesUptoRow.holds Try.pinned (OpenSpec.upto payHedgesSpec)

/-- 'swarftop.TopPaid', WHERE WHAT IT READS IS OF BULK AT MOST 1048576: true; the input reads as it did. -/
def topPaidUptoRow : OpenClaim := { program := "ytkdlbocjgbmbdaa", sum := "cafbee07cffc583d72644362524103325a0426655ff34c95ed4203bbe1436815", func := "swarf/swarftop.TopPaid", spec := "topPaid", unfollowed := true, recurses := true, plainKeys := false, apart := false, narrowed := true }
def TopPaidUptoSaid : Prop := topPaidUptoRow.holds Try.pinned (OpenSpec.upto topPaidSpec)

/-- 'swarflaw08.PayHedged', WHERE WHAT IT READS IS OF BULK AT MOST 1048576: true; the input reads as it did. -/
def payHedgedUptoRow : OpenClaim := { program := "ytkdlbocjgbmbdaa", sum := "cafbee07cffc583d72644362524103325a0426655ff34c95ed4203bbe1436815", func := "swarf/swarflaw08.PayHedged", spec := "payHedged", inPlace := ["internal/bytealg.IndexByteString", "internal/bytealg.IndexString"], unfollowed := true, recurses := true, named := ["internal/bytealg.MaxLen"], plainKeys := false, apart := false, narrowed := true }
def PayHedgedUptoSaid : Prop := payHedgedUptoRow.holds Try.pinned (OpenSpec.upto payHedgedSpec)

/-- 'swarflaw08.PaySplit', WHERE WHAT IT READS IS OF BULK AT MOST 1048576: true; the input reads as it did. -/
def paySplitUptoRow : OpenClaim := { program := "ytkdlbocjgbmbdaa", sum := "cafbee07cffc583d72644362524103325a0426655ff34c95ed4203bbe1436815", func := "swarf/swarflaw08.PaySplit", spec := "paySplit", inPlace := ["internal/bytealg.IndexByteString", "internal/bytealg.IndexString"], unfollowed := true, recurses := true, named := ["internal/bytealg.MaxLen"], plainKeys := false, apart := false, narrowed := true }
def PaySplitUptoSaid : Prop := paySplitUptoRow.holds Try.pinned (OpenSpec.upto paySplitSpec)

/-- 'swarflaw08.PayLaws', WHERE WHAT IT READS IS OF BULK AT MOST 1048576: true; the input reads as it did. -/
def payLawsUptoRow : OpenClaim := { program := "ytkdlbocjgbmbdaa", sum := "cafbee07cffc583d72644362524103325a0426655ff34c95ed4203bbe1436815", func := "swarf/swarflaw08.PayLaws", spec := "payLaws", inPlace := ["internal/bytealg.IndexByteString", "internal/bytealg.IndexString"], unfollowed := true, recurses := true, named := ["internal/bytealg.MaxLen"], plainKeys := false, apart := false, narrowed := true }
def PayLawsUptoSaid : Prop := payLawsUptoRow.holds Try.pinned (OpenSpec.upto payLawsSpec)

end Rows
end Go.Proofs.Ytkdlbocjgbmbdaa
