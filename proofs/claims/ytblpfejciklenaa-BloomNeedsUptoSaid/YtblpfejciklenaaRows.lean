/-
  NARROWER THAN 'FOR EVERY INPUT', by the rows' own cells (each row's printed sentence says how): BloomNeeds: loops.
  DERIVED. THE GIVEN ROWS OF THIS SEAT. 9 by the template 'for every input the law returns true; each argument reads behind the call as it read before'; 0 by the template 'total and deterministic' (their statements: YtblpfejciklenaaTotals.lean).
  GIVEN WITH THE SEED: the statements are not yours to turn. If you find one false, say at which input.
  Laid BY PROGRAM, IN A SANDBOX (cutbox-rows.mjs): the forced cells as the released guide's own fill.sh prints them over the translation 3b0906c2619b7e9e… (all of the seat's roots in one cut). By AI agents, Wed Nov 11 2026. No macro, syntax, notation, axiom, sorry.
-/
import Derived.Test.YtblpfejciklenaaChecked
import GoSem.Claim
import GoSem.ClaimJoined
import GoSem.ClaimMapViews
import Derived.JoinedTies
import Derived.KernelRfl
namespace Go.Proofs.Ytblpfejciklenaa
/- THE CELL 'sum', in the pinned program and in every row, IS THE sha256 OF THE DUMP (.gsa) THAT YtblpfejciklenaaProg.lean LOADS. Nothing in Lean hashes anything: it is a label: what it is worth is what the hold of that sum in a sandbox is worth. -/
noncomputable def Try.pinned : Pinned := { name := "ytblpfejciklenaa", sum := "3b0906c2619b7e9e06eb929eedbfaa963b837330521a64fff5387469026391de", checked := Try.checked }
namespace Rows
def none {H : Type} : Left H := { results := [], args := [] }

/-- 'gouachelaw10.BloomNeeds': WHATEVER THE INPUT: true; the input reads as it did. -/
def bloomNeedsSpec : ChangeSpec := { name := "bloomNeeds", fn := fun _ => fun
  | [d1, d2] => { results := [.lit (.bool true)], args := [d1, d2] }
  | _ => none }
def bloomNeedsRow : OpenClaim := { program := "ytblpfejciklenaa", sum := "3b0906c2619b7e9e06eb929eedbfaa963b837330521a64fff5387469026391de", func := "gouache/gouachelaw10.BloomNeeds", spec := "bloomNeeds", unfollowed := true, recurses := true, loops := true, apart := false }
def BloomNeedsSaid : Prop := bloomNeedsRow.holds Try.pinned (OpenSpec.ofChange bloomNeedsSpec)

/-- ITS FALSE NEIGHBOUR: 'it returns false'. Refute it at one input. -/
def bloomNeedsWrong : ChangeSpec := { name := "bloomNeeds", fn := fun _ => fun
  | [d1, d2] => { results := [.lit (.bool false)], args := [d1, d2] }
  | _ => none }
def BloomNeedsWrongFalsely : Prop := bloomNeedsRow.holds Try.pinned (OpenSpec.ofChange bloomNeedsWrong)

/-- 'gouachelaw07.DomKeeps': WHATEVER THE INPUT: true; the input reads as it did. -/
def domKeepsSpec : ChangeSpec := { name := "domKeeps", fn := fun _ => fun
  | [d] => { results := [.lit (.bool true)], args := [d] }
  | _ => none }
def domKeepsRow : OpenClaim := { program := "ytblpfejciklenaa", sum := "3b0906c2619b7e9e06eb929eedbfaa963b837330521a64fff5387469026391de", func := "gouache/gouachelaw07.DomKeeps", spec := "domKeeps", inPlace := ["slices.overlaps[int]", "slices.overlaps[gouache/api.Attr]"], unfollowed := true, recurses := true, apart := false }
def DomKeepsSaid : Prop := domKeepsRow.holds Try.pinned (OpenSpec.ofChange domKeepsSpec)

/-- ITS FALSE NEIGHBOUR: 'it returns false'. Refute it at one input. -/
def domKeepsWrong : ChangeSpec := { name := "domKeeps", fn := fun _ => fun
  | [d] => { results := [.lit (.bool false)], args := [d] }
  | _ => none }
def DomKeepsWrongFalsely : Prop := domKeepsRow.holds Try.pinned (OpenSpec.ofChange domKeepsWrong)

/-- 'gouachelaw07.DomActs': WHATEVER THE INPUT: true; the input reads as it did. -/
def domActsSpec : ChangeSpec := { name := "domActs", fn := fun _ => fun
  | [d1, d2, d3] => { results := [.lit (.bool true)], args := [d1, d2, d3] }
  | _ => none }
def domActsRow : OpenClaim := { program := "ytblpfejciklenaa", sum := "3b0906c2619b7e9e06eb929eedbfaa963b837330521a64fff5387469026391de", func := "gouache/gouachelaw07.DomActs", spec := "domActs", inPlace := ["slices.overlaps[int]", "slices.overlaps[gouache/api.Attr]"], unfollowed := true, recurses := true, apart := false }
def DomActsSaid : Prop := domActsRow.holds Try.pinned (OpenSpec.ofChange domActsSpec)

/-- ITS FALSE NEIGHBOUR: 'it returns false'. Refute it at one input. -/
def domActsWrong : ChangeSpec := { name := "domActs", fn := fun _ => fun
  | [d1, d2, d3] => { results := [.lit (.bool false)], args := [d1, d2, d3] }
  | _ => none }
def DomActsWrongFalsely : Prop := domActsRow.holds Try.pinned (OpenSpec.ofChange domActsWrong)

/-- 'gouachelaw08.WalkUnders': WHATEVER THE INPUT: true; the input reads as it did. -/
def walkUndersSpec : ChangeSpec := { name := "walkUnders", fn := fun _ => fun
  | [d1, d2, d3] => { results := [.lit (.bool true)], args := [d1, d2, d3] }
  | _ => none }
def walkUndersRow : OpenClaim := { program := "ytblpfejciklenaa", sum := "3b0906c2619b7e9e06eb929eedbfaa963b837330521a64fff5387469026391de", func := "gouache/gouachelaw08.WalkUnders", spec := "walkUnders", inPlace := ["slices.overlaps[int]", "slices.overlaps[gouache/api.Attr]"], unfollowed := true, recurses := true, apart := false }
def WalkUndersSaid : Prop := walkUndersRow.holds Try.pinned (OpenSpec.ofChange walkUndersSpec)

/-- ITS FALSE NEIGHBOUR: 'it returns false'. Refute it at one input. -/
def walkUndersWrong : ChangeSpec := { name := "walkUnders", fn := fun _ => fun
  | [d1, d2, d3] => { results := [.lit (.bool false)], args := [d1, d2, d3] }
  | _ => none }
def WalkUndersWrongFalsely : Prop := walkUndersRow.holds Try.pinned (OpenSpec.ofChange walkUndersWrong)

/-- 'gouachelaw08.WalkUps': WHATEVER THE INPUT: true; the input reads as it did. -/
def walkUpsSpec : ChangeSpec := { name := "walkUps", fn := fun _ => fun
  | [d1, d2] => { results := [.lit (.bool true)], args := [d1, d2] }
  | _ => none }
def walkUpsRow : OpenClaim := { program := "ytblpfejciklenaa", sum := "3b0906c2619b7e9e06eb929eedbfaa963b837330521a64fff5387469026391de", func := "gouache/gouachelaw08.WalkUps", spec := "walkUps", inPlace := ["slices.overlaps[int]", "slices.overlaps[gouache/api.Attr]"], unfollowed := true, recurses := true, apart := false }
def WalkUpsSaid : Prop := walkUpsRow.holds Try.pinned (OpenSpec.ofChange walkUpsSpec)

/-- ITS FALSE NEIGHBOUR: 'it returns false'. Refute it at one input. -/
def walkUpsWrong : ChangeSpec := { name := "walkUps", fn := fun _ => fun
  | [d1, d2] => { results := [.lit (.bool false)], args := [d1, d2] }
  | _ => none }
def WalkUpsWrongFalsely : Prop := walkUpsRow.holds Try.pinned (OpenSpec.ofChange walkUpsWrong)

/-- 'gouachelaw08.WalkKids': WHATEVER THE INPUT: true; the input reads as it did. -/
def walkKidsSpec : ChangeSpec := { name := "walkKids", fn := fun _ => fun
  | [d1, d2] => { results := [.lit (.bool true)], args := [d1, d2] }
  | _ => none }
def walkKidsRow : OpenClaim := { program := "ytblpfejciklenaa", sum := "3b0906c2619b7e9e06eb929eedbfaa963b837330521a64fff5387469026391de", func := "gouache/gouachelaw08.WalkKids", spec := "walkKids", inPlace := ["slices.overlaps[int]", "slices.overlaps[gouache/api.Attr]"], unfollowed := true, recurses := true, apart := false }
def WalkKidsSaid : Prop := walkKidsRow.holds Try.pinned (OpenSpec.ofChange walkKidsSpec)

/-- ITS FALSE NEIGHBOUR: 'it returns false'. Refute it at one input. -/
def walkKidsWrong : ChangeSpec := { name := "walkKids", fn := fun _ => fun
  | [d1, d2] => { results := [.lit (.bool false)], args := [d1, d2] }
  | _ => none }
def WalkKidsWrongFalsely : Prop := walkKidsRow.holds Try.pinned (OpenSpec.ofChange walkKidsWrong)

/-- 'gouachelaw08.WalkPlaces': WHATEVER THE INPUT: true; the input reads as it did. -/
def walkPlacesSpec : ChangeSpec := { name := "walkPlaces", fn := fun _ => fun
  | [d1, d2, d3] => { results := [.lit (.bool true)], args := [d1, d2, d3] }
  | _ => none }
def walkPlacesRow : OpenClaim := { program := "ytblpfejciklenaa", sum := "3b0906c2619b7e9e06eb929eedbfaa963b837330521a64fff5387469026391de", func := "gouache/gouachelaw08.WalkPlaces", spec := "walkPlaces", inPlace := ["slices.overlaps[int]", "slices.overlaps[gouache/api.Attr]"], unfollowed := true, recurses := true, apart := false }
def WalkPlacesSaid : Prop := walkPlacesRow.holds Try.pinned (OpenSpec.ofChange walkPlacesSpec)

/-- ITS FALSE NEIGHBOUR: 'it returns false'. Refute it at one input. -/
def walkPlacesWrong : ChangeSpec := { name := "walkPlaces", fn := fun _ => fun
  | [d1, d2, d3] => { results := [.lit (.bool false)], args := [d1, d2, d3] }
  | _ => none }
def WalkPlacesWrongFalsely : Prop := walkPlacesRow.holds Try.pinned (OpenSpec.ofChange walkPlacesWrong)

/-- 'gouachelaw08.WalkOrders': WHATEVER THE INPUT: true; the input reads as it did. -/
def walkOrdersSpec : ChangeSpec := { name := "walkOrders", fn := fun _ => fun
  | [d1, d2, d3] => { results := [.lit (.bool true)], args := [d1, d2, d3] }
  | _ => none }
def walkOrdersRow : OpenClaim := { program := "ytblpfejciklenaa", sum := "3b0906c2619b7e9e06eb929eedbfaa963b837330521a64fff5387469026391de", func := "gouache/gouachelaw08.WalkOrders", spec := "walkOrders", inPlace := ["slices.overlaps[int]", "slices.overlaps[gouache/api.Attr]"], unfollowed := true, recurses := true, apart := false }
def WalkOrdersSaid : Prop := walkOrdersRow.holds Try.pinned (OpenSpec.ofChange walkOrdersSpec)

/-- ITS FALSE NEIGHBOUR: 'it returns false'. Refute it at one input. -/
def walkOrdersWrong : ChangeSpec := { name := "walkOrders", fn := fun _ => fun
  | [d1, d2, d3] => { results := [.lit (.bool false)], args := [d1, d2, d3] }
  | _ => none }
def WalkOrdersWrongFalsely : Prop := walkOrdersRow.holds Try.pinned (OpenSpec.ofChange walkOrdersWrong)

/-- 'gouachelaw08.WalkOnce': WHATEVER THE INPUT: true; the input reads as it did. -/
def walkOnceSpec : ChangeSpec := { name := "walkOnce", fn := fun _ => fun
  | [d1, d2] => { results := [.lit (.bool true)], args := [d1, d2] }
  | _ => none }
def walkOnceRow : OpenClaim := { program := "ytblpfejciklenaa", sum := "3b0906c2619b7e9e06eb929eedbfaa963b837330521a64fff5387469026391de", func := "gouache/gouachelaw08.WalkOnce", spec := "walkOnce", inPlace := ["slices.overlaps[int]", "slices.overlaps[gouache/api.Attr]"], unfollowed := true, recurses := true, apart := false }
def WalkOnceSaid : Prop := walkOnceRow.holds Try.pinned (OpenSpec.ofChange walkOnceSpec)

/-- ITS FALSE NEIGHBOUR: 'it returns false'. Refute it at one input. -/
def walkOnceWrong : ChangeSpec := { name := "walkOnce", fn := fun _ => fun
  | [d1, d2] => { results := [.lit (.bool false)], args := [d1, d2] }
  | _ => none }
def WalkOnceWrongFalsely : Prop := walkOnceRow.holds Try.pinned (OpenSpec.ofChange walkOnceWrong)

/- THE SECOND FORM. 'bulk': how many values and letters a reading holds, each counted each time it is reached (what is shared counts as often as it is met; a slice's spare places count too). A statement '..UptoSaid' is the law's where the arguments, and the package variables that the reading takes, are together of bulk at most 1048576: NARROWER than '..Said'. Prove '..Said' where nothing that the law and all that it calls make is longer than what came in: it says more and counts as full. Else prove '..UptoSaid'. A law counts once. -/
mutual
def uptoBulk {H : Type} : DataW H → Nat
  | .lit (.string bytes) => bytes.length + 1
  | .lit _ => 1
  | .nil => 1
  | .ptr d => uptoBulk d + 1
  | .slice elems spare => uptoBulkAll elems + uptoBulkAll spare + 1
  | .agg parts => uptoBulkAll parts + 1
  | .iface _ d => uptoBulk d + 1
  | .map entries => uptoBulkEntries entries + 1
  | .held _ => 1
def uptoBulkAll {H : Type} : List (DataW H) → Nat
  | [] => 0
  | d :: r => uptoBulk d + uptoBulkAll r
def uptoBulkEntries {H : Type} : List (Lit × DataW H) → Nat
  | [] => 0
  | x :: r => uptoBulkEntry x + uptoBulkEntries r
def uptoBulkEntry {H : Type} : Lit × DataW H → Nat
  | (.string bytes, d) => bytes.length + uptoBulk d + 1
  | (_, d) => uptoBulk d + 1
 end
def uptoSmall : (H : Type) → List (DataW H) → Bool := fun _ ds => decide (uptoBulkAll ds ≤ 1048576)
def OpenSpec.upto (s : _root_.Go.ChangeSpec) : _root_.Go.OpenSpec := { _root_.Go.OpenSpec.ofChange s with cond := some uptoSmall }

/-- 'gouachelaw10.BloomNeeds', WHERE WHAT IT READS IS OF BULK AT MOST 1048576: true; the input reads as it did. -/
def bloomNeedsUptoRow : OpenClaim := { program := "ytblpfejciklenaa", sum := "3b0906c2619b7e9e06eb929eedbfaa963b837330521a64fff5387469026391de", func := "gouache/gouachelaw10.BloomNeeds", spec := "bloomNeeds", unfollowed := true, recurses := true, loops := true, apart := false, narrowed := true }
def BloomNeedsUptoSaid : Prop := bloomNeedsUptoRow.holds Try.pinned (OpenSpec.upto bloomNeedsSpec)

/-- 'gouachelaw07.DomKeeps', WHERE WHAT IT READS IS OF BULK AT MOST 1048576: true; the input reads as it did. -/
def domKeepsUptoRow : OpenClaim := { program := "ytblpfejciklenaa", sum := "3b0906c2619b7e9e06eb929eedbfaa963b837330521a64fff5387469026391de", func := "gouache/gouachelaw07.DomKeeps", spec := "domKeeps", inPlace := ["slices.overlaps[int]", "slices.overlaps[gouache/api.Attr]"], unfollowed := true, recurses := true, apart := false, narrowed := true }
def DomKeepsUptoSaid : Prop := domKeepsUptoRow.holds Try.pinned (OpenSpec.upto domKeepsSpec)

/-- 'gouachelaw07.DomActs', WHERE WHAT IT READS IS OF BULK AT MOST 1048576: true; the input reads as it did. -/
def domActsUptoRow : OpenClaim := { program := "ytblpfejciklenaa", sum := "3b0906c2619b7e9e06eb929eedbfaa963b837330521a64fff5387469026391de", func := "gouache/gouachelaw07.DomActs", spec := "domActs", inPlace := ["slices.overlaps[int]", "slices.overlaps[gouache/api.Attr]"], unfollowed := true, recurses := true, apart := false, narrowed := true }
def DomActsUptoSaid : Prop := domActsUptoRow.holds Try.pinned (OpenSpec.upto domActsSpec)

/-- 'gouachelaw08.WalkUnders', WHERE WHAT IT READS IS OF BULK AT MOST 1048576: true; the input reads as it did. -/
def walkUndersUptoRow : OpenClaim := { program := "ytblpfejciklenaa", sum := "3b0906c2619b7e9e06eb929eedbfaa963b837330521a64fff5387469026391de", func := "gouache/gouachelaw08.WalkUnders", spec := "walkUnders", inPlace := ["slices.overlaps[int]", "slices.overlaps[gouache/api.Attr]"], unfollowed := true, recurses := true, apart := false, narrowed := true }
def WalkUndersUptoSaid : Prop := walkUndersUptoRow.holds Try.pinned (OpenSpec.upto walkUndersSpec)

/-- 'gouachelaw08.WalkUps', WHERE WHAT IT READS IS OF BULK AT MOST 1048576: true; the input reads as it did. -/
def walkUpsUptoRow : OpenClaim := { program := "ytblpfejciklenaa", sum := "3b0906c2619b7e9e06eb929eedbfaa963b837330521a64fff5387469026391de", func := "gouache/gouachelaw08.WalkUps", spec := "walkUps", inPlace := ["slices.overlaps[int]", "slices.overlaps[gouache/api.Attr]"], unfollowed := true, recurses := true, apart := false, narrowed := true }
def WalkUpsUptoSaid : Prop := walkUpsUptoRow.holds Try.pinned (OpenSpec.upto walkUpsSpec)

/-- 'gouachelaw08.WalkKids', WHERE WHAT IT READS IS OF BULK AT MOST 1048576: true; the input reads as it did. -/
def walkKidsUptoRow : OpenClaim := { program := "ytblpfejciklenaa", sum := "3b0906c2619b7e9e06eb929eedbfaa963b837330521a64fff5387469026391de", func := "gouache/gouachelaw08.WalkKids", spec := "walkKids", inPlace := ["slices.overlaps[int]", "slices.overlaps[gouache/api.Attr]"], unfollowed := true, recurses := true, apart := false, narrowed := true }
def WalkKidsUptoSaid : Prop := walkKidsUptoRow.holds Try.pinned (OpenSpec.upto walkKidsSpec)

/-- 'gouachelaw08.WalkPlaces', WHERE WHAT IT READS IS OF BULK AT MOST 1048576: true; the input reads as it did. -/
def walkPlacesUptoRow : OpenClaim := { program := "ytblpfejciklenaa", sum := "3b0906c2619b7e9e06eb929eedbfaa963b837330521a64fff5387469026391de", func := "gouache/gouachelaw08.WalkPlaces", spec := "walkPlaces", inPlace := ["slices.overlaps[int]", "slices.overlaps[gouache/api.Attr]"], unfollowed := true, recurses := true, apart := false, narrowed := true }
def WalkPlacesUptoSaid : Prop := walkPlacesUptoRow.holds Try.pinned (OpenSpec.upto walkPlacesSpec)

/-- 'gouachelaw08.WalkOrders', WHERE WHAT IT READS IS OF BULK AT MOST 1048576: true; the input reads as it did. -/
def walkOrdersUptoRow : OpenClaim := { program := "ytblpfejciklenaa", sum := "3b0906c2619b7e9e06eb929eedbfaa963b837330521a64fff5387469026391de", func := "gouache/gouachelaw08.WalkOrders", spec := "walkOrders", inPlace := ["slices.overlaps[int]", "slices.overlaps[gouache/api.Attr]"], unfollowed := true, recurses := true, apart := false, narrowed := true }
def WalkOrdersUptoSaid : Prop := walkOrdersUptoRow.holds Try.pinned (OpenSpec.upto walkOrdersSpec)

/-- 'gouachelaw08.WalkOnce', WHERE WHAT IT READS IS OF BULK AT MOST 1048576: true; the input reads as it did. -/
def walkOnceUptoRow : OpenClaim := { program := "ytblpfejciklenaa", sum := "3b0906c2619b7e9e06eb929eedbfaa963b837330521a64fff5387469026391de", func := "gouache/gouachelaw08.WalkOnce", spec := "walkOnce", inPlace := ["slices.overlaps[int]", "slices.overlaps[gouache/api.Attr]"], unfollowed := true, recurses := true, apart := false, narrowed := true }
def WalkOnceUptoSaid : Prop := walkOnceUptoRow.holds Try.pinned (OpenSpec.upto walkOnceSpec)

end Rows
end Go.Proofs.Ytblpfejciklenaa
