/-
  No cell of these rows narrows 'for every input' (looked for: loops, veiled, ifaces, maps, wideKeys, modest, calm, conditions, laid).
  DERIVED. THE GIVEN ROWS OF THIS SEAT. 13 by the template 'for every input the law returns true; each argument reads behind the call as it read before'; 0 by the template 'total and deterministic' (their statements: YteeikpmoboehdaaTotals.lean).
  GIVEN WITH THE SEED: the statements are not yours to turn. If you find one false, say at which input.
  Laid BY PROGRAM, IN A SANDBOX (cutbox-rows.mjs): the forced cells as the released guide's own fill.sh prints them over the translation 60cc2baab257155a… (all of the seat's roots in one cut). By AI agents, Wed Nov 11 2026. No macro, syntax, notation, axiom, sorry.
-/
import Derived.Test.YteeikpmoboehdaaChecked
import GoSem.Claim
import GoSem.ClaimJoined
import GoSem.ClaimMapViews
import Derived.JoinedTies
import Derived.KernelRfl
namespace Go.Proofs.Yteeikpmoboehdaa
/- THE CELL 'sum', in the pinned program and in every row, IS THE sha256 OF THE DUMP (.gsa) THAT YteeikpmoboehdaaProg.lean LOADS. Nothing in Lean hashes anything: it is a label: what it is worth is what the hold of that sum in a sandbox is worth. -/
noncomputable def Try.pinned : Pinned := { name := "yteeikpmoboehdaa", sum := "60cc2baab257155a7960ca9592634975944cb8ea8690da141d240669816bd514", checked := Try.checked }
namespace Rows
def none {H : Type} : Left H := { results := [], args := [] }

/-- 'glisterlaw11.PayShares': WHATEVER THE INPUT: true; the input reads as it did. -/
def paySharesSpec : ChangeSpec := { name := "payShares", fn := fun _ => fun
  | [d1, d2, d3, d4] => { results := [.lit (.bool true)], args := [d1, d2, d3, d4] }
  | _ => none }
def paySharesRow : OpenClaim := { program := "yteeikpmoboehdaa", sum := "60cc2baab257155a7960ca9592634975944cb8ea8690da141d240669816bd514", func := "glister/glisterlaw11.PayShares", spec := "payShares", unfollowed := true, recurses := true, plainKeys := false, apart := false }
def PaySharesSaid : Prop := paySharesRow.holds Try.pinned (OpenSpec.ofChange paySharesSpec)

/-- ITS FALSE NEIGHBOUR: 'it returns false'. Refute it at one input. -/
def paySharesWrong : ChangeSpec := { name := "payShares", fn := fun _ => fun
  | [d1, d2, d3, d4] => { results := [.lit (.bool false)], args := [d1, d2, d3, d4] }
  | _ => none }
def PaySharesWrongFalsely : Prop := paySharesRow.holds Try.pinned (OpenSpec.ofChange paySharesWrong)

/-- 'glisterlaw11.PayWords': WHATEVER THE INPUT: true; the input reads as it did. -/
def payWordsSpec : ChangeSpec := { name := "payWords", fn := fun _ => fun
  | [d1, d2] => { results := [.lit (.bool true)], args := [d1, d2] }
  | _ => none }
def payWordsRow : OpenClaim := { program := "yteeikpmoboehdaa", sum := "60cc2baab257155a7960ca9592634975944cb8ea8690da141d240669816bd514", func := "glister/glisterlaw11.PayWords", spec := "payWords", unfollowed := true, recurses := true, plainKeys := false, apart := false }
def PayWordsSaid : Prop := payWordsRow.holds Try.pinned (OpenSpec.ofChange payWordsSpec)

/-- ITS FALSE NEIGHBOUR: 'it returns false'. Refute it at one input. -/
def payWordsWrong : ChangeSpec := { name := "payWords", fn := fun _ => fun
  | [d1, d2] => { results := [.lit (.bool false)], args := [d1, d2] }
  | _ => none }
def PayWordsWrongFalsely : Prop := payWordsRow.holds Try.pinned (OpenSpec.ofChange payWordsWrong)

/-- 'glisterlaw11.PaySettles': WHATEVER THE INPUT: true; the input reads as it did. -/
def paySettlesSpec : ChangeSpec := { name := "paySettles", fn := fun _ => fun
  | [d1, d2, d3] => { results := [.lit (.bool true)], args := [d1, d2, d3] }
  | _ => none }
def paySettlesRow : OpenClaim := { program := "yteeikpmoboehdaa", sum := "60cc2baab257155a7960ca9592634975944cb8ea8690da141d240669816bd514", func := "glister/glisterlaw11.PaySettles", spec := "paySettles", unfollowed := true, recurses := true, plainKeys := false, apart := false }
def PaySettlesSaid : Prop := paySettlesRow.holds Try.pinned (OpenSpec.ofChange paySettlesSpec)

/-- ITS FALSE NEIGHBOUR: 'it returns false'. Refute it at one input. -/
def paySettlesWrong : ChangeSpec := { name := "paySettles", fn := fun _ => fun
  | [d1, d2, d3] => { results := [.lit (.bool false)], args := [d1, d2, d3] }
  | _ => none }
def PaySettlesWrongFalsely : Prop := paySettlesRow.holds Try.pinned (OpenSpec.ofChange paySettlesWrong)

/-- 'glisterlaw11.PayClaims': WHATEVER THE INPUT: true; the input reads as it did. -/
def payClaimsSpec : ChangeSpec := { name := "payClaims", fn := fun _ => fun
  | [d1, d2, d3] => { results := [.lit (.bool true)], args := [d1, d2, d3] }
  | _ => none }
def payClaimsRow : OpenClaim := { program := "yteeikpmoboehdaa", sum := "60cc2baab257155a7960ca9592634975944cb8ea8690da141d240669816bd514", func := "glister/glisterlaw11.PayClaims", spec := "payClaims", unfollowed := true, recurses := true, plainKeys := false, apart := false }
def PayClaimsSaid : Prop := payClaimsRow.holds Try.pinned (OpenSpec.ofChange payClaimsSpec)

/-- ITS FALSE NEIGHBOUR: 'it returns false'. Refute it at one input. -/
def payClaimsWrong : ChangeSpec := { name := "payClaims", fn := fun _ => fun
  | [d1, d2, d3] => { results := [.lit (.bool false)], args := [d1, d2, d3] }
  | _ => none }
def PayClaimsWrongFalsely : Prop := payClaimsRow.holds Try.pinned (OpenSpec.ofChange payClaimsWrong)

/-- 'glisterlaw11.PayMore': WHATEVER THE INPUT: true; the input reads as it did. -/
def payMoreSpec : ChangeSpec := { name := "payMore", fn := fun _ => fun
  | [d1, d2, d3, d4] => { results := [.lit (.bool true)], args := [d1, d2, d3, d4] }
  | _ => none }
def payMoreRow : OpenClaim := { program := "yteeikpmoboehdaa", sum := "60cc2baab257155a7960ca9592634975944cb8ea8690da141d240669816bd514", func := "glister/glisterlaw11.PayMore", spec := "payMore", unfollowed := true, recurses := true, plainKeys := false, apart := false }
def PayMoreSaid : Prop := payMoreRow.holds Try.pinned (OpenSpec.ofChange payMoreSpec)

/-- ITS FALSE NEIGHBOUR: 'it returns false'. Refute it at one input. -/
def payMoreWrong : ChangeSpec := { name := "payMore", fn := fun _ => fun
  | [d1, d2, d3, d4] => { results := [.lit (.bool false)], args := [d1, d2, d3, d4] }
  | _ => none }
def PayMoreWrongFalsely : Prop := payMoreRow.holds Try.pinned (OpenSpec.ofChange payMoreWrong)

/-- 'glisterlaw11.PayAlone': WHATEVER THE INPUT: true; the input reads as it did. -/
def payAloneSpec : ChangeSpec := { name := "payAlone", fn := fun _ => fun
  | [d1, d2, d3] => { results := [.lit (.bool true)], args := [d1, d2, d3] }
  | _ => none }
def payAloneRow : OpenClaim := { program := "yteeikpmoboehdaa", sum := "60cc2baab257155a7960ca9592634975944cb8ea8690da141d240669816bd514", func := "glister/glisterlaw11.PayAlone", spec := "payAlone", unfollowed := true, recurses := true, plainKeys := false, apart := false }
def PayAloneSaid : Prop := payAloneRow.holds Try.pinned (OpenSpec.ofChange payAloneSpec)

/-- ITS FALSE NEIGHBOUR: 'it returns false'. Refute it at one input. -/
def payAloneWrong : ChangeSpec := { name := "payAlone", fn := fun _ => fun
  | [d1, d2, d3] => { results := [.lit (.bool false)], args := [d1, d2, d3] }
  | _ => none }
def PayAloneWrongFalsely : Prop := payAloneRow.holds Try.pinned (OpenSpec.ofChange payAloneWrong)

/-- 'glisterlaw11.PayOrder': WHATEVER THE INPUT: true; the input reads as it did. -/
def payOrderSpec : ChangeSpec := { name := "payOrder", fn := fun _ => fun
  | [d1, d2, d3, d4] => { results := [.lit (.bool true)], args := [d1, d2, d3, d4] }
  | _ => none }
def payOrderRow : OpenClaim := { program := "yteeikpmoboehdaa", sum := "60cc2baab257155a7960ca9592634975944cb8ea8690da141d240669816bd514", func := "glister/glisterlaw11.PayOrder", spec := "payOrder", unfollowed := true, recurses := true, plainKeys := false, apart := false }
def PayOrderSaid : Prop := payOrderRow.holds Try.pinned (OpenSpec.ofChange payOrderSpec)

/-- ITS FALSE NEIGHBOUR: 'it returns false'. Refute it at one input. -/
def payOrderWrong : ChangeSpec := { name := "payOrder", fn := fun _ => fun
  | [d1, d2, d3, d4] => { results := [.lit (.bool false)], args := [d1, d2, d3, d4] }
  | _ => none }
def PayOrderWrongFalsely : Prop := payOrderRow.holds Try.pinned (OpenSpec.ofChange payOrderWrong)

/-- 'glisterlaw11.PayApart': WHATEVER THE INPUT: true; the input reads as it did. -/
def payApartSpec : ChangeSpec := { name := "payApart", fn := fun _ => fun
  | [d1, d2, d3, d4] => { results := [.lit (.bool true)], args := [d1, d2, d3, d4] }
  | _ => none }
def payApartRow : OpenClaim := { program := "yteeikpmoboehdaa", sum := "60cc2baab257155a7960ca9592634975944cb8ea8690da141d240669816bd514", func := "glister/glisterlaw11.PayApart", spec := "payApart", unfollowed := true, recurses := true, plainKeys := false, apart := false }
def PayApartSaid : Prop := payApartRow.holds Try.pinned (OpenSpec.ofChange payApartSpec)

/-- ITS FALSE NEIGHBOUR: 'it returns false'. Refute it at one input. -/
def payApartWrong : ChangeSpec := { name := "payApart", fn := fun _ => fun
  | [d1, d2, d3, d4] => { results := [.lit (.bool false)], args := [d1, d2, d3, d4] }
  | _ => none }
def PayApartWrongFalsely : Prop := payApartRow.holds Try.pinned (OpenSpec.ofChange payApartWrong)

/-- 'glisterlaw11.PayBounds': WHATEVER THE INPUT: true; the input reads as it did. -/
def payBoundsSpec : ChangeSpec := { name := "payBounds", fn := fun _ => fun
  | [d1, d2, d3] => { results := [.lit (.bool true)], args := [d1, d2, d3] }
  | _ => none }
def payBoundsRow : OpenClaim := { program := "yteeikpmoboehdaa", sum := "60cc2baab257155a7960ca9592634975944cb8ea8690da141d240669816bd514", func := "glister/glisterlaw11.PayBounds", spec := "payBounds", unfollowed := true, recurses := true, plainKeys := false, apart := false }
def PayBoundsSaid : Prop := payBoundsRow.holds Try.pinned (OpenSpec.ofChange payBoundsSpec)

/-- ITS FALSE NEIGHBOUR: 'it returns false'. Refute it at one input. -/
def payBoundsWrong : ChangeSpec := { name := "payBounds", fn := fun _ => fun
  | [d1, d2, d3] => { results := [.lit (.bool false)], args := [d1, d2, d3] }
  | _ => none }
def PayBoundsWrongFalsely : Prop := payBoundsRow.holds Try.pinned (OpenSpec.ofChange payBoundsWrong)

/-- 'glisterlaw11.PayTruth': WHATEVER THE INPUT: true; the input reads as it did. -/
def payTruthSpec : ChangeSpec := { name := "payTruth", fn := fun _ => fun
  | [d1, d2, d3] => { results := [.lit (.bool true)], args := [d1, d2, d3] }
  | _ => none }
def payTruthRow : OpenClaim := { program := "yteeikpmoboehdaa", sum := "60cc2baab257155a7960ca9592634975944cb8ea8690da141d240669816bd514", func := "glister/glisterlaw11.PayTruth", spec := "payTruth", unfollowed := true, recurses := true, plainKeys := false, apart := false }
def PayTruthSaid : Prop := payTruthRow.holds Try.pinned (OpenSpec.ofChange payTruthSpec)

/-- ITS FALSE NEIGHBOUR: 'it returns false'. Refute it at one input. -/
def payTruthWrong : ChangeSpec := { name := "payTruth", fn := fun _ => fun
  | [d1, d2, d3] => { results := [.lit (.bool false)], args := [d1, d2, d3] }
  | _ => none }
def PayTruthWrongFalsely : Prop := payTruthRow.holds Try.pinned (OpenSpec.ofChange payTruthWrong)

/-- 'glisterlaw11.PayGroups': WHATEVER THE INPUT: true; the input reads as it did. -/
def payGroupsSpec : ChangeSpec := { name := "payGroups", fn := fun _ => fun
  | [d1, d2, d3] => { results := [.lit (.bool true)], args := [d1, d2, d3] }
  | _ => none }
def payGroupsRow : OpenClaim := { program := "yteeikpmoboehdaa", sum := "60cc2baab257155a7960ca9592634975944cb8ea8690da141d240669816bd514", func := "glister/glisterlaw11.PayGroups", spec := "payGroups", unfollowed := true, recurses := true, plainKeys := false, apart := false }
def PayGroupsSaid : Prop := payGroupsRow.holds Try.pinned (OpenSpec.ofChange payGroupsSpec)

/-- ITS FALSE NEIGHBOUR: 'it returns false'. Refute it at one input. -/
def payGroupsWrong : ChangeSpec := { name := "payGroups", fn := fun _ => fun
  | [d1, d2, d3] => { results := [.lit (.bool false)], args := [d1, d2, d3] }
  | _ => none }
def PayGroupsWrongFalsely : Prop := payGroupsRow.holds Try.pinned (OpenSpec.ofChange payGroupsWrong)

/-- 'glisterlaw11.PayFewest': WHATEVER THE INPUT: true; the input reads as it did. -/
def payFewestSpec : ChangeSpec := { name := "payFewest", fn := fun _ => fun
  | [d1, d2, d3, d4] => { results := [.lit (.bool true)], args := [d1, d2, d3, d4] }
  | _ => none }
def payFewestRow : OpenClaim := { program := "yteeikpmoboehdaa", sum := "60cc2baab257155a7960ca9592634975944cb8ea8690da141d240669816bd514", func := "glister/glisterlaw11.PayFewest", spec := "payFewest", unfollowed := true, recurses := true, plainKeys := false, apart := false }
def PayFewestSaid : Prop := payFewestRow.holds Try.pinned (OpenSpec.ofChange payFewestSpec)

/-- ITS FALSE NEIGHBOUR: 'it returns false'. Refute it at one input. -/
def payFewestWrong : ChangeSpec := { name := "payFewest", fn := fun _ => fun
  | [d1, d2, d3, d4] => { results := [.lit (.bool false)], args := [d1, d2, d3, d4] }
  | _ => none }
def PayFewestWrongFalsely : Prop := payFewestRow.holds Try.pinned (OpenSpec.ofChange payFewestWrong)

/-- 'glisterlaw11.PayNames': WHATEVER THE INPUT: true; the input reads as it did. -/
def payNamesSpec : ChangeSpec := { name := "payNames", fn := fun _ => fun
  | [] => { results := [.lit (.bool true)], args := [] }
  | _ => none }
def payNamesRow : OpenClaim := { program := "yteeikpmoboehdaa", sum := "60cc2baab257155a7960ca9592634975944cb8ea8690da141d240669816bd514", func := "glister/glisterlaw11.PayNames", spec := "payNames", unfollowed := true, recurses := true, plainKeys := false, apart := false }
def PayNamesSaid : Prop := payNamesRow.holds Try.pinned (OpenSpec.ofChange payNamesSpec)

/-- ITS FALSE NEIGHBOUR: 'it returns false'. Refute it at one input. -/
def payNamesWrong : ChangeSpec := { name := "payNames", fn := fun _ => fun
  | [] => { results := [.lit (.bool false)], args := [] }
  | _ => none }
def PayNamesWrongFalsely : Prop := payNamesRow.holds Try.pinned (OpenSpec.ofChange payNamesWrong)

/- THE SECOND FORM. 'bulk': how many values and letters a reading holds, each counted each time it is reached (what is shared counts as often as it is met; a slice's spare places count too). A statement '..UptoSaid' is the law's where the arguments, and the package variables that the reading takes, are together of bulk at most 1048576: NARROWER than '..Said'. Prove '..Said' where nothing that the law and all that it calls make is longer than what came in: it says more and counts as full. Else prove '..UptoSaid'. A law counts once. -/
mutual
def uptoBulk {H : Type} : DataW H → Nat
  | .lit (.string bytes) => bytes.length + 1
  | .lit _ => 1
  | .nil => 1
  | .ptr d => uptoBulk d + 1
  | .slice elems spare => uptoBulkAll elems + uptoBulkAll spare + 1
  | .agg parts => uptoBulkAll parts + 1
  | .iface _ d => uptoBulk d + 1
  | .map entries => uptoBulkEntries entries + 1
  | .held _ => 1
def uptoBulkAll {H : Type} : List (DataW H) → Nat
  | [] => 0
  | d :: r => uptoBulk d + uptoBulkAll r
def uptoBulkEntries {H : Type} : List (Lit × DataW H) → Nat
  | [] => 0
  | x :: r => uptoBulkEntry x + uptoBulkEntries r
def uptoBulkEntry {H : Type} : Lit × DataW H → Nat
  | (.string bytes, d) => bytes.length + uptoBulk d + 1
  | (_, d) => uptoBulk d + 1
 end
def uptoSmall : (H : Type) → List (DataW H) → Bool := fun _ ds => decide (uptoBulkAll ds ≤ 1048576)
def OpenSpec.upto (s : _root_.Go.ChangeSpec) : _root_.Go.OpenSpec := { _root_.Go.OpenSpec.ofChange s with cond := some uptoSmall }

/-- 'glisterlaw11.PayShares', WHERE WHAT IT READS IS OF BULK AT MOST 1048576: true; the input reads as it did. -/
def paySharesUptoRow : OpenClaim := { program := "yteeikpmoboehdaa", sum := "60cc2baab257155a7960ca9592634975944cb8ea8690da141d240669816bd514", func := "glister/glisterlaw11.PayShares", spec := "payShares", unfollowed := true, recurses := true, plainKeys := false, apart := false, narrowed := true }
def PaySharesUptoSaid : Prop := paySharesUptoRow.holds Try.pinned (OpenSpec.upto paySharesSpec)

/-- 'glisterlaw11.PayWords', WHERE WHAT IT READS IS OF BULK AT MOST 1048576: true; the input reads as it did. -/
def payWordsUptoRow : OpenClaim := { program := "yteeikpmoboehdaa", sum := "60cc2baab257155a7960ca9592634975944cb8ea8690da141d240669816bd514", func := "glister/glisterlaw11.PayWords", spec := "payWords", unfollowed := true, recurses := true, plainKeys := false, apart := false, narrowed := true }
def PayWordsUptoSaid : Prop := payWordsUptoRow.holds Try.pinned (OpenSpec.upto payWordsSpec)

/-- 'glisterlaw11.PaySettles', WHERE WHAT IT READS IS OF BULK AT MOST 1048576: true; the input reads as it did. -/
def paySettlesUptoRow : OpenClaim := { program := "yteeikpmoboehdaa", sum := "60cc2baab257155a7960ca9592634975944cb8ea8690da141d240669816bd514", func := "glister/glisterlaw11.PaySettles", spec := "paySettles", unfollowed := true, recurses := true, plainKeys := false, apart := false, narrowed := true }
def PaySettlesUptoSaid : Prop := paySettlesUptoRow.holds Try.pinned (OpenSpec.upto paySettlesSpec)

/-- 'glisterlaw11.PayClaims', WHERE WHAT IT READS IS OF BULK AT MOST 1048576: true; the input reads as it did. -/
def payClaimsUptoRow : OpenClaim := { program := "yteeikpmoboehdaa", sum := "60cc2baab257155a7960ca9592634975944cb8ea8690da141d240669816bd514", func := "glister/glisterlaw11.PayClaims", spec := "payClaims", unfollowed := true, recurses := true, plainKeys := false, apart := false, narrowed := true }
def PayClaimsUptoSaid : Prop := payClaimsUptoRow.holds Try.pinned (OpenSpec.upto payClaimsSpec)

/-- 'glisterlaw11.PayMore', WHERE WHAT IT READS IS OF BULK AT MOST 1048576: true; the input reads as it did. -/
def payMoreUptoRow : OpenClaim := { program := "yteeikpmoboehdaa", sum := "60cc2baab257155a7960ca9592634975944cb8ea8690da141d240669816bd514", func := "glister/glisterlaw11.PayMore", spec := "payMore", unfollowed := true, recurses := true, plainKeys := false, apart := false, narrowed := true }
def PayMoreUptoSaid : Prop := payMoreUptoRow.holds Try.pinned (OpenSpec.upto payMoreSpec)

/-- 'glisterlaw11.PayAlone', WHERE WHAT IT READS IS OF BULK AT MOST 1048576: true; the input reads as it did. -/
def payAloneUptoRow : OpenClaim := { program := "yteeikpmoboehdaa", sum := "60cc2baab257155a7960ca9592634975944cb8ea8690da141d240669816bd514", func := "glister/glisterlaw11.PayAlone", spec := "payAlone", unfollowed := true, recurses := true, plainKeys := false, apart := false, narrowed := true }
def PayAloneUptoSaid : Prop := payAloneUptoRow.holds Try.pinned (OpenSpec.upto payAloneSpec)

/-- 'glisterlaw11.PayOrder', WHERE WHAT IT READS IS OF BULK AT MOST 1048576: true; the input reads as it did. -/
def payOrderUptoRow : OpenClaim := { program := "yteeikpmoboehdaa", sum := "60cc2baab257155a7960ca9592634975944cb8ea8690da141d240669816bd514", func := "glister/glisterlaw11.PayOrder", spec := "payOrder", unfollowed := true, recurses := true, plainKeys := false, apart := false, narrowed := true }
def PayOrderUptoSaid : Prop := payOrderUptoRow.holds Try.pinned (OpenSpec.upto payOrderSpec)

/-- 'glisterlaw11.PayApart', WHERE WHAT IT READS IS OF BULK AT MOST 1048576: true; the input reads as it did. -/
def payApartUptoRow : OpenClaim := { program := "yteeikpmoboehdaa", sum := "60cc2baab257155a7960ca9592634975944cb8ea8690da141d240669816bd514", func := "glister/glisterlaw11.PayApart", spec := "payApart", unfollowed := true, recurses := true, plainKeys := false, apart := false, narrowed := true }
def PayApartUptoSaid : Prop := payApartUptoRow.holds Try.pinned (OpenSpec.upto payApartSpec)

/-- 'glisterlaw11.PayBounds', WHERE WHAT IT READS IS OF BULK AT MOST 1048576: true; the input reads as it did. -/
def payBoundsUptoRow : OpenClaim := { program := "yteeikpmoboehdaa", sum := "60cc2baab257155a7960ca9592634975944cb8ea8690da141d240669816bd514", func := "glister/glisterlaw11.PayBounds", spec := "payBounds", unfollowed := true, recurses := true, plainKeys := false, apart := false, narrowed := true }
def PayBoundsUptoSaid : Prop := payBoundsUptoRow.holds Try.pinned (OpenSpec.upto payBoundsSpec)

/-- 'glisterlaw11.PayTruth', WHERE WHAT IT READS IS OF BULK AT MOST 1048576: true; the input reads as it did. -/
def payTruthUptoRow : OpenClaim := { program := "yteeikpmoboehdaa", sum := "60cc2baab257155a7960ca9592634975944cb8ea8690da141d240669816bd514", func := "glister/glisterlaw11.PayTruth", spec := "payTruth", unfollowed := true, recurses := true, plainKeys := false, apart := false, narrowed := true }
def PayTruthUptoSaid : Prop := payTruthUptoRow.holds Try.pinned (OpenSpec.upto payTruthSpec)

/-- 'glisterlaw11.PayGroups', WHERE WHAT IT READS IS OF BULK AT MOST 1048576: true; the input reads as it did. -/
def payGroupsUptoRow : OpenClaim := { program := "yteeikpmoboehdaa", sum := "60cc2baab257155a7960ca9592634975944cb8ea8690da141d240669816bd514", func := "glister/glisterlaw11.PayGroups", spec := "payGroups", unfollowed := true, recurses := true, plainKeys := false, apart := false, narrowed := true }
def PayGroupsUptoSaid : Prop := payGroupsUptoRow.holds Try.pinned (OpenSpec.upto payGroupsSpec)

/-- 'glisterlaw11.PayFewest', WHERE WHAT IT READS IS OF BULK AT MOST 1048576: true; the input reads as it did. -/
def payFewestUptoRow : OpenClaim := { program := "yteeikpmoboehdaa", sum := "60cc2baab257155a7960ca9592634975944cb8ea8690da141d240669816bd514", func := "glister/glisterlaw11.PayFewest", spec := "payFewest", unfollowed := true, recurses := true, plainKeys := false, apart := false, narrowed := true }
def PayFewestUptoSaid : Prop := payFewestUptoRow.holds Try.pinned (OpenSpec.upto payFewestSpec)

/-- 'glisterlaw11.PayNames', WHERE WHAT IT READS IS OF BULK AT MOST 1048576: true; the input reads as it did. -/
def payNamesUptoRow : OpenClaim := { program := "yteeikpmoboehdaa", sum := "60cc2baab257155a7960ca9592634975944cb8ea8690da141d240669816bd514", func := "glister/glisterlaw11.PayNames", spec := "payNames", unfollowed := true, recurses := true, plainKeys := false, apart := false, narrowed := true }
def PayNamesUptoSaid : Prop := payNamesUptoRow.holds Try.pinned (OpenSpec.upto payNamesSpec)

end Rows
end Go.Proofs.Yteeikpmoboehdaa
