/-
  No cell of these rows narrows 'for every input' (looked for: loops, veiled, ifaces, maps, wideKeys, modest, calm, conditions, laid).
  DERIVED. THE GIVEN ROWS OF THIS SEAT. 4 by the template 'for every input the law returns true; each argument reads behind the call as it read before'; 0 by the template 'total and deterministic' (their statements: YtjkighndbjnbjaaTotals.lean).
  GIVEN WITH THE SEED: the statements are not yours to turn. If you find one false, say at which input.
  Laid BY PROGRAM, IN A SANDBOX (cutbox-rows.mjs): the forced cells as the released guide's own fill.sh prints them over the translation af4f7540c92ba522… (all of the seat's roots in one cut). By AI agents, Wed Nov 11 2026. No macro, syntax, notation, axiom, sorry.
-/
import Derived.Test.YtjkighndbjnbjaaChecked
import GoSem.Claim
import GoSem.ClaimJoined
import GoSem.ClaimMapViews
import Derived.JoinedTies
import Derived.KernelRfl
namespace Go.Proofs.Ytjkighndbjnbjaa
/- THE CELL 'sum', in the pinned program and in every row, IS THE sha256 OF THE DUMP (.gsa) THAT YtjkighndbjnbjaaProg.lean LOADS. Nothing in Lean hashes anything: it is a label: what it is worth is what the hold of that sum in a sandbox is worth. -/
noncomputable def Try.pinned : Pinned := { name := "ytjkighndbjnbjaa", sum := "af4f7540c92ba522e0f0236fd107ab09bbbe29bc8ab62c1e4373c535e8684c49", checked := Try.checked }
namespace Rows
def none {H : Type} : Left H := { results := [], args := [] }

/-- 'ostiarylaw23.PoolApart': WHATEVER THE INPUT: true; the input reads as it did. -/
def poolApartSpec : ChangeSpec := { name := "poolApart", fn := fun _ => fun
  | [d1, d2, d3, d4] => { results := [.lit (.bool true)], args := [d1, d2, d3, d4] }
  | _ => none }
def poolApartRow : OpenClaim := { program := "ytjkighndbjnbjaa", sum := "af4f7540c92ba522e0f0236fd107ab09bbbe29bc8ab62c1e4373c535e8684c49", func := "ostiary/ostiarylaw23.PoolApart", spec := "poolApart", inPlace := ["slices.overlaps[ostiary/shelf.slot[ostiary/api.Ip, ostiary/pool.Lease]]"], unfollowed := true, recurses := true, apart := false }
def PoolApartSaid : Prop := poolApartRow.holds Try.pinned (OpenSpec.ofChange poolApartSpec)

/-- ITS FALSE NEIGHBOUR: 'it returns false'. Refute it at one input. -/
def poolApartWrong : ChangeSpec := { name := "poolApart", fn := fun _ => fun
  | [d1, d2, d3, d4] => { results := [.lit (.bool false)], args := [d1, d2, d3, d4] }
  | _ => none }
def PoolApartWrongFalsely : Prop := poolApartRow.holds Try.pinned (OpenSpec.ofChange poolApartWrong)

/-- 'ostiarylaw23.PoolOffers': WHATEVER THE INPUT: true; the input reads as it did. -/
def poolOffersSpec : ChangeSpec := { name := "poolOffers", fn := fun _ => fun
  | [d1, d2, d3, d4, d5] => { results := [.lit (.bool true)], args := [d1, d2, d3, d4, d5] }
  | _ => none }
def poolOffersRow : OpenClaim := { program := "ytjkighndbjnbjaa", sum := "af4f7540c92ba522e0f0236fd107ab09bbbe29bc8ab62c1e4373c535e8684c49", func := "ostiary/ostiarylaw23.PoolOffers", spec := "poolOffers", inPlace := ["slices.overlaps[ostiary/shelf.slot[ostiary/api.Ip, ostiary/pool.Lease]]"], unfollowed := true, recurses := true, apart := false }
def PoolOffersSaid : Prop := poolOffersRow.holds Try.pinned (OpenSpec.ofChange poolOffersSpec)

/-- ITS FALSE NEIGHBOUR: 'it returns false'. Refute it at one input. -/
def poolOffersWrong : ChangeSpec := { name := "poolOffers", fn := fun _ => fun
  | [d1, d2, d3, d4, d5] => { results := [.lit (.bool false)], args := [d1, d2, d3, d4, d5] }
  | _ => none }
def PoolOffersWrongFalsely : Prop := poolOffersRow.holds Try.pinned (OpenSpec.ofChange poolOffersWrong)

/-- 'ostiarylaw23.PoolNil': WHATEVER THE INPUT: true; the input reads as it did. -/
def poolNilSpec : ChangeSpec := { name := "poolNil", fn := fun _ => fun
  | [d1, d2] => { results := [.lit (.bool true)], args := [d1, d2] }
  | _ => none }
def poolNilRow : OpenClaim := { program := "ytjkighndbjnbjaa", sum := "af4f7540c92ba522e0f0236fd107ab09bbbe29bc8ab62c1e4373c535e8684c49", func := "ostiary/ostiarylaw23.PoolNil", spec := "poolNil", inPlace := ["slices.overlaps[ostiary/shelf.slot[ostiary/api.Ip, ostiary/pool.Lease]]"], unfollowed := true, recurses := true, apart := false }
def PoolNilSaid : Prop := poolNilRow.holds Try.pinned (OpenSpec.ofChange poolNilSpec)

/-- ITS FALSE NEIGHBOUR: 'it returns false'. Refute it at one input. -/
def poolNilWrong : ChangeSpec := { name := "poolNil", fn := fun _ => fun
  | [d1, d2] => { results := [.lit (.bool false)], args := [d1, d2] }
  | _ => none }
def PoolNilWrongFalsely : Prop := poolNilRow.holds Try.pinned (OpenSpec.ofChange poolNilWrong)

/-- 'ostiarylaw23.PoolKeeps': WHATEVER THE INPUT: true; the input reads as it did. -/
def poolKeepsSpec : ChangeSpec := { name := "poolKeeps", fn := fun _ => fun
  | [d1, d2, d3, d4, d5] => { results := [.lit (.bool true)], args := [d1, d2, d3, d4, d5] }
  | _ => none }
def poolKeepsRow : OpenClaim := { program := "ytjkighndbjnbjaa", sum := "af4f7540c92ba522e0f0236fd107ab09bbbe29bc8ab62c1e4373c535e8684c49", func := "ostiary/ostiarylaw23.PoolKeeps", spec := "poolKeeps", inPlace := ["slices.overlaps[ostiary/shelf.slot[ostiary/api.Ip, ostiary/pool.Lease]]"], unfollowed := true, recurses := true, apart := false }
def PoolKeepsSaid : Prop := poolKeepsRow.holds Try.pinned (OpenSpec.ofChange poolKeepsSpec)

/-- ITS FALSE NEIGHBOUR: 'it returns false'. Refute it at one input. -/
def poolKeepsWrong : ChangeSpec := { name := "poolKeeps", fn := fun _ => fun
  | [d1, d2, d3, d4, d5] => { results := [.lit (.bool false)], args := [d1, d2, d3, d4, d5] }
  | _ => none }
def PoolKeepsWrongFalsely : Prop := poolKeepsRow.holds Try.pinned (OpenSpec.ofChange poolKeepsWrong)

/- THE SECOND FORM. 'bulk': how many values and letters a reading holds, each counted each time it is reached (what is shared counts as often as it is met; a slice's spare places count too). A statement '..UptoSaid' is the law's where the arguments, and the package variables that the reading takes, are together of bulk at most 1048576: NARROWER than '..Said'. Prove '..Said' where nothing that the law and all that it calls make is longer than what came in: it says more and counts as full. Else prove '..UptoSaid'. A law counts once. -/
mutual
def uptoBulk {H : Type} : DataW H → Nat
  | .lit (.string bytes) => bytes.length + 1
  | .lit _ => 1
  | .nil => 1
  | .ptr d => uptoBulk d + 1
  | .slice elems spare => uptoBulkAll elems + uptoBulkAll spare + 1
  | .agg parts => uptoBulkAll parts + 1
  | .iface _ d => uptoBulk d + 1
  | .map entries => uptoBulkEntries entries + 1
  | .held _ => 1
def uptoBulkAll {H : Type} : List (DataW H) → Nat
  | [] => 0
  | d :: r => uptoBulk d + uptoBulkAll r
def uptoBulkEntries {H : Type} : List (Lit × DataW H) → Nat
  | [] => 0
  | x :: r => uptoBulkEntry x + uptoBulkEntries r
def uptoBulkEntry {H : Type} : Lit × DataW H → Nat
  | (.string bytes, d) => bytes.length + uptoBulk d + 1
  | (_, d) => uptoBulk d + 1
 end
def uptoSmall : (H : Type) → List (DataW H) → Bool := fun _ ds => decide (uptoBulkAll ds ≤ 1048576)
def OpenSpec.upto (s : _root_.Go.ChangeSpec) : _root_.Go.OpenSpec := { _root_.Go.OpenSpec.ofChange s with cond := some uptoSmall }

/-- 'ostiarylaw23.PoolApart', WHERE WHAT IT READS IS OF BULK AT MOST 1048576: true; the input reads as it did. -/
def poolApartUptoRow : OpenClaim := { program := "ytjkighndbjnbjaa", sum := "af4f7540c92ba522e0f0236fd107ab09bbbe29bc8ab62c1e4373c535e8684c49", func := "ostiary/ostiarylaw23.PoolApart", spec := "poolApart", inPlace := ["slices.overlaps[ostiary/shelf.slot[ostiary/api.Ip, ostiary/pool.Lease]]"], unfollowed := true, recurses := true, apart := false, narrowed := true }
def PoolApartUptoSaid : Prop := poolApartUptoRow.holds Try.pinned (OpenSpec.upto poolApartSpec)

/-- 'ostiarylaw23.PoolOffers', WHERE WHAT IT READS IS OF BULK AT MOST 1048576: true; the input reads as it did. -/
def poolOffersUptoRow : OpenClaim := { program := "ytjkighndbjnbjaa", sum := "af4f7540c92ba522e0f0236fd107ab09bbbe29bc8ab62c1e4373c535e8684c49", func := "ostiary/ostiarylaw23.PoolOffers", spec := "poolOffers", inPlace := ["slices.overlaps[ostiary/shelf.slot[ostiary/api.Ip, ostiary/pool.Lease]]"], unfollowed := true, recurses := true, apart := false, narrowed := true }
def PoolOffersUptoSaid : Prop := poolOffersUptoRow.holds Try.pinned (OpenSpec.upto poolOffersSpec)

/-- 'ostiarylaw23.PoolNil', WHERE WHAT IT READS IS OF BULK AT MOST 1048576: true; the input reads as it did. -/
def poolNilUptoRow : OpenClaim := { program := "ytjkighndbjnbjaa", sum := "af4f7540c92ba522e0f0236fd107ab09bbbe29bc8ab62c1e4373c535e8684c49", func := "ostiary/ostiarylaw23.PoolNil", spec := "poolNil", inPlace := ["slices.overlaps[ostiary/shelf.slot[ostiary/api.Ip, ostiary/pool.Lease]]"], unfollowed := true, recurses := true, apart := false, narrowed := true }
def PoolNilUptoSaid : Prop := poolNilUptoRow.holds Try.pinned (OpenSpec.upto poolNilSpec)

/-- 'ostiarylaw23.PoolKeeps', WHERE WHAT IT READS IS OF BULK AT MOST 1048576: true; the input reads as it did. -/
def poolKeepsUptoRow : OpenClaim := { program := "ytjkighndbjnbjaa", sum := "af4f7540c92ba522e0f0236fd107ab09bbbe29bc8ab62c1e4373c535e8684c49", func := "ostiary/ostiarylaw23.PoolKeeps", spec := "poolKeeps", inPlace := ["slices.overlaps[ostiary/shelf.slot[ostiary/api.Ip, ostiary/pool.Lease]]"], unfollowed := true, recurses := true, apart := false, narrowed := true }
def PoolKeepsUptoSaid : Prop := poolKeepsUptoRow.holds Try.pinned (OpenSpec.upto poolKeepsSpec)

end Rows
end Go.Proofs.Ytjkighndbjnbjaa
