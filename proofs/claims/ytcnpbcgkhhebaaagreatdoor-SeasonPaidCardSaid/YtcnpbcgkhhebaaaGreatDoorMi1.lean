/- Short forms for the printed walks of regions that draw their order. -/
import Derived.Deep.RegionHeld3
import Derived.WalkKit
import Derived.Test.YtcnpbcgkhhebaaaGreatDoorProg
import Derived.WalkSpells
import Derived.WalkLawsBesides
import Derived.Lib.Hide
import Derived.BigQuiet
import Derived.Deep.QuietTactic
import Derived.Deep.AppendLies
import Derived.Deep.RegionWith
import Derived.Deep.LoopGhost
import Derived.Deep.DeepCutAuto
import Derived.Deep.CutBlock
import Derived.Deep.Draws
import Derived.Maps.AppendAt
import Derived.Deep.OwnRows
import Derived.Laws.Slices
import Derived.WideLaws
import Derived.Laws.CopyOwn
import Derived.Laws.AppendOwnNone
import Derived.StillTailTactics
import Derived.Shelf.Abstract
import Derived.Deep.DeepFit
import Derived.Deep.DeepMust
import Derived.Lib.OthersKept
import Derived.ArgAppend
import Derived.Maps.RangeRun
import Derived.Shelf.Strings.Builder1
import Derived.Shelf.Strings.Builder2
import Derived.Shelf.Strings.OnBuilder
import Derived.Shelf.Strings.Trim
import Derived.Shelf.Small.Utf8
import Derived.Shelf.Small.Bits
import Derived.Shelf.Small.Strs
import Derived.Shelf.Strings.BuilderF
import Derived.Shelf.Strings.BuilderK
import Derived.Shelf.Utf8.RuneCount
import Derived.Shelf.Strconv.Itoa0
import Derived.Shelf.Strconv.Itoa1
import Derived.Shelf.LaysM
import Derived.Shelf.Strconv.Itoa2
import Derived.Shelf.Strconv.Itoa3
import Derived.Shelf.Strconv.Itoa4
import Derived.Shelf.Strconv.ParseIntEmpty
import Derived.Shelf.Strconv.Clone
import Derived.Shelf.Strconv.SyntaxError
import Derived.Shelf.LaysC
import Derived.Shelf.Strconv.ToError
import Derived.Shelf.Strconv.Lower
import Derived.Shelf.Strconv.ParseUint10
import Derived.Shelf.Strconv.ParseUint10Empty
import Derived.Shelf.Strconv.ParseUint10Any
import Derived.Shelf.Strconv.ParseInt10
import Derived.Shelf.Strconv.RangeError
import Derived.Shelf.Strconv.ToErrorRange
import Derived.Shelf.Strconv.ParseUintEmpty
import Derived.Shelf.Strconv.ParseUint10b64
import Derived.Shelf.Strconv.ParseUint10b32
import Derived.Shelf.Strconv.ParseUint10b16
import Derived.Shelf.Strconv.ParseUint10b8
import Derived.Shelf.Strconv.ParseUint10At
import Derived.Shelf.Strconv.ParseInt10At64
import Derived.Shelf.Strconv.ParseInt10At32
import Derived.Shelf.Strconv.ParseInt10At16
import Derived.Shelf.Strconv.ParseInt10At8
import Derived.Shelf.Strconv.ParseInt10All
import Derived.Shelf.Strconv.ParseIntPublic10
import Derived.Shelf.Strconv.ErrVarParseInt
import Derived.Shelf.Strings.Search1
import Derived.Shelf.Strings.Search2
import Derived.Shelf.Strings.Search3
import Derived.Shelf.Strings.Cut
import Derived.Shelf.Strings.Count
import Derived.Shelf.Strings.Shaped
import Derived.Shelf.Strings.Prefix
import Derived.Shelf.Strings.Split
import Derived.Shelf.Strings.SplitShaped
import Derived.Shelf.Unicode.Decode
import Derived.Shelf.Strings.Runes
import Derived.Shelf.Strings.RuneCount
import Derived.Shelf.Strings.AsciiSet
import Derived.Shelf.Strings.Explode
import Derived.Shelf.Unicode.DecodeSlow
import Derived.Shelf.Unicode.DecodeAny
import Derived.Shelf.Unicode.DecodeLast
import Derived.Ground.SlgfProg
import Derived.Shelf.SlicesE.IndexFunc
import Derived.Ground.SlgmProg
import Derived.Shelf.SortM.Plain
import Derived.Shelf.SortM.SortNone
import Derived.Shelf.SlSortCmp.WholeK
import Derived.Shelf.SlicesG.Cmp
import Derived.Shelf.Strings.SlTrimAscii
import Derived.Ground.SlsfProg
import Derived.Ground.SlgcProg
namespace Go.Proofs.YtcnpbcgkhhebaaaGreatDoor

theorem tk {P : Program} {ops : Array Oper} {Q : Exit → Act → World → Prop} {md : Region.Mode} {S : World → Prop} {i : Nat} {oi : Oper} {v : Value} {fuel : Nat} {listed : Array Bool} {a : Act} {w : World} (hi : ops[i]? = some oi)
  (hy : YieldsIf P ops S oi v a) (hS : S w) (h : wpAnyH P md ops Q S fuel (listed.setIfInBounds i true) (a.put oi.dst v) w)
  (hs : Region.noSelect ops = true := by kernel_rfl) (hf : Region.free md ops listed i = true := by kernel_rfl) (hr : (Region.ready md ops listed).contains i = true := by kernel_rfl)
  (hQ : ∀ c a w, Q (.panic c) (a.put oi.dst v) w → Q (.panic c) a w := by exact fun _ _ _ h => h) : wpAnyH P md ops Q S (fuel + 1) listed a w :=
 wpAnyH_take hi hs hf hr hQ hy hS h
theorem gA {α : Type} : (∀ (xs : List α) (i : Nat) (h : i < xs.toArray.size), xs.toArray[i] = xs[i]'(by simpa using h)) ∧ (∀ (a : α) (ys : List α) (i : Nat) (h : i + 1 < (a :: ys).length), (a :: ys)[i + 1] = ys[i]'(by simpa using h)) ∧
  (∀ (a : α) (ys : List α) (h : 0 < (a :: ys).length), (a :: ys)[0] = a) ∧ (∀ (xs : List α) (i : Nat) (x : α), xs.toArray.setIfInBounds i x = (xs.set i x).toArray) ∧ (∀ (x y : α) (xs : List α), (x :: xs).set 0 y = y :: xs) ∧ (∀ (x y : α) (xs : List α) (i : Nat), (x :: xs).set (i + 1) y = x :: xs.set i y) :=
 ⟨fun _ _ _ => rfl, fun _ _ _ _ => rfl, fun _ _ _ => rfl, fun xs i x => List.setIfInBounds_toArray xs i x, fun _ _ _ => rfl, fun _ _ _ _ => rfl⟩
end Go.Proofs.YtcnpbcgkhhebaaaGreatDoor
/- Words for the walks: what slices read as, the seasons as plain data. -/
namespace Go.Proofs.YtcnpbcgkhhebaaaGreatDoor
open Go.RowKit

structure Ow where
 num : Int
 mark : ByteArray
 paid : Int

structure Lg where
 num : Int
 seen : ByteArray
 feet : Int
 own : Int
 gone : Bool

def eO (x : Ow) : List Value := [.int .i64 x.num, .string x.mark, .int .i64 x.paid]
def eL (x : Lg) : List Value := [.int .i64 x.num, .string x.seen, .int .i64 x.feet, .int .i64 x.own, .bool x.gone]
def eI (x : Int) : List Value := [.int .i64 x]
def eS (x : ByteArray) : List Value := [.string x]

/-- The slice '.slice A xs.length c' holds xs. -/
def Rd {α : Type} (enc : α → List Value) (sz : Nat) (w : World) (A : Option Addr) (c : Nat) (xs : List α) : Prop :=
 xs.length ≤ c ∧ c ≤ 9223372036854775807 ∧ (0 < xs.length → ∃ b off, A = some ⟨b, off, none⟩ ∧ b < w.heap.size ∧ ∀ i x, xs[i]? = some x → ∀ j u, (enc x)[j]? = some u → w.cell? ⟨b, off + i * sz + j, none⟩ = some u)

section
variable {α : Type} {enc : α → List Value} {sz : Nat} {w w' : World} {A : Option Addr} {c : Nat} {xs : List α}
theorem Rd.len (h : Rd enc sz w A c xs) : xs.length ≤ 9223372036854775807 := by have := h.1; have := h.2.1; omega
theorem Rd.at_ (h : Rd enc sz w A c xs) {i : Nat} (hi : i < xs.length) : ∃ b off, A = some ⟨b, off, none⟩ ∧ b < w.heap.size ∧ ∀ j u, (enc xs[i])[j]? = some u → w.cell? ⟨b, off + i * sz + j, none⟩ = some u := by
 obtain ⟨b, off, e, hb, hc⟩ := h.2.2 (by omega)
 exact ⟨b, off, e, hb, hc i _ (List.getElem?_eq_getElem hi)⟩
theorem Rd.below (h : Rd enc sz w A c xs) (hb : Below w.heap.size w w') : Rd enc sz w' A c xs :=
 ⟨h.1, h.2.1, fun hn => by
  obtain ⟨b, off, e, hl, hc⟩ := h.2.2 hn
  exact ⟨b, off, e, Nat.lt_of_lt_of_le hl hb.size, fun i x hx j u hu => (hb.cell (p := ⟨b, off + i * sz + j, none⟩) hl).trans (hc i x hx j u hu)⟩⟩
theorem Rd.nil_ (w : World) (c : Nat) (hc : c ≤ 9223372036854775807) : Rd enc sz w A c [] := ⟨by simp, hc, fun h => absurd h (by simp)⟩
end

theorem Rd.atO {w : World} {A : Option Addr} {c : Nat} {xs : List Ow} (h : Rd eO 3 w A c xs) {i : Nat} (hi : i < xs.length) : ∃ b off y, y = xs[i] ∧ A = some ⟨b, off, none⟩ ∧ b < w.heap.size ∧
  w.cell? ⟨b, off + i * 3, none⟩ = some (.int .i64 y.num) ∧ w.cell? ⟨b, off + i * 3 + 1, none⟩ = some (.string y.mark) ∧ w.cell? ⟨b, off + i * 3 + 2, none⟩ = some (.int .i64 y.paid) := by
 obtain ⟨b, off, e, hb, hc⟩ := h.at_ hi
 exact ⟨b, off, xs[i], rfl, e, hb, hc 0 _ rfl, hc 1 _ rfl, hc 2 _ rfl⟩
theorem Rd.atL {w : World} {A : Option Addr} {c : Nat} {xs : List Lg} (h : Rd eL 5 w A c xs) {i : Nat} (hi : i < xs.length) : ∃ b off y, y = xs[i] ∧ A = some ⟨b, off, none⟩ ∧ b < w.heap.size ∧
  w.cell? ⟨b, off + i * 5, none⟩ = some (.int .i64 y.num) ∧ w.cell? ⟨b, off + i * 5 + 1, none⟩ = some (.string y.seen) ∧ w.cell? ⟨b, off + i * 5 + 2, none⟩ = some (.int .i64 y.feet) ∧ w.cell? ⟨b, off + i * 5 + 3, none⟩ = some (.int .i64 y.own) ∧ w.cell? ⟨b, off + i * 5 + 4, none⟩ = some (.bool y.gone) := by
 obtain ⟨b, off, e, hb, hc⟩ := h.at_ hi
 exact ⟨b, off, xs[i], rfl, e, hb, hc 0 _ rfl, hc 1 _ rfl, hc 2 _ rfl, hc 3 _ rfl, hc 4 _ rfl⟩
theorem Rd.atI {w : World} {A : Option Addr} {c : Nat} {xs : List Int} (h : Rd eI 1 w A c xs) {i : Nat} (hi : i < xs.length) : ∃ b off y, y = xs[i] ∧ A = some ⟨b, off, none⟩ ∧ b < w.heap.size ∧
  w.cell? ⟨b, off + i, none⟩ = some (.int .i64 y) := by
 obtain ⟨b, off, e, hb, hc⟩ := h.at_ hi
 have h0 := hc 0 _ rfl
 rw [Nat.mul_one] at h0
 exact ⟨b, off, xs[i], rfl, e, hb, h0⟩
theorem Rd.atS {w : World} {A : Option Addr} {c : Nat} {xs : List ByteArray} (h : Rd eS 1 w A c xs) {i : Nat} (hi : i < xs.length) : ∃ b off y, y = xs[i] ∧ A = some ⟨b, off, none⟩ ∧ b < w.heap.size ∧
  w.cell? ⟨b, off + i, none⟩ = some (.string y) := by
 obtain ⟨b, off, e, hb, hc⟩ := h.at_ hi
 have h0 := hc 0 _ rfl
 rw [Nat.mul_one] at h0
 exact ⟨b, off, xs[i], rfl, e, hb, h0⟩

/-- The first index at which p holds, or -1. -/
def idxI {α : Type} (p : α → Bool) (xs : List α) : Int := if xs.any p then (xs.findIdx p : Int) else -1
theorem idxI_hit {α : Type} {p : α → Bool} {xs : List α} {k : Nat} (hk : k < xs.length) (h : ∀ j, (hj : j < k) → p (xs[j]'(by omega)) = false) (hp : p xs[k] = true) : idxI p xs = k := by
 unfold idxI
 rw [if_pos (List.any_eq_true.2 ⟨xs[k], List.getElem_mem hk, hp⟩)]
 congr 1
 exact (List.findIdx_eq hk).2 ⟨hp, fun j hj => h j hj⟩
theorem idxI_miss {α : Type} {p : α → Bool} {xs : List α} (h : ∀ j, (hj : j < xs.length) → p xs[j] = false) : idxI p xs = -1 := by
 unfold idxI
 rw [if_neg]
 simp only [List.any_eq_true, not_exists, not_and, Bool.not_eq_true]
 intro x hx
 obtain ⟨i, hi, rfl⟩ := List.getElem_of_mem hx
 exact h i hi
theorem idxI_any {α : Type} (p : α → Bool) (xs : List α) : decide (0 ≤ idxI p xs) = xs.any p := by
 unfold idxI
 by_cases h : xs.any p = true
 ·simp [h]
 ·simp [h]

/-- What a predicate handed to the library owes, at the elements of a list. -/
def Pays {α : Type} (g : Nat) (lb : Array Value) (enc : α → Value) (p : α → Bool) (xs : List α) (w : World) : Prop :=
 ∀ (W : World) (x : α), x ∈ xs → Below w.heap.size w W → Calls Tryz.prog g (#[enc x] ++ lb) W fun e w' => e = .returned (.bool (p x)) ∧ Below W.heap.size W w'

theorem ret_bool {a b : Bool} (h : a = b) : Ending.returned (.bool a) = .returned (.bool b) := by rw [h]
theorem ret_int {k : IntKind} {a b : Int} (h : a = b) : Ending.returned (.int k a) = .returned (.int k b) := by rw [h]
theorem ret_str {a b : ByteArray} (h : a = b) : Ending.returned (.string a) = .returned (.string b) := by rw [h]
theorem bcell {W w1 : World} (hb : Below W.heap.size W w1) : (∀ b o, b < W.heap.size → w1.cell? ⟨b, o, none⟩ = W.cell? ⟨b, o, none⟩) ∧ (∀ b o, b < W.heap.size → w1.frozen? ⟨b, o, none⟩ = W.frozen? ⟨b, o, none⟩) :=
 ⟨fun b o h => hb.cell (p := ⟨b, o, none⟩) h, fun b o h => hb.frozen (p := ⟨b, o, none⟩) h⟩
theorem cA {w : World} {a : Addr} {v : Value} (h : w.cell? a = some v) (o : Obj) : (w.alloc o).cell? a = some v := (World.cell?_alloc_lt w o a (World.block_lt_of_cell? w a h)).trans h
theorem cB {w w1 : World} {a : Addr} {v : Value} (hb : Below w.heap.size w w1) (h : w.cell? a = some v) : w1.cell? a = some v := (hb.cell (World.block_lt_of_cell? w a h)).trans h
theorem below2 {w w1 w2 : World} (h : Below w.heap.size w w1) (k : Below w1.heap.size w1 w2) : Below w.heap.size w w2 := h.trans (k.mono h.size)
end Go.Proofs.YtcnpbcgkhhebaaaGreatDoor
/- slices.IndexFunc and slices.ContainsFunc at owners, logs, numbers. -/
namespace Go.Proofs.YtcnpbcgkhhebaaaGreatDoor
open Go.RowKit

set_option maxHeartbeats 1000000 in
theorem indexO (A : Option Addr) (c : Nat) (xs : List Ow) (w : World) (g : Nat) (lb : Array Value) (p : Ow → Bool)
  (eg : ∀ args w, (callFunc g args).run Tryz.prog w = .ok (.enter g args) w) (hr : Rd eO 3 w A c xs) (hp : Pays g lb (fun x => .agg (eO x).toArray) p xs w) :
  Calls Tryz.prog 116 #[.slice A xs.length c, .func (.func g) #[] lb] w fun e w' => e = .returned (.int .i64 (idxI p xs)) ∧ Below w.heap.size w w' := by
 have hlen := hr.len
 go_enter Tryz.func116, Tryz.ntmps116
 go_wp2
 go_loopg [5, 8] xs.length (fun gg _ s8 wr => ∃ k : Nat, k ≤ xs.length ∧ xs.length - k ≤ gg ∧ s8 = .int .i64 k ∧ Hid (Below w.heap.size w wr) ∧ Hid (∀ j, (hj : j < k) → (hx : j < xs.length) → p xs[j] = false))
 case atStart => exact ⟨0, Nat.zero_le _, by omega, rfl, Below.refl _ w, fun j hj => absurd hj (Nat.not_lt_zero _)⟩
 case round =>
  obtain ⟨k, hk, hg, rfl, BW, AA⟩ := hrel
  by_cases hlt : k < xs.length
  ·have hli : (k : Int) < (xs.length : Int) := by omega
   obtain ⟨b, off, y, hy, rfl, hb, c0, c1, c2⟩ := (hr.below BW.out).atO hlt
   have hcall := hp wr xs[k] (List.getElem_mem hlt) BW.out
   clear hr hp
   rw [← hy] at hcall
   have B := Lib.hid hy
   clear hy
   cases hq : p y with
   | true =>
    have HQ := Lib.hid hq
    rw [hq] at hcall
    clear hq
    go_wp2_with (go_at_fn g; refine hcall.mono ?_; rintro e w' ⟨rfl, hb'⟩)
    go_ret
    refine ⟨?_, below2 BW.out hb'⟩
    rw [idxI_hit hlt (fun j hj => AA.out j hj (by omega)) (by rw [← B.out]; exact HQ.out)]
    rfl
   | false =>
    have HQ := Lib.hid hq
    rw [hq] at hcall
    clear hq
    go_wp2_with (go_at_fn g; refine hcall.mono ?_; rintro e w' ⟨rfl, hb'⟩)
    go_roundg (xs.length - (k + 1))
    case measure => omega
    case rel =>
     refine ⟨k + 1, by omega, by omega, by go_num, below2 BW.out hb', (show Hid _ from fun j hj hx => ?_)⟩
     by_cases e : j = k
     ·subst e
      rw [← B.out]; exact HQ.out
     ·exact AA.out j (by omega) hx
  ·have hli : ¬ (k : Int) < (xs.length : Int) := by omega
   go_wp2
   go_ret
   exact ⟨by rw [idxI_miss fun j hj => AA.out j (by omega) hj]; rfl, BW.out⟩

set_option maxHeartbeats 1000000 in
theorem containsO (A : Option Addr) (c : Nat) (xs : List Ow) (w : World) (g : Nat) (lb : Array Value) (p : Ow → Bool)
  (eg : ∀ args w, (callFunc g args).run Tryz.prog w = .ok (.enter g args) w) (hr : Rd eO 3 w A c xs) (hp : Pays g lb (fun x => .agg (eO x).toArray) p xs w) :
  Calls Tryz.prog 77 #[.slice A xs.length c, .func (.func g) #[] lb] w fun e w' => e = .returned (.bool (xs.any p)) ∧ Below w.heap.size w w' := by
 have hcon := indexO A c xs w g lb p eg hr hp
 clear hr hp
 rw [← idxI_any]
 generalize idxI p xs = r at hcon ⊢
 go_enter Tryz.func77, Tryz.ntmps77
 go_wp2_with (go_at_call 116; refine hcon.mono ?_; rintro e w' ⟨rfl, hb'⟩)
 go_ret
 exact ⟨rfl, hb'⟩

set_option maxHeartbeats 1000000 in
theorem indexL (A : Option Addr) (c : Nat) (xs : List Lg) (w : World) (g : Nat) (lb : Array Value) (p : Lg → Bool)
  (eg : ∀ args w, (callFunc g args).run Tryz.prog w = .ok (.enter g args) w) (hr : Rd eL 5 w A c xs) (hp : Pays g lb (fun x => .agg (eL x).toArray) p xs w) :
  Calls Tryz.prog 117 #[.slice A xs.length c, .func (.func g) #[] lb] w fun e w' => e = .returned (.int .i64 (idxI p xs)) ∧ Below w.heap.size w w' := by
 have hlen := hr.len
 go_enter Tryz.func117, Tryz.ntmps117
 go_wp2
 go_loopg [5, 8] xs.length (fun gg _ s8 wr => ∃ k : Nat, k ≤ xs.length ∧ xs.length - k ≤ gg ∧ s8 = .int .i64 k ∧ Hid (Below w.heap.size w wr) ∧ Hid (∀ j, (hj : j < k) → (hx : j < xs.length) → p xs[j] = false))
 case atStart => exact ⟨0, Nat.zero_le _, by omega, rfl, Below.refl _ w, fun j hj => absurd hj (Nat.not_lt_zero _)⟩
 case round =>
  obtain ⟨k, hk, hg, rfl, BW, AA⟩ := hrel
  by_cases hlt : k < xs.length
  ·have hli : (k : Int) < (xs.length : Int) := by omega
   obtain ⟨b, off, y, hy, rfl, hb, c0, c1, c2, c3, c4⟩ := (hr.below BW.out).atL hlt
   have hcall := hp wr xs[k] (List.getElem_mem hlt) BW.out
   clear hr hp
   rw [← hy] at hcall
   have B := Lib.hid hy
   clear hy
   cases hq : p y with
   | true =>
    have HQ := Lib.hid hq
    rw [hq] at hcall
    clear hq
    go_wp2_with (go_at_fn g; refine hcall.mono ?_; rintro e w' ⟨rfl, hb'⟩)
    go_ret
    refine ⟨?_, below2 BW.out hb'⟩
    rw [idxI_hit hlt (fun j hj => AA.out j hj (by omega)) (by rw [← B.out]; exact HQ.out)]
    rfl
   | false =>
    have HQ := Lib.hid hq
    rw [hq] at hcall
    clear hq
    go_wp2_with (go_at_fn g; refine hcall.mono ?_; rintro e w' ⟨rfl, hb'⟩)
    go_roundg (xs.length - (k + 1))
    case measure => omega
    case rel =>
     refine ⟨k + 1, by omega, by omega, by go_num, below2 BW.out hb', (show Hid _ from fun j hj hx => ?_)⟩
     by_cases e : j = k
     ·subst e
      rw [← B.out]; exact HQ.out
     ·exact AA.out j (by omega) hx
  ·have hli : ¬ (k : Int) < (xs.length : Int) := by omega
   go_wp2
   go_ret
   exact ⟨by rw [idxI_miss fun j hj => AA.out j (by omega) hj]; rfl, BW.out⟩

set_option maxHeartbeats 1000000 in
theorem containsL (A : Option Addr) (c : Nat) (xs : List Lg) (w : World) (g : Nat) (lb : Array Value) (p : Lg → Bool)
  (eg : ∀ args w, (callFunc g args).run Tryz.prog w = .ok (.enter g args) w) (hr : Rd eL 5 w A c xs) (hp : Pays g lb (fun x => .agg (eL x).toArray) p xs w) :
  Calls Tryz.prog 78 #[.slice A xs.length c, .func (.func g) #[] lb] w fun e w' => e = .returned (.bool (xs.any p)) ∧ Below w.heap.size w w' := by
 have hcon := indexL A c xs w g lb p eg hr hp
 clear hr hp
 rw [← idxI_any]
 generalize idxI p xs = r at hcon ⊢
 go_enter Tryz.func78, Tryz.ntmps78
 go_wp2_with (go_at_call 117; refine hcon.mono ?_; rintro e w' ⟨rfl, hb'⟩)
 go_ret
 exact ⟨rfl, hb'⟩

set_option maxHeartbeats 1000000 in
theorem indexI (A : Option Addr) (c : Nat) (xs : List Int) (w : World) (g : Nat) (lb : Array Value) (p : Int → Bool)
  (eg : ∀ args w, (callFunc g args).run Tryz.prog w = .ok (.enter g args) w) (hr : Rd eI 1 w A c xs) (hp : Pays g lb (fun x => .int .i64 x) p xs w) :
  Calls Tryz.prog 158 #[.slice A xs.length c, .func (.func g) #[] lb] w fun e w' => e = .returned (.int .i64 (idxI p xs)) ∧ Below w.heap.size w w' := by
 have hlen := hr.len
 go_enter Tryz.func158, Tryz.ntmps158
 go_wp2
 go_loopg [5, 8] xs.length (fun gg _ s8 wr => ∃ k : Nat, k ≤ xs.length ∧ xs.length - k ≤ gg ∧ s8 = .int .i64 k ∧ Hid (Below w.heap.size w wr) ∧ Hid (∀ j, (hj : j < k) → (hx : j < xs.length) → p xs[j] = false))
 case atStart => exact ⟨0, Nat.zero_le _, by omega, rfl, Below.refl _ w, fun j hj => absurd hj (Nat.not_lt_zero _)⟩
 case round =>
  obtain ⟨k, hk, hg, rfl, BW, AA⟩ := hrel
  by_cases hlt : k < xs.length
  ·have hli : (k : Int) < (xs.length : Int) := by omega
   obtain ⟨b, off, y, hy, rfl, hb, c0⟩ := (hr.below BW.out).atI hlt
   have hcall := hp wr xs[k] (List.getElem_mem hlt) BW.out
   clear hr hp
   rw [← hy] at hcall
   have B := Lib.hid hy
   clear hy
   cases hq : p y with
   | true =>
    have HQ := Lib.hid hq
    rw [hq] at hcall
    clear hq
    go_wp2_with (go_at_fn g; refine hcall.mono ?_; rintro e w' ⟨rfl, hb'⟩)
    go_ret
    refine ⟨?_, below2 BW.out hb'⟩
    rw [idxI_hit hlt (fun j hj => AA.out j hj (by omega)) (by rw [← B.out]; exact HQ.out)]
    rfl
   | false =>
    have HQ := Lib.hid hq
    rw [hq] at hcall
    clear hq
    go_wp2_with (go_at_fn g; refine hcall.mono ?_; rintro e w' ⟨rfl, hb'⟩)
    go_roundg (xs.length - (k + 1))
    case measure => omega
    case rel =>
     refine ⟨k + 1, by omega, by omega, by go_num, below2 BW.out hb', (show Hid _ from fun j hj hx => ?_)⟩
     by_cases e : j = k
     ·subst e
      rw [← B.out]; exact HQ.out
     ·exact AA.out j (by omega) hx
  ·have hli : ¬ (k : Int) < (xs.length : Int) := by omega
   go_wp2
   go_ret
   exact ⟨by rw [idxI_miss fun j hj => AA.out j (by omega) hj]; rfl, BW.out⟩

set_option maxHeartbeats 1000000 in
theorem containsI (A : Option Addr) (c : Nat) (xs : List Int) (w : World) (g : Nat) (lb : Array Value) (p : Int → Bool)
  (eg : ∀ args w, (callFunc g args).run Tryz.prog w = .ok (.enter g args) w) (hr : Rd eI 1 w A c xs) (hp : Pays g lb (fun x => .int .i64 x) p xs w) :
  Calls Tryz.prog 114 #[.slice A xs.length c, .func (.func g) #[] lb] w fun e w' => e = .returned (.bool (xs.any p)) ∧ Below w.heap.size w w' := by
 have hcon := indexI A c xs w g lb p eg hr hp
 clear hr hp
 rw [← idxI_any]
 generalize idxI p xs = r at hcon ⊢
 go_enter Tryz.func114, Tryz.ntmps114
 go_wp2_with (go_at_call 158; refine hcon.mono ?_; rintro e w' ⟨rfl, hb'⟩)
 go_ret
 exact ⟨rfl, hb'⟩
end Go.Proofs.YtcnpbcgkhhebaaaGreatDoor
/- The small functions on texts: hasRune, wears, isSeen; within; the searches for owners and logs. -/
namespace Go.Proofs.YtcnpbcgkhhebaaaGreatDoor
open Go.RowKit

def Asc (s : ByteArray) : Prop := ∀ i, (h : i < s.size) → (s[i]'h).toNat < 128

theorem any_data {s : ByteArray} {p : UInt8 → Bool} {k : Nat} (hk : k < s.size) (h : p (s[k]'hk) = true) : s.data.toList.any p = true :=
 List.any_eq_true.2 ⟨s[k], by rw [show s[k] = s.data.toList[k]'(by simpa using hk) from rfl]; exact List.getElem_mem _, h⟩
theorem not_any_data {s : ByteArray} {p : UInt8 → Bool} (h : ∀ k, (hk : k < s.size) → p (s[k]'hk) = false) : s.data.toList.any p = false := by
 rw [Bool.eq_false_iff]
 intro ha
 obtain ⟨u, hu, hp⟩ := List.any_eq_true.1 ha
 obtain ⟨k, hk, rfl⟩ := List.getElem_of_mem hu
 have := h k (by simpa using hk)
 rw [show s[k]'(by simpa using hk) = s.data.toList[k] from rfl] at this
 rw [this] at hp
 cases hp

theorem iter_below (w : World) (s : ByteArray) (pos : Nat) : Below w.heap.size w (w.iter s pos) := (Below.refl _ w).alloc (Nat.le_refl _) _

set_option maxHeartbeats 1000000 in
theorem hasRune_any (s : ByteArray) (r : Int) (w : World) (ha : Asc s) :
  Calls Tryz.prog 159 #[.string s, .int .i32 r] w fun e w' => e = .returned (.bool (s.data.toList.any fun u => decide ((u.toNat : Int) = r))) ∧ Below w.heap.size w w' := by
 have HA := Lib.hid ha
 clear ha
 go_enter Tryz.func159, Tryz.ntmps159
 go_wp2
 go_loopw [6] (fun _ w' => ∃ pos, w' = w.iter s pos ∧ Hid (∀ j, (hj : j < pos) → (h : j < s.size) → ¬ ((s[j]'h).toNat : Int) = r)) (fun _ w' => s.size - w'.iterPos w.heap.size)
 case atStart => exact ⟨0, rfl, fun j hj => absurd hj (Nat.not_lt_zero _)⟩
 case round =>
  obtain ⟨pos, rfl, AA⟩ := hrel
  by_cases hp : pos < s.size
  ·have hnx := fun ty => run_next_ascii (P := Tryz.prog) w s pos ty hp (HA.out pos hp)
   obtain ⟨u, hu⟩ : ∃ u, u = s[pos]'hp := ⟨_, rfl⟩
   rw [← hu] at hnx
   have HU := Lib.hid hu
   clear hu
   by_cases he : (u.toNat : Int) = r
   ·have hd : (((u.toNat : Int)) == r) = true := beq_iff_eq.2 he
    have HE := Lib.hid he
    clear he
    go_wp2
    go_ret
    refine ⟨?_, iter_below _ _ _⟩
    rw [any_data (p := fun u => decide ((u.toNat : Int) = r)) hp (by rw [← HU.out]; exact decide_eq_true HE.out)]
    rfl
   ·have hd : (((u.toNat : Int)) == r) = false := beq_eq_false_iff_ne.2 he
    have HE := Lib.hid he
    clear he
    go_wp2
    go_roundw
    case rel =>
     refine ⟨pos + 1, rfl, fun j hj h => ?_⟩
     by_cases e : j = pos
     ·subst e; rw [← HU.out]; exact HE.out
     ·exact AA.out j (by omega) h
    case measure => simp; omega
  ·have hnx := fun ty => run_next_end (P := Tryz.prog) w s pos ty hp
   go_wp2
   go_ret
   refine ⟨?_, iter_below _ _ _⟩
   rw [not_any_data (p := fun u => decide ((u.toNat : Int) = r)) fun k hk => decide_eq_false (AA.out k (by omega) hk)]
   rfl

/-- Can the mark be worn to what is seen. -/
def wearsB (mark seen : ByteArray) : Bool := seen.data.toList.all fun u => mark.data.toList.any fun m => decide ((m.toNat : Int) = (u.toNat : Int))
theorem wearsB_no {mark seen : ByteArray} {k : Nat} (hk : k < seen.size) (h : (mark.data.toList.any fun m => decide ((m.toNat : Int) = ((seen[k]'hk).toNat : Int))) = false) : wearsB mark seen = false := by
 unfold wearsB
 rw [Bool.eq_false_iff]
 intro ha
 have := List.all_eq_true.1 ha (seen[k]'hk) (by rw [show seen[k] = seen.data.toList[k]'(by simpa using hk) from rfl]; exact List.getElem_mem _)
 rw [h] at this
 cases this
theorem wearsB_yes {mark seen : ByteArray} (h : ∀ k, (hk : k < seen.size) → (mark.data.toList.any fun m => decide ((m.toNat : Int) = ((seen[k]'hk).toNat : Int))) = true) : wearsB mark seen = true := by
 unfold wearsB
 refine List.all_eq_true.2 fun u hu => ?_
 obtain ⟨k, hk, rfl⟩ := List.getElem_of_mem hu
 exact h k (by simpa using hk)

set_option maxHeartbeats 1000000 in
theorem wears_any (mark seen : ByteArray) (w : World) (hm : Asc mark) (ha : Asc seen) :
  Calls Tryz.prog 122 #[.string mark, .string seen] w fun e w' => e = .returned (.bool (wearsB mark seen)) ∧ Below w.heap.size w w' := by
 have HM := Lib.hid hm
 have HA := Lib.hid ha
 clear hm ha
 go_enter Tryz.func122, Tryz.ntmps122
 go_wp2
 go_loopg [6] seen.size (fun g _ w' => ∃ pos, seen.size - pos ≤ g ∧ w'.heap[w.heap.size]? = some (.stringIter seen pos) ∧ Hid (Below w.heap.size w w') ∧ Hid (∀ j, (hj : j < pos) → (h : j < seen.size) → (mark.data.toList.any fun m => decide ((m.toNat : Int) = ((seen[j]'h).toNat : Int))) = true))
 case atStart => exact ⟨0, by omega, by simpa using World.iter_heap w seen 0, iter_below _ _ _, fun j hj => absurd hj (Nat.not_lt_zero _)⟩
 case round =>
  obtain ⟨pos, hg, hit, BW, AA⟩ := hrel
  have HI := Lib.hid hit
  by_cases hp : pos < seen.size
  ·have hnx := fun ty => Lib.run_next_ascii_at (P := Tryz.prog) wr w.heap.size seen pos ty hit hp (HA.out pos hp)
   clear hit
   obtain ⟨u, hu⟩ : ∃ u, u = seen[pos]'hp := ⟨_, rfl⟩
   rw [← hu] at hnx
   have HU := Lib.hid hu
   clear hu
   have hB2 := Lib.below_iterAt BW.out (Nat.le_refl _) seen (pos + 1)
   have hI2 := Lib.iterAt_heap wr w.heap.size seen pos (pos + 1) HI.out
   obtain ⟨w2, hw2⟩ : ∃ w2, w2 = wr.iterAt w.heap.size seen (pos + 1) := ⟨_, rfl⟩
   rw [← hw2] at hnx hB2 hI2
   clear hw2
   have HI2 := Lib.hid hI2
   clear hI2
   have hcon := hasRune_any mark (u.toNat : Int) w2 HM.out
   cases hq : (mark.data.toList.any fun m => decide ((m.toNat : Int) = (u.toNat : Int))) with
   | true =>
    rw [hq] at hcon
    have HQ := Lib.hid hq
    clear hq
    go_wp2_with (go_at_call 159; refine hcon.mono ?_; rintro e w' ⟨rfl, hb'⟩)
    go_roundg (seen.size - (pos + 1))
    case measure => omega
    case rel =>
     refine ⟨pos + 1, by omega, (hb'.block w.heap.size (Array.getElem?_eq_some_iff.1 HI2.out).1).trans HI2.out, below2 (by exact hB2) hb', fun j hj h => ?_⟩
     by_cases e : j = pos
     ·subst e; rw [← HU.out]; exact HQ.out
     ·exact AA.out j (by omega) h
   | false =>
    rw [hq] at hcon
    have HQ := Lib.hid hq
    clear hq
    go_wp2_with (go_at_call 159; refine hcon.mono ?_; rintro e w' ⟨rfl, hb'⟩)
    go_ret
    refine ⟨?_, below2 hB2 hb'⟩
    rw [wearsB_no hp (by rw [← HU.out]; exact HQ.out)]
    rfl
  ·have hnx := fun ty => Lib.run_next_end_at (P := Tryz.prog) wr w.heap.size seen pos ty hit hp
   clear hit
   go_wp2
   go_ret
   refine ⟨?_, BW.out⟩
   rw [wearsB_yes fun k hk => AA.out k (by omega) hk]
   rfl

/-- From a letter on the letters come later and later. -/
def incr (last : Int) : List UInt8 → Bool
 | [] => true
 | u :: l => decide (last < (u.toNat : Int)) && decide ((u.toNat : Int) ≤ 122) && incr u.toNat l
def isSeenB (s : ByteArray) : Bool := incr 96 s.data.toList && decide (s.size ≤ 8)
theorem drop_data (s : ByteArray) (k : Nat) (hk : k < s.size) : s.data.toList.drop k = s[k] :: s.data.toList.drop (k + 1) := by
 rw [List.drop_eq_getElem_cons (by simpa using hk)]; rfl

set_option maxHeartbeats 1000000 in
theorem isSeen_any (s : ByteArray) (w : World) :
  Calls Tryz.prog 74 #[.string s] w fun e w' => e = .returned (.bool (isSeenB s)) ∧ Below w.heap.size w w' := by
 go_enter Tryz.func74, Tryz.ntmps74
 go_wp2
 go_loopw [3, 5] (fun s3 _ w' => ∃ (pos : Nat) (last : Int), s3 = .int .i32 last ∧ w' = w.iter s pos ∧ 96 ≤ last ∧ last ≤ 122 ∧ Hid (incr 96 s.data.toList = incr last (s.data.toList.drop pos))) (fun _ _ w' => s.size - w'.iterPos w.heap.size)
 case atStart => exact ⟨0, 96, rfl, rfl, by omega, by omega, (show incr 96 s.data.toList = incr 96 (s.data.toList.drop 0) from by rw [List.drop_zero])⟩
 case round =>
  obtain ⟨pos, last, rfl, rfl, hl1, hl2, AA⟩ := hrel
  by_cases hp : pos < s.size
  ·have hdr := Lib.hid (drop_data s pos hp)
   by_cases ha : (s[pos]'hp).toNat < 128
   ·have hnx := fun ty => run_next_ascii (P := Tryz.prog) w s pos ty hp ha
    have HAs := Lib.hid ha
    clear ha
    obtain ⟨u, hu⟩ : ∃ u, u = s[pos]'hp := ⟨_, rfl⟩
    rw [← hu] at hnx
    rw [← hu] at HAs
    rw [← hu] at hdr
    clear hu
    by_cases h1 : (u.toNat : Int) ≤ last
    ·have hd : decide ((u.toNat : Int) ≤ last) = true := decide_eq_true h1
     go_wp2
     go_ret
     refine ⟨?_, iter_below _ _ _⟩
     rw [isSeenB, AA.out, hdr.out, incr, decide_eq_false (by omega)]
     rfl
    ·have hd : decide ((u.toNat : Int) ≤ last) = false := decide_eq_false h1
     by_cases h2 : 122 < (u.toNat : Int)
     ·have hd2 : decide (122 < (u.toNat : Int)) = true := decide_eq_true h2
      go_wp2
      go_ret
      refine ⟨?_, iter_below _ _ _⟩
      rw [isSeenB, AA.out, hdr.out, incr, decide_eq_true (show last < (u.toNat : Int) by omega), decide_eq_false (show ¬ (u.toNat : Int) ≤ 122 by omega)]
      rfl
     ·have hd2 : decide (122 < (u.toNat : Int)) = false := decide_eq_false h2
      go_wp2
      go_roundw
      case rel =>
       refine ⟨pos + 1, u.toNat, rfl, rfl, by omega, by omega, (show Hid _ from ?_)⟩
       rw [AA.out, hdr.out, incr, decide_eq_true (show last < (u.toNat : Int) by omega), decide_eq_true (show (u.toNat : Int) ≤ 122 by omega)]
       rfl
      case measure => simp; omega
   ·have hnx := fun ty => run_next_any (P := Tryz.prog) w s pos ty hp
    have hh := (decode_high s pos hp (by omega)).1
    obtain ⟨u, hu⟩ : ∃ u, u = s[pos]'hp := ⟨_, rfl⟩
    rw [← hu] at hdr ha
    clear hu
    generalize Utf8.decode s pos = d at hnx hh
    obtain ⟨c, n⟩ := d
    have h1 : decide ((c : Int) ≤ last) = false := decide_eq_false (by simp only at hh; omega)
    have h2 : decide (122 < (c : Int)) = true := decide_eq_true (by simp only at hh; omega)
    clear hh
    go_wp2
    go_ret
    refine ⟨?_, iter_below _ _ _⟩
    rw [isSeenB, AA.out, hdr.out, incr, decide_eq_true (show last < (u.toNat : Int) by omega), decide_eq_false (show ¬ (u.toNat : Int) ≤ 122 by omega)]
    rfl
  ·have hnx := fun ty => run_next_end (P := Tryz.prog) w s pos ty hp
   have hdr := Lib.hid (show s.data.toList.drop pos = [] from List.drop_eq_nil_of_le (by simpa using Nat.le_of_not_lt hp))
   go_wp2
   go_ret
   refine ⟨ret_bool ?_, iter_below _ _ _⟩
   rw [isSeenB, AA.out, hdr.out, incr, Bool.true_and]
   exact decide_eq_decide.2 (by omega)
end Go.Proofs.YtcnpbcgkhhebaaaGreatDoor
/- within; the searches for owners and logs; the predicates of CheckSeason. -/
namespace Go.Proofs.YtcnpbcgkhhebaaaGreatDoor
open Go.RowKit

theorem within1_any (x lo hi : Int) (bl bh : Nat) (w : World) (h1 : w.cell? ⟨bl, 0, none⟩ = some (.int .i64 lo)) (h2 : w.cell? ⟨bh, 0, none⟩ = some (.int .i64 hi)) :
  Calls Tryz.prog 115 #[.int .i64 x, .pointer (some ⟨bl, 0, none⟩), .pointer (some ⟨bh, 0, none⟩)] w fun e w' => e = .returned (.bool (decide (x < lo) || decide (hi < x))) ∧ w' = w := by
 by_cases hx : x < lo
 ·have hd : decide (x < lo) = true := by simpa using hx
  go_enter Tryz.func115, Tryz.ntmps115
  go_wp2
  go_ret
  simp [hx]
 ·have hd : decide (x < lo) = false := by simpa using hx
  go_enter Tryz.func115, Tryz.ntmps115
  go_wp2
  go_ret
  simp

set_option maxHeartbeats 1000000 in
theorem within_one (lo hi x : Int) (b : Nat) (w : World) (hb : b < w.heap.size) (hx : w.cell? ⟨b, 0, none⟩ = some (.int .i64 x)) :
  Calls Tryz.prog 76 #[.int .i64 lo, .int .i64 hi, .slice (some ⟨b, 0, none⟩) 1 1] w fun e w' => e = .returned (.bool (decide (lo ≤ x) && decide (x ≤ hi))) ∧ Below w.heap.size w w' := by
 have eg : ∀ args w, (callFunc 115 args).run Tryz.prog w = .ok (.enter 115 args) w := enters_of Tryz.func115 (by kernel_rfl) rfl
 have hP : ∀ W : World, W.cell? ⟨w.heap.size, 0, none⟩ = some (.int .i64 lo) → W.cell? ⟨w.heap.size + 1, 0, none⟩ = some (.int .i64 hi) → W.heap.size = w.heap.size + 2 →
   Pays 115 #[.pointer (some ⟨w.heap.size, 0, none⟩), .pointer (some ⟨w.heap.size + 1, 0, none⟩)] (fun x => .int .i64 x) (fun n => decide (n < lo) || decide (hi < n)) [x] W := by
  intro W c1 c2 hs V n _ hB
  exact (within1_any n lo hi _ _ V ((hB.cell (p := ⟨w.heap.size, 0, none⟩) (by simp; omega)).trans c1) ((hB.cell (p := ⟨w.heap.size + 1, 0, none⟩) (by simp; omega)).trans c2)).mono fun _ _ ⟨he, hw⟩ => ⟨he, by rw [hw]; exact Below.refl _ _⟩
 have hR : ∀ W : World, Below w.heap.size w W → Rd eI 1 W (some ⟨b, 0, none⟩) 1 [x] := by
  intro W hB
  refine ⟨by simp, by omega, fun _ => ⟨b, 0, rfl, Nat.lt_of_lt_of_le hb hB.size, fun i y hi j u hu => ?_⟩⟩
  cases i with
  | zero =>
   cases j with
   | zero =>
    simp only [List.getElem?_cons_zero, Option.some.injEq] at hi
    subst hi
    simp only [eI, List.getElem?_cons_zero, Option.some.injEq] at hu
    subst hu
    exact (hB.cell (p := ⟨b, 0, none⟩) hb).trans hx
   | succ j => simp [eI] at hu
  | succ i => simp at hi
 have HP := Lib.hid hP
 have HR := Lib.hid hR
 clear hP hR hx
 go_enter Tryz.func76, Tryz.ntmps76
 go_wp2_with (go_at_call 114; refine (containsI (some ⟨b, 0, none⟩) 1 [x] _ 115 _ (fun n => decide (n < lo) || decide (hi < n)) eg (HR.out _ (((Below.refl _ w).alloc (Nat.le_refl _) _).alloc (by simp) _)) (HP.out _ (by go_simp) (by go_simp) (by simp))).mono ?_; rintro e w' ⟨rfl, hb'⟩)
 go_ret
 refine ⟨ret_bool ?_, (((Below.refl _ w).alloc (Nat.le_refl _) _).alloc (by simp) _).trans (hb'.mono (by simp; omega))⟩
 by_cases h1 : x < lo <;> by_cases h2 : hi < x <;> simp [h1, h2, Int.not_lt.1, Int.not_le.2] <;> omega

theorem within_b (lo hi x : Int) (r : Bool) (hr : (decide (lo ≤ x) && decide (x ≤ hi)) = r) (b : Nat) (w : World) (hb : b < w.heap.size) (hx : w.cell? ⟨b, 0, none⟩ = some (.int .i64 x)) :
  Calls Tryz.prog 76 #[.int .i64 lo, .int .i64 hi, .slice (some ⟨b, 0, none⟩) 1 1] w fun e w' => e = .returned (.bool r) ∧ Below w.heap.size w w' := by
 rw [← hr]; exact within_one lo hi x b w hb hx

/-- Below, behind two boxes. -/
theorem below_a1 (w : World) (o : Obj) : Below w.heap.size w (w.alloc o) := (Below.refl _ w).alloc (Nat.le_refl _) _
theorem below_a2 (w : World) (o o' : Obj) : Below w.heap.size w ((w.alloc o).alloc o') := (below_a1 w o).alloc (by simp) _

theorem owner1_any (n : Int) (x : Ow) (b : Nat) (w : World) (h : w.cell? ⟨b, 0, none⟩ = some (.int .i64 n)) (hb : b < w.heap.size) :
  Calls Tryz.prog 127 #[.agg (eO x).toArray, .pointer (some ⟨b, 0, none⟩)] w fun e w' => e = .returned (.bool (x.num == n)) ∧ Below w.heap.size w w' := by
 obtain ⟨num, mark, paid⟩ := x
 simp only [eO]
 go_enter Tryz.func127, Tryz.ntmps127
 go_wp2
 go_ret
 exact ⟨rfl, below_a1 _ _⟩

theorem log1_any (n : Int) (x : Lg) (b : Nat) (w : World) (h : w.cell? ⟨b, 0, none⟩ = some (.int .i64 n)) (hb : b < w.heap.size) :
  Calls Tryz.prog 204 #[.agg (eL x).toArray, .pointer (some ⟨b, 0, none⟩)] w fun e w' => e = .returned (.bool (x.num == n)) ∧ Below w.heap.size w w' := by
 obtain ⟨num, mark, feet, own, gone⟩ := x
 simp only [eL]
 go_enter Tryz.func204, Tryz.ntmps204
 go_wp2
 go_ret
 exact ⟨rfl, below_a1 _ _⟩

set_option maxHeartbeats 1000000 in
theorem firstO (A : Option Addr) (c : Nat) (xs : List Ow) (w : World) (g : Nat) (lb : Array Value) (p : Ow → Bool)
  (eg : ∀ args w, (callFunc g args).run Tryz.prog w = .ok (.enter g args) w) (hr : Rd eO 3 w A c xs) (hp : Pays g lb (fun x => .agg (eO x).toArray) p xs w) :
  Calls Tryz.prog 126 #[.slice A xs.length c, .func (.func g) #[] lb] w fun e w' => e = .returned (.int .i64 (idxI p xs)) ∧ Below w.heap.size w w' := by
 have hcon := indexO A c xs w g lb p eg hr hp
 clear hr hp
 generalize idxI p xs = r at hcon ⊢
 go_enter Tryz.func126, Tryz.ntmps126
 go_wp2_with (go_at_call 116; refine hcon.mono ?_; rintro e w' ⟨rfl, hb'⟩)
 go_ret
 exact ⟨rfl, hb'⟩

set_option maxHeartbeats 1000000 in
/-- The index of an owner, or -1. -/
theorem owner_any (n : Int) (ob oo : Nat) (A : Option Addr) (c : Nat) (xs : List Ow) (w : World) (h0 : w.cell? ⟨ob, oo, none⟩ = some (.slice A xs.length c)) (hr : Rd eO 3 w A c xs) :
  Calls Tryz.prog 89 #[.pointer (some ⟨ob, oo, none⟩), .int .i64 n] w fun e w' => e = .returned (.int .i64 (idxI (fun x => x.num == n) xs)) ∧ Below w.heap.size w w' := by
 have eg : ∀ args w, (callFunc 127 args).run Tryz.prog w = .ok (.enter 127 args) w := enters_of Tryz.func127 (by kernel_rfl) rfl
 have hcon := firstO A c xs (w.alloc (.cells #[.int .i64 n] 2)) 127 #[.pointer (some ⟨w.heap.size, 0, none⟩)] (fun x => x.num == n) eg (hr.below (below_a1 _ _))
  (fun W x _ hB => owner1_any n x _ W ((hB.cell (p := ⟨w.heap.size, 0, none⟩) (by simp)).trans (by go_simp)) (Nat.lt_of_lt_of_le (by simp) hB.size))
 clear hr
 have hob : ob < w.heap.size := World.block_lt_of_cell? w _ h0
 generalize idxI (fun x : Ow => x.num == n) xs = r at hcon ⊢
 go_enter Tryz.func89, Tryz.ntmps89
 go_wp2_with (go_at_call 126; refine hcon.mono ?_; rintro e w' ⟨rfl, hb'⟩)
 go_ret
 exact ⟨rfl, below2 (below_a1 _ _) hb'⟩

set_option maxHeartbeats 1000000 in
theorem firstL (A : Option Addr) (c : Nat) (xs : List Lg) (w : World) (g : Nat) (lb : Array Value) (p : Lg → Bool)
  (eg : ∀ args w, (callFunc g args).run Tryz.prog w = .ok (.enter g args) w) (hr : Rd eL 5 w A c xs) (hp : Pays g lb (fun x => .agg (eL x).toArray) p xs w) :
  Calls Tryz.prog 203 #[.slice A xs.length c, .func (.func g) #[] lb] w fun e w' => e = .returned (.int .i64 (idxI p xs)) ∧ Below w.heap.size w w' := by
 have hcon := indexL A c xs w g lb p eg hr hp
 clear hr hp
 generalize idxI p xs = r at hcon ⊢
 go_enter Tryz.func203, Tryz.ntmps203
 go_wp2_with (go_at_call 117; refine hcon.mono ?_; rintro e w' ⟨rfl, hb'⟩)
 go_ret
 exact ⟨rfl, hb'⟩

set_option maxHeartbeats 1000000 in
/-- The index of an log, or -1. -/
theorem log_any (n : Int) (ob oo : Nat) (A : Option Addr) (c : Nat) (xs : List Lg) (w : World) (h0 : w.cell? ⟨ob, oo + 1, none⟩ = some (.slice A xs.length c)) (hr : Rd eL 5 w A c xs) :
  Calls Tryz.prog 166 #[.pointer (some ⟨ob, oo, none⟩), .int .i64 n] w fun e w' => e = .returned (.int .i64 (idxI (fun x => x.num == n) xs)) ∧ Below w.heap.size w w' := by
 have eg : ∀ args w, (callFunc 204 args).run Tryz.prog w = .ok (.enter 204 args) w := enters_of Tryz.func204 (by kernel_rfl) rfl
 have hcon := firstL A c xs (w.alloc (.cells #[.int .i64 n] 2)) 204 #[.pointer (some ⟨w.heap.size, 0, none⟩)] (fun x => x.num == n) eg (hr.below (below_a1 _ _))
  (fun W x _ hB => log1_any n x _ W ((hB.cell (p := ⟨w.heap.size, 0, none⟩) (by simp)).trans (by go_simp)) (Nat.lt_of_lt_of_le (by simp) hB.size))
 clear hr
 have hob : ob < w.heap.size := World.block_lt_of_cell? w _ h0
 generalize idxI (fun x : Lg => x.num == n) xs = r at hcon ⊢
 go_enter Tryz.func166, Tryz.ntmps166
 go_wp2_with (go_at_call 203; refine hcon.mono ?_; rintro e w' ⟨rfl, hb'⟩)
 go_ret
 exact ⟨rfl, below2 (below_a1 _ _) hb'⟩
end Go.Proofs.YtcnpbcgkhhebaaaGreatDoor
/- The predicates of CheckSeason. -/
namespace Go.Proofs.YtcnpbcgkhhebaaaGreatDoor
open Go.RowKit

set_option maxHeartbeats 1000000 in
theorem seen3_any (x : Lg) (w : World) :
  Calls Tryz.prog 79 #[.agg (eL x).toArray] w fun e w' => e = .returned (.bool (!isSeenB x.seen)) ∧ Below w.heap.size w w' := by
 obtain ⟨num, seen, feet, own, gone⟩ := x
 simp only [eL]
 go_enter Tryz.func79, Tryz.ntmps79
 go_wp2_with (go_at_call 74; refine (isSeen_any _ _).mono ?_; rintro e w' ⟨rfl, hb'⟩)
 go_ret
 exact ⟨rfl, below2 (below_a1 _ _) hb'⟩

set_option maxHeartbeats 1000000 in
theorem range4_any (x : Ow) (w : World) :
  Calls Tryz.prog 80 #[.agg (eO x).toArray] w fun e w' => e = .returned (.bool (!(decide (1 ≤ x.num) && decide (x.num ≤ 1099511627776)))) ∧ Below w.heap.size w w' := by
 obtain ⟨num, mark, paid⟩ := x
 simp only [eO]
 go_enter Tryz.func80, Tryz.ntmps80
 go_wp2_with (go_at_call 76; refine (within_one _ _ num (w.heap.size + 1) _ (by simp) (by go_simp)).mono ?_; rintro e w' ⟨rfl, hb'⟩)
 go_ret
 exact ⟨ret_bool (by rw [Bool.not_and]), below2 (below_a2 _ _ _) hb'⟩

theorem empty_iff (s : ByteArray) : s.toList = [] ↔ s.size = 0 := by
 rw [ByteArray.toList_eq, List.eq_nil_iff_length_eq_zero]
 simp
theorem toList_inj {a b : ByteArray} : a.toList = b.toList ↔ a = b := by
 rw [ByteArray.toList_eq, ByteArray.toList_eq]
 exact ⟨fun h => Go.WideShapes.bytes_inj h, fun h => by rw [h]⟩

/-- A mark that is none. -/
def oddB (x : Ow) : Bool := decide (x.mark.size = 0) || !isSeenB x.mark
set_option maxHeartbeats 1000000 in
theorem odd1_any (x : Ow) (w : World) :
  Calls Tryz.prog 73 #[.agg (eO x).toArray] w fun e w' => e = .returned (.bool (oddB x)) ∧ Below w.heap.size w w' := by
 obtain ⟨num, mark, paid⟩ := x
 simp only [eO, oddB]
 by_cases h : mark.toList = []
 ·have hd : mark.toList.isEmpty = true := by rw [h]; rfl
  have h0 := Lib.hid ((empty_iff _).1 h)
  clear h
  go_enter Tryz.func73, Tryz.ntmps73
  go_wp2
  go_ret
  exact ⟨ret_bool (by rw [decide_eq_true h0.out]; rfl), below_a1 _ _⟩
 ·have hd : mark.toList.isEmpty = false := by simpa using h
  have h0 := Lib.hid (fun e => h ((empty_iff mark).2 e))
  clear h
  go_enter Tryz.func73, Tryz.ntmps73
  go_wp2_with (go_at_call 74; refine (isSeen_any _ _).mono ?_; rintro e w' ⟨rfl, hb'⟩)
  go_ret
  exact ⟨ret_bool (by rw [decide_eq_false h0.out]; rfl), below2 (below_a1 _ _) hb'⟩

/-- A log with a number that is none. -/
def strayB (x : Lg) : Bool := !(decide (1 ≤ x.num) && decide (x.num ≤ 1099511627776)) || !(decide (0 ≤ x.own) && decide (x.own ≤ 1099511627776)) || !(decide (1 ≤ x.feet) && decide (x.feet ≤ 10000))
set_option maxHeartbeats 2000000 in
theorem stray2_any (x : Lg) (w : World) :
  Calls Tryz.prog 75 #[.agg (eL x).toArray] w fun e w' => e = .returned (.bool (strayB x)) ∧ Below w.heap.size w w' := by
 obtain ⟨num, seen, feet, own, gone⟩ := x
 simp only [eL, strayB]
 obtain ⟨r1, e1⟩ : ∃ r, (decide (1 ≤ num) && decide (num ≤ 1099511627776)) = r := ⟨_, rfl⟩
 obtain ⟨r2, e2⟩ : ∃ r, (decide (0 ≤ own) && decide (own ≤ 1099511627776)) = r := ⟨_, rfl⟩
 obtain ⟨r3, e3⟩ : ∃ r, (decide (1 ≤ feet) && decide (feet ≤ 10000)) = r := ⟨_, rfl⟩
 rw [e1, e2, e3]
 have E1 := Lib.hid e1
 have E2 := Lib.hid e2
 have E3 := Lib.hid e3
 clear e1 e2 e3
 cases r1
 ·go_enter Tryz.func75, Tryz.ntmps75
  go_wp2_with (go_at_call 76; refine (within_b _ _ num _ E1.out (w.heap.size + 1) _ (by simp) (by go_simp)).mono ?_; rintro e w1 ⟨rfl, hb1⟩)
  go_ret
  exact ⟨rfl, below2 (below_a2 _ _ _) hb1⟩
 ·go_enter Tryz.func75, Tryz.ntmps75
  go_wp2_with fail
  refine (within_b _ _ num _ E1.out (w.heap.size + 1) _ (by simp) (by go_simp)).mono ?_
  rintro e w1 ⟨rfl, hb1⟩
  have hB1 := below2 (below_a2 _ _ _) hb1
  have k1 : w1.cell? ⟨w.heap.size, 3, none⟩ = some (.int .i64 own) := cB hb1 (by go_simp)
  have k2 : w1.cell? ⟨w.heap.size, 2, none⟩ = some (.int .i64 feet) := cB hb1 (by go_simp)
  go_wp2_with fail
  refine (within_b _ _ own _ E2.out w1.heap.size _ (by simp) (by go_simp)).mono ?_
  rintro e w2 ⟨rfl, hb2⟩
  have hB2 := below2 (hB1.alloc hB1.size _) hb2
  have k3 := cB hb2 (cA k2 _)
  cases r2
  ·go_wp2
   go_ret
   exact ⟨rfl, hB2⟩
  ·go_wp2_with fail
   refine (within_b _ _ feet _ E3.out w2.heap.size _ (by simp) (by go_simp)).mono ?_
   rintro e w3 ⟨rfl, hb3⟩
   go_wp2
   go_ret
   exact ⟨by cases r3 <;> rfl, below2 (hB2.alloc hB2.size _) hb3⟩
end Go.Proofs.YtcnpbcgkhhebaaaGreatDoor
/- Lists of the call's own: append of one element; what is owned reads. -/
namespace Go.Proofs.YtcnpbcgkhhebaaaGreatDoor
open Go.RowKit

/-- v holds xs, in memory of the call's own, from block base on. -/
def Own {α : Type} (enc : α → List Value) (e sz base : Nat) (w : World) (v : Value) (xs : List α) : Prop := w.ownsRow base e sz v xs.length (xs.flatMap enc)

structure EInfo (T e : TypeId) (z : Value) (sz bytes : Nat) : Prop where
 ut : Tryz.prog.underlying T = some (.slice e)
 inf : (Tryz.prog.info? e).map (fun i => (i.zero, i.size, i.bytes)) = some (some z, sz, bytes)
 zs : z.cells.size = sz
 pos : 0 < sz

/-- An encoding by sz cells. -/
structure Enc {α : Type} (enc : α → List Value) (sz : Nat) : Prop where
 len : ∀ x, (enc x).length = sz
 one : ∀ x, ∀ u ∈ enc x, u.oneCell' = true

theorem encO : Enc eO 3 := ⟨fun _ => rfl, fun x u h => by simp [eO] at h; rcases h with rfl | rfl | rfl <;> rfl⟩
theorem encL : Enc eL 5 := ⟨fun _ => rfl, fun x u h => by simp [eL] at h; rcases h with rfl | rfl | rfl | rfl | rfl <;> rfl⟩
theorem encI : Enc eI 1 := ⟨fun _ => rfl, fun x u h => by simp [eI] at h; subst h; rfl⟩
theorem encS : Enc eS 1 := ⟨fun _ => rfl, fun x u h => by simp [eS] at h; subst h; rfl⟩
theorem flat_len {α : Type} {enc : α → List Value} {sz : Nat} (h : Enc enc sz) (xs : List α) : (xs.flatMap enc).length = xs.length * sz := by
 induction xs with
 | nil => simp
 | cons x xs ih => rw [List.flatMap_cons, List.length_append, h.len, ih, List.length_cons, Nat.succ_mul]; omega
theorem flat_one {α : Type} {enc : α → List Value} {sz : Nat} (h : Enc enc sz) (xs : List α) : ∀ u ∈ xs.flatMap enc, u.oneCell' = true := by
 intro u hu
 obtain ⟨x, _, hx⟩ := List.mem_flatMap.1 hu
 exact h.one x u hx
theorem flat_get {α : Type} {enc : α → List Value} {sz : Nat} (h : Enc enc sz) : ∀ (xs : List α) (i : Nat) (x : α), xs[i]? = some x → ∀ j u, (enc x)[j]? = some u → (xs.flatMap enc)[i * sz + j]? = some u := by
 intro xs
 induction xs with
 | nil => intro i x hx; simp at hx
 | cons y ys ih =>
  intro i x hx j u hu
  have hj : j < sz := by have := (List.getElem?_eq_some_iff.1 hu).1; rw [h.len] at this; exact this
  rw [List.flatMap_cons]
  cases i with
  | zero =>
   simp only [List.getElem?_cons_zero, Option.some.injEq] at hx
   subst hx
   rw [Nat.zero_mul, Nat.zero_add, List.getElem?_append_left (by rw [h.len]; exact hj)]
   exact hu
  | succ i =>
   rw [List.getElem?_append_right (by rw [h.len, Nat.succ_mul]; omega), h.len, show (i + 1) * sz + j - sz = i * sz + j by rw [Nat.succ_mul]; omega]
   exact ih i x (by simpa using hx) j u hu

section
variable {α : Type} {enc : α → List Value} {e sz base : Nat} {w w' : World} {v : Value} {A : Option Addr} {c : Nat} {xs : List α}
theorem Own.nil_ (enc : α → List Value) (e sz base : Nat) (w : World) : Own enc e sz base w (.slice none 0 0) [] := World.ownsRow_nil _ _ _ _
theorem Own.rd (h : Own enc e sz base w v xs) (he : Enc enc sz) : ∃ A c, v = .slice A xs.length c ∧ Rd enc sz w A c xs := by
 obtain ⟨hl, h⟩ := h
 rcases h with ⟨rfl, h0⟩ | ⟨g, cap, cur, rfl, hb, hg, hn, hc, hs, ht⟩
 ·have : xs = [] := List.eq_nil_of_length_eq_zero h0
  subst this
  exact ⟨none, 0, rfl, Rd.nil_ _ _ (by omega)⟩
 ·refine ⟨some ⟨g, 0, none⟩, cap, rfl, hn, by simp only [maxLen] at hc; omega, fun _ => ⟨g, 0, rfl, (Array.getElem?_eq_some_iff.1 hg).1, fun i x hx j u hu => ?_⟩⟩
  have hf := flat_get he xs i x hx j u hu
  have hlt : i * sz + j < xs.length * sz := by have := (List.getElem?_eq_some_iff.1 hf).1; rw [flat_len he] at this; exact this
  rw [← ht, List.getElem?_take_of_lt hlt] at hf
  rw [Nat.zero_add]
  show World.cell? w ⟨g, i * sz + j, none⟩ = some u
  unfold World.cell?
  simp only [hg]
  simpa using hf
theorem Own.form (h : Own enc e sz base w v xs) : (v = .slice none 0 0 ∧ xs = []) ∨ ∃ g cap, v = .slice (some ⟨g, 0, none⟩) xs.length cap ∧ base ≤ g ∧ g < w.heap.size ∧ xs.length ≤ cap ∧ cap ≤ 9223372036854775807 := by
 obtain ⟨hl, h⟩ := h
 rcases h with ⟨rfl, h0⟩ | ⟨g, cap, cur, rfl, hb, hg, hn, hc, hs, ht⟩
 ·exact .inl ⟨rfl, List.eq_nil_of_length_eq_zero h0⟩
 ·exact .inr ⟨g, cap, rfl, hb, (Array.getElem?_eq_some_iff.1 hg).1, hn, by simp only [maxLen] at hc; omega⟩
theorem Own.sl (h : Own enc e sz base w v xs) : ∃ A c, v = .slice A xs.length c := by
 rcases h.form with ⟨rfl, rfl⟩ | ⟨g, cap, rfl, _⟩
 ·exact ⟨none, 0, rfl⟩
 ·exact ⟨_, _, rfl⟩
theorem Own.rs {A : Option Addr} {c : Nat} (h : Own enc e sz base w (.slice A xs.length c) xs) (he : Enc enc sz) : Rd enc sz w A c xs := by
 obtain ⟨A', c', e, r⟩ := h.rd he
 injection e with e1 _ e2
 subst e1 e2
 exact r
/-- Some slice of the call's own. -/
def OwnR {α : Type} (enc : α → List Value) (e sz base : Nat) (w : World) (en : Ending) (xs : List α) : Prop := ∃ A c, en = .returned (.slice A xs.length c) ∧ Own enc e sz base w (.slice A xs.length c) xs
theorem Own.ret {en : Ending} (h : Own enc e sz base w v xs) (he : en = .returned v) : OwnR enc e sz base w en xs := by
 obtain ⟨A, c, rfl⟩ := h.sl
 exact ⟨A, c, he, h⟩
theorem Own.kept {row : Option Nat} (h : Own enc e sz base w v xs) (hg : w.grownBy w' row) (hne : v.ownBlock = none ∨ v.ownBlock ≠ row) : Own enc e sz base w' v xs := World.ownsRow.kept h hg hne
theorem grown_of {w w1 : World} (h : Below w.heap.size w w1) (row : Option Nat) : w.grownBy w1 row := ⟨h.os, h.tape, h.output, h.size, fun i hi _ => h.block i hi⟩
theorem Own.below (h : Own enc e sz base w v xs) (hb : Below w.heap.size w w') : Own enc e sz base w' v xs := h.kept (grown_of hb none) (by cases v.ownBlock <;> simp)
theorem Own.mono {base' : Nat} (h : Own enc e sz base w v xs) (hb : base' ≤ base) : Own enc e sz base' w v xs := by
 obtain ⟨hl, h⟩ := h
 rcases h with h | ⟨g, cap, cur, rfl, hb', r⟩
 ·exact ⟨hl, .inl h⟩
 ·exact ⟨hl, .inr ⟨g, cap, cur, rfl, by omega, r⟩⟩
theorem Own.below_push {B : Nat} {w0 : World} (h : Own enc e sz base w v xs) (hB : Below B w0 w) (hb : B ≤ base) (hs : B ≤ w.heap.size) (hg : w.grownBy w' v.ownBlock) : Below B w0 w' :=
 hB.grown hg hs fun k hk => Nat.le_trans hb (World.ownsRow.lt h k hk).1
theorem Own.lt_ (h : Own enc e sz base w v xs) : ∀ k, v.ownBlock = some k → base ≤ k ∧ k < w.heap.size := World.ownsRow.lt h

set_option maxRecDepth 100000 in
theorem wpList_push {T : TypeId} {z : Value} {bytes : Nat} (hE : EInfo T e z sz bytes) (he : Enc enc sz) {ops : Array Oper} {rest : List Oper} {o : Oper} {a : Act} {Q : Exit → Act → World → Prop}
  (hgd : o.guard = none) (s x : Operand) (ho : o.op = .call { callee := .builtin .append, args := #[s, x], argTypes := #[T, T] })
  (hs : a.eval s = v) (hown : Own enc e sz base w v xs) (nb c : Nat) (y : α) (hx : a.eval x = .slice (some ⟨nb, 0, none⟩) 1 c) (hc : ∀ j u, (enc y)[j]? = some u → w.cell? ⟨nb, j, none⟩ = some u)
  (hby : (xs.length + 1) * bytes ≤ 140737488355328) (hn : xs.length < 9223372036854775807) (hbase : base ≤ w.heap.size)
  (h : ∀ v' w', Own enc e sz base w' v' (xs ++ [y]) → w.grownBy w' v.ownBlock → (v'.ownBlock = v.ownBlock ∨ v'.ownBlock = some w.heap.size) → wpList Tryz.prog ops Q rest (a.put o.dst v') w') :
  wpList Tryz.prog ops Q (o :: rest) a w := by
 obtain ⟨i0, hi, h1, h2, h3⟩ := info_parts hE.inf
 refine wpList_plain hgd fun K hK => ?_
 obtain ⟨v', w', hrun, hw, hg, _, hl⟩ := run_append_own_at (P := Tryz.prog) w base T o.type e i0 z sz bytes hE.ut hi h1 h2 h3 hE.zs hE.pos v xs.length (xs.flatMap enc) hown ⟨nb, 0, none⟩ 1 c (enc y) (by rw [he.len]; omega)
  (fun j u hj => by rw [Addr.add_lit, Nat.zero_add]; exact hc j u hj) (he.one y) (by unfold maxLen; omega) hby hbase
 unfold Oper.wp execOp
 simp only [ho, resolve, invoke, builtin, Sem.run_bind, Sem.run_pure, Result.andThen_ok, List.map_toArray, List.map_cons, List.map_nil, hs, hx, hrun]
 refine hK _ _ (h v' w' ?_ hg hl)
 unfold Own
 rw [List.flatMap_append, List.length_append, show [y].flatMap enc = enc y by simp]
 exact hw

set_option maxRecDepth 100000 in
/-- append onto a slice that is cut to its length. -/
theorem wpList_push_full {T : TypeId} {z : Value} {bytes : Nat} (hE : EInfo T e z sz bytes) (he : Enc enc sz) {ops : Array Oper} {rest : List Oper} {o : Oper} {a : Act} {Q : Exit → Act → World → Prop}
  (hgd : o.guard = none) (s x : Operand) (ho : o.op = .call { callee := .builtin .append, args := #[s, x], argTypes := #[T, T] })
  (A : Option Addr) (c0 : Nat) (hv : v = .slice A xs.length c0) (hs : a.eval s = .slice A xs.length xs.length) (hown : Own enc e sz base w v xs) (nb c : Nat) (y : α) (hx : a.eval x = .slice (some ⟨nb, 0, none⟩) 1 c) (hc : ∀ j u, (enc y)[j]? = some u → w.cell? ⟨nb, j, none⟩ = some u)
  (hby : (xs.length + 1) * bytes ≤ 140737488355328) (hn : xs.length < 9223372036854775807)
  (h : ∀ v' w', Own enc e sz w.heap.size w' v' (xs ++ [y]) → Below w.heap.size w w' → wpList Tryz.prog ops Q rest (a.put o.dst v') w') :
  wpList Tryz.prog ops Q (o :: rest) a w := by
 obtain ⟨i0, hi, h1, h2, h3⟩ := info_parts hE.inf
 have hf := hown.form
 refine wpList_append_grows (P := Tryz.prog) w hgd s x T ho e i0 z sz bytes hE.ut hi h1 h2 h3 hE.zs hE.pos A xs.length xs.length (xs.flatMap enc) hs ?_ (flat_len he xs) ?_ ⟨nb, 0, none⟩ 1 c (enc y) hx (by rw [he.len]; omega)
  (fun j u hj => by rw [Addr.add_lit, Nat.zero_add]; exact hc j u hj) (he.one y) (by omega) (by unfold maxLen; omega) hby ?_
 ·rintro rfl
  rcases hf with ⟨_, hx⟩ | ⟨g, cap, hg, _⟩
  ·subst hx; exact ⟨rfl, rfl⟩
  ·rw [hv] at hg; cases hg
 ·rintro b rfl j u hu
  obtain ⟨hl, h⟩ := hown
  rcases h with ⟨hz, h0⟩ | ⟨g, cap, cur, hz, hb, hg, hn, hc, hs, ht⟩
  ·rw [hv] at hz; cases hz
  ·rw [hv] at hz
   injection hz with hz
   injection hz with hz
   subst hz
   have hlt : j < xs.length * sz := by have := (List.getElem?_eq_some_iff.1 hu).1; rw [flat_len he] at this; exact this
   rw [← ht, List.getElem?_take_of_lt hlt] at hu
   rw [Addr.add_lit, Nat.zero_add]
   show World.cell? w ⟨g, j, none⟩ = some u
   unfold World.cell?
   simp only [hg]
   simpa using hu
 ·intro v' w' hw hg
  refine h v' w' ?_ ⟨hg.os, hg.tape, hg.output, hg.size, fun k hk => hg.block k hk (by simp)⟩
  unfold Own
  rw [List.flatMap_append, List.length_append, show [y].flatMap enc = enc y by simp]
  exact hw

theorem belowA {w W : World} (h : Below w.heap.size w W) (o : Obj) : Below w.heap.size w (W.alloc o) := h.alloc h.size o
theorem belowD {B : Nat} {w W : World} (h : Below B w W) : Below B w W.drew := ⟨h.os, h.tape, h.output, h.size, h.block⟩
theorem belowDN {B : Nat} {w W : World} (h : Below B w W) (n : Nat) : Below B w (W.drewN n) := ⟨h.os, h.tape, h.output, h.size, h.block⟩
theorem Rd.go (h : Rd enc sz w A c xs) (hb : Below w.heap.size w w' := by repeat' (first | exact Below.refl _ _ | assumption | apply belowA | apply belowDN | apply belowD | (refine below2 ?_ (by assumption)))) : Rd enc sz w' A c xs := h.below hb
theorem Own.go (h : Own enc e sz base w v xs) (hb : Below w.heap.size w w' := by repeat' (first | exact Below.refl _ _ | assumption | apply belowA | apply belowDN | apply belowD | (refine below2 ?_ (by assumption)))) : Own enc e sz base w' v xs := h.below hb
theorem goB {w w' : World} (hb : Below w.heap.size w w' := by repeat' (first | exact Below.refl _ _ | assumption | apply belowA | apply belowDN | apply belowD | (refine below2 ?_ (by assumption)))) : Below w.heap.size w w' := hb

theorem stop_ {p : Prop} (h : Hid p) : p := h

set_option maxRecDepth 100000 in
/-- append of a whole slice. -/
theorem wpList_push_all {T : TypeId} {z : Value} {bytes : Nat} (hE : EInfo T e z sz bytes) (he : Enc enc sz) {ops : Array Oper} {rest : List Oper} {o : Oper} {a : Act} {Q : Exit → Act → World → Prop}
  (hgd : o.guard = none) (s x : Operand) (ho : o.op = .call { callee := .builtin .append, args := #[s, x], argTypes := #[T, T] })
  (hs : a.eval s = v) (hown : Own enc e sz base w v xs) (ad : Addr) (c : Nat) (ys : List α) (hx : a.eval x = .slice (some ad) ys.length c) (hr : Rd enc sz w (some ad) c ys)
  (hby : (xs.length + ys.length) * bytes ≤ 140737488355328) (hn : xs.length + ys.length ≤ 9223372036854775807) (hbase : base ≤ w.heap.size)
  (h : ∀ v' w', Own enc e sz base w' v' (xs ++ ys) → w.grownBy w' v.ownBlock → (v'.ownBlock = v.ownBlock ∨ v'.ownBlock = some w.heap.size) → wpList Tryz.prog ops Q rest (a.put o.dst v') w') :
  wpList Tryz.prog ops Q (o :: rest) a w := by
 obtain ⟨i0, hi, h1, h2, h3⟩ := info_parts hE.inf
 refine wpList_plain hgd fun K hK => ?_
 have hcells : ∀ j u, (ys.flatMap enc)[j]? = some u → w.cell? (ad.add j) = some u := by
  intro j u hj
  rcases Nat.eq_zero_or_pos ys.length with h0 | h0
  ·have : ys = [] := List.eq_nil_of_length_eq_zero h0
   subst this
   simp at hj
  ·obtain ⟨b, off, e, hb, hc⟩ := hr.2.2 h0
   injection e with e
   subst e
   have hjl : j < ys.length * sz := by have := (List.getElem?_eq_some_iff.1 hj).1; rw [flat_len he] at this; exact this
   have hd : j / sz < ys.length := Nat.div_lt_of_lt_mul (by rw [Nat.mul_comm]; exact hjl)
   have hsum : j / sz * sz + j % sz = j := Nat.div_add_mod' j sz
   have hm : j % sz < sz := Nat.mod_lt _ hE.pos
   have hx1 : ys[j / sz]? = some ys[j / sz] := List.getElem?_eq_getElem hd
   have hx2 : (enc ys[j / sz])[j % sz]? = some ((enc ys[j / sz])[j % sz]'(by rw [he.len]; exact hm)) := List.getElem?_eq_getElem _
   have h1 := flat_get he ys _ _ hx1 _ _ hx2
   rw [hsum, hj] at h1
   have h2 := hc _ _ hx1 _ _ hx2
   rw [Nat.add_assoc, hsum, ← h1] at h2
   rw [Addr.add_lit]
   exact h2
 obtain ⟨v', w', hrun, hw, hg, _, hl⟩ := run_append_own_at (P := Tryz.prog) w base T o.type e i0 z sz bytes hE.ut hi h1 h2 h3 hE.zs hE.pos v xs.length (xs.flatMap enc) hown ad ys.length c (ys.flatMap enc) (flat_len he ys)
  hcells (flat_one he ys) (by unfold maxLen; omega) hby hbase
 unfold Oper.wp execOp
 simp only [ho, resolve, invoke, builtin, Sem.run_bind, Sem.run_pure, Result.andThen_ok, List.map_toArray, List.map_cons, List.map_nil, hs, hx, hrun]
 refine hK _ _ (h v' w' ?_ hg hl)
 unfold Own
 rw [List.flatMap_append, List.length_append]
 exact hw
end
end Go.Proofs.YtcnpbcgkhhebaaaGreatDoor
/- here, fees, newOffice. -/
namespace Go.Proofs.YtcnpbcgkhhebaaaGreatDoor
open Go.RowKit

theorem e3 : EInfo 34 3 (.int .i64 0) 1 8 := ⟨Tryz.underlying34, by kernel_rfl, rfl, by omega⟩
theorem e2 : EInfo 48 2 (.int .i64 0) 1 8 := ⟨Tryz.underlying48, by kernel_rfl, rfl, by omega⟩
theorem e9 : EInfo 75 9 (.string ByteArray.empty) 1 16 := ⟨Tryz.underlying75, by kernel_rfl, rfl, by omega⟩
theorem e28 : EInfo 27 28 (.int .i64 0) 1 8 := ⟨Tryz.underlying27, by kernel_rfl, rfl, by omega⟩
theorem e73 : EInfo 23 73 (.agg #[.int .i64 0, .string ByteArray.empty, .int .i64 0]) 3 32 := ⟨Tryz.underlying23, by kernel_rfl, rfl, by omega⟩
theorem e69 : EInfo 24 69 (.agg #[.int .i64 0, .string ByteArray.empty, .int .i64 0, .int .i64 0, .bool false]) 5 48 := ⟨Tryz.underlying24, by kernel_rfl, rfl, by omega⟩

/-- The indexes of the logs of an owner that are here, among the first k. -/
def hereIx (o : Int) (ls : List Lg) (k : Nat) : List Int := ((List.range k).filter fun i : Nat => match ls[i]? with | some l => decide (l.own = o) && !l.gone | none => false).map fun i : Nat => (i : Int)
theorem hereIx_yes {o : Int} {ls : List Lg} {k : Nat} (hk : k < ls.length) (h1 : ls[k].own = o) (h2 : ls[k].gone = false) : hereIx o ls (k + 1) = hereIx o ls k ++ [(k : Int)] := by
 unfold hereIx
 rw [List.range_succ, List.filter_append, List.map_append]
 simp [List.getElem?_eq_getElem hk, h1, h2]
theorem hereIx_no {o : Int} {ls : List Lg} {k : Nat} (hk : k < ls.length) (h : ¬ ls[k].own = o ∨ ls[k].gone = true) : hereIx o ls (k + 1) = hereIx o ls k := by
 unfold hereIx
 rw [List.range_succ, List.filter_append, List.map_append]
 rcases h with h | h <;> simp [List.getElem?_eq_getElem hk, h]
theorem hereIx_len (o : Int) (ls : List Lg) (k : Nat) : (hereIx o ls k).length ≤ k := by
 unfold hereIx
 rw [List.length_map]
 exact Nat.le_trans (List.length_filter_le _ _) (by simp)

set_option maxHeartbeats 2000000 in
theorem here_any (o : Int) (ob oo : Nat) (A : Option Addr) (c : Nat) (ls : List Lg) (w : World) (h0 : w.cell? ⟨ob, oo + 1, none⟩ = some (.slice A ls.length c)) (hr : Rd eL 5 w A c ls) (hn : ls.length ≤ 1000) :
  Calls Tryz.prog 93 #[.pointer (some ⟨ob, oo, none⟩), .int .i64 o] w fun e w' => OwnR eI 3 1 w.heap.size w' e (hereIx o ls ls.length) ∧ Below w.heap.size w w' := by
 have hob : ob < w.heap.size := World.block_lt_of_cell? w _ h0
 have hlen := hr.len
 go_enter Tryz.func93, Tryz.ntmps93
 go_wp2
 go_step3
 go_wp2
 go_step3
 go_wp2
 clear h0
 go_loopg [5, 14] ls.length (fun g v s14 wr => ∃ k : Nat, k ≤ ls.length ∧ ls.length - k ≤ g ∧ s14 = .int .i64 k ∧ Hid (Below w.heap.size w wr) ∧ Hid (Own eI 3 1 w.heap.size wr v (hereIx o ls k)))
 case atStart => exact ⟨0, by omega, by omega, rfl, Below.refl _ _, Own.nil_ _ _ _ _ _⟩
 case round =>
  obtain ⟨k, hk, hg, rfl, BW, OW⟩ := hrel
  by_cases hlt : k < ls.length
  ·have hli : (k : Int) < (ls.length : Int) := by omega
   obtain ⟨b, off, y, hy, rfl, hb, c0, c1, c2, c3, c4⟩ := (hr.below BW.out).atL hlt
   clear hr
   have HY := Lib.hid hy
   clear hy
   obtain ⟨num, seen, feet, own, gone⟩ := y
   simp only at c0 c1 c2 c3 c4
   have hhl := hereIx_len o ls k
   by_cases h1 : own = o
   ·have hd : (own != o) = false := bne_eq_false_iff_eq.2 h1
    have H1 := Lib.hid h1
    clear h1
    cases gone with
    | true =>
     go_wp2
     go_roundg (ls.length - (k + 1))
     case measure => omega
     case rel => exact ⟨k + 1, by omega, by omega, by go_num, BW.out.alloc BW.out.size _, by rw [hereIx_no hlt (.inr (by rw [← HY.out]))]; exact OW.out.below (below_a1 _ _)⟩
    | false =>
     rcases OW.out.form with ⟨rfl, hnil⟩ | ⟨g0, cap, rfl, hb1, hb2, hcap, hcm⟩
     ·have HN := Lib.hid hnil
      clear hnil
      go_wp2_with (at_builtin; apply stop_)
      unfold Hid
      refine wpList_push_full e3 encI rfl _ _ rfl (enc := eI) (sz := 1) (xs := hereIx o ls k) (v := .slice none 0 0) none 0 (by simp [HN.out]) (by rw [HN.out]; first | rfl | skip) (OW.out.below (below_a2 _ _ _)) (wr.heap.size + 1) 1 (k : Int) rfl ?c1 (by omega) (by omega) ?_
      case c1 => intro j u hj; cases j with | zero => (simp [eI] at hj; subst hj; go_simp) | succ j => simp [eI] at hj
      intro v' w' hown' hbel'
      go_wp2
      go_roundg (ls.length - (k + 1))
      case measure => omega
      case rel => exact ⟨k + 1, by omega, by omega, by go_num, (BW.out.trans ((below_a2 wr _ _).mono BW.out.size)).trans (hbel'.mono (by have := BW.out.size; simp; omega)), by rw [hereIx_yes hlt (by rw [← HY.out]; exact H1.out) (by rw [← HY.out])]; exact hown'.mono (by have := BW.out.size; simp; omega)⟩
     ·go_wp2_with (at_builtin; apply stop_)
      unfold Hid
      refine wpList_push_full e3 encI rfl _ _ rfl (enc := eI) (sz := 1) (xs := hereIx o ls k) (some ⟨g0, 0, none⟩) cap rfl rfl (OW.out.below (below_a2 _ _ _)) (wr.heap.size + 1) 1 (k : Int) rfl ?c1 (by omega) (by omega) ?_
      case c1 => intro j u hj; cases j with | zero => (simp [eI] at hj; subst hj; go_simp) | succ j => simp [eI] at hj
      intro v' w' hown' hbel'
      go_wp2
      go_roundg (ls.length - (k + 1))
      case measure => omega
      case rel => exact ⟨k + 1, by omega, by omega, by go_num, (BW.out.trans ((below_a2 wr _ _).mono BW.out.size)).trans (hbel'.mono (by have := BW.out.size; simp; omega)), by rw [hereIx_yes hlt (by rw [← HY.out]; exact H1.out) (by rw [← HY.out])]; exact hown'.mono (by have := BW.out.size; simp; omega)⟩
   ·have hd : (own != o) = true := bne_iff_ne.2 h1
    have H1 := Lib.hid h1
    clear h1
    go_wp2
    go_roundg (ls.length - (k + 1))
    case measure => omega
    case rel => exact ⟨k + 1, by omega, by omega, by go_num, BW.out.alloc BW.out.size _, by rw [hereIx_no hlt (.inl (by rw [← HY.out]; exact H1.out))]; exact OW.out.below (below_a1 _ _)⟩
  ·have hli : ¬ (k : Int) < (ls.length : Int) := by omega
   have hke : k = ls.length := by omega
   have HK := Lib.hid hke
   clear hke
   go_wp2
   go_ret
   exact ⟨Own.ret (by rw [← HK.out]; exact OW.out) rfl, BW.out⟩

set_option maxRecDepth 100000 in
set_option maxHeartbeats 1000000 in
theorem cloneO (A : Option Addr) (c : Nat) (xs : List Ow) (w : World) (hr : Rd eO 3 w A c xs) (hn : xs.length ≤ 100000) :
  Calls Tryz.prog 118 #[.slice A xs.length c] w fun e w' => OwnR eO 73 3 w.heap.size w' e xs ∧ Below w.heap.size w w' := by
 cases A with
 | none =>
  have hx : xs = [] := by
   rcases Nat.eq_zero_or_pos xs.length with h | h
   ·exact List.eq_nil_of_length_eq_zero h
   ·obtain ⟨b, off, e, _⟩ := hr.2.2 h
    cases e
  have HX := Lib.hid hx
  clear hr hx
  have hq := fun W => Lib.run_eql_slice_nil (P := Tryz.prog) W 23 73 none xs.length c 0 0 Tryz.underlying23
  go_enter Tryz.func118, Tryz.ntmps118
  go_wp2
  go_ret
  exact ⟨Own.ret (v := .slice none 0 0) (by rw [HX.out]; exact Own.nil_ _ _ _ _ _) rfl, Below.refl _ _⟩
 | some ad =>
  have HR := Lib.hid hr
  clear hr
  have hq := fun W => Lib.run_eql_slice_nil (P := Tryz.prog) W 23 73 (some ad) xs.length c 0 0 Tryz.underlying23
  go_enter Tryz.func118, Tryz.ntmps118
  go_wp2_with (at_builtin; apply stop_)
  unfold Hid
  refine wpList_push_all e73 encO rfl _ _ rfl rfl (base := w.heap.size) (xs := []) (World.ownsRow_lit w #[] 0 (Nat.le_refl _) (by unfold maxLen; omega) rfl) ad c xs rfl (HR.out.below (below_a1 _ _)) (by simp; omega) (by simp; omega) (by simp) ?_
  intro v' w' hown hg hl
  go_wp2
  go_ret
  exact ⟨Own.ret hown rfl, ((Below.refl _ w).alloc (Nat.le_refl _) _).grown hg (by simp) (fun k hk => Nat.le_of_eq (Option.some.inj (show some w.heap.size = some k from hk)))⟩

set_option maxRecDepth 100000 in
set_option maxHeartbeats 1000000 in
theorem cloneL (A : Option Addr) (c : Nat) (xs : List Lg) (w : World) (hr : Rd eL 5 w A c xs) (hn : xs.length ≤ 100000) :
  Calls Tryz.prog 119 #[.slice A xs.length c] w fun e w' => OwnR eL 69 5 w.heap.size w' e xs ∧ Below w.heap.size w w' := by
 cases A with
 | none =>
  have hx : xs = [] := by
   rcases Nat.eq_zero_or_pos xs.length with h | h
   ·exact List.eq_nil_of_length_eq_zero h
   ·obtain ⟨b, off, e, _⟩ := hr.2.2 h
    cases e
  have HX := Lib.hid hx
  clear hr hx
  have hq := fun W => Lib.run_eql_slice_nil (P := Tryz.prog) W 24 69 none xs.length c 0 0 Tryz.underlying24
  go_enter Tryz.func119, Tryz.ntmps119
  go_wp2
  go_ret
  exact ⟨Own.ret (v := .slice none 0 0) (by rw [HX.out]; exact Own.nil_ _ _ _ _ _) rfl, Below.refl _ _⟩
 | some ad =>
  have HR := Lib.hid hr
  clear hr
  have hq := fun W => Lib.run_eql_slice_nil (P := Tryz.prog) W 24 69 (some ad) xs.length c 0 0 Tryz.underlying24
  go_enter Tryz.func119, Tryz.ntmps119
  go_wp2_with (at_builtin; apply stop_)
  unfold Hid
  refine wpList_push_all e69 encL rfl _ _ rfl rfl (base := w.heap.size) (xs := []) (World.ownsRow_lit w #[] 0 (Nat.le_refl _) (by unfold maxLen; omega) rfl) ad c xs rfl (HR.out.below (below_a1 _ _)) (by simp; omega) (by simp; omega) (by simp) ?_
  intro v' w' hown hg hl
  go_wp2
  go_ret
  exact ⟨Own.ret hown rfl, ((Below.refl _ w).alloc (Nat.le_refl _) _).grown hg (by simp) (fun k hk => Nat.le_of_eq (Option.some.inj (show some w.heap.size = some k from hk)))⟩
end Go.Proofs.YtcnpbcgkhhebaaaGreatDoor
/- newOffice. -/
namespace Go.Proofs.YtcnpbcgkhhebaaaGreatDoor
open Go.RowKit

set_option maxRecDepth 100000 in
set_option maxHeartbeats 2000000 in
theorem newOffice_any (A : Option Addr) (c : Nat) (os : List Ow) (A2 : Option Addr) (c2 : Nat) (ls : List Lg) (w : World) (hr : Rd eO 3 w A c os) (hr2 : Rd eL 5 w A2 c2 ls) (hn : os.length ≤ 100000) (hn2 : ls.length ≤ 100000) :
  Calls Tryz.prog 81 #[.agg #[.slice A os.length c, .slice A2 ls.length c2]] w fun e w' => ∃ g A1 c1 A2 c2, e = .returned (.pointer (some ⟨g, 0, none⟩)) ∧ w'.heap[g]? = some (.cells #[.slice A1 os.length c1, .slice A2 ls.length c2] 89 (0, 0)) ∧ w.heap.size ≤ g ∧ Own eO 73 3 w.heap.size w' (.slice A1 os.length c1) os ∧ Own eL 69 5 w.heap.size w' (.slice A2 ls.length c2) ls ∧ Below w.heap.size w w' := by
 have HR := Lib.hid hr
 have HR2 := Lib.hid hr2
 clear hr hr2
 go_enter Tryz.func81, Tryz.ntmps81
 go_wp2
 go_region_held3 (fun W => W.cell? ⟨w.heap.size, 0, none⟩ = some (.slice A os.length c) ∧ W.cell? ⟨w.heap.size, 1, none⟩ = some (.slice A2 ls.length c2)) (go_keep)
  (first | (go_at_call 118; refine (cloneO A c os _ HR.out.go hn).mono ?_; rintro e w' ⟨⟨A', c', rfl, hown⟩, hb⟩; (have k1 : w'.cell? ⟨w.heap.size, 0, none⟩ = some (.slice A os.length c) := cB hb (by go_simp)); (have k2 : w'.cell? ⟨w.heap.size, 1, none⟩ = some (.slice A2 ls.length c2) := cB hb (by go_simp))) | (go_at_call 119; refine (cloneL A2 c2 ls _ HR2.out.go hn2).mono ?_; rintro e w' ⟨⟨A2', c2', rfl, hown2⟩, hb2⟩; (have k1 : w'.cell? ⟨w.heap.size, 0, none⟩ = some (.slice A os.length c) := cB hb2 (by go_simp)); (have k2 : w'.cell? ⟨w.heap.size, 1, none⟩ = some (.slice A2 ls.length c2) := cB hb2 (by go_simp))))
 all_goals
  go_wp2
  go_ret
  exact ⟨_, _, _, _, _, rfl, heap_alloc_new _ _, Below.size goB, hown.go.mono (Below.size goB), hown2.go.mono (Below.size goB), goB⟩
end Go.Proofs.YtcnpbcgkhhebaaaGreatDoor
/- fees. -/
namespace Go.Proofs.YtcnpbcgkhhebaaaGreatDoor
open Go.RowKit

theorem setCell_same {w : World} {b o : Nat} {v : Value} {cs : Array Value} {e : TypeId} {f : Nat × Nat} (h : w.heap[b]? = some (.cells cs e f)) (hv : cs[o]? = some v) : w.setCell ⟨b, o, none⟩ v = w := by
 obtain ⟨hb, hh⟩ := Array.getElem?_eq_some_iff.1 h
 obtain ⟨ho, hc⟩ := Array.getElem?_eq_some_iff.1 hv
 have hs : cs.setIfInBounds o v = cs := by
  refine Array.ext (by simp) fun i h1 h2 => ?_
  by_cases e : o = i
  ·subst e; simp [hc]
  ·rw [Array.getElem_setIfInBounds_ne _ e]
 have hp : (w.setCell ⟨b, o, none⟩ v).heap = w.heap := by
  refine Array.ext (by simp [World.setCell]) fun i h1 h2 => ?_
  simp only [World.setCell]
  by_cases e : b = i
  ·subst e
   rw [Array.getElem_modify_self, hh]
   simp [hs]
  ·rw [Array.getElem_modify_of_ne e]
 show ({ w with heap := (w.setCell ⟨b, o, none⟩ v).heap } : World) = w
 rw [hp]

theorem setCells_same {w : World} {b : Nat} {cs : Array Value} {e : TypeId} {f : Nat × Nat} (h : w.heap[b]? = some (.cells cs e f)) : ∀ (vs : List Value) (o : Nat), (∀ j v, vs[j]? = some v → cs[o + j]? = some v) → w.setCells b o vs = w
 | [], _, _ => rfl
 | v :: r, o, hv => by
  show (w.setCell ⟨b, o, none⟩ v).setCells b (o + 1) r = w
  rw [setCell_same h (by simpa using hv 0 v rfl)]
  exact setCells_same h r (o + 1) fun j u hj => by rw [Nat.add_assoc, Nat.add_comm 1 j]; exact hv (j + 1) u (by simpa using hj)

theorem clear_zeros {w : World} {b : Nat} (h : w.heap[b]? = some (.cells (Array.replicate 20 (.int .i64 0)) 134 (0, 0))) :
  (Builtin.clear_ #[48] 0 #[.slice (some ⟨b, 0, none⟩) 20 20]).run Tryz.prog w = .ok (.tuple #[]) w := by
 have hz : ∀ W, (zeroValue 2).run Tryz.prog W = .ok (.int .i64 0) W := fun W => by kernel_rfl
 have hst := run_storeCells_cells (P := Tryz.prog) b 0 (List.replicate 20 (.int .i64 0)) 0 w (fun j hj => by
   simp only [List.length_replicate] at hj
   simp [World.cell?, h, hj]) (fun j hj => by simp [World.frozen?, h]) (fun v hv => by simp at hv; subst hv; rfl)
 rw [setCells_same h _ _ (fun j v hj => by
  obtain ⟨h1, h2⟩ := List.getElem?_eq_some_iff.1 hj
  simp only [List.length_replicate] at h1
  rw [List.getElem_replicate] at h2
  simp [h1, h2])] at hst
 have hzc : (Builtin.zeroCells (Value.int .i64 0).cells 20).toList = List.replicate 20 (.int .i64 0) := by
  simp [Builtin.zeroCells, Value.cells, Nat.mod_one]
  rfl
 simp only [Builtin.clear_]
 simp [-List.reduceReplicate, run_underlying Tryz.underlying48, hz, hzc, hst]

theorem idxI_bd {α : Type} (p : α → Bool) (xs : List α) : -1 ≤ idxI p xs ∧ idxI p xs < xs.length := by
 unfold idxI
 split
 ·rename_i h
  obtain ⟨x, hx, hp⟩ := List.any_eq_true.1 h
  have := List.findIdx_lt_length_of_exists ⟨x, hx, hp⟩
  omega
 ·omega

def fee (l : Lg) : Int := 3 + l.feet / 10
/-- The fees of the logs whose owner is number i of the owners. -/
def feeAt (os : List Ow) (ls : List Lg) (i : Int) : Int := ((ls.filter fun l => idxI (fun x => x.num == l.own) os == i).map fee).sum
def feesL (os : List Ow) (ls : List Lg) : List Int := (List.range 20).map fun i : Nat => feeAt os ls i
def vals (ns : List Int) : Array Value := (ns.map (Value.int .i64)).toArray

theorem feeAt_snoc (os : List Ow) (ls : List Lg) (l : Lg) (i : Int) : feeAt os (ls ++ [l]) i = feeAt os ls i + if idxI (fun x => x.num == l.own) os = i then fee l else 0 := by
 unfold feeAt
 rw [List.filter_append, List.map_append, List.sum_append]
 by_cases h : idxI (fun x => x.num == l.own) os = i <;> simp [h]
theorem feeAt_bd {os : List Ow} : ∀ {ls : List Lg}, (∀ l ∈ ls, 1 ≤ l.feet ∧ l.feet ≤ 10000) → ∀ i, 0 ≤ feeAt os ls i ∧ feeAt os ls i ≤ 1003 * ls.length := by
 intro ls
 induction ls with
 | nil => intro _ i; simp [feeAt]
 | cons l ls ih =>
  intro h i
  have h1 := ih (fun x hx => h x (List.mem_cons_of_mem _ hx)) i
  have h2 := h l (List.mem_cons_self)
  unfold feeAt at h1 ⊢
  rw [List.filter_cons]
  split
  ·rw [List.map_cons, List.sum_cons, List.length_cons]
   unfold fee at *
   omega
  ·rw [List.length_cons]
   omega
theorem feesL_no (os : List Ow) (ls : List Lg) (l : Lg) (h : idxI (fun x => x.num == l.own) os < 0) : feesL os (ls ++ [l]) = feesL os ls := by
 unfold feesL
 refine List.map_congr_left fun i _ => ?_
 rw [feeAt_snoc, if_neg (by omega)]
 omega
theorem feesL_yes (os : List Ow) (ls : List Lg) (l : Lg) (i : Nat) (_hi : i < 20) (h : idxI (fun x => x.num == l.own) os = i) : vals (feesL os (ls ++ [l])) = (vals (feesL os ls)).setIfInBounds i (.int .i64 (feeAt os ls i + fee l)) := by
 unfold vals feesL
 rw [List.setIfInBounds_toArray]
 congr 1
 refine List.ext_getElem (by simp) fun j h1 h2 => ?_
 simp only [List.length_map, List.length_range] at h1
 simp only [List.getElem_map, List.getElem_range]
 rw [List.getElem_set]
 by_cases e : i = j
 ·subst e
  rw [if_pos rfl, feeAt_snoc, if_pos h]
 ·rw [if_neg e, feeAt_snoc, if_neg (by omega)]
  simp
theorem vals_get (os : List Ow) (ls : List Lg) (i : Nat) (hi : i < 20) : (vals (feesL os ls))[i]? = some (.int .i64 (feeAt os ls i)) := by
 simp [vals, feesL, hi]
theorem feesL_nil (os : List Ow) : vals (feesL os []) = Array.replicate 20 (.int .i64 0) := by
 simp [vals, feesL, feeAt]
 rfl
end Go.Proofs.YtcnpbcgkhhebaaaGreatDoor
/- fees. -/
namespace Go.Proofs.YtcnpbcgkhhebaaaGreatDoor
open Go.RowKit

theorem size134 : (Tryz.prog.info? 134).map (·.size) = some 20 := by kernel_rfl
theorem vals_size (os : List Ow) (ls : List Lg) : (vals (feesL os ls)).size = 20 := by simp [vals, feesL]
theorem vals_one (ns : List Int) : (vals ns).all (·.oneCell') = true := by
 rw [Array.all_eq_true_iff_forall_mem]
 intro v hv
 simp only [vals, List.mem_toArray, List.mem_map] at hv
 obtain ⟨n, _, rfl⟩ := hv
 rfl

set_option maxRecDepth 100000 in
set_option maxHeartbeats 4000000 in
theorem fees_any (ob oo : Nat) (A0 : Option Addr) (c0 : Nat) (os : List Ow) (A : Option Addr) (c : Nat) (ls : List Lg) (w : World) (h0 : w.cell? ⟨ob, oo, none⟩ = some (.slice A0 os.length c0)) (h1 : w.cell? ⟨ob, oo + 1, none⟩ = some (.slice A ls.length c)) (hr0 : Rd eO 3 w A0 c0 os) (hr : Rd eL 5 w A c ls) (hn : ls.length ≤ 1000) (hos : os.length ≤ 20) (hft : ∀ l ∈ ls, 1 ≤ l.feet ∧ l.feet ≤ 10000) :
  Calls Tryz.prog 90 #[.pointer (some ⟨ob, oo, none⟩)] w fun e w' => e = .returned (.agg (vals (feesL os ls))) ∧ Below w.heap.size w w' := by
 have hob : ob < w.heap.size := World.block_lt_of_cell? w _ h0
 have H0 := Lib.hid h0
 have HR0 := Lib.hid hr0
 have HR := Lib.hid hr
 have HF := Lib.hid hft
 clear hr0 hr hft
 have hcl : ∀ W : World, W.heap[w.heap.size + 1]? = some (.cells (Array.replicate 20 (.int .i64 0)) 134 (0, 0)) → (Builtin.clear_ #[48] 0 #[.slice (some ⟨w.heap.size + 1, 0, none⟩) 20 20]).run Tryz.prog W = .ok (.tuple #[]) W := fun W h => clear_zeros h
 have hcl2 := hcl ((w.alloc (.cells (Array.replicate 20 (.int .i64 0)) 134)).alloc (.cells (Array.replicate 20 (.int .i64 0)) 134)) (by rw [← World.size_alloc w (.cells (Array.replicate 20 (.int .i64 0)) 134)]; exact heap_alloc_new _ _)
 clear hcl
 have hrep : Array.replicate 20 (Value.int .i64 0) = #[Value.int .i64 0, .int .i64 0, .int .i64 0, .int .i64 0, .int .i64 0, .int .i64 0, .int .i64 0, .int .i64 0, .int .i64 0, .int .i64 0, .int .i64 0, .int .i64 0, .int .i64 0, .int .i64 0, .int .i64 0, .int .i64 0, .int .i64 0, .int .i64 0, .int .i64 0, .int .i64 0] := rfl
 rw [hrep] at hcl2
 have HREP := Lib.hid hrep
 clear hrep
 go_enter Tryz.func90, Tryz.ntmps90
 go_wp2
 go_loopg [14] ls.length (fun g s14 wr => ∃ k : Nat, k ≤ ls.length ∧ ls.length - k ≤ g ∧ s14 = .int .i64 k ∧ Hid (Below w.heap.size w wr) ∧ Hid (wr.heap[w.heap.size]? = some (.cells (Array.replicate 20 (.int .i64 0)) 134 (0, 0))) ∧ Hid (wr.heap[w.heap.size + 1]? = some (.cells (vals (feesL os (ls.take k))) 134 (0, 0))))
 case atStart => exact ⟨0, by omega, by omega, rfl, goB, by rw [HREP.out]; exact heap_alloc2_old _ _ _, by rw [List.take_zero, feesL_nil, HREP.out]; exact heap_alloc2_new _ _ _⟩
 case round =>
  clear hcl2
  obtain ⟨k, hk, hg, rfl, BW, Z1, Z2⟩ := hrel
  by_cases hlt : k < ls.length
  ·have hli : (k : Int) < (ls.length : Int) := by omega
   obtain ⟨b, off, y, hy, rfl, hb, c0', c1', c2', c3', c4'⟩ := (HR.out.below BW.out).atL hlt
   have HY := Lib.hid hy
   have hft := HF.out y (by rw [hy]; exact List.getElem_mem hlt)
   clear hy
   have htk : ls.take (k + 1) = ls.take k ++ [y] := by rw [List.take_succ_eq_append_getElem hlt, HY.out]
   have HTK := Lib.hid htk
   clear htk
   obtain ⟨num, seen, feet, own, gone⟩ := y
   simp only at c0' c1' c2' c3' c4' hft
   have hcon := owner_any own ob oo A0 c0 os (wr.alloc (.cells #[.int .i64 num, .string seen, .int .i64 feet, .int .i64 own, .bool gone] 69)) (cA (cB BW.out H0.out) _) ((HR0.out.below BW.out).below (below_a1 _ _))
   have hbd := idxI_bd (fun x : Ow => x.num == own) os
   obtain ⟨r, hr⟩ : ∃ r, idxI (fun x : Ow => x.num == own) os = r := ⟨_, rfl⟩
   rw [hr] at hcon hbd
   have HRr := Lib.hid hr
   clear hr
   by_cases hneg : r < 0
   ·have hd : ¬ 0 ≤ r := by omega
    go_wp2_with (go_at_call 89; refine hcon.mono ?_; rintro e w2 ⟨rfl, hb2⟩)
    go_roundg (ls.length - (k + 1))
    case measure => omega
    case rel =>
     have hB := below2 (below_a1 wr (.cells #[.int .i64 num, .string seen, .int .i64 feet, .int .i64 own, .bool gone] 69)) hb2
     exact ⟨k + 1, by omega, by omega, by go_num, below2 BW.out hB, (hB.block _ (Array.getElem?_eq_some_iff.1 Z1.out).1).trans Z1.out, by rw [HTK.out, feesL_no _ _ _ (by rw [HRr.out]; exact hneg)]; exact (hB.block _ (Array.getElem?_eq_some_iff.1 Z2.out).1).trans Z2.out⟩
   ·obtain ⟨i, rfl⟩ : ∃ i : Nat, r = i := ⟨r.toNat, by omega⟩
    have hi : i < 20 := by omega
    have hsb := feeAt_bd (os := os) (ls := ls.take k) (fun l hl => HF.out l (List.mem_of_mem_take hl)) i
    rw [List.length_take, Nat.min_eq_left hk] at hsb
    have hc := vals_get os (ls.take k) i hi
    obtain ⟨s, hs⟩ : ∃ s, feeAt os (ls.take k) i = s := ⟨_, rfl⟩
    rw [hs] at hsb hc
    have HS := Lib.hid hs
    clear hs
    have HC := Lib.hid hc
    clear hc
    have hpos : (0 : Int) ≤ (i : Int) := by omega
    have hi20 : (i : Int) < 20 := by omega
    go_wp2_with (go_at_call 89; refine hcon.mono ?_; rintro e w2 ⟨rfl, hb2⟩; apply stop_)
    unfold Hid
    have hB := below2 (below_a1 wr (.cells #[.int .i64 num, .string seen, .int .i64 feet, .int .i64 own, .bool gone] 69)) hb2
    have hz1 := (hB.block _ (Array.getElem?_eq_some_iff.1 Z1.out).1).trans Z1.out
    have hz2 := (hB.block _ (Array.getElem?_eq_some_iff.1 Z2.out).1).trans Z2.out
    have hlt1 : w.heap.size + 1 < w2.heap.size := (Array.getElem?_eq_some_iff.1 hz2).1
    have k1 : w2.cell? ⟨w.heap.size + 1, i, none⟩ = some (.int .i64 s) := by rw [cell_of_row _ _ _ _ _ _ hz2]; exact HC.out
    have k2 : w2.frozen? ⟨w.heap.size + 1, i, none⟩ = false := frozen_of_row _ _ _ _ _ hz2
    have k3 : w2.cell? ⟨wr.heap.size, 2, none⟩ = some (.int .i64 feet) := cB hb2 (by go_simp)
    have HZ1 := Lib.hid hz1
    have HZ2 := Lib.hid hz2
    clear hz1 hz2
    go_wp2
    go_region
    all_goals
     go_wp2
     go_roundg (ls.length - (k + 1))
     case measure => omega
     case rel =>
      refine ⟨k + 1, by omega, by omega, by go_num, belowD ((below2 BW.out hB).setCell (p := ⟨w.heap.size + 1, i, none⟩) (Nat.le_succ _) _), (heap_setCell_other _ _ _ _ (by simp)).trans HZ1.out, ?_⟩
      rw [HTK.out, feesL_yes os (ls.take k) _ i hi HRr.out, HS.out]
      exact heap_setCell_same _ _ _ _ _ _ HZ2.out
  ·have hli : ¬ (k : Int) < (ls.length : Int) := by omega
   have hke : ls.take k = ls := List.take_of_length_le (by omega)
   have HK := Lib.hid hke
   clear hke
   have hsz := vals_size os (ls.take k)
   have HSZ := Lib.hid hsz
   clear hsz
   have h1 := vals_one (feesL os (ls.take k))
   have H1 := Lib.hid h1
   clear h1
   obtain ⟨V, hV⟩ : ∃ V, vals (feesL os (ls.take k)) = V := ⟨_, rfl⟩
   rw [hV] at Z2 HSZ H1
   have HV := Lib.hid hV
   clear hV
   go_wp2_with (first | (with_reducible refine wpList_load_row rfl 134 _ rfl (w.heap.size + 1) ?_ 134 V (0, 0) _ Z2.out Tryz.underlying134 rfl (by rw [HSZ.out]; exact size134) ?_) | (with_reducible refine wpList_store_row rfl 134 _ _ rfl w.heap.size V ?_ ?_ 134 _ Z1.out (by rw [HSZ.out]; exact size134) (by rw [HSZ.out]; simp) H1.out ?_))
   refine bodyPost_ret (results_cell_row rfl _ _ w.heap.size 134 V (0, 0) _ rfl (setRow_heap _ _ _ _ _ _ Z1.out) Tryz.underlying134 rfl (by rw [HSZ.out]; exact size134)) rfl ⟨by rw [← HV.out, HK.out], below_setRow BW.out (Nat.le_refl _) _⟩
end Go.Proofs.YtcnpbcgkhhebaaaGreatDoor
/- The predicates of check. -/
namespace Go.Proofs.YtcnpbcgkhhebaaaGreatDoor
open Go.RowKit

def ownIx (os : List Ow) (n : Int) : Int := idxI (fun x => x.num == n) os
theorem ownerA (n : Int) (ob oo : Nat) (A : Option Addr) (c : Nat) (xs : List Ow) (w : World) (h0 : w.cell? ⟨ob, oo, none⟩ = some (.slice A xs.length c)) (hr : Rd eO 3 w A c xs) :
  Calls Tryz.prog 89 #[.pointer (some ⟨ob, oo, none⟩), .int .i64 n] w fun e w' => e = .returned (.int .i64 (ownIx xs n)) ∧ Below w.heap.size w w' := owner_any n ob oo A c xs w h0 hr
theorem ownIx_bd (os : List Ow) (n : Int) : -1 ≤ ownIx os n ∧ ownIx os n < os.length := idxI_bd _ _
def strangeB (os : List Ow) (x : Lg) : Bool := !decide (x.own = 0) && decide (ownIx os x.own < 0)

set_option maxRecDepth 100000 in
set_option maxHeartbeats 2000000 in
theorem strange_any (x : Lg) (bo ob oo : Nat) (A : Option Addr) (c : Nat) (os : List Ow) (w : World) (hbo : w.cell? ⟨bo, 0, none⟩ = some (.pointer (some ⟨ob, oo, none⟩))) (h0 : w.cell? ⟨ob, oo, none⟩ = some (.slice A os.length c)) (hr : Rd eO 3 w A c os) :
  Calls Tryz.prog 120 #[.agg (eL x).toArray, .pointer (some ⟨bo, 0, none⟩)] w fun e w' => e = .returned (.bool (strangeB os x)) ∧ Below w.heap.size w w' := by
 obtain ⟨num, seen, feet, own, gone⟩ := x
 have hbl : bo < w.heap.size := World.block_lt_of_cell? w _ hbo
 have hcon := ownerA own ob oo A c os (w.alloc (.cells #[.int .i64 num, .string seen, .int .i64 feet, .int .i64 own, .bool gone] 69)) (cA h0 _) (hr.below (below_a1 _ _))
 simp only [eL, strangeB]
 clear hr
 by_cases h : own = 0
 ·have hd : (own != 0) = false := by simp [h]
  have H := Lib.hid h
  clear h
  go_enter Tryz.func120, Tryz.ntmps120
  go_wp2
  go_ret
  exact ⟨ret_bool (by rw [decide_eq_true H.out]; rfl), below_a1 _ _⟩
 ·have hd : (own != 0) = true := by simp [h]
  have H := Lib.hid h
  clear h
  obtain ⟨r, hr⟩ : ∃ r, ownIx os own = r := ⟨_, rfl⟩
  rw [hr] at hcon ⊢
  clear hr
  go_enter Tryz.func120, Tryz.ntmps120
  go_wp2_with (go_at_call 89; refine hcon.mono ?_; rintro e w' ⟨rfl, hb'⟩)
  go_ret
  exact ⟨ret_bool (by rw [decide_eq_false H.out]; rfl), below2 (below_a1 _ _) hb'⟩

def mkAt (os : List Ow) (i : Int) : ByteArray := match os[i.toNat]? with | some x => x.mark | none => ByteArray.empty
def wrongB (os : List Ow) (x : Lg) : Bool := if x.own = 0 then x.gone else !wearsB (mkAt os (ownIx os x.own)) x.seen

set_option maxRecDepth 100000 in
set_option maxHeartbeats 4000000 in
theorem wrong_any (x : Lg) (bo ob oo : Nat) (A : Option Addr) (c : Nat) (os : List Ow) (w : World) (hbo : w.cell? ⟨bo, 0, none⟩ = some (.pointer (some ⟨ob, oo, none⟩))) (h0 : w.cell? ⟨ob, oo, none⟩ = some (.slice A os.length c)) (hr : Rd eO 3 w A c os)
  (hx : x.own = 0 ∨ 0 ≤ ownIx os x.own) (hm : ∀ o ∈ os, Asc o.mark) (hs : Asc x.seen) :
  Calls Tryz.prog 121 #[.agg (eL x).toArray, .pointer (some ⟨bo, 0, none⟩)] w fun e w' => e = .returned (.bool (wrongB os x)) ∧ Below w.heap.size w w' := by
 obtain ⟨num, seen, feet, own, gone⟩ := x
 have hbl : bo < w.heap.size := World.block_lt_of_cell? w _ hbo
 have hcon := ownerA own ob oo A c os
 simp only [eL, wrongB] at hx hs ⊢
 by_cases h : own = 0
 ·have hd : (own == 0) = true := by simp [h]
  have H := Lib.hid h
  clear h hx hcon hr hm hs
  go_enter Tryz.func121, Tryz.ntmps121
  go_wp2
  go_ret
  exact ⟨rfl, below_a1 _ _⟩
 ·have hd : (own == 0) = false := by simp [h]
  have H := Lib.hid h
  have hbd := ownIx_bd os own
  have hge : 0 ≤ ownIx os own := by rcases hx with h1 | h1; exact absurd h1 h; exact h1
  clear h hx
  obtain ⟨r, hr0⟩ : ∃ r, ownIx os own = r := ⟨_, rfl⟩
  rw [hr0] at hcon hbd hge ⊢
  clear hr0
  obtain ⟨i, rfl⟩ : ∃ i : Nat, r = i := ⟨r.toNat, by omega⟩
  have hi : i < os.length := by omega
  obtain ⟨b, off, y, hy, rfl, hb, c0, c1, c2⟩ := hr.atO hi
  have HR := Lib.hid hr
  have hma := hm y (by rw [hy]; exact List.getElem_mem hi)
  have hmk : mkAt os (i : Int) = y.mark := by unfold mkAt; rw [Int.toNat_natCast, List.getElem?_eq_getElem hi, hy]
  have HM := Lib.hid hmk
  clear hr hm hmk hy
  obtain ⟨onum, mark, paid⟩ := y
  simp only at c0 c1 c2 HM hma
  have HA := Lib.hid hma
  have HS := Lib.hid hs
  clear hma hs
  have hob : ob < w.heap.size := World.block_lt_of_cell? w _ h0
  have hli : (i : Int) < (os.length : Int) := by omega
  have hlen := HR.out.len
  go_enter Tryz.func121, Tryz.ntmps121
  go_wp2
  go_region_held3 (fun W => W.cell? ⟨bo, 0, none⟩ = some (.pointer (some ⟨ob, oo, none⟩)) ∧ W.cell? ⟨ob, oo, none⟩ = some (.slice (some ⟨b, off, none⟩) os.length c) ∧ W.cell? ⟨b, off + i * 3 + 1, none⟩ = some (.string mark) ∧ W.cell? ⟨w.heap.size, 1, none⟩ = some (.string seen) ∧ W.cell? ⟨w.heap.size, 3, none⟩ = some (.int .i64 own)) (go_keep)
   (first | (go_at_call 89; refine (hcon _ (by go_simp) HR.out.go).mono ?_; rintro e w' ⟨rfl, hb1⟩; (have k1 : w'.cell? ⟨bo, 0, none⟩ = some (.pointer (some ⟨ob, oo, none⟩)) := cB hb1 (by go_simp)); (have k2 : w'.cell? ⟨ob, oo, none⟩ = some (.slice (some ⟨b, off, none⟩) os.length c) := cB hb1 (by go_simp)); (have k3 : w'.cell? ⟨b, off + i * 3 + 1, none⟩ = some (.string mark) := cB hb1 (by go_simp)); (have k4 : w'.cell? ⟨w.heap.size, 1, none⟩ = some (.string seen) := cB hb1 (by go_simp)); (have k5 : w'.cell? ⟨w.heap.size, 3, none⟩ = some (.int .i64 own) := cB hb1 (by go_simp))) | (go_at_call 122; refine (wears_any mark seen _ HA.out HS.out).mono ?_; rintro e w' ⟨rfl, hb2⟩; (have k1 : w'.cell? ⟨bo, 0, none⟩ = some (.pointer (some ⟨ob, oo, none⟩)) := cB hb2 (by go_simp)); (have k2 : w'.cell? ⟨ob, oo, none⟩ = some (.slice (some ⟨b, off, none⟩) os.length c) := cB hb2 (by go_simp)); (have k3 : w'.cell? ⟨b, off + i * 3 + 1, none⟩ = some (.string mark) := cB hb2 (by go_simp)); (have k4 : w'.cell? ⟨w.heap.size, 1, none⟩ = some (.string seen) := cB hb2 (by go_simp)); (have k5 : w'.cell? ⟨w.heap.size, 3, none⟩ = some (.int .i64 own) := cB hb2 (by go_simp))))
  all_goals
   go_wp2
   go_ret
   exact ⟨ret_bool (by rw [HM.out]), goB⟩
end Go.Proofs.YtcnpbcgkhhebaaaGreatDoor
/- Maps keyed by brands and by numbers: what their operations do. -/
namespace Go.Proofs.YtcnpbcgkhhebaaaGreatDoor
open Go.RowKit

def kB (s : ByteArray) : Value := .agg #[.string s]
def kN (n : Int) : Value := .int .i64 n

theorem eq_brand (a b : ByteArray) (W : World) : (Op.equal 167 (kB a) (kB b)).run Tryz.prog W = .ok (a.toList == b.toList) W := by
 have hS : Tryz.prog.underlying 167 = some (.struct (Tryz.prog.fieldsOf 167)) := by kernel_rfl
 have hp : Tryz.prog.stoodInHeld 167 = false := by kernel_rfl
 unfold Op.equal kB
 rw [show Op.maxDepth = 9999 + 1 from rfl, run_equalIn_agg W 9999 167 _ _ hS hp]
 simp only [Program.fieldsOf, Tryz.underlying167]
 go_simp
 by_cases h : a.toList = b.toList <;> simp [h]
theorem chk_brand (e : Bool) (a : ByteArray) (W : World) : (Instr.checkKey e 10000 167 (kB a)).run Tryz.prog W = .ok () W := by
 rw [show (10000 : Nat) = 9998 + 1 + 1 from rfl]
 unfold kB
 unfold Instr.checkKey
 go_simp
 rw [show (9999 : Nat) = 9998 + 1 from rfl]
 unfold Instr.checkKey
 go_simp
theorem chk_num (e : Bool) (a : Int) (W : World) : (Instr.checkKey e 10000 2 (kN a)).run Tryz.prog W = .ok () W := by
 rw [show (10000 : Nat) = 9998 + 1 + 1 from rfl]
 unfold kN
 unfold Instr.checkKey
 go_simp
theorem eq_num (a b : Int) (W : World) : (Op.equal 2 (kN a) (kN b)).run Tryz.prog W = .ok (a == b) W := by
 unfold Op.equal kN
 rw [show Op.maxDepth = 9999 + 1 from rfl, run_equalIn_int W 9999 2 .i64 .i64 a b Tryz.underlying2]

/-- The entry with a key: its place and value. -/
def findE {κ : Type} [DecidableEq κ] (k : κ) : List (κ × Value) → Nat → Option (Nat × Value)
 | [], _ => none
 | p :: ps, i => if k = p.1 then some (i, p.2) else findE k ps (i + 1)

/-- What a key's type owes. -/
structure KeyT {κ : Type} [DecidableEq κ] (K : TypeId) (enc : κ → Value) : Prop where
 chk : ∀ e k W, (Instr.checkKey e 10000 K (enc k)).run Tryz.prog W = .ok () W
 find : ∀ k (es : List MapEntry) (ps : List (κ × Value)) W, es.map (fun e => (e.key, e.val)) = ps.map (fun p => (enc p.1, p.2)) → (Instr.findKey K (enc k) es).run Tryz.prog W = .ok (findE k ps 0) W
 same : ∀ k, Instr.sameBits 10000 (enc k) (enc k) = true

theorem asking {κ : Type} [DecidableEq κ] {K : TypeId} {enc : κ → Value} (heq : ∀ a b W, (Op.equal K (enc a) (enc b)).run Tryz.prog W = .ok (decide (a = b)) W) (k : κ) (W : World) :
  ∀ (es : List MapEntry) (ps : List (κ × Value)) (i : Nat), es.map (fun e => (e.key, e.val)) = ps.map (fun p => (enc p.1, p.2)) → (Instr.findAsking K (enc k) es i).run Tryz.prog W = .ok (findE k ps i) W
 | [], [], _, _ => by simp [Instr.findAsking, findE]
 | [], _ :: _, _, h => by simp at h
 | _ :: _, [], _, h => by simp at h
 | e :: es, p :: ps, i, h => by
  simp only [List.map_cons, List.cons.injEq, Prod.mk.injEq] at h
  obtain ⟨⟨h1, h2⟩, h3⟩ := h
  have ih := asking heq k W es ps (i + 1) h3
  unfold Instr.findAsking findE
  rw [h1]
  simp only [Sem.run_bind, heq, Result.andThen_ok]
  by_cases hk : k = p.1
  ·simp [hk, h2]
  ·simp [hk, ih]

theorem beq_dec (a b : ByteArray) : (a.toList == b.toList) = decide (a = b) := by
 by_cases hab : a = b
 ·simp [hab]
 ·rw [decide_eq_false hab, beq_eq_false_iff_ne]
  intro e
  rw [ByteArray.toList_eq, ByteArray.toList_eq] at e
  exact hab (Go.WideShapes.bytes_inj e)

theorem brandKey : KeyT 167 kB where
 chk e k W := chk_brand e k W
 find k es ps W h := by
  obtain ⟨fs, hS⟩ : ∃ fs, Tryz.prog.underlying 167 = some (.struct fs) := ⟨_, Tryz.underlying167⟩
  unfold Instr.findKey
  simp only [Sem.run_bind, run_underlying hS, Result.andThen_ok]
  cases es with
  | nil =>
   cases ps with
   | nil => simp [Instr.findNow, findE]
   | cons p ps => simp at h
  | cons e es =>
   have : Instr.findNow (.struct fs) (kB k) (e :: es) 0 = none := rfl
   rw [this]
   exact asking (fun a b W => by rw [eq_brand, beq_dec]) k W _ _ 0 h
 same k := by
  unfold kB
  rw [show (10000 : Nat) = 9998 + 1 + 1 from rfl]
  simp [Instr.sameBits, beq_toListBytes]

theorem now_num (k : Int) : ∀ (es : List MapEntry) (ps : List (Int × Value)) (i : Nat), es.map (fun e => (e.key, e.val)) = ps.map (fun p => (kN p.1, p.2)) → Instr.findNow (.int .i64) (kN k) es i = some (findE k ps i)
 | [], [], _, _ => by simp [Instr.findNow, findE]
 | [], _ :: _, _, h => by simp at h
 | _ :: _, [], _, h => by simp at h
 | e :: es, p :: ps, i, h => by
  simp only [List.map_cons, List.cons.injEq, Prod.mk.injEq] at h
  obtain ⟨⟨h1, h2⟩, h3⟩ := h
  have ih := now_num k es ps (i + 1) h3
  unfold Instr.findNow findE
  rw [h1]
  by_cases hk : k = p.1
  ·subst hk; simp [kN, Instr.sameNow, h2]
  ·have hb : (k == p.1) = false := beq_eq_false_iff_ne.2 hk
   simp only [kN, Instr.sameNow, if_true, if_neg hk]
   rw [hb]
   simpa [kN] using ih

theorem numKey : KeyT 2 kN where
 chk e k W := chk_num e k W
 find k es ps W h := by
  unfold Instr.findKey
  simp [run_underlying Tryz.underlying2, now_num k es ps 0 h]
 same k := by simp [kN, Instr.sameBits]

/-- Block b is a map with these entries. -/
def MapB {κ : Type} (enc : κ → Value) (w : World) (b : Nat) (l : List (κ × Value)) : Prop :=
 ∃ es clock, w.heap[b]? = some (.map es clock) ∧ es.toList.map (fun e => (e.key, e.val)) = l.map (fun p => (enc p.1, p.2)) ∧ (es.toList.map (·.born)).Nodup ∧ ∀ e ∈ es.toList, e.born < clock

/-- The world with another object in a block. -/
def setO (w : World) (b : Nat) (o : Obj) : World := { w with heap := w.heap.setIfInBounds b o }
theorem setO_size (w : World) (b : Nat) (o : Obj) : (setO w b o).heap.size = w.heap.size := by simp [setO]
theorem setO_same {w : World} {b : Nat} (h : b < w.heap.size) (o : Obj) : (setO w b o).heap[b]? = some o := by simp [setO, h]
theorem setO_other (w : World) {b k : Nat} (o : Obj) (h : k ≠ b) : (setO w b o).heap[k]? = w.heap[k]? := by simp [setO, Ne.symm h]
theorem setO_grown (w : World) (b : Nat) (o : Obj) : w.grownBy (setO w b o) (some b) := ⟨rfl, rfl, rfl, Nat.le_of_eq (setO_size w b o).symm, fun k _ hk => setO_other w o (fun e => hk (by rw [e]))⟩
theorem setO_below {B : Nat} {w0 w : World} (h : Below B w0 w) {b : Nat} (hb : B ≤ b) (o : Obj) : Below B w0 (setO w b o) :=
 h.trans ⟨rfl, rfl, rfl, Nat.le_of_eq (setO_size w b o).symm, fun k hk => setO_other w o (by omega)⟩

section
variable {κ : Type} {enc : κ → Value} {w w' : World} {b : Nat} {l : List (κ × Value)} {K T : TypeId}
theorem MapB.kept {row : Option Nat} (h : MapB enc w b l) (hg : w.grownBy w' row) (hne : some b ≠ row) : MapB enc w' b l := by
 obtain ⟨es, clock, hb, r⟩ := h
 exact ⟨es, clock, (hg.block b (Array.getElem?_eq_some_iff.1 hb).1 hne).trans hb, r⟩
theorem MapB.below (h : MapB enc w b l) (hb : Below w.heap.size w w') : MapB enc w' b l := by
 obtain ⟨es, clock, hh, r⟩ := h
 exact ⟨es, clock, (hb.block b (Array.getElem?_eq_some_iff.1 hh).1).trans hh, r⟩
theorem MapB.lt (h : MapB enc w b l) : b < w.heap.size := by
 obtain ⟨es, clock, hh, r⟩ := h
 exact (Array.getElem?_eq_some_iff.1 hh).1
theorem MapB.new (enc : κ → Value) (w : World) : MapB enc (w.alloc (.map #[] 0)) w.heap.size [] := ⟨#[], 0, heap_alloc_new _ _, by simp, by simp, by simp⟩

theorem MapB.len_ {E : TypeId} (hT : Tryz.prog.underlying T = some (.map K E)) (h : MapB enc w b l) : (Builtin.len_ #[T] 3 #[.map (some b)]).run Tryz.prog w = .ok (.int .i64 l.length) w := by
 obtain ⟨es, clock, hb, hm, hn, hc⟩ := h
 have : es.size = l.length := by have := congrArg List.length hm; simpa using this
 simp [Builtin.len_, run_underlying hT, getObj, Sem.run, hb, goInt, this]

variable [DecidableEq κ]
theorem findE_none {k : κ} : ∀ {l : List (κ × Value)} {i : Nat}, (∀ p ∈ l, p.1 ≠ k) → findE k l i = none
 | [], _, _ => rfl
 | p :: ps, i, h => by
  unfold findE
  rw [if_neg (fun e => h p (List.mem_cons_self) e.symm)]
  exact findE_none fun q hq => h q (List.mem_cons_of_mem _ hq)
theorem findE_some {k : κ} : ∀ {l : List (κ × Value)} {i j : Nat} {v : Value}, findE k l i = some (j, v) → ∃ n, j = i + n ∧ l[n]? = some (k, v)
 | [], _, _, _, h => by simp [findE] at h
 | p :: ps, i, j, v, h => by
  unfold findE at h
  split at h
  ·rename_i hk
   simp only [Option.some.injEq, Prod.mk.injEq] at h
   exact ⟨0, by omega, by rw [hk, ← h.2]; rfl⟩
  ·obtain ⟨n, h1, h2⟩ := findE_some h
   exact ⟨n + 1, by omega, by simpa using h2⟩

/-- A key stored: over the old one, or behind all. -/
def putE (k : κ) (v : Value) (l : List (κ × Value)) : List (κ × Value) := match findE k l 0 with | some (i, _) => l.set i (k, v) | none => l ++ [(k, v)]

theorem MapB.store (hK : KeyT K enc) {E : TypeId} (hT : Tryz.prog.underlying T = some (.map K E)) (h : MapB enc w b l) (k : κ) (v : Value) :
  ∃ w', (Instr.mapUpdate T (.map (some b)) (enc k) v).run Tryz.prog w = .ok () w' ∧ MapB enc w' b (putE k v l) ∧ w.grownBy w' (some b) ∧ w'.heap.size = w.heap.size := by
 have hlt := h.lt
 obtain ⟨es, clock, hb, hm, hn, hc⟩ := h
 have hf := hK.find k es.toList l w hm
 unfold putE
 cases hq : findE k l 0 with
 | none =>
  rw [hq] at hf
  refine ⟨setO w b (.map (es.push { key := enc k, val := v, born := clock }) (clock + 1)), ?_, ⟨_, _, setO_same hlt _, ?_, ?_, ?_⟩, setO_grown _ _ _, setO_size _ _ _⟩
  ·simp [Instr.mapUpdate, run_underlying hT, getObj, setObj, Sem.run, hb, hK.chk, hf, setO]
  ·simp [hm]
  ·simp only [Array.toList_push, List.map_append, List.map_cons, List.map_nil]
   refine List.nodup_append.2 ⟨hn, by simp, fun a ha c hc' => ?_⟩
   obtain ⟨e, he, rfl⟩ := List.mem_map.1 ha
   simp only [List.mem_singleton] at hc'
   have := hc e he
   omega
  ·intro e he
   simp only [Array.toList_push, List.mem_append, List.mem_singleton] at he
   rcases he with he | rfl
   ·have := hc e he; omega
   ·exact Nat.lt_succ_self _
 | some r =>
  obtain ⟨i, v0⟩ := r
  rw [hq] at hf
  obtain ⟨n, hn1, hn2⟩ := findE_some hq
  obtain rfl : i = n := by omega
  have hil : i < es.size := by
   have h1 := (List.getElem?_eq_some_iff.1 hn2).1
   have h2 := congrArg List.length hm
   simp at h2
   omega
  have hkey : (es[i]'hil).key = enc k := by
   have h1 : (es.toList.map (fun e => (e.key, e.val)))[i]? = some (enc k, v0) := by rw [hm, List.getElem?_map, hn2]; rfl
   simp [hil] at h1
   exact h1.1
  refine ⟨setO w b (.map (es.modify i fun e => { e with key := enc k, val := v }) clock), ?_, ⟨_, _, setO_same hlt _, ?_, ?_, ?_⟩, setO_grown _ _ _, setO_size _ _ _⟩
  ·simp [Instr.mapUpdate, run_underlying hT, getObj, setObj, Sem.run, hb, hK.chk, hf, Instr.keyThatStays, hil, hkey, hK.same, setO]
  ·refine List.ext_getElem (by have := congrArg List.length hm; simpa using this) fun j h1 h2 => ?_
   have hj : j < es.size := by simpa using h1
   have hjl : j < l.length := by have := congrArg List.length hm; simp at this; omega
   have h3 : (es.toList.map (fun e => (e.key, e.val)))[j]'(by simpa using hj) = (l.map (fun p => (enc p.1, p.2)))[j]'(by simpa using hjl) := by simp only [hm]
   simp only [List.getElem_map, Array.getElem_toList] at h3 ⊢
   rw [Array.getElem_modify, List.getElem_set]
   by_cases e : i = j
   ·subst e; simp
   ·simp [e, h3]
  ·have : (es.modify i fun e => { e with key := enc k, val := v }).toList.map (·.born) = es.toList.map (·.born) := by
    refine List.ext_getElem (by simp) fun j h1 h2 => ?_
    simp only [List.getElem_map, Array.getElem_toList]
    rw [Array.getElem_modify]
    split <;> rfl
   rw [this]; exact hn
  ·intro e he
   obtain ⟨j, hj, rfl⟩ := List.getElem_of_mem he
   simp only [Array.getElem_toList]
   rw [Array.getElem_modify]
   have := hc (es[j]'(by simpa using hj)) (by simp)
   split <;> simpa using this

def getE (k : κ) (z : Value) (l : List (κ × Value)) : Value := match findE k l 0 with | some (_, v) => v | none => z
theorem MapB.look (hK : KeyT K enc) {E : TypeId} (hT : Tryz.prog.underlying T = some (.map K E)) {z : Value} (hz : (zeroValue E).run Tryz.prog w = .ok z w) (h : MapB enc w b l) (k : κ) :
  (Instr.lookup T (.map (some b)) (enc k) false).run Tryz.prog w = .ok (getE k z l) w := by
 obtain ⟨es, clock, hb, hm, hn, hc⟩ := h
 have hf := hK.find k es.toList l w hm
 unfold getE
 cases hq : findE k l 0 with
 | none =>
  rw [hq] at hf
  simp [Instr.lookup, run_underlying hT, getObj, Sem.run, hb, hK.chk, hf, hz]
 | some r =>
  obtain ⟨i, v0⟩ := r
  rw [hq] at hf
  simp [Instr.lookup, run_underlying hT, getObj, Sem.run, hb, hK.chk, hf]

theorem findIdx_born {es : Array MapEntry} (hn : (es.toList.map (·.born)).Nodup) {i : Nat} (hi : i < es.size) : es.findIdx? (fun e => (e.born : Int) == ((es[i]'hi).born : Int)) = some i := by
 rw [Array.findIdx?_eq_some_iff_getElem]
 refine ⟨hi, by simp, fun j hj => ?_⟩
 simp only [Bool.not_eq_true, beq_eq_false_iff_ne, ne_eq]
 intro e
 have e' : (es[j]'(by omega)).born = (es[i]'hi).born := by omega
 rw [List.Nodup, List.pairwise_iff_getElem] at hn
 have := hn j i (by simp; omega) (by simpa using hi) hj
 simp at this
 exact this e'

/-- 'm[k] op= v': the entry is found or made, and stored into. -/
theorem MapB.entry (hK : KeyT K enc) {E : TypeId} (hT : Tryz.prog.underlying T = some (.map K E)) {z : Value} (hz : ∀ W, (zeroValue E).run Tryz.prog W = .ok z W) (h : MapB enc w b l) (k : κ) :
  ∃ w2 st, (Instr.mapEntry T (.map (some b)) (enc k)).run Tryz.prog w = .ok (.tuple #[getE k z l, .int .i64 st]) w2 ∧ (Instr.lookup T (.map (some b)) (enc k) false).run Tryz.prog w2 = .ok (getE k z l) w2 ∧ w.grownBy w2 (some b) ∧ w2.heap.size = w.heap.size ∧
   ∀ v, ∃ w3, (Instr.entryStore T (.map (some b)) (.int .i64 st) v).run Tryz.prog w2 = .ok () w3 ∧ MapB enc w3 b (putE k v l) ∧ w.grownBy w3 (some b) ∧ w3.heap.size = w.heap.size := by
 have hlt := h.lt
 obtain ⟨es, clock, hb, hm, hn, hc⟩ := h
 have hf := hK.find k es.toList l w hm
 have hsz : es.size = l.length := by have := congrArg List.length hm; simpa using this
 unfold putE getE
 cases hq : findE k l 0 with
 | none =>
  rw [hq] at hf
  have hm2 : (es.push { key := enc k, val := z, born := clock }).toList.map (fun e => (e.key, e.val)) = (l ++ [(k, z)]).map (fun p => (enc p.1, p.2)) := by simp [hm]
  have hn2 : ((es.push { key := enc k, val := z, born := clock }).toList.map (·.born)).Nodup := by
   simp only [Array.toList_push, List.map_append, List.map_cons, List.map_nil]
   refine List.nodup_append.2 ⟨hn, by simp, fun a ha c hc' => ?_⟩
   obtain ⟨e, he, rfl⟩ := List.mem_map.1 ha
   simp only [List.mem_singleton] at hc'
   have := hc e he
   omega
  have hmap : MapB enc (setO w b (.map (es.push { key := enc k, val := z, born := clock }) (clock + 1))) b (l ++ [(k, z)]) := by
   refine ⟨_, _, setO_same hlt _, hm2, hn2, ?_⟩
   intro e he
   simp only [Array.toList_push, List.mem_append, List.mem_singleton] at he
   rcases he with he | rfl
   ·have := hc e he; omega
   ·exact Nat.lt_succ_self _
  refine ⟨setO w b (.map (es.push { key := enc k, val := z, born := clock }) (clock + 1)), clock, ?_, ?_, setO_grown _ _ _, setO_size _ _ _, fun v => ?_⟩
  ·simp [Instr.mapEntry, run_underlying hT, getObj, setObj, Sem.run, hb, hK.chk, hf, setO, hz, goInt]
  ·rw [hmap.look hK hT (hz _) k]
   unfold getE
   have : findE k (l ++ [(k, z)]) 0 = some (l.length, z) := by
    have gen : ∀ (l : List (κ × Value)) (i : Nat), findE k l i = none → findE k (l ++ [(k, z)]) i = some (i + l.length, z) := by
     intro l
     induction l with
     | nil => intro i _; simp [findE]
     | cons p ps ih =>
      intro i h
      unfold findE at h
      split at h
      ·cases h
      ·rename_i hk
       rw [List.cons_append, findE, if_neg hk, ih _ h, List.length_cons]
       exact congrArg (fun n => some (n, z)) (by omega)
    rw [gen l 0 hq, Nat.zero_add]
   rw [this]
  ·have hi : es.size < (es.push { key := enc k, val := z, born := clock }).size := by simp
   have hfi := findIdx_born hn2 hi
   simp only [Array.getElem_push_eq] at hfi
   refine ⟨setO (setO w b (.map (es.push { key := enc k, val := z, born := clock }) (clock + 1))) b (.map ((es.push { key := enc k, val := z, born := clock }).modify es.size fun e => { e with val := v }) (clock + 1)), ?_, ⟨_, _, setO_same (by rw [setO_size]; exact hlt) _, ?_, ?_, ?_⟩, ?_, ?_⟩
   ·simp [Instr.entryStore, getObj, setObj, Sem.run, setO_same hlt, asInt, asIntOf, hfi]
    rfl
   ·refine List.ext_getElem (by simp [hsz]) fun j h1 h2 => ?_
    have hj : j < es.size + 1 := by simpa using h1
    simp only [List.getElem_map, Array.getElem_toList]
    rw [Array.getElem_modify]
    by_cases e : es.size = j
    ·subst e
     simp only [if_true, Array.getElem_push_eq]
     rw [List.getElem_append_right (by omega)]
     simp [hsz]
    ·have hjl : j < es.size := by omega
     have h3 : (es.toList.map (fun e => (e.key, e.val)))[j]'(by simpa using hjl) = (l.map (fun p => (enc p.1, p.2)))[j]'(by simp; omega) := by simp only [hm]
     simp only [List.getElem_map, Array.getElem_toList] at h3
     rw [if_neg e, Array.getElem_push_lt hjl, h3, List.getElem_append_left (by omega)]
   ·have : ((es.push { key := enc k, val := z, born := clock }).modify es.size fun e => { e with val := v }).toList.map (·.born) = (es.push { key := enc k, val := z, born := clock }).toList.map (·.born) := by
     refine List.ext_getElem (by simp) fun j h1 h2 => ?_
     simp only [List.getElem_map, Array.getElem_toList]
     rw [Array.getElem_modify]
     split <;> rfl
    rw [this]; exact hn2
   ·intro e he
    obtain ⟨j, hj, rfl⟩ := List.getElem_of_mem he
    simp only [Array.getElem_toList]
    rw [Array.getElem_modify]
    have hj' : j < es.size + 1 := by simpa using hj
    have : ((es.push { key := enc k, val := z, born := clock })[j]'(by simpa using hj')).born < clock + 1 := by
     rw [Array.getElem_push]
     split
     ·rename_i hjl
      have := hc es[j] (by simp)
      omega
     ·exact Nat.lt_succ_self _
    split <;> exact this
   ·exact ⟨rfl, rfl, rfl, by simp [setO], fun k' hk' hne => by rw [setO_other _ _ (fun e => hne (by rw [e])), setO_other _ _ (fun e => hne (by rw [e]))]⟩
   ·rw [setO_size, setO_size]
 | some r =>
  obtain ⟨i, v0⟩ := r
  rw [hq] at hf
  obtain ⟨n, hn1, hn2⟩ := findE_some hq
  obtain rfl : i = n := by omega
  have hil : i < es.size := by
   have h1 := (List.getElem?_eq_some_iff.1 hn2).1
   omega
  have hkv : (es[i]'hil).key = enc k ∧ (es[i]'hil).val = v0 := by
   have h1 : (es.toList.map (fun e => (e.key, e.val)))[i]? = some (enc k, v0) := by rw [hm, List.getElem?_map, hn2]; rfl
   simp [hil] at h1
   exact h1
  have hmod : (es.modify i fun e => { e with key := enc k }) = es := by
   refine Array.ext (by simp) fun j h1 h2 => ?_
   rw [Array.getElem_modify]
   by_cases e : i = j
   ·subst e
    simp only [if_true, ← hkv.1]
   ·rw [if_neg e]
  refine ⟨setO w b (.map es clock), (es[i]'hil).born, ?_, ?_, setO_grown _ _ _, setO_size _ _ _, fun v => ?_⟩
  ·simp [Instr.mapEntry, run_underlying hT, getObj, setObj, Sem.run, hb, hK.chk, hf, Instr.keyThatStays, hil, hkv, hK.same, setO, hmod, goInt]
  ·have hmap : MapB enc (setO w b (.map es clock)) b l := ⟨_, _, setO_same hlt _, hm, hn, hc⟩
   rw [hmap.look hK hT (hz _) k]
   unfold getE
   rw [hq]
  ·have hfi := findIdx_born hn hil
   refine ⟨setO (setO w b (.map es clock)) b (.map (es.modify i fun e => { e with val := v }) clock), ?_, ⟨_, _, setO_same (by rw [setO_size]; exact hlt) _, ?_, ?_, ?_⟩, ?_, ?_⟩
   ·simp [Instr.entryStore, getObj, setObj, Sem.run, setO_same hlt, asInt, asIntOf, hfi]
    rfl
   ·refine List.ext_getElem (by simp [hsz]) fun j h1 h2 => ?_
    have hj : j < es.size := by simpa using h1
    simp only [List.getElem_map, Array.getElem_toList]
    have h3 : (es.toList.map (fun e => (e.key, e.val)))[j]'(by simpa using hj) = (l.map (fun p => (enc p.1, p.2)))[j]'(by simp; omega) := by simp only [hm]
    simp only [List.getElem_map, Array.getElem_toList] at h3
    rw [Array.getElem_modify, List.getElem_set]
    by_cases e : i = j
    ·subst e; simp [hkv.1]
    ·simp [e, h3]
   ·have : (es.modify i fun e => { e with val := v }).toList.map (·.born) = es.toList.map (·.born) := by
     refine List.ext_getElem (by simp) fun j h1 h2 => ?_
     simp only [List.getElem_map, Array.getElem_toList]
     rw [Array.getElem_modify]
     split <;> rfl
    rw [this]; exact hn
   ·intro e he
    obtain ⟨j, hj, rfl⟩ := List.getElem_of_mem he
    simp only [Array.getElem_toList]
    rw [Array.getElem_modify]
    have := hc (es[j]'(by simpa using hj)) (by simp)
    split <;> simpa using this
   ·exact ⟨rfl, rfl, rfl, by simp [setO], fun k' hk' hne => by rw [setO_other _ _ (fun e => hne (by rw [e])), setO_other _ _ (fun e => hne (by rw [e]))]⟩
   ·rw [setO_size, setO_size]
end
end Go.Proofs.YtcnpbcgkhhebaaaGreatDoor
/- Plain facts: keys without repeats, what check says. -/
namespace Go.Proofs.YtcnpbcgkhhebaaaGreatDoor
open Go.RowKit

def addK {κ : Type} [DecidableEq κ] (ks : List κ) (k : κ) : List κ := if k ∈ ks then ks else ks ++ [k]
def dd {κ : Type} [DecidableEq κ] (l : List κ) : List κ := l.foldl addK []
theorem dd_snoc {κ : Type} [DecidableEq κ] (l : List κ) (k : κ) : dd (l ++ [k]) = addK (dd l) k := by simp [dd]
theorem mem_dd {κ : Type} [DecidableEq κ] (l : List κ) : ∀ k, k ∈ dd l ↔ k ∈ l := by
 suffices h : ∀ (l acc : List κ) k, k ∈ l.foldl addK acc ↔ k ∈ acc ∨ k ∈ l from fun k => by simpa [dd] using h l [] k
 intro l
 induction l with
 | nil => intro acc k; simp
 | cons a l ih =>
  intro acc k
  rw [List.foldl_cons, ih]
  unfold addK
  split
  ·rename_i h
   constructor
   ·rintro (h1 | h1)
    ·exact .inl h1
    ·exact .inr (List.mem_cons_of_mem _ h1)
   ·rintro (h1 | h1)
    ·exact .inl h1
    ·rcases List.mem_cons.1 h1 with rfl | h1
     ·exact .inl h
     ·exact .inr h1
  ·simp only [List.mem_append, List.mem_cons, List.not_mem_nil, or_false]
   constructor
   ·rintro ((h1 | h1) | h1)
    ·exact .inl h1
    ·exact .inr (.inl h1)
    ·exact .inr (.inr h1)
   ·rintro (h1 | h1 | h1)
    ·exact .inl (.inl h1)
    ·exact .inl (.inr h1)
    ·exact .inr h1
theorem dd_len {κ : Type} [DecidableEq κ] (l : List κ) : (dd l).length ≤ l.length ∧ ((dd l).length = l.length ↔ l.Nodup) := by
 suffices h : ∀ (l : List κ), (dd l.reverse).length ≤ l.length ∧ ((dd l.reverse).length = l.length ↔ l.Nodup) by
  have := h l.reverse
  rw [List.reverse_reverse, List.length_reverse, (List.reverse_perm l).nodup_iff] at this
  exact this
 intro l
 induction l with
 | nil => simp [dd]
 | cons a l ih =>
  rw [List.reverse_cons, dd_snoc]
  unfold addK
  rw [List.nodup_cons]
  by_cases h : a ∈ dd l.reverse
  ·rw [if_pos h]
   have hm : a ∈ l := by rw [mem_dd] at h; simpa using h
   rw [List.length_cons]
   refine ⟨by omega, by omega, fun h2 => absurd hm h2.1⟩
  ·rw [if_neg h]
   have hm : a ∉ l := by rw [mem_dd] at h; simpa using h
   rw [List.length_append, List.length_cons, List.length_cons, List.length_nil]
   refine ⟨by omega, fun h2 => ⟨hm, ih.2.1 (by omega)⟩, fun h2 => by have := ih.2.2 h2.2; omega⟩

theorem findE_isSome {κ : Type} [DecidableEq κ] (k : κ) : ∀ (l : List (κ × Value)) (i : Nat), (findE k l i).isSome = true ↔ k ∈ l.map (·.1)
 | [], _ => by simp [findE]
 | p :: ps, i => by
  unfold findE
  split
  ·rename_i h; simp [h]
  ·rename_i h
   rw [findE_isSome k ps (i + 1), List.map_cons, List.mem_cons]
   simp [h]
theorem putE_keys {κ : Type} [DecidableEq κ] (k : κ) (v : Value) (l : List (κ × Value)) : (putE k v l).map (·.1) = addK (l.map (·.1)) k := by
 unfold putE addK
 have hs := findE_isSome k l 0
 cases hq : findE k l 0 with
 | none =>
  rw [hq] at hs
  rw [if_neg (fun h => by simpa using hs.2 h)]
  simp
 | some r =>
  obtain ⟨i, v0⟩ := r
  rw [hq] at hs
  rw [if_pos (hs.1 rfl)]
  obtain ⟨n, hn1, hn2⟩ := findE_some hq
  obtain rfl : i = n := by omega
  refine List.ext_getElem? fun j => ?_
  rw [List.getElem?_map, List.getElem?_map, List.getElem?_set]
  by_cases e : i = j
  ·subst e
   obtain ⟨h1, h2⟩ := List.getElem?_eq_some_iff.1 hn2
   simp [h1, h2]
  ·simp [e]
theorem putE_vals {κ : Type} [DecidableEq κ] {k : κ} {v : Value} {l : List (κ × Value)} (h : ∀ p ∈ l, ∃ n, p.2 = Value.int .i64 n) (hv : ∃ n, v = Value.int .i64 n) : ∀ p ∈ putE k v l, ∃ n, p.2 = Value.int .i64 n := by
 unfold putE
 cases hq : findE k l 0 with
 | none =>
  intro p hp
  rcases List.mem_append.1 hp with hp | hp
  ·exact h p hp
  ·rw [List.mem_singleton] at hp; subst hp; exact hv
 | some r =>
  intro p hp
  rcases List.mem_or_eq_of_mem_set hp with hp | rfl
  ·exact h p hp
  ·exact hv
theorem getE_int {κ : Type} [DecidableEq κ] (k : κ) {l : List (κ × Value)} (h : ∀ p ∈ l, ∃ n, p.2 = Value.int .i64 n) : ∃ n, getE k (.int .i64 0) l = .int .i64 n := by
 unfold getE
 cases hq : findE k l 0 with
 | none => exact ⟨0, rfl⟩
 | some r =>
  obtain ⟨i, v0⟩ := r
  obtain ⟨n, hn1, hn2⟩ := findE_some hq
  exact h _ (List.mem_of_getElem? hn2)

/-- Each owner's number is above the one before it. -/
def riseB : List Ow → Bool
 | [] => true
 | [_] => true
 | a :: b :: r => decide (a.num < b.num) && riseB (b :: r)
theorem riseB_iff : ∀ (os : List Ow), riseB os = true ↔ ∀ i, (h : i + 1 < os.length) → (os[i]'(by omega)).num < (os[i + 1]'h).num
 | [] => by simp [riseB]
 | [a] => by simp [riseB]
 | a :: b :: r => by
  unfold riseB
  rw [Bool.and_eq_true, decide_eq_true_eq, riseB_iff (b :: r)]
  constructor
  ·rintro ⟨h1, h2⟩ i hi
   cases i with
   | zero => exact h1
   | succ i => exact h2 i (by simpa using hi)
  ·intro h
   exact ⟨h 0 (by simp), fun i hi => h (i + 1) (by simpa using hi)⟩

def paidB (os : List Ow) (ls : List Lg) : Bool := (List.range os.length).all fun i => match os[i]? with | some x => decide (0 ≤ x.paid) && decide (x.paid ≤ feeAt os ls i) | none => true
/-- What check says of owners and logs. -/
def checkO (os : List Ow) (ls : List Lg) : Int :=
 if !riseB os || decide ((dd (os.map (·.mark))).length < os.length) || decide ((dd (ls.map (·.num))).length < ls.length) then 11
 else if ls.any (strangeB os) then 5
 else if ls.any (wrongB os) then 16
 else if paidB os ls then 0 else 14
theorem riseB_take {os : List Ow} {k : Nat} (hk : k < os.length) (h : riseB (os.take k) = true) (hl : ∀ j, (e : k = j + 1) → (os[j]'(by omega)).num < os[k].num) : riseB (os.take (k + 1)) = true := by
 rw [riseB_iff] at h ⊢
 intro i hi
 rw [List.length_take] at hi
 simp only [List.getElem_take]
 by_cases e : i + 1 = k
 ·have := hl i e.symm
  simp only [← e] at this
  exact this
 ·have := h i (by rw [List.length_take]; omega)
  simpa only [List.getElem_take] using this
theorem riseB_bad {os : List Ow} {j : Nat} (hj : j + 1 < os.length) (h : ¬ (os[j]'(by omega)).num < (os[j + 1]'hj).num) : riseB os = false := by
 rw [Bool.eq_false_iff]
 intro hr
 exact h ((riseB_iff os).1 hr j hj)
end Go.Proofs.YtcnpbcgkhhebaaaGreatDoor
/- check. -/
namespace Go.Proofs.YtcnpbcgkhhebaaaGreatDoor
open Go.RowKit

theorem zero3 (W : World) : (zeroValue 3).run Tryz.prog W = .ok (.int .i64 0) W := by kernel_rfl

/-- What the first loop of check holds. -/
def Ck1 (w wr : World) (os : List Ow) (k : Nat) : Prop :=
 Below w.heap.size w wr ∧ riseB (os.take k) = true ∧ (∃ l : List (ByteArray × Value), MapB kB wr (w.heap.size + 1) l ∧ l.map (·.1) = dd ((os.take k).map (·.mark)) ∧ ∀ p ∈ l, ∃ n, p.2 = .int .i64 n) ∧ MapB kN wr (w.heap.size + 2) ([] : List (Int × Value))

theorem ck1_step {w wr W w3 : World} {os : List Ow} {k : Nat} {mark : ByteArray} {l : List (ByteArray × Value)} {n : Int} (h : Ck1 w wr os k) (hk : k < os.length) (hB2 : Below wr.heap.size wr W) (hG : W.drew.grownBy w3 (some (w.heap.size + 1)))
  (hM : MapB kB w3 (w.heap.size + 1) (putE mark (.int .i64 n) l)) (h1 : l.map (·.1) = dd ((os.take k).map (·.mark))) (h2 : ∀ p ∈ l, ∃ n, p.2 = Value.int .i64 n) (hmk : os[k].mark = mark) (hr : riseB (os.take (k + 1)) = true) : Ck1 w w3 os (k + 1) := by
 refine ⟨(belowD (below2 h.1 hB2)).grown hG (Nat.le_trans h.1.size hB2.size) (fun j hj => by injection hj with hj; omega), hr, ⟨_, hM, ?_, putE_vals h2 ⟨_, rfl⟩⟩, ?_⟩
 ·rw [putE_keys, h1, List.take_succ_eq_append_getElem hk, List.map_append, List.map_cons, List.map_nil, dd_snoc, hmk]
 ·exact (h.2.2.2.below hB2).kept (w := W.drew) hG (by simp)
/-- What the second loop of check holds. -/
def Ck2 (w wr : World) (os : List Ow) (ls : List Lg) (k : Nat) : Prop :=
 Below w.heap.size w wr ∧ riseB os = true ∧ (∃ l : List (ByteArray × Value), MapB kB wr (w.heap.size + 1) l ∧ l.map (·.1) = dd (os.map (·.mark))) ∧ ∃ l : List (Int × Value), MapB kN wr (w.heap.size + 2) l ∧ l.map (·.1) = dd ((ls.take k).map (·.num)) ∧ ∀ p ∈ l, ∃ n, p.2 = Value.int .i64 n
theorem ck2_step {w wr W w3 : World} {os : List Ow} {ls : List Lg} {k : Nat} {num : Int} {l : List (Int × Value)} {n : Int} (h : Ck2 w wr os ls k) (hk : k < ls.length) (hB2 : Below wr.heap.size wr W) (hG : W.grownBy w3 (some (w.heap.size + 2)))
  (hM : MapB kN w3 (w.heap.size + 2) (putE num (.int .i64 n) l)) (h1 : l.map (·.1) = dd ((ls.take k).map (·.num))) (h2 : ∀ p ∈ l, ∃ n, p.2 = Value.int .i64 n) (hmk : ls[k].num = num) : Ck2 w w3 os ls (k + 1) := by
 obtain ⟨lb, hb1, hb2⟩ := h.2.2.1
 refine ⟨(below2 h.1 hB2).grown hG (Nat.le_trans h.1.size hB2.size) (fun j hj => by injection hj with hj; omega), h.2.1, ⟨lb, (hb1.below hB2).kept hG (by simp), hb2⟩, _, hM, ?_, putE_vals h2 ⟨_, rfl⟩⟩
 rw [putE_keys, h1, List.take_succ_eq_append_getElem hk, List.map_append, List.map_cons, List.map_nil, dd_snoc, hmk]
theorem ck2_box {w wr W w3 : World} {v : Value} (hb : wr.cell? ⟨w.heap.size, 0, none⟩ = some v) (hB2 : Below wr.heap.size wr W) (hG : W.grownBy w3 (some (w.heap.size + 2))) : w3.cell? ⟨w.heap.size, 0, none⟩ = some v :=
 World.grownBy.cell hG (cB hB2 hb) (by simp)
theorem paidB_no {os : List Ow} {ls : List Lg} {k : Nat} (hk : k < os.length) (h : (decide (0 ≤ os[k].paid) && decide (os[k].paid ≤ feeAt os ls k)) = false) : paidB os ls = false := by
 rw [Bool.eq_false_iff]
 intro ha
 have := List.all_eq_true.1 ha k (List.mem_range.2 hk)
 rw [List.getElem?_eq_getElem hk] at this
 simp only at this
 rw [h] at this
 cases this
theorem paidB_yes {os : List Ow} {ls : List Lg} (h : ∀ k, (hk : k < os.length) → (decide (0 ≤ os[k].paid) && decide (os[k].paid ≤ feeAt os ls k)) = true) : paidB os ls = true := by
 refine List.all_eq_true.2 fun k hk => ?_
 have hk := List.mem_range.1 hk
 rw [List.getElem?_eq_getElem hk]
 exact h k hk
/-- A row of twenty numbers stored into a new block. -/
theorem store20 (W : World) (V : Array Value) (h : V.size = 20) (h1 : V.all (·.oneCell') = true) : ∃ W7, (storeCells ⟨W.heap.size, 0, none⟩ V.toList).run Tryz.prog (W.alloc (.cells #[.int .i64 0, .int .i64 0, .int .i64 0, .int .i64 0, .int .i64 0, .int .i64 0, .int .i64 0, .int .i64 0, .int .i64 0, .int .i64 0, .int .i64 0, .int .i64 0, .int .i64 0, .int .i64 0, .int .i64 0, .int .i64 0, .int .i64 0, .int .i64 0, .int .i64 0, .int .i64 0] 134)) = .ok () W7 ∧
  W7.heap[W.heap.size]? = some (.cells V 134 (0, 0)) ∧ Below W.heap.size W W7 := by
 refine ⟨_, run_storeCells_from (P := Tryz.prog) W.heap.size 134 V.toList 0 _ _ (heap_alloc_new _ _) (by simp [h]) (fun v hv => Array.all_eq_true_iff_forall_mem.1 h1 v (by simpa using hv)), ?_, below_setRow (below_a1 _ _) (Nat.le_refl _) _⟩
 rw [setRow_heap _ _ _ _ _ _ (heap_alloc_new _ _)]
 simp
theorem ck1_box {w wr W w3 : World} {v : Value} (hb : wr.cell? ⟨w.heap.size, 0, none⟩ = some v) (hB2 : Below wr.heap.size wr W) (hG : W.drew.grownBy w3 (some (w.heap.size + 1))) : w3.cell? ⟨w.heap.size, 0, none⟩ = some v :=
 World.grownBy.cell (w := W.drew) hG (cB (belowD hB2) hb) (by simp)

set_option maxRecDepth 100000 in
set_option maxHeartbeats 4000000 in
theorem check_any (ob oo : Nat) (A0 : Option Addr) (c0 : Nat) (os : List Ow) (A : Option Addr) (c : Nat) (ls : List Lg) (w : World) (h0 : w.cell? ⟨ob, oo, none⟩ = some (.slice A0 os.length c0)) (h1 : w.cell? ⟨ob, oo + 1, none⟩ = some (.slice A ls.length c)) (hr0 : Rd eO 3 w A0 c0 os) (hr : Rd eL 5 w A c ls) (hn : ls.length ≤ 100) (hos : os.length ≤ 20) (hft : ∀ l ∈ ls, 1 ≤ l.feet ∧ l.feet ≤ 10000) (hm : ∀ o ∈ os, Asc o.mark) (hs : ∀ l ∈ ls, Asc l.seen) :
  Calls Tryz.prog 82 #[.pointer (some ⟨ob, oo, none⟩)] w fun e w' => e = .returned (.int .i64 (checkO os ls)) ∧ Below w.heap.size w w' := by
 have hob : ob < w.heap.size := World.block_lt_of_cell? w _ h0
 have H0 := Lib.hid h0
 have H1 := Lib.hid h1
 have HR0 := Lib.hid hr0
 have HR := Lib.hid hr
 have HF := Lib.hid hft
 have HM := Lib.hid hm
 have HS := Lib.hid hs
 clear hr0 hr hft hm hs
 have hlen0 := HR0.out.len
 have hlen := HR.out.len
 have hmm := @run_makeMap Tryz.prog
 have kb0 : (((w.alloc (.cells #[.pointer (some ⟨ob, oo, none⟩)] 124)).alloc (.map #[] 0)).alloc (.map #[] 0)).cell? ⟨w.heap.size, 0, none⟩ = some (.pointer (some ⟨ob, oo, none⟩)) := cA (cA (by go_simp) _) _
 have k00 := cA (cA (cA h0 (.cells #[.pointer (some ⟨ob, oo, none⟩)] 124)) (.map #[] 0)) (.map #[] 0)
 go_enter Tryz.func82, Tryz.ntmps82
 go_wp2
 clear hmm
 go_loopg [22] os.length (fun g s22 wr => ∃ k : Nat, k ≤ os.length ∧ os.length - k ≤ g ∧ s22 = .int .i64 k ∧ Hid (Ck1 w wr os k) ∧ wr.cell? ⟨w.heap.size, 0, none⟩ = some (.pointer (some ⟨ob, oo, none⟩)))
 case atStart =>
  refine ⟨0, by omega, by omega, rfl, (show Ck1 _ _ _ _ from ⟨goB, by simp [riseB], ⟨[], ?_, rfl, by simp⟩, ?_⟩), kb0⟩
  ·exact MapB.below (by rw [← World.size_alloc]; exact MapB.new kB _) (below_a1 _ _)
  ·have := MapB.new kN ((w.alloc (.cells #[.pointer (some ⟨ob, oo, none⟩)] 124)).alloc (.map #[] 0))
   rwa [World.size_alloc, World.size_alloc] at this
 case round =>
  obtain ⟨k, hk, hg, rfl, CK, kb⟩ := hrel
  by_cases hlt : k < os.length
  ·have hli : (k : Int) < (os.length : Int) := by omega
   have BW := Lib.hid CK.out.1
   obtain ⟨b, off, y, hy, rfl, hb, c0', c1', c2'⟩ := (HR0.out.below BW.out).atO hlt
   have HY := Lib.hid hy
   clear hy
   obtain ⟨num, mark, paid⟩ := y
   simp only at c0' c1' c2'
   have hk0 := cB BW.out H0.out
   have hwl : w.heap.size < wr.heap.size := World.block_lt_of_cell? wr _ kb
   have hobr : ob < wr.heap.size := World.block_lt_of_cell? wr _ hk0
   by_cases hpos : 0 < (k : Int)
   ·have hd : decide (0 < (k : Int)) = true := decide_eq_true hpos
    have hdn : decide (0 < k) = true := decide_eq_true (by omega)
    obtain ⟨j, hj⟩ : ∃ j, k = j + 1 := ⟨k - 1, by omega⟩
    have hj1 : (k : Int) - 1 = (j : Int) := by omega
    have hjw : IntKind.i64.wrap ((k : Int) - 1) = (j : Int) := by rw [hj1]; exact IntWalk.i64_in _ (by omega)
    have hj2 : (0 : Int) ≤ (j : Int) := by omega
    have hj3 : (j : Int) < (os.length : Int) := by omega
    have HJ := Lib.hid hj
    have hjl : j < os.length := by omega
    clear hj
    obtain ⟨b2, off2, y2, hy2, e2, hb2, d0, d1, d2⟩ := (HR0.out.below BW.out).atO (i := j) hjl
    cases e2
    have HY2 := Lib.hid hy2
    clear hy2 hb2
    obtain ⟨num2, mark2, paid2⟩ := y2
    simp only at d0 d1 d2
    by_cases hle : num ≤ num2
    ·have hdl : decide (num ≤ num2) = true := decide_eq_true hle
     go_wp2_with fail
     go_quiet (fail)
     go_wp2
     go_ret
     refine ⟨ret_int ?_, below2 BW.out goB⟩
     have hbad : riseB os = false := riseB_bad (j := j) (by rw [← HJ.out]; exact hlt) (by
      rw [← HY2.out]
      have : os[j + 1]'(by rw [← HJ.out]; exact hlt) = os[k] := by simp only [HJ.out]
      rw [this, ← HY.out]
      exact Int.not_lt.2 hle)
     unfold checkO
     rw [hbad]
     rfl
    ·have hdl : decide (num ≤ num2) = false := decide_eq_false hle
     go_wp2_with fail
     go_quiet (fail)
     go_wp2_with fail
     obtain ⟨l, hm1, hl1, hl2⟩ := CK.out.2.2.1
     have hB2 : Below wr.heap.size wr ((wr.alloc (.cells #[.int .i64 num, .string mark, .int .i64 paid] 73)).drewN nq) := goB
     have hm2 := hm1.below hB2
     have kk1 : ((wr.alloc (.cells #[.int .i64 num, .string mark, .int .i64 paid] 73)).drewN nq).cell? ⟨wr.heap.size, 1, none⟩ = some (.string mark) := by go_simp
     obtain ⟨n, hgn⟩ := getE_int mark hl2
     generalize (wr.alloc (.cells #[.int .i64 num, .string mark, .int .i64 paid] 73)).drewN nq = W at hB2 hm2 kk1 ⊢
     obtain ⟨w2, st, r1, r2, g1, s1, hst⟩ := MapB.entry brandKey Tryz.underlying164 zero3 (w := W.drew) hm2 mark
     have r0 := MapB.look brandKey Tryz.underlying164 (zero3 _) (w := W.drew) hm2 mark
     rw [hgn] at r1 r2 r0
     simp only [kB] at r1 r2 r0
     obtain ⟨w3, r3, m3, g3, s3⟩ := hst (.int .i64 (wrap64 (n + 1)))
     have CK2 := Lib.hid (ck1_step CK.out hlt hB2 g3 m3 hl1 hl2 (by rw [← HY.out]) (riseB_take hlt CK.out.2.1 fun j' e => by
      have : j' = j := by have := HJ.out; omega
      subst this
      rw [← HY2.out, ← HY.out]
      exact hle))
     have KB2 := Lib.hid (ck1_box kb hB2 g3)
     clear m3 g3 s3 hst hm1 hm2 hgn hl1 hl2 g1 s1
     go_region
     all_goals
      go_wp2
      go_roundg (os.length - (k + 1))
      case measure => omega
      case rel => exact ⟨k + 1, by omega, by omega, by go_num, CK2.out, KB2.out⟩
   ·have hd : decide (0 < (k : Int)) = false := decide_eq_false hpos
    have hdn : decide (0 < k) = false := decide_eq_false (by omega)
    go_wp2_with fail
    go_quiet (fail)
    go_wp2_with fail
    obtain ⟨l, hm1, hl1, hl2⟩ := CK.out.2.2.1
    have hB2 : Below wr.heap.size wr ((wr.alloc (.cells #[.int .i64 num, .string mark, .int .i64 paid] 73)).drewN nq) := goB
    have hm2 := hm1.below hB2
    have kk1 : ((wr.alloc (.cells #[.int .i64 num, .string mark, .int .i64 paid] 73)).drewN nq).cell? ⟨wr.heap.size, 1, none⟩ = some (.string mark) := by go_simp
    obtain ⟨n, hgn⟩ := getE_int mark hl2
    generalize (wr.alloc (.cells #[.int .i64 num, .string mark, .int .i64 paid] 73)).drewN nq = W at hB2 hm2 kk1 ⊢
    obtain ⟨w2, st, r1, r2, g1, s1, hst⟩ := MapB.entry brandKey Tryz.underlying164 zero3 (w := W.drew) hm2 mark
    have r0 := MapB.look brandKey Tryz.underlying164 (zero3 _) (w := W.drew) hm2 mark
    rw [hgn] at r1 r2 r0
    simp only [kB] at r1 r2 r0
    obtain ⟨w3, r3, m3, g3, s3⟩ := hst (.int .i64 (wrap64 (n + 1)))
    have CK2 := Lib.hid (ck1_step CK.out hlt hB2 g3 m3 hl1 hl2 (by rw [← HY.out]) (riseB_take hlt CK.out.2.1 fun j' e => absurd hpos (by omega)))
    have KB2 := Lib.hid (ck1_box kb hB2 g3)
    clear m3 g3 s3 hst hm1 hm2 hgn hl1 hl2 g1 s1
    go_region
    all_goals
     go_wp2
     go_roundg (os.length - (k + 1))
     case measure => omega
     case rel => exact ⟨k + 1, by omega, by omega, by go_num, CK2.out, KB2.out⟩
  ·have hli : ¬ (k : Int) < (os.length : Int) := by omega
   have hke : k = os.length := by omega
   have HK := Lib.hid hke
   clear hke
   have BW := Lib.hid CK.out.1
   have hk1 := cB BW.out H1.out
   go_wp2
   clear k00 kb0
   go_loopg [59] ls.length (fun g s59 wr => ∃ k : Nat, k ≤ ls.length ∧ ls.length - k ≤ g ∧ s59 = .int .i64 k ∧ Hid (Ck2 w wr os ls k) ∧ wr.cell? ⟨w.heap.size, 0, none⟩ = some (.pointer (some ⟨ob, oo, none⟩)))
   case atStart =>
    refine ⟨0, by omega, by omega, rfl, (show Ck2 _ _ _ _ _ from ?_), kb⟩
    have hh := CK.out
    rw [HK.out] at hh
    obtain ⟨h1, h2, ⟨l, h3, h4, h5⟩, h6⟩ := hh
    rw [List.take_length] at h2 h4
    exact ⟨h1, h2, ⟨l, h3, h4⟩, [], h6, rfl, by simp⟩
   case round =>
    clear kb hk1 CK BW HK hg hk hlt hli
    rename_i kOld
    obtain ⟨k, hk, hg, rfl, CK, kb⟩ := hrel
    have BW := Lib.hid CK.out.1
    have hk0 := cB BW.out H0.out
    have hk1 := cB BW.out H1.out
    have hwl : w.heap.size < wr.heap.size := World.block_lt_of_cell? wr _ kb
    have hobr : ob < wr.heap.size := World.block_lt_of_cell? wr _ hk0
    by_cases hlt : k < ls.length
    ·have hli : (k : Int) < (ls.length : Int) := by omega
     obtain ⟨b, off, y, hy, rfl, hb, c0', c1', c2', c3', c4'⟩ := (HR.out.below BW.out).atL hlt
     have HY := Lib.hid hy
     clear hy
     obtain ⟨num, seen, feet, own, gone⟩ := y
     simp only at c0' c1' c2' c3' c4'
     obtain ⟨l, hm1, hl1, hl2⟩ := CK.out.2.2.2
     have hB2 := below_a1 wr (.cells #[.int .i64 num, .string seen, .int .i64 feet, .int .i64 own, .bool gone] 69)
     have hm2 := hm1.below hB2
     have r0 := hm2.look numKey Tryz.underlying165 (zero3 _) num
     obtain ⟨n, hgn⟩ := getE_int num hl2
     rw [hgn] at r0
     obtain ⟨w3, r3, m3, g3, s3⟩ := hm2.store numKey Tryz.underlying165 num (.int .i64 (wrap64 (n + 1)))
     simp only [kN] at r0 r3
     have CK2 := Lib.hid (ck2_step CK.out hlt hB2 g3 m3 hl1 hl2 (by rw [← HY.out]))
     have KB2 := Lib.hid (ck2_box kb hB2 g3)
     clear m3 g3 s3 hm1 hm2 hgn hl1 hl2 hB2
     go_wp2
     go_roundg (ls.length - (k + 1))
     case measure => omega
     case rel => exact ⟨k + 1, by omega, by omega, by go_num, CK2.out, KB2.out⟩
    ·have hli : ¬ (k : Int) < (ls.length : Int) := by omega
     have hke : k = ls.length := by omega
     have HK := Lib.hid hke
     clear hke
     obtain ⟨lb, hmb, hlb⟩ := CK.out.2.2.1
     obtain ⟨ll, hml, hll, _⟩ := CK.out.2.2.2
     have q1 : ∀ n, (Builtin.len_ #[164] 3 #[.map (some (w.heap.size + 1))]).run Tryz.prog (wr.drewN n) = .ok (.int .i64 lb.length) (wr.drewN n) := fun n => MapB.len_ (w := wr.drewN n) Tryz.underlying164 hmb
     have q2 : ∀ n, (Builtin.len_ #[165] 3 #[.map (some (w.heap.size + 1 + 1))]).run Tryz.prog (wr.drewN n) = .ok (.int .i64 ll.length) (wr.drewN n) := fun n => MapB.len_ (w := wr.drewN n) Tryz.underlying165 hml
     have e1 : lb.length = (dd (os.map (·.mark))).length := by rw [← hlb, List.length_map]
     have e2 : ll.length = (dd (ls.map (·.num))).length := by rw [← List.length_map (f := (·.1)), hll, HK.out, List.take_length]
     have E1 := Lib.hid e1
     have E2 := Lib.hid e2
     clear e1 e2 hmb hml hlb hll
     generalize lb.length = m1 at q1 E1
     generalize ll.length = m2 at q2 E2
     have RI := Lib.hid CK.out.2.1
     by_cases h1 : m1 < os.length
     ·have hd1 : decide (m1 < os.length) = true := decide_eq_true h1
      go_wp2_with fail
      go_quiet (fail)
      go_wp2
      go_ret
      refine ⟨ret_int ?_, below2 BW.out goB⟩
      unfold checkO
      rw [RI.out, ← E1.out, hd1]
      rfl
     ·have hd1 : decide (m1 < os.length) = false := decide_eq_false h1
      by_cases h2 : m2 < ls.length
      ·have hd2 : decide (m2 < ls.length) = true := decide_eq_true h2
       go_wp2_with fail
       go_quiet (fail)
       go_wp2
       go_ret
       refine ⟨ret_int ?_, below2 BW.out goB⟩
       unfold checkO
       rw [RI.out, ← E1.out, ← E2.out, hd1, hd2]
       rfl
      ·have hd2 : decide (m2 < ls.length) = false := decide_eq_false h2
       have hck : checkO os ls = if ls.any (strangeB os) then 5 else if ls.any (wrongB os) then 16 else if paidB os ls then 0 else 14 := by
        unfold checkO
        rw [RI.out, ← E1.out, ← E2.out, hd1, hd2]
        rfl
       have HCK := Lib.hid hck
       clear hck
       go_wp2_with fail
       go_quiet (fail)
       go_wp2_with fail
       have BW2 := Lib.hid (show Below w.heap.size w (wr.drewN nq) from belowDN BW.out nq)
       have kb2 : (wr.drewN nq).cell? ⟨w.heap.size, 0, none⟩ = some (.pointer (some ⟨ob, oo, none⟩)) := kb
       have k02 : (wr.drewN nq).cell? ⟨ob, oo, none⟩ = some (.slice A0 os.length c0) := hk0
       have k12 : (wr.drewN nq).cell? ⟨ob, oo + 1, none⟩ = some (.slice A ls.length c) := hk1
       generalize wr.drewN nq = W at BW2 kb2 k02 k12 ⊢
       clear kb hk0 hk1 BW CK q1 q2 hwl hobr
       have eg1 : ∀ args w, (callFunc 120 args).run Tryz.prog w = .ok (.enter 120 args) w := enters_of Tryz.func120 (by kernel_rfl) rfl
       have eg2 : ∀ args w, (callFunc 121 args).run Tryz.prog w = .ok (.enter 121 args) w := enters_of Tryz.func121 (by kernel_rfl) rfl
       have hcon := containsL A c ls W 120 #[.pointer (some ⟨w.heap.size, 0, none⟩)] (strangeB os) eg1 (HR.out.below BW2.out) (fun W' x hx hB => strange_any x w.heap.size ob oo A0 c0 os W' (cB hB kb2) (cB hB k02) ((HR0.out.below BW2.out).below hB))
       have EG1 := Lib.hid eg1
       have EG2 := Lib.hid eg2
       clear eg1 eg2
       cases hs1 : ls.any (strangeB os) with
       | true =>
        rw [hs1] at hcon
        have HS1 := Lib.hid hs1
        clear hs1
        refine hcon.mono ?_
        rintro e w4 ⟨rfl, hb4⟩
        go_wp2
        go_ret
        exact ⟨ret_int (by rw [HCK.out, HS1.out]; rfl), below2 BW2.out hb4⟩
       | false =>
        rw [hs1] at hcon
        have HS1 := Lib.hid hs1
        clear hs1
        refine hcon.mono ?_
        rintro e w4 ⟨rfl, hb4⟩
        have kb4 := cB hb4 kb2
        have k04 := cB hb4 k02
        have k14 := cB hb4 k12
        have BW4 := Lib.hid (below2 BW2.out hb4)
        clear kb2 k02 k12 hb4 hcon
        have hcon := containsL A c ls w4 121 #[.pointer (some ⟨w.heap.size, 0, none⟩)] (wrongB os) EG2.out (HR.out.below BW4.out) (fun W' x hx hB => wrong_any x w.heap.size ob oo A0 c0 os W' (cB hB kb4) (cB hB k04) ((HR0.out.below BW4.out).below hB) (by
         have hx2 := List.any_eq_false.1 HS1.out x hx
         unfold strangeB at hx2
         by_cases h0 : x.own = 0
         ·exact .inl h0
         ·refine .inr (Int.not_lt.1 fun h => hx2 ?_)
          rw [decide_eq_false h0, decide_eq_true h]; rfl) HM.out (HS.out x hx))
        go_wp2_with fail
        cases hs2 : ls.any (wrongB os) with
        | true =>
         rw [hs2] at hcon
         have HS2 := Lib.hid hs2
         clear hs2
         refine hcon.mono ?_
         rintro e w5 ⟨rfl, hb5⟩
         go_wp2
         go_ret
         exact ⟨ret_int (by rw [HCK.out, HS1.out, HS2.out]; rfl), below2 BW4.out hb5⟩
        | false =>
         rw [hs2] at hcon
         have HS2 := Lib.hid hs2
         clear hs2
         refine hcon.mono ?_
         rintro e w5 ⟨rfl, hb5⟩
         have kb5 := cB hb5 kb4
         have k05 := cB hb5 k04
         have k15 := cB hb5 k14
         have BW5 := Lib.hid (below2 BW4.out hb5)
         clear kb4 k04 k14 hb5 hcon
         have hcon := fees_any ob oo A0 c0 os A c ls w5 k05 k15 (HR0.out.below BW5.out) (HR.out.below BW5.out) (by omega) hos HF.out
         go_wp2_with fail
         refine hcon.mono ?_
         rintro e w6 ⟨rfl, hb6⟩
         have hV1 := vals_size os ls
         have hV2 := vals_one (feesL os ls)
         have hV3 : ∀ i, i < 20 → (vals (feesL os ls))[i]? = some (.int .i64 (feeAt os ls i)) := vals_get os ls
         have V1 := Lib.hid hV1
         have V2 := Lib.hid hV2
         have V3 := Lib.hid hV3
         clear hV1 hV2 hV3
         obtain ⟨V, hV⟩ : ∃ V, vals (feesL os ls) = V := ⟨_, rfl⟩
         rw [hV] at V1 V2 V3 ⊢
         clear hV
         have kb6 := cB hb6 kb5
         have k06 := cB hb6 k05
         have BW6 := Lib.hid (below2 BW5.out hb6)
         clear kb5 k05 k15 hb6 hcon
         obtain ⟨W7, hst, hg7, hb7⟩ := store20 w6 V V1.out V2.out
         have kb7 := cB hb7 kb6
         have k07 := cB hb7 k06
         have BW7 := Lib.hid (below2 BW6.out hb7)
         have G7 := Lib.hid hg7
         clear hb7 hg7
         go_wp2
         clear hst
         go_loopg [116] os.length (fun g s116 wr => ∃ k : Nat, k ≤ os.length ∧ os.length - k ≤ g ∧ s116 = .int .i64 k ∧ Hid (Below w.heap.size w wr) ∧ Hid (wr.heap[w6.heap.size]? = some (.cells V 134 (0, 0))) ∧ Hid (∀ j, (hj : j < k) → (hx : j < os.length) → (decide (0 ≤ os[j].paid) && decide (os[j].paid ≤ feeAt os ls j)) = true))
         case atStart => exact ⟨0, by omega, by omega, rfl, BW7.out, G7.out, fun j hj => absurd hj (Nat.not_lt_zero _)⟩
         case round =>
          clear kb7 k07 BW7 G7 kb6 k06 hg hk hlt hli
          rename_i kOld2
          obtain ⟨k, hk, hg, rfl, BW, G, AA⟩ := hrel
          by_cases hlt : k < os.length
          ·have hli : (k : Int) < (os.length : Int) := by omega
           have hk20 : (k : Int) < 20 := by omega
           obtain ⟨b, off, y, hy, rfl, hb, c0', c1', c2'⟩ := (HR0.out.below BW.out).atO hlt
           have HY := Lib.hid hy
           clear hy
           obtain ⟨num, mark, paid⟩ := y
           simp only at c0' c1' c2'
           have hgl : w6.heap.size < wr.heap.size := (Array.getElem?_eq_some_iff.1 G.out).1
           have kv : wr.cell? ⟨w6.heap.size, k, none⟩ = some (.int .i64 (feeAt os ls k)) := by rw [cell_of_row _ _ _ _ _ _ G.out]; exact V3.out k (by omega)
           obtain ⟨f, hf⟩ : ∃ f, feeAt os ls k = f := ⟨_, rfl⟩
           rw [hf] at kv
           have HFE := Lib.hid hf
           clear hf
           obtain ⟨r, hrb⟩ : ∃ r, (decide (0 ≤ paid) && decide (paid ≤ f)) = r := ⟨_, rfl⟩
           have HRB := Lib.hid hrb
           clear hrb
           go_wp2_with fail
           go_region_held3 (fun W => W.cell? ⟨w6.heap.size, k, none⟩ = some (.int .i64 f) ∧ W.cell? ⟨wr.heap.size, 2, none⟩ = some (.int .i64 paid)) (go_keep)
            ((go_at_call 76; refine (within_b 0 f paid r HRB.out _ _ ?hbx ?hcx).mono ?_; (case hbx => (simp; try omega)); (case hcx => go_simp); rintro e w9 ⟨rfl, hb9⟩; (have k1 : w9.cell? ⟨w6.heap.size, k, none⟩ = some (.int .i64 f) := cB hb9 (by go_simp)); (have k2 : w9.cell? ⟨wr.heap.size, 2, none⟩ = some (.int .i64 paid) := cB hb9 (by go_simp))))
           have hB9 : Below wr.heap.size wr w9 := goB
           cases r with
           | true =>
            go_wp2
            go_roundg (os.length - (k + 1))
            case measure => omega
            case rel =>
             refine ⟨k + 1, by omega, by omega, by go_num, below2 BW.out hB9, (hB9.block _ (Array.getElem?_eq_some_iff.1 G.out).1).trans G.out, (show Hid _ from fun j hj hx => ?_)⟩
             by_cases e : j = k
             ·subst e; rw [← HY.out, HFE.out]; exact HRB.out
             ·exact AA.out j (by omega) hx
           | false =>
            go_wp2
            go_ret
            refine ⟨ret_int ?_, below2 BW.out hB9⟩
            rw [HCK.out, HS1.out, HS2.out, paidB_no hlt (by rw [← HY.out, HFE.out]; exact HRB.out)]
            rfl
          ·have hli : ¬ (k : Int) < (os.length : Int) := by omega
           go_wp2
           go_ret
           refine ⟨ret_int ?_, BW.out⟩
           rw [HCK.out, HS1.out, HS2.out, paidB_yes fun j hj => AA.out j (by omega) hj]
           rfl
end Go.Proofs.YtcnpbcgkhhebaaaGreatDoor
/- CheckSeason, open. -/
namespace Go.Proofs.YtcnpbcgkhhebaaaGreatDoor
open Go.RowKit

theorem incr_asc : ∀ (l : List UInt8) (a : Int), incr a l = true → ∀ u ∈ l, u.toNat < 128
 | [], _, _, _, h => by simp at h
 | v :: l, a, h, u, hu => by
  simp only [incr, Bool.and_eq_true, decide_eq_true_eq] at h
  rcases List.mem_cons.1 hu with rfl | hu
  ·omega
  ·exact incr_asc l _ h.2 u hu
theorem asc_of_seen {s : ByteArray} (h : isSeenB s = true) : Asc s := by
 intro i hi
 unfold isSeenB at h
 rw [Bool.and_eq_true] at h
 exact incr_asc _ _ h.1 _ (by rw [show s[i] = s.data.toList[i]'(by simpa using hi) from rfl]; exact List.getElem_mem _)
theorem asc_of_not_odd {x : Ow} (h : oddB x = false) : Asc x.mark := by
 unfold oddB at h
 rw [Bool.or_eq_false_iff] at h
 exact asc_of_seen (by simpa using h.2)

def numBad (x : Ow) : Bool := !(decide (1 ≤ x.num) && decide (x.num ≤ 1099511627776))
/-- What CheckSeason says. -/
def checkS (os : List Ow) (ls : List Lg) : Int :=
 if decide (20 < os.length) || decide (100 < ls.length) then 6
 else if os.any oddB || ls.any (fun x => !isSeenB x.seen) then 8
 else if os.any numBad then 3
 else if ls.any strayB then 3
 else checkO os ls

theorem pays_odd (os : List Ow) (w : World) : Pays 73 #[] (fun x => .agg (eO x).toArray) oddB os w := fun W x _ _ => odd1_any x W
theorem pays_seen (ls : List Lg) (w : World) : Pays 79 #[] (fun x => .agg (eL x).toArray) (fun x => !isSeenB x.seen) ls w := fun W x _ _ => seen3_any x W
theorem pays_num (os : List Ow) (w : World) : Pays 80 #[] (fun x => .agg (eO x).toArray) numBad os w := fun W x _ _ => range4_any x W
theorem pays_stray (ls : List Lg) (w : World) : Pays 75 #[] (fun x => .agg (eL x).toArray) strayB ls w := fun W x _ _ => stray2_any x W

set_option maxRecDepth 100000 in
set_option maxHeartbeats 4000000 in
theorem checkSeason_any (A : Option Addr) (c : Nat) (os : List Ow) (A2 : Option Addr) (c2 : Nat) (ls : List Lg) (w : World) (hr : Rd eO 3 w A c os) (hr2 : Rd eL 5 w A2 c2 ls) :
  Calls Tryz.prog 34 #[.agg #[.slice A os.length c, .slice A2 ls.length c2]] w fun e w' => e = .returned (.int .i64 (checkS os ls)) ∧ Below w.heap.size w w' := by
 have HR := Lib.hid hr
 have HR2 := Lib.hid hr2
 clear hr hr2
 have eg1 := Lib.hid (show ∀ args w, (callFunc 73 args).run Tryz.prog w = .ok (.enter 73 args) w from enters_of Tryz.func73 (by kernel_rfl) rfl)
 have eg2 := Lib.hid (show ∀ args w, (callFunc 79 args).run Tryz.prog w = .ok (.enter 79 args) w from enters_of Tryz.func79 (by kernel_rfl) rfl)
 have eg3 := Lib.hid (show ∀ args w, (callFunc 80 args).run Tryz.prog w = .ok (.enter 80 args) w from enters_of Tryz.func80 (by kernel_rfl) rfl)
 have eg4 := Lib.hid (show ∀ args w, (callFunc 75 args).run Tryz.prog w = .ok (.enter 75 args) w from enters_of Tryz.func75 (by kernel_rfl) rfl)
 have cs : ∀ W : World, Below (w.alloc (.cells #[.slice A os.length c, .slice A2 ls.length c2] 26)).heap.size (w.alloc (.cells #[.slice A os.length c, .slice A2 ls.length c2] 26)) W → W.cell? ⟨w.heap.size, 0, none⟩ = some (.slice A os.length c) ∧ W.cell? ⟨w.heap.size, 1, none⟩ = some (.slice A2 ls.length c2) ∧ Below w.heap.size w W :=
  fun W hB => ⟨cB hB (by go_simp), cB hB (by go_simp), below2 (below_a1 _ _) hB⟩
 have CS := Lib.hid cs
 clear cs
 by_cases h1 : 20 < os.length
 ·have hd1 : decide (20 < os.length) = true := decide_eq_true h1
  have h1i : decide (20 < (os.length : Int)) = true := decide_eq_true (by omega)
  go_enter Tryz.func34, Tryz.ntmps34
  go_wp2
  go_ret
  exact ⟨ret_int (by unfold checkS; rw [hd1]; rfl), below_a1 _ _⟩
 ·have hd1 : decide (20 < os.length) = false := decide_eq_false h1
  have h1i : decide (20 < (os.length : Int)) = false := decide_eq_false (by omega)
  by_cases h2 : 100 < ls.length
  ·have hd2 : decide (100 < ls.length) = true := decide_eq_true h2
   have h2i : decide (100 < (ls.length : Int)) = true := decide_eq_true (by omega)
   go_enter Tryz.func34, Tryz.ntmps34
   go_wp2
   go_ret
   exact ⟨ret_int (by unfold checkS; rw [hd1, hd2]; rfl), below_a1 _ _⟩
  ·have hd2 : decide (100 < ls.length) = false := decide_eq_false h2
   have h2i : decide (100 < (ls.length : Int)) = false := decide_eq_false (by omega)
   have hck : checkS os ls = if os.any oddB || ls.any (fun x => !isSeenB x.seen) then 8 else if os.any numBad then 3 else if ls.any strayB then 3 else checkO os ls := by
    unfold checkS; rw [hd1, hd2]; rfl
   have HCK := Lib.hid hck
   clear hck
   go_enter Tryz.func34, Tryz.ntmps34
   go_wp2_with fail
   have hcon := containsO A c os (w.alloc (.cells #[.slice A os.length c, .slice A2 ls.length c2] 26)) 73 #[] oddB eg1.out HR.out.go (pays_odd _ _)
   cases b1 : os.any oddB with
   | true =>
    rw [b1] at hcon
    have B1 := Lib.hid b1
    clear b1
    refine hcon.mono ?_
    rintro e w1 ⟨rfl, hb1⟩
    go_wp2
    go_ret
    exact ⟨ret_int (by rw [HCK.out, B1.out]; rfl), below2 (below_a1 _ _) hb1⟩
   | false =>
    rw [b1] at hcon
    have B1 := Lib.hid b1
    clear b1
    refine hcon.mono ?_
    rintro e w1 ⟨rfl, hb1⟩
    obtain ⟨k0, k1, hB⟩ := CS.out _ hb1
    have HB := Lib.hid hB
    have HB1 := Lib.hid hb1
    clear hB hb1 hcon
    go_wp2_with fail
    have hcon := containsL A2 c2 ls w1 79 #[] (fun x => !isSeenB x.seen) eg2.out (HR2.out.below HB.out) (pays_seen _ _)
    cases b2 : ls.any (fun x => !isSeenB x.seen) with
    | true =>
     rw [b2] at hcon
     have B2 := Lib.hid b2
     clear b2
     refine hcon.mono ?_
     rintro e w2 ⟨rfl, hb2⟩
     go_wp2
     go_ret
     exact ⟨ret_int (by rw [HCK.out, B1.out, B2.out]; rfl), below2 HB.out hb2⟩
    | false =>
     rw [b2] at hcon
     have B2 := Lib.hid b2
     clear b2
     refine hcon.mono ?_
     rintro e w2 ⟨rfl, hb2⟩
     have k02 := cB hb2 k0
     have k12 := cB hb2 k1
     have HB2 := Lib.hid (below2 HB.out hb2)
     clear hcon k0 k1 hb2
     go_wp2_with fail
     have hcon := containsO A c os w2 80 #[] numBad eg3.out (HR.out.below HB2.out) (pays_num _ _)
     cases b3 : os.any numBad with
     | true =>
      rw [b3] at hcon
      have B3 := Lib.hid b3
      clear b3
      refine hcon.mono ?_
      rintro e w3 ⟨rfl, hb3⟩
      go_wp2
      go_ret
      exact ⟨ret_int (by rw [HCK.out, B1.out, B2.out, B3.out]; rfl), below2 HB2.out hb3⟩
     | false =>
      rw [b3] at hcon
      have B3 := Lib.hid b3
      clear b3
      refine hcon.mono ?_
      rintro e w3 ⟨rfl, hb3⟩
      have k03 := cB hb3 k02
      have k13 := cB hb3 k12
      have HB3 := Lib.hid (below2 HB2.out hb3)
      clear hcon k02 k12 hb3
      go_wp2_with fail
      have hcon := containsL A2 c2 ls w3 75 #[] strayB eg4.out (HR2.out.below HB3.out) (pays_stray _ _)
      cases b4 : ls.any strayB with
      | true =>
       rw [b4] at hcon
       have B4 := Lib.hid b4
       clear b4
       refine hcon.mono ?_
       rintro e w4 ⟨rfl, hb4⟩
       go_wp2
       go_ret
       exact ⟨ret_int (by rw [HCK.out, B1.out, B2.out, B3.out, B4.out]; rfl), below2 HB3.out hb4⟩
      | false =>
       rw [b4] at hcon
       have B4 := Lib.hid b4
       clear b4
       refine hcon.mono ?_
       rintro e w4 ⟨rfl, hb4⟩
       have k04 := cB hb4 k03
       have k14 := cB hb4 k13
       have HB4 := Lib.hid (below2 HB3.out hb4)
       clear hcon k03 k13 hb4
       go_wp2_with fail
       refine (newOffice_any A c os A2 c2 ls w4 (HR.out.below HB4.out) (HR2.out.below HB4.out) (by omega) (by omega)).mono ?_
       rintro e w5 ⟨g, A1, c1, A3, c3, rfl, hg, hgl, o1, o2, hb5⟩
       have HB5 := Lib.hid (below2 HB4.out hb5)
       have r1 := o1.rs encO
       have r2 := o2.rs encL
       have q0 : w5.cell? ⟨g, 0, none⟩ = some (.slice A1 os.length c1) := by rw [cell_of_row _ _ _ _ _ _ hg]; rfl
       have q1 : w5.cell? ⟨g, 1, none⟩ = some (.slice A3 ls.length c3) := by rw [cell_of_row _ _ _ _ _ _ hg]; rfl
       have hcon := check_any g 0 A1 c1 os A3 c3 ls w5 q0 q1 r1 r2 (by omega) (by omega)
        (fun l hl => by
         have := List.any_eq_false.1 B4.out l hl
         unfold strayB at this
         simp only [Bool.or_eq_true, not_or, Bool.not_eq_true', Bool.not_eq_false, Bool.and_eq_true, decide_eq_true_eq] at this
         omega)
        (fun o ho => asc_of_not_odd (by simpa using List.any_eq_false.1 B1.out o ho)) (fun l hl => asc_of_seen (by simpa using List.any_eq_false.1 B2.out l hl))
       clear o1 o2 r1 r2 hg hb5
       go_wp2_with fail
       refine hcon.mono ?_
       rintro e w6 ⟨rfl, hb6⟩
       go_wp2
       go_ret
       exact ⟨ret_int (by rw [HCK.out, B1.out, B2.out, B3.out, B4.out]; rfl), below2 HB5.out hb6⟩
end Go.Proofs.YtcnpbcgkhhebaaaGreatDoor
/- open, Owed, Here. -/
namespace Go.Proofs.YtcnpbcgkhhebaaaGreatDoor
open Go.RowKit

/-- An office of the call's own, in block g. -/
def Off (base : Nat) (w : World) (g : Nat) (os : List Ow) (ls : List Lg) : Prop :=
 ∃ A1 c1 A2 c2, w.heap[g]? = some (.cells #[.slice A1 os.length c1, .slice A2 ls.length c2] 89 (0, 0)) ∧ base ≤ g ∧ Own eO 73 3 base w (.slice A1 os.length c1) os ∧ Own eL 69 5 base w (.slice A2 ls.length c2) ls

def OpenR (w : World) (os : List Ow) (ls : List Lg) (e : Ending) (w' : World) : Prop :=
 (checkS os ls ≠ 0 → e = .returned (.tuple #[.pointer none, .int .i64 (checkS os ls)])) ∧ (checkS os ls = 0 → ∃ g, e = .returned (.tuple #[.pointer (some ⟨g, 0, none⟩), .int .i64 0]) ∧ Off w.heap.size w' g os ls) ∧ Below w.heap.size w w'

theorem checkS_len {os : List Ow} {ls : List Lg} (h : checkS os ls = 0) : os.length ≤ 20 ∧ ls.length ≤ 100 := by
 unfold checkS at h
 split at h
 ·cases h
 ·rename_i h1
  simp only [Bool.or_eq_true, decide_eq_true_eq, not_or] at h1
  omega

set_option maxRecDepth 100000 in
set_option maxHeartbeats 4000000 in
theorem open_any (A : Option Addr) (c : Nat) (os : List Ow) (A2 : Option Addr) (c2 : Nat) (ls : List Lg) (w : World) (hr : Rd eO 3 w A c os) (hr2 : Rd eL 5 w A2 c2 ls) :
  Calls Tryz.prog 86 #[.agg #[.slice A os.length c, .slice A2 ls.length c2]] w (OpenR w os ls) := by
 have HR := Lib.hid hr
 have HR2 := Lib.hid hr2
 clear hr hr2
 have hcon := checkSeason_any A c os A2 c2 ls (w.alloc (.cells #[.slice A os.length c, .slice A2 ls.length c2] 26)) HR.out.go HR2.out.go
 obtain ⟨r, hr⟩ : ∃ r, checkS os ls = r := ⟨_, rfl⟩
 rw [hr] at hcon
 have R := Lib.hid hr
 clear hr
 by_cases h0 : r = 0
 ·have hd : (r != 0) = false := by simp [h0]
  have H0 := Lib.hid h0
  clear h0
  go_enter Tryz.func86, Tryz.ntmps86
  go_wp2_with (go_at_call 34; refine hcon.mono ?_; rintro e w1 ⟨rfl, hb1⟩; apply stop_)
  unfold Hid
  have k0 : w1.cell? ⟨w.heap.size, 0, none⟩ = some (.slice A os.length c) := cB hb1 (by go_simp)
  have k1 : w1.cell? ⟨w.heap.size, 1, none⟩ = some (.slice A2 ls.length c2) := cB hb1 (by go_simp)
  have HB := Lib.hid (below2 (below_a1 _ _) hb1)
  clear hb1 hcon
  have hln := checkS_len (R.out.trans H0.out)
  go_wp2_with fail
  refine (newOffice_any A c os A2 c2 ls w1 (HR.out.below HB.out) (HR2.out.below HB.out) (by omega) (by omega)).mono ?_
  rintro e w5 ⟨g, A1, c1, A3, c3, rfl, hg, hgl, o1, o2, hb5⟩
  have HB5 := Lib.hid (below2 HB.out hb5)
  have O := Lib.hid (show Off w.heap.size w5 g os ls from ⟨A1, c1, A3, c3, hg, Nat.le_trans HB.out.size hgl, o1.mono HB.out.size, o2.mono HB.out.size⟩)
  clear hg hgl o1 o2 hb5
  go_wp2
  go_ret2
  exact ⟨fun h => absurd (R.out.trans H0.out) h, fun _ => ⟨g, rfl, O.out⟩, HB5.out⟩
 ·have hd : (r != 0) = true := by simp [h0]
  have H0 := Lib.hid h0
  clear h0
  go_enter Tryz.func86, Tryz.ntmps86
  go_wp2_with (go_at_call 34; refine hcon.mono ?_; rintro e w1 ⟨rfl, hb1⟩)
  go_ret2
  exact ⟨fun _ => by rw [R.out]; rfl, fun h => absurd (R.out.symm.trans h) H0.out, below2 (below_a1 _ _) hb1⟩

theorem index20 (V : Array Value) (i : Nat) (hi : i < 20) (n : Int) (hv : V[i]? = some (.int .i64 n)) (W : World) : (Instr.index 134 (.agg V) (.int .i64 i)).run Tryz.prog W = .ok (.int .i64 n) W := by
 have h1 : (isAgg 2).run Tryz.prog W = .ok false W := by kernel_rfl
 have h2 : (sizeOf 2).run Tryz.prog W = .ok 1 W := by kernel_rfl
 unfold Instr.index
 go_simp

theorem checkS_ok {os : List Ow} {ls : List Lg} (h : checkS os ls = 0) : os.length ≤ 20 ∧ ls.length ≤ 100 ∧ os.any oddB = false ∧ ls.any (fun x => !isSeenB x.seen) = false ∧ os.any numBad = false ∧ ls.any strayB = false ∧ checkO os ls = 0 := by
 have hl := checkS_len h
 unfold checkS at h
 split at h
 ·cases h
 ·split at h
  ·cases h
  ·rename_i h2
   split at h
   ·cases h
   ·split at h
    ·cases h
    ·rename_i h3 h4
     simp only [Bool.or_eq_true, not_or, Bool.not_eq_true] at h2 h3 h4
     exact ⟨hl.1, hl.2, h2.1, h2.2, h3, h4, h⟩
theorem checkO_ok {os : List Ow} {ls : List Lg} (h : checkO os ls = 0) : riseB os = true ∧ (os.map (·.mark)).Nodup ∧ (ls.map (·.num)).Nodup ∧ ls.any (strangeB os) = false ∧ ls.any (wrongB os) = false ∧ paidB os ls = true := by
 unfold checkO at h
 split at h
 ·cases h
 ·rename_i h1
  simp only [Bool.or_eq_true, not_or, Bool.not_eq_true', Bool.not_eq_false, decide_eq_true_eq] at h1
  have e1 := dd_len (os.map (·.mark))
  have e2 := dd_len (ls.map (·.num))
  rw [List.length_map] at e1 e2
  split at h
  ·cases h
  ·split at h
   ·cases h
   ·rename_i h2 h3
    split at h
    ·rename_i h4
     exact ⟨h1.1.1, e1.2.1 (by omega), e2.2.1 (by omega), by simpa using h2, by simpa using h3, h4⟩
    ·cases h
theorem feet_ok {os : List Ow} {ls : List Lg} (h : checkS os ls = 0) : ∀ l ∈ ls, 1 ≤ l.feet ∧ l.feet ≤ 10000 := by
 intro l hl
 have := List.any_eq_false.1 (checkS_ok h).2.2.2.2.2.1 l hl
 unfold strayB at this
 simp only [Bool.or_eq_true, not_or, Bool.not_eq_true', Bool.not_eq_false, Bool.and_eq_true, decide_eq_true_eq] at this
 omega
theorem paid_ok {os : List Ow} {ls : List Lg} (h : checkS os ls = 0) {i : Nat} (hi : i < os.length) : 0 ≤ os[i].paid ∧ os[i].paid ≤ feeAt os ls i := by
 have hp := (checkO_ok (checkS_ok h).2.2.2.2.2.2).2.2.2.2.2
 have := List.all_eq_true.1 hp i (List.mem_range.2 hi)
 rw [List.getElem?_eq_getElem hi] at this
 simpa using this

def paidAt (os : List Ow) (i : Int) : Int := match os[i.toNat]? with | some x => x.paid | none => 0
def owedS (os : List Ow) (ls : List Lg) (n : Int) : Int × Int :=
 if checkS os ls ≠ 0 then (0, checkS os ls) else if ownIx os n < 0 then (0, 5) else (feeAt os ls (ownIx os n) - paidAt os (ownIx os n), 0)

set_option maxRecDepth 100000 in
set_option maxHeartbeats 4000000 in
theorem owed_any (A : Option Addr) (c : Nat) (os : List Ow) (A2 : Option Addr) (c2 : Nat) (ls : List Lg) (n : Int) (w : World) (hr : Rd eO 3 w A c os) (hr2 : Rd eL 5 w A2 c2 ls) :
  Calls Tryz.prog 38 #[.agg #[.slice A os.length c, .slice A2 ls.length c2], .int .i64 n] w fun e w' => e = .returned (.tuple #[.int .i64 (owedS os ls n).1, .int .i64 (owedS os ls n).2]) ∧ Below w.heap.size w w' := by
 have HR := Lib.hid hr
 have HR2 := Lib.hid hr2
 clear hr hr2
 have hcon := open_any A c os A2 c2 ls (w.alloc (.cells #[.slice A os.length c, .slice A2 ls.length c2] 26)) HR.out.go HR2.out.go
 by_cases h0 : checkS os ls = 0
 ·have H0 := Lib.hid h0
  go_enter Tryz.func38, Tryz.ntmps38
  go_wp2_with fail
  refine hcon.mono ?_
  rintro e w1 ⟨_, h2, hb1⟩
  obtain ⟨g, rfl, A1, c1, A3, c3, hg, hgl, o1, o2⟩ := h2 h0
  have hln := checkS_len h0
  clear h2 hcon h0
  have q0 : w1.cell? ⟨g, 0, none⟩ = some (.slice A1 os.length c1) := by rw [cell_of_row _ _ _ _ _ _ hg]; rfl
  have q1 : w1.cell? ⟨g, 1, none⟩ = some (.slice A3 ls.length c3) := by rw [cell_of_row _ _ _ _ _ _ hg]; rfl
  have k0 : w1.cell? ⟨w.heap.size, 0, none⟩ = some (.slice A os.length c) := cB hb1 (by go_simp)
  have R1 := Lib.hid (o1.rs encO)
  have R2 := Lib.hid (o2.rs encL)
  have HB := Lib.hid (below2 (below_a1 _ _) hb1)
  clear hg hgl o1 o2 hb1
  have hcon := ownerA n g 0 A1 c1 os w1 q0 R1.out
  have hbd := ownIx_bd os n
  obtain ⟨r, hr⟩ : ∃ r, ownIx os n = r := ⟨_, rfl⟩
  rw [hr] at hcon hbd
  have HRr := Lib.hid hr
  clear hr
  go_wp2_with fail
  refine hcon.mono ?_
  rintro e w2 ⟨rfl, hb2⟩
  clear hcon
  have k02 := cB hb2 k0
  have q02 := cB hb2 q0
  have q12 := cB hb2 q1
  have HB2 := Lib.hid (below2 HB.out hb2)
  have R12 := Lib.hid (R1.out.below hb2)
  have R22 := Lib.hid (R2.out.below hb2)
  clear k0 q0 q1 hb2 R1 R2
  by_cases hneg : r < 0
  ·go_wp2
   go_ret2
   refine ⟨?_, HB2.out⟩
   rw [owedS, if_neg (fun h => h H0.out), HRr.out, if_pos hneg]
   rfl
  ·have HNEG := Lib.hid hneg
   obtain ⟨i, rfl⟩ : ∃ i : Nat, r = i := ⟨r.toNat, by omega⟩
   have hi : i < os.length := by omega
   obtain ⟨b, off, y, hy, rfl, hb, c0', c1', c2'⟩ := (HR.out.below HB2.out).atO hi
   have hpd := paid_ok H0.out hi
   have hfb := feeAt_bd (os := os) (ls := ls) (feet_ok H0.out) i
   rw [← hy] at hpd
   have hpa : paidAt os (i : Int) = y.paid := by unfold paidAt; rw [Int.toNat_natCast, List.getElem?_eq_getElem hi, hy]
   have HPA := Lib.hid hpa
   clear hy hpa
   obtain ⟨num, mark, paid⟩ := y
   simp only at c0' c1' c2' hpd HPA
   have hcon := fees_any g 0 A1 c1 os A3 c3 ls
   have hV3 : (vals (feesL os ls))[i]? = some (.int .i64 (feeAt os ls i)) := vals_get os ls i (by omega)
   obtain ⟨f, hf⟩ : ∃ f, feeAt os ls (i : Int) = f := ⟨_, rfl⟩
   rw [hf] at hV3 hpd hfb
   have HFE := Lib.hid hf
   clear hf
   obtain ⟨V, hV⟩ : ∃ V, vals (feesL os ls) = V := ⟨_, rfl⟩
   rw [hV] at hV3 hcon
   clear hV
   have hix := index20 V i (by omega) f hV3
   have HC := Lib.hid hcon
   clear hV3 hcon
   have hli : (i : Int) < (os.length : Int) := by omega
   have hi0 : (0 : Int) ≤ (i : Int) := by omega
   have hwl : w.heap.size < w2.heap.size := World.block_lt_of_cell? w2 _ k02
   have hsub : IntKind.i64.wrap (f - paid) = f - paid := IntWalk.i64_in _ (by omega)
   go_wp2_with fail
   go_region_held3 (fun W => W.cell? ⟨w.heap.size, 0, none⟩ = some (.slice (some ⟨b, off, none⟩) os.length c) ∧ W.cell? ⟨b, off + i * 3 + 2, none⟩ = some (.int .i64 paid)) (go_keep)
    ((go_at_call 90; refine (HC.out _ (by go_simp) (by go_simp) R12.out.go R22.out.go (by omega) (by omega) (feet_ok H0.out)).mono ?_; rintro e w9 ⟨rfl, hb9⟩; (have k1 : w9.cell? ⟨w.heap.size, 0, none⟩ = some (.slice (some ⟨b, off, none⟩) os.length c) := cB hb9 (by go_simp)); (have k2 : w9.cell? ⟨b, off + i * 3 + 2, none⟩ = some (.int .i64 paid) := cB hb9 (by go_simp))))
   all_goals
    go_wp2
    go_ret2
    refine ⟨?_, below2 HB2.out goB⟩
    rw [owedS, if_neg (fun h => h H0.out), HRr.out, if_neg (by have := HNEG.out; omega), HFE.out, HPA.out]
    rfl
 ·have hd : (checkS os ls != 0) = true := by simp [h0]
  have H0 := Lib.hid h0
  obtain ⟨r, hr⟩ : ∃ r, checkS os ls = r := ⟨_, rfl⟩
  have HRr := Lib.hid hr
  go_enter Tryz.func38, Tryz.ntmps38
  go_wp2_with fail
  refine hcon.mono ?_
  rintro e w1 ⟨h1, _, hb1⟩
  rw [h1 h0, hr]
  rw [hr] at hd
  clear h1 hcon h0 hr
  go_wp2
  go_ret2
  refine ⟨?_, below2 (below_a1 _ _) hb1⟩
  rw [owedS, if_pos H0.out, HRr.out]
  rfl
end Go.Proofs.YtcnpbcgkhhebaaaGreatDoor
/- Here. -/
namespace Go.Proofs.YtcnpbcgkhhebaaaGreatDoor
open Go.RowKit

/-- Some slice of the call's own, and an error. -/
def OwnR2 {α : Type} (enc : α → List Value) (e sz base : Nat) (w : World) (en : Ending) (xs : List α) (n : Int) : Prop := ∃ A c, en = .returned (.tuple #[.slice A xs.length c, .int .i64 n]) ∧ Own enc e sz base w (.slice A xs.length c) xs
theorem Own.ret2 {α : Type} {enc : α → List Value} {e sz base : Nat} {w : World} {v : Value} {xs : List α} {en : Ending} {n : Int} (h : Own enc e sz base w v xs) (he : en = .returned (.tuple #[v, .int .i64 n])) : OwnR2 enc e sz base w en xs n := by
 obtain ⟨A, c, rfl⟩ := h.sl
 exact ⟨A, c, he, h⟩

def hereN (o : Int) (ls : List Lg) : List Int := (ls.filter fun l => decide (l.own = o) && !l.gone).map (·.num)
def hereS (os : List Ow) (ls : List Lg) (n : Int) : List Int × Int :=
 if checkS os ls ≠ 0 then ([], checkS os ls) else if ownIx os n < 0 then ([], 5) else (hereN n ls, 0)
theorem hereIx_bd {o : Int} {ls : List Lg} {k : Nat} : ∀ i ∈ hereIx o ls k, ∃ j : Nat, i = j ∧ j < ls.length := by
 intro i hi
 unfold hereIx at hi
 obtain ⟨j, hj, rfl⟩ := List.mem_map.1 hi
 have := (List.mem_filter.1 hj).2
 refine ⟨j, rfl, ?_⟩
 cases hq : ls[j]? with
 | none => rw [hq] at this; cases this
 | some l => exact (List.getElem?_eq_some_iff.1 hq).1
def nmAt (ls : List Lg) (i : Int) : Int := match ls[i.toNat]? with | some l => l.num | none => 0
theorem hereIx_map (o : Int) (ls : List Lg) : (hereIx o ls ls.length).map (nmAt ls) = hereN o ls := by
 suffices h : ∀ k, k ≤ ls.length → (hereIx o ls k).map (nmAt ls) = hereN o (ls.take k) by
  have := h ls.length (Nat.le_refl _)
  rwa [List.take_length] at this
 intro k
 induction k with
 | zero => intro _; simp [hereIx, hereN]
 | succ k ih =>
  intro hk
  have hk' : k < ls.length := by omega
  have hn : nmAt ls (k : Int) = ls[k].num := by unfold nmAt; rw [Int.toNat_natCast, List.getElem?_eq_getElem hk']
  rw [List.take_succ_eq_append_getElem hk']
  unfold hereN at ih ⊢
  rw [List.filter_append, List.map_append]
  by_cases h1 : ls[k].own = o
  ·cases h2 : ls[k].gone with
   | false =>
    rw [hereIx_yes hk' h1 h2, List.map_append, ih (by omega)]
    simp [h1, h2, hn]
   | true =>
    rw [hereIx_no hk' (.inr h2), ih (by omega)]
    simp [h2]
  ·rw [hereIx_no hk' (.inl h1), ih (by omega)]
   simp [h1]

set_option maxRecDepth 100000 in
set_option maxHeartbeats 4000000 in
theorem here_all (A : Option Addr) (c : Nat) (os : List Ow) (A2 : Option Addr) (c2 : Nat) (ls : List Lg) (n : Int) (w : World) (hr : Rd eO 3 w A c os) (hr2 : Rd eL 5 w A2 c2 ls) :
  Calls Tryz.prog 40 #[.agg #[.slice A os.length c, .slice A2 ls.length c2], .int .i64 n] w fun e w' => OwnR2 eI 2 1 w.heap.size w' e (hereS os ls n).1 (hereS os ls n).2 ∧ Below w.heap.size w w' := by
 have HR := Lib.hid hr
 have HR2 := Lib.hid hr2
 clear hr hr2
 have hcon := open_any A c os A2 c2 ls (w.alloc (.cells #[.slice A os.length c, .slice A2 ls.length c2] 26)) HR.out.go HR2.out.go
 by_cases h0 : checkS os ls = 0
 ·have H0 := Lib.hid h0
  go_enter Tryz.func40, Tryz.ntmps40
  go_wp2_with fail
  refine hcon.mono ?_
  rintro e w1 ⟨_, h2, hb1⟩
  obtain ⟨g, rfl, A1, c1, A3, c3, hg, hgl, o1, o2⟩ := h2 h0
  have hln := checkS_len h0
  clear h2 hcon h0
  have q0 : w1.cell? ⟨g, 0, none⟩ = some (.slice A1 os.length c1) := by rw [cell_of_row _ _ _ _ _ _ hg]; rfl
  have q1 : w1.cell? ⟨g, 1, none⟩ = some (.slice A3 ls.length c3) := by rw [cell_of_row _ _ _ _ _ _ hg]; rfl
  have k0 : w1.cell? ⟨w.heap.size, 1, none⟩ = some (.slice A2 ls.length c2) := cB hb1 (by go_simp)
  have R1 := Lib.hid (o1.rs encO)
  have R2 := Lib.hid (o2.rs encL)
  have HB := Lib.hid (below2 (below_a1 _ _) hb1)
  clear hg hgl o1 o2 hb1
  have hcon := ownerA n g 0 A1 c1 os w1 q0 R1.out
  have hbd := ownIx_bd os n
  obtain ⟨r, hr⟩ : ∃ r, ownIx os n = r := ⟨_, rfl⟩
  rw [hr] at hcon hbd
  have HRr := Lib.hid hr
  clear hr
  go_wp2_with fail
  refine hcon.mono ?_
  rintro e w2 ⟨rfl, hb2⟩
  clear hcon
  have k02 := cB hb2 k0
  have q12 := cB hb2 q1
  have HB2 := Lib.hid (below2 HB.out hb2)
  have R22 := Lib.hid (R2.out.below hb2)
  clear k0 q0 q1 hb2 R1 R2
  by_cases hneg : r < 0
  ·go_wp2
   go_ret2
   refine ⟨Own.ret2 (v := .slice none 0 0) ?_ ?_, HB2.out⟩
   ·rw [hereS, if_neg (fun h => h H0.out), HRr.out, if_pos hneg]; exact Own.nil_ _ _ _ _ _
   ·rw [hereS, if_neg (fun h => h H0.out), HRr.out, if_pos hneg]; rfl
  ·have HNEG := Lib.hid hneg
   have hcon := here_any n g 0 A3 c3 ls w2 q12 R22.out (by omega)
   have HC := Lib.hid hcon
   clear hcon
   go_wp2_with fail
   refine HC.out.mono ?_
   rintro e w3 ⟨⟨A4, c4, rfl, o4⟩, hb3⟩
   have k03 := cB hb3 k02
   have HB3 := Lib.hid (below2 HB2.out hb3)
   have RI := Lib.hid (o4.rs encI)
   clear o4 hb3 k02 q12
   have hbx : ∀ i ∈ hereIx n ls ls.length, ∃ j : Nat, i = j ∧ j < ls.length := hereIx_bd
   have hmp := hereIx_map n ls
   have hln2 := hereIx_len n ls ls.length
   generalize hereIx n ls ls.length = ix at RI hbx hmp hln2 ⊢
   have BX := Lib.hid hbx
   have MP := Lib.hid hmp
   clear hbx hmp
   have hix := RI.out.len
   go_wp2
   go_loopg [8, 29] ix.length (fun g v s29 wr => ∃ k : Nat, k ≤ ix.length ∧ ix.length - k ≤ g ∧ s29 = .int .i64 k ∧ Hid (Below w3.heap.size w3 wr) ∧ Hid (Own eI 2 1 w3.heap.size wr v ((ix.take k).map (nmAt ls))))
   case atStart => exact ⟨0, by omega, by omega, rfl, Below.refl _ _, Own.nil_ _ _ _ _ _⟩
   case round =>
    have K03 := Lib.hid k03
    clear k03
    obtain ⟨k, hk, hg, rfl, BW, OW⟩ := hrel
    have k3 := cB BW.out K03.out
    by_cases hlt : k < ix.length
    ·have hli : (k : Int) < (ix.length : Int) := by omega
     obtain ⟨b4, off4, y, hy, rfl, hb4, d0⟩ := (RI.out.below BW.out).atI hlt
     obtain ⟨j, hj, hjl⟩ := BX.out y (by rw [hy]; exact List.getElem_mem hlt)
     subst hj
     have HY := Lib.hid hy
     clear hy
     obtain ⟨b, off, z, hz, rfl, hb, c0', c1', c2', c3', c4'⟩ := (HR2.out.below (below2 HB3.out BW.out)).atL hjl
     have hjli : (j : Int) < (ls.length : Int) := by omega
     have hj0 : (0 : Int) ≤ (j : Int) := by omega
     have hnm : nmAt ls (j : Int) = z.num := by unfold nmAt; rw [Int.toNat_natCast, List.getElem?_eq_getElem hjl, hz]
     have NM := Lib.hid hnm
     clear hnm hz
     obtain ⟨num, seen, feet, own, gone⟩ := z
     simp only at c0' c1' c2' c3' c4' NM
     have hwl : w.heap.size < wr.heap.size := World.block_lt_of_cell? wr _ k3
     have htl : ((ix.take k).map (nmAt ls)).length ≤ 100 := by rw [List.length_map, List.length_take]; omega
     have htk : (ix.take (k + 1)).map (nmAt ls) = (ix.take k).map (nmAt ls) ++ [num] := by rw [List.take_succ_eq_append_getElem hlt, List.map_append, List.map_cons, List.map_nil, ← HY.out, NM.out]
     have HTK := Lib.hid htk
     clear htk
     go_wp2_with (at_builtin; apply stop_)
     unfold Hid
     refine wpList_push e2 encI rfl _ _ rfl rfl (OW.out.below (below_a1 wr (.cells #[.int .i64 num] 2))) wr.heap.size 1 num rfl ?_ (by omega) (by omega) (by have := BW.out.size; simp only [World.size_alloc]; omega) ?_
     ·intro j u hj; cases j with | zero => (simp [eI] at hj; subst hj; go_simp) | succ j => simp [eI] at hj
     intro v' w' hown' hgr hlk
     have HOWN := Lib.hid hown'
     have BW2 := Lib.hid ((belowA BW.out (.cells #[.int .i64 num] 2)).grown hgr (by have := BW.out.size; simp only [World.size_alloc]; omega) (fun q hq => (OW.out.lt_ _ hq).1))
     clear hown' hgr hlk
     go_wp2
     go_roundg (ix.length - (k + 1))
     case measure => omega
     case rel => exact ⟨k + 1, by omega, by omega, by go_num, BW2.out, by rw [HTK.out]; exact HOWN.out⟩
    ·have hli : ¬ (k : Int) < (ix.length : Int) := by omega
     have hke : ix.take k = ix := List.take_of_length_le (by omega)
     have HK := Lib.hid hke
     clear hke
     go_wp2
     go_ret2
     have hS : hereS os ls n = (hereN n ls, 0) := by rw [hereS, if_neg (fun h => h H0.out), HRr.out, if_neg (by have := HNEG.out; omega)]
     rw [hS]
     exact ⟨Own.ret2 ((show Own _ _ _ _ _ _ (hereN n ls) from by rw [← MP.out, ← HK.out]; exact OW.out).mono HB3.out.size) rfl, below2 HB3.out BW.out⟩
 ·have hd : (checkS os ls != 0) = true := by simp [h0]
  have H0 := Lib.hid h0
  obtain ⟨r, hr⟩ : ∃ r, checkS os ls = r := ⟨_, rfl⟩
  have HRr := Lib.hid hr
  go_enter Tryz.func40, Tryz.ntmps40
  go_wp2_with fail
  refine hcon.mono ?_
  rintro e w1 ⟨h1, _, hb1⟩
  rw [h1 h0, hr]
  rw [hr] at hd
  clear h1 hcon h0 hr
  go_wp2
  go_ret2
  refine ⟨Own.ret2 (v := .slice none 0 0) ?_ ?_, below2 (below_a1 _ _) hb1⟩
  ·rw [hereS, if_pos H0.out]; exact Own.nil_ _ _ _ _ _
  ·rw [hereS, if_pos H0.out, HRr.out]; rfl
end Go.Proofs.YtcnpbcgkhhebaaaGreatDoor
/- Ranging over a map of the call's own, in whatever order; delete. -/
namespace Go.Proofs.YtcnpbcgkhhebaaaGreatDoor
open Go.RowKit
open Go.ChangeMaps (setBlock)

theorem filter_one {α : Type} (f : α → Nat) : ∀ (L : List α), (L.map f).Nodup → ∀ (j : Nat) (h : j < L.length), L.filter (fun x => f x != f L[j]) = L.eraseIdx j
 | [], _, j, h => by simp at h
 | x :: xs, hn, 0, h => by
  rw [List.map_cons, List.nodup_cons] at hn
  simp only [List.getElem_cons_zero, List.eraseIdx_cons_zero, List.filter_cons, bne_self_eq_false]
  refine List.filter_eq_self.2 fun y hy => ?_
  simp only [bne_iff_ne, ne_eq]
  exact fun e => hn.1 (e ▸ List.mem_map_of_mem hy)
 | x :: xs, hn, j + 1, h => by
  rw [List.map_cons, List.nodup_cons] at hn
  have hj : j < xs.length := by simpa using h
  have hx : (f x != f xs[j]) = true := by
   simp only [bne_iff_ne, ne_eq]
   exact fun e => hn.1 (e ▸ List.mem_map_of_mem (List.getElem_mem hj))
  simp only [List.getElem_cons_succ, List.eraseIdx_cons_succ, List.filter_cons, hx, if_true]
  rw [filter_one f xs hn.2 j hj]
theorem filter_key {κ β : Type} [DecidableEq κ] : ∀ (L : List (κ × β)), (L.map (·.1)).Nodup → ∀ (j : Nat) (h : j < L.length), L.filter (fun x => decide (x.1 ≠ L[j].1)) = L.eraseIdx j
 | [], _, j, h => by simp at h
 | x :: xs, hn, 0, h => by
  rw [List.map_cons, List.nodup_cons] at hn
  simp only [List.getElem_cons_zero, List.eraseIdx_cons_zero, List.filter_cons, ne_eq, not_true, decide_false]
  refine List.filter_eq_self.2 fun y hy => ?_
  simp only [decide_eq_true_eq]
  exact fun e => hn.1 (e ▸ List.mem_map_of_mem hy)
 | x :: xs, hn, j + 1, h => by
  rw [List.map_cons, List.nodup_cons] at hn
  have hj : j < xs.length := by simpa using h
  have hx : decide (x.1 ≠ xs[j].1) = true := by
   simp only [ne_eq, decide_eq_true_eq]
   exact fun e => hn.1 (e ▸ List.mem_map_of_mem (List.getElem_mem hj))
  simp only [List.getElem_cons_succ, List.eraseIdx_cons_succ, List.filter_cons, hx, if_true]
  rw [filter_key xs hn.2 j hj]
theorem filter_erase {α : Type} (p : α → Bool) : ∀ (L : List α) (j : Nat) (h : j < L.length), p L[j] = false → (L.eraseIdx j).filter p = L.filter p
 | [], j, h, _ => by simp at h
 | x :: xs, 0, h, hp => by simp at hp; simp [hp]
 | x :: xs, j + 1, h, hp => by
  simp only [List.eraseIdx_cons_succ, List.filter_cons]
  rw [filter_erase p xs j (by simpa using h) (by simpa using hp)]

theorem erase_map {α β : Type} (f : α → β) : ∀ (l : List α) (k : Nat), (l.map f).eraseIdx k = (l.eraseIdx k).map f
 | [], _ => rfl
 | _ :: _, 0 => rfl
 | x :: xs, k + 1 => by simp only [List.map_cons, List.eraseIdx_cons_succ, erase_map f xs k]
theorem erase_perm {α : Type} : ∀ (l : List α) (k : Nat) (h : k < l.length), l.Perm (l[k] :: l.eraseIdx k)
 | [], _, h => by simp at h
 | _ :: _, 0, _ => .refl _
 | x :: xs, k + 1, h => by
  have hk : k < xs.length := by simpa using h
  simp only [List.getElem_cons_succ, List.eraseIdx_cons_succ]
  exact ((erase_perm xs k hk).cons x).trans (List.Perm.swap _ _ _)

/-- Block r goes over the map in block b, which holds l; todo is still to come. -/
def RngB {κ : Type} (enc : κ → Value) (w : World) (b r : Nat) (l todo : List (κ × Value)) : Prop :=
 ∃ es clock since seen c0, w.heap[b]? = some (.map es clock) ∧ es.toList.map (fun e => (e.key, e.val)) = l.map (fun p => (enc p.1, p.2)) ∧ (es.toList.map (·.born)).Nodup ∧ (∀ e ∈ es.toList, e.born < since) ∧ since ≤ c0 ∧ since ≤ clock ∧
  w.heap[r]? = some (.mapIter (some b) since seen c0) ∧ (leftOf es seen).toList.map (fun e => (e.key, e.val)) = todo.map (fun p => (enc p.1, p.2))

section
variable {κ : Type} {enc : κ → Value} {w w' : World} {b r : Nat} {l todo : List (κ × Value)} {K T E : TypeId}
theorem RngB.map_ (h : RngB enc w b r l todo) : MapB enc w b l := by
 obtain ⟨es, clock, since, seen, c0, h1, h2, h3, h4, h5, h6, h7, h8⟩ := h
 exact ⟨es, clock, h1, h2, h3, fun e he => by have := h4 e he; omega⟩
theorem RngB.lt (h : RngB enc w b r l todo) : b < w.heap.size ∧ r < w.heap.size ∧ r ≠ b := by
 obtain ⟨es, clock, since, seen, c0, h1, h2, h3, h4, h5, h6, h7, h8⟩ := h
 refine ⟨(Array.getElem?_eq_some_iff.1 h1).1, (Array.getElem?_eq_some_iff.1 h7).1, fun e => ?_⟩
 subst e
 rw [h1] at h7
 cases h7
theorem RngB.kept {row : Option Nat} (h : RngB enc w b r l todo) (hg : w.grownBy w' row) (h1 : some b ≠ row) (h2 : some r ≠ row) : RngB enc w' b r l todo := by
 have hl := h.lt
 obtain ⟨es, clock, since, seen, c0, e1, r1, r2, r3, r4, r5, e7, r8⟩ := h
 exact ⟨es, clock, since, seen, c0, (hg.block b hl.1 h1).trans e1, r1, r2, r3, r4, r5, (hg.block r hl.2.1 h2).trans e7, r8⟩
theorem RngB.below (h : RngB enc w b r l todo) (hb : Below w.heap.size w w') : RngB enc w' b r l todo := h.kept (grown_of hb none) (by simp) (by simp)

theorem MapB.range (hT : Tryz.prog.underlying T = some (.map K E)) (h : MapB enc w b l) :
  ∃ w', (Instr.range T (.map (some b))).run Tryz.prog w = .ok (.pointer (some ⟨w.heap.size, 0, none⟩)) w' ∧ RngB enc w' b w.heap.size l l ∧ Below w.heap.size w w' ∧ w'.heap.size = w.heap.size + 1 := by
 have hlt := h.lt
 obtain ⟨es, clock, hb, hm, hn, hc⟩ := h
 refine ⟨w.alloc (.mapIter (some b) clock #[] clock), ?_, ⟨es, clock, clock, #[], clock, ?_, hm, hn, hc, Nat.le_refl _, Nat.le_refl _, heap_alloc_new _ _, ?_⟩, below_a1 _ _, by simp⟩
 ·simp only [Instr.range, Sem.run_bind, run_underlying hT, getObj, newObj, Sem.run, hb, Result.andThen, Sem.run_pure]
  rfl
 ·exact ((below_a1 w _).block b hlt).trans hb
 ·have : (leftOf es #[]).toList = es.toList := by unfold leftOf; simp
  rw [this]; exact hm

theorem RngB.next (h : RngB enc w b r l todo) (ty : TypeId) :
  (todo = [] ∧ (Instr.next (.pointer (some ⟨r, 0, none⟩)) false ty).run Tryz.prog w = .ok (.tuple #[.bool false]) w) ∨
  ∃ p todo' w', todo.Perm (p :: todo') ∧ (Instr.next (.pointer (some ⟨r, 0, none⟩)) false ty).run Tryz.prog w = .ok (.tuple #[.bool true, enc p.1, p.2]) w' ∧ RngB enc w' b r l todo' ∧
   (Instr.entry (.pointer (some ⟨r, 0, none⟩))).run Tryz.prog w' = .ok (.tuple #[enc p.1, p.2]) w' ∧ w.grownBy w' (some r) ∧ w'.heap.size = w.heap.size := by
 have hl := h.lt
 obtain ⟨es, clock, since, seen, c0, e1, r1, r2, r3, r4, r5, e7, r8⟩ := h
 rcases run_next_at (P := Tryz.prog) w ty r b since c0 seen es clock e7 e1 r3 r4 with ⟨h0, hrun⟩ | ⟨e, he, w1, hw1, hrun⟩
 ·refine .inl ⟨?_, hrun⟩
  have := congrArg List.length r8
  simp [h0] at this
  exact List.eq_nil_of_length_eq_zero this.symm
 ·right
  obtain ⟨j, hj, rfl⟩ := List.getElem_of_mem he
  have hjt : j < todo.length := by have := congrArg List.length r8; simp at this; simp at hj; omega
  have hkv : (((leftOf es seen).toList[j]'hj).key, ((leftOf es seen).toList[j]'hj).val) = (enc todo[j].1, todo[j].2) := by
   have h3 : ((leftOf es seen).toList.map (fun e => (e.key, e.val)))[j]'(by simpa using hj) = (todo.map (fun p => (enc p.1, p.2)))[j]'(by simpa using hjt) := by simp only [r8]
   simpa only [List.getElem_map] using h3
  have hin : (leftOf es seen).toList[j]'hj ∈ es.toList := by
   have : ∀ x ∈ (leftOf es seen).toList, x ∈ es.toList := by
    intro x hx
    unfold leftOf at hx
    rw [Array.toList_filter] at hx
    exact (List.mem_filter.1 hx).1
   exact this _ (List.getElem_mem hj)
  have hsub : ((leftOf es seen).toList.map (·.born)).Nodup := by
   unfold leftOf
   rw [Array.toList_filter]
   exact List.Nodup.sublist (List.Sublist.map _ List.filter_sublist) r2
  have hleft : (leftOf es (seen.push ((leftOf es seen).toList[j]'hj).born)).toList = (leftOf es seen).toList.eraseIdx j := by
   rw [← filter_one (·.born) _ hsub j hj]
   generalize ((leftOf es seen).toList[j]'hj).born = n
   unfold leftOf
   rw [Array.toList_filter, Array.toList_filter, List.filter_filter]
   refine List.filter_congr fun x _ => ?_
   by_cases hxn : x.born = n <;> simp [hxn]
  generalize (leftOf es seen).toList[j]'hj = e at hrun hkv hin hleft
  have hs1 : w1.heap = w.heap := by rcases hw1 with rfl | rfl <;> rfl
  have e1' : (setBlock w1 r (.mapIter (some b) since (seen.push e.born) clock)).heap[b]? = some (.map es clock) := by
   simp only [setBlock, hs1]
   rw [Array.getElem?_setIfInBounds_ne hl.2.2]
   exact e1
  have e7' : (setBlock w1 r (.mapIter (some b) since (seen.push e.born) clock)).heap[r]? = some (.mapIter (some b) since (seen.push e.born) clock) := by
   simp only [setBlock, hs1]
   rw [Array.getElem?_setIfInBounds_self_of_lt hl.2.1]
  have hk1 := congrArg Prod.fst hkv
  have hk2 := congrArg Prod.snd hkv
  simp only at hk1 hk2
  refine ⟨todo[j], todo.eraseIdx j, _, erase_perm todo j hjt, by rw [hrun, hk1, hk2], ⟨es, clock, since, seen.push e.born, clock, e1', r1, r2, r3, r5, r5, e7', ?_⟩, ?_, ?_, by simp [setBlock, hs1]⟩
  ·rw [hleft, ← erase_map, r8, erase_map]
  ·rw [run_entry_at _ r b since seen es clock e e7' e1' hin r2, hk1, hk2]
  ·refine ⟨by rcases hw1 with rfl | rfl <;> rfl, by rcases hw1 with rfl | rfl <;> rfl, by rcases hw1 with rfl | rfl <;> rfl, by simp [setBlock, hs1], fun k hk hne => ?_⟩
   simp only [setBlock, hs1]
   exact Array.getElem?_setIfInBounds_ne (fun e => hne (by rw [e]))

variable [DecidableEq κ]
theorem RngB.delete (hK : KeyT K enc) (hT : Tryz.prog.underlying T = some (.map K E)) (h : RngB enc w b r l todo) (hnd : (l.map (·.1)).Nodup) (hinj : ∀ a c, enc a = enc c → a = c) (k : κ) (hk : ∀ p ∈ todo, p.1 ≠ k) (ty : TypeId) :
  ∃ w', (Builtin.delete_ #[T, K] ty #[.map (some b), enc k]).run Tryz.prog w = .ok (.tuple #[]) w' ∧ RngB enc w' b r (l.filter fun p => decide (p.1 ≠ k)) todo ∧ w.grownBy w' (some b) ∧ w'.heap.size = w.heap.size := by
 have hl := h.lt
 obtain ⟨es, clock, since, seen, c0, e1, r1, r2, r3, r4, r5, e7, r8⟩ := h
 have hf := hK.find k es.toList l w r1
 cases hq : findE k l 0 with
 | none =>
  rw [hq] at hf
  refine ⟨setO w b (.map es clock), ?_, ⟨es, clock, since, seen, c0, setO_same hl.1 _, ?_, r2, r3, r4, r5, ?_, r8⟩, setO_grown _ _ _, setO_size _ _ _⟩
  ·simp [Builtin.delete_, run_underlying hT, getObj, setObj, Sem.run, e1, hK.chk, hf, setO]
  ·rw [List.filter_eq_self.2]
   ·exact r1
   ·intro p hp
    simp only [ne_eq, decide_eq_true_eq]
    intro e
    have : ∀ (l : List (κ × Value)) (i : Nat), findE k l i = none → ∀ p ∈ l, p.1 ≠ k := by
     intro l
     induction l with
     | nil => intro i _ p hp; cases hp
     | cons q qs ih =>
      intro i h p hp
      unfold findE at h
      split at h
      ·cases h
      ·rename_i hk
       rcases List.mem_cons.1 hp with rfl | hp
       ·exact fun e => hk e.symm
       ·exact ih _ h p hp
    exact this l 0 hq p hp e
  ·rw [setO_other _ _ hl.2.2]; exact e7
 | some q =>
  obtain ⟨i, v0⟩ := q
  rw [hq] at hf
  obtain ⟨n, hn1, hn2⟩ := findE_some hq
  obtain rfl : i = n := by omega
  have hlen : es.size = l.length := by have := congrArg List.length r1; simpa using this
  have hil : i < l.length := (List.getElem?_eq_some_iff.1 hn2).1
  have hle : l[i] = (k, v0) := (List.getElem?_eq_some_iff.1 hn2).2
  have hies : i < es.toList.length := by simp; omega
  have hkey : (es.toList[i]'hies).key = enc k := by
   have h3 : (es.toList.map (fun e => (e.key, e.val)))[i]'(by simpa using hies) = (l.map (fun p => (enc p.1, p.2)))[i]'(by simpa using hil) := by simp only [r1]
   simp only [List.getElem_map, hle] at h3
   exact congrArg Prod.fst h3
  have hout : (!seen.contains (es.toList[i]'hies).born) = false := by
   cases hc : !seen.contains (es.toList[i]'hies).born with
   | false => rfl
   | true =>
    exfalso
    have hm : es.toList[i]'hies ∈ (leftOf es seen).toList := by
     unfold leftOf
     rw [Array.toList_filter]
     exact List.mem_filter.2 ⟨List.getElem_mem _, hc⟩
    have hm2 : (enc k, (es.toList[i]'hies).val) ∈ todo.map (fun p => (enc p.1, p.2)) := by
     rw [← r8, ← hkey]
     exact List.mem_map.2 ⟨_, hm, rfl⟩
    obtain ⟨p, hp, he⟩ := List.mem_map.1 hm2
    exact hk p hp (hinj _ _ (congrArg Prod.fst he))
  have htl : (es.eraseIdxIfInBounds i).toList = es.toList.eraseIdx i := by
   rw [Array.eraseIdxIfInBounds, dif_pos (by simpa using hies), Array.toList_eraseIdx]
  refine ⟨setO w b (.map (es.eraseIdxIfInBounds i) clock), ?_, ⟨_, clock, since, seen, c0, setO_same hl.1 _, ?_, ?_, ?_, r4, r5, ?_, ?_⟩, setO_grown _ _ _, setO_size _ _ _⟩
  ·simp [Builtin.delete_, run_underlying hT, getObj, setObj, Sem.run, e1, hK.chk, hf, setO]
  ·have := filter_key l hnd i hil
   rw [hle] at this
   rw [htl, ← erase_map, r1, erase_map, this]
  ·rw [htl, ← erase_map]
   exact List.Nodup.sublist (List.eraseIdx_sublist _ _) r2
  ·intro e he
   rw [htl] at he
   exact r3 e ((List.eraseIdx_sublist _ _).mem he)
  ·rw [setO_other _ _ hl.2.2]; exact e7
  ·rw [← r8]
   unfold leftOf
   rw [Array.toList_filter, Array.toList_filter, htl, filter_erase _ _ _ hies hout]
end
end Go.Proofs.YtcnpbcgkhhebaaaGreatDoor
/-
  DERIVED: THE SHELF's CONTRACTS AT THIS DUMP, IN PLAIN WORDS (tools/lay-plain.mjs out of 'TryzPick.lean', which tools/lay-shelf.mjs wrote): THE SAME DECLARATIONS UNDER THE SAME NAMES: 'import', 'namespace', 'open', 'def', 'theorem' AND NOTHING ELSE: no command of the shelf's: FOR A HAND-IN. Each laying: the table of numbers ('.._ren') and one theorem, a field a fact of the dump's own or the kernel's comparison; each contract: ONE APPLICATION.
-/
namespace Go.Proofs
open Go.Shelf
def Tryz.lays169_ren : Go.Shelf.Ren := ⟨fun | 169 => 64 | n => n, fun | 70 => 98 | 9 => 9 | 0 => 0 | 72 => 101 | 37 => 99 | 127 => 151 | 3 => 3 | 5 => 5 | n => n, fun | n => n⟩
theorem Tryz.lays169 : Go.Proofs.Lays.n169 Tryz.prog Tryz.lays169_ren := {
 mixed := by kernel_rfl
 f169 := Tryz.func64.trans (congrArg some (by kernel_rfl))
 t0 := Tryz.underlying0
 a0 := Tryz.isAgg0
 z0 := Tryz.sizeOf0
 v0 := Tryz.zeroValue0
 t3 := Tryz.underlying3
 a3 := Tryz.isAgg3
 z3 := Tryz.sizeOf3
 v3 := Tryz.zeroValue3
 t9 := Tryz.underlying9
 a9 := Tryz.isAgg9
 z9 := Tryz.sizeOf9
 v9 := Tryz.zeroValue9
 t37 := Tryz.underlying99
 a37 := Tryz.isAgg99
 z37 := Tryz.sizeOf99
 v37 := Tryz.zeroValue99
 t70 := Tryz.underlying98
 a70 := Tryz.isAgg98
 z70 := Tryz.sizeOf98
 v70 := Tryz.zeroValue98
 t72 := Tryz.underlying101
 a72 := Tryz.isAgg101
 z72 := Tryz.sizeOf101
 v72 := Tryz.zeroValue101
 t127 := Tryz.underlying151
 a127 := Tryz.isAgg151
 z127 := Tryz.sizeOf151
 v127 := Tryz.zeroValue151 }
theorem Tryz.Builder_Extra_169 : Builder.Extra Tryz.prog Tryz.lays169_ren := {
 sizeBuilder := by kernel_rfl
 liesBuilder := by kernel_rfl
 t5 := Tryz.underlying5
 a5 := Tryz.isAgg5
 z5 := Tryz.sizeOf5
 v5 := Tryz.zeroValue5
 infoByte := by kernel_rfl
 cellsByte := by kernel_rfl
 sizeByte := by kernel_rfl
 neB5 := by decide }
def Tryz.lays156_ren : Go.Shelf.Ren := ⟨fun | 156 => 67 | 165 => 106 | 166 => 62 | 169 => 64 | 240 => 103 | 241 => 149 | 276 => 144 | 277 => 173 | n => n, fun | 31 => 75 | 9 => 9 | 3 => 3 | 4 => 4 | 0 => 0 | 20 => 20 | 72 => 101 | 76 => 104 | 70 => 98 | 37 => 99 | 75 => 103 | 127 => 151 | 164 => 177 | 5 => 5 | 80 => 78 | n => n, fun | n => n⟩
theorem Tryz.lays156 : Go.Proofs.Lays.n156 Tryz.prog Tryz.lays156_ren := {
 mixed := by kernel_rfl
 f156 := Tryz.func67.trans (congrArg some (by kernel_rfl))
 f165 := Tryz.func106.trans (congrArg some (by kernel_rfl))
 f166 := Tryz.func62.trans (congrArg some (by kernel_rfl))
 f169 := Tryz.func64.trans (congrArg some (by kernel_rfl))
 f240 := Tryz.func103.trans (congrArg some (by kernel_rfl))
 f241 := Tryz.func149.trans (congrArg some (by kernel_rfl))
 f276 := Tryz.func144.trans (congrArg some (by kernel_rfl))
 f277 := Tryz.func173.trans (congrArg some (by kernel_rfl))
 t0 := Tryz.underlying0
 a0 := Tryz.isAgg0
 z0 := Tryz.sizeOf0
 v0 := Tryz.zeroValue0
 t3 := Tryz.underlying3
 a3 := Tryz.isAgg3
 z3 := Tryz.sizeOf3
 v3 := Tryz.zeroValue3
 t4 := Tryz.underlying4
 a4 := Tryz.isAgg4
 z4 := Tryz.sizeOf4
 v4 := Tryz.zeroValue4
 t9 := Tryz.underlying9
 a9 := Tryz.isAgg9
 z9 := Tryz.sizeOf9
 v9 := Tryz.zeroValue9
 t20 := Tryz.underlying20
 a20 := Tryz.isAgg20
 z20 := Tryz.sizeOf20
 v20 := Tryz.zeroValue20
 t31 := Tryz.underlying75
 a31 := Tryz.isAgg75
 z31 := Tryz.sizeOf75
 v31 := Tryz.zeroValue75
 t37 := Tryz.underlying99
 a37 := Tryz.isAgg99
 z37 := Tryz.sizeOf99
 v37 := Tryz.zeroValue99
 t70 := Tryz.underlying98
 a70 := Tryz.isAgg98
 z70 := Tryz.sizeOf98
 v70 := Tryz.zeroValue98
 t72 := Tryz.underlying101
 a72 := Tryz.isAgg101
 z72 := Tryz.sizeOf101
 v72 := Tryz.zeroValue101
 t75 := Tryz.underlying103
 a75 := Tryz.isAgg103
 z75 := Tryz.sizeOf103
 v75 := Tryz.zeroValue103
 t76 := Tryz.underlying104
 a76 := Tryz.isAgg104
 z76 := Tryz.sizeOf104
 v76 := Tryz.zeroValue104
 t127 := Tryz.underlying151
 a127 := Tryz.isAgg151
 z127 := Tryz.sizeOf151
 v127 := Tryz.zeroValue151
 t164 := Tryz.underlying177
 a164 := Tryz.isAgg177
 z164 := Tryz.sizeOf177
 v164 := Tryz.zeroValue177 }
theorem Tryz.Builder_Extra_156 : Builder.Extra Tryz.prog Tryz.lays156_ren := {
 sizeBuilder := by kernel_rfl
 liesBuilder := by kernel_rfl
 t5 := Tryz.underlying5
 a5 := Tryz.isAgg5
 z5 := Tryz.sizeOf5
 v5 := Tryz.zeroValue5
 infoByte := by kernel_rfl
 cellsByte := by kernel_rfl
 sizeByte := by kernel_rfl
 neB5 := by decide }
open Go.RowKit in
/-- No element: the empty string; the world is as it was. (Whatever the slice's address and capacity: a nil slice too.) (LAID: no walk: one application.) -/
theorem Tryz.strings_Join_none (a : Option Addr) (c : Nat) (sep : ByteArray) (w : World) :
  Calls Tryz.prog 67 #[.slice a 0 c, .string sep] w fun e w' => e = .returned (.string ⟨#[]⟩) ∧ w' = w := Any.strings_Join_none Tryz.lays156 Tryz.Builder_Extra_156 a c sep w
open Go.RowKit in
/-- strings.Join: "Join concatenates the elements of its first argument to create a single string. The separator string sep is placed between elements in the resulting string.": HOWEVER MANY ELEMENTS. Below the heap's end the world is as it was. (LAID: no walk: one application.) -/
theorem Tryz.strings_Join (bk o c : Nat) (xs : List ByteArray) (sep : ByteArray) (w : World) (hcells : ∀ (j : Nat) x, xs[j]? = some x → w.cell? ⟨bk, o + j, none⟩ = some (.string x)) (hbk : bk < w.heap.size) (hN : xs.length ≤ 140737488355328) (hcap : xs.length ≤ c) (hlen : (Lib.join (xs.map (·.data.toList)) sep.data.toList).length ≤ 140737488355328) :
  Calls Tryz.prog 67 #[.slice (some ⟨bk, o, none⟩) xs.length c, .string sep] w fun e w' => e = .returned (.string ⟨(Lib.join (xs.map (·.data.toList)) sep.data.toList).toArray⟩) ∧ Below w.heap.size w w' := Any.strings_Join Tryz.lays156 Tryz.Builder_Extra_156 bk o c xs sep w hcells hbk hN hcap hlen
def Tryz.lays160_ren : Go.Shelf.Ren := ⟨fun | 160 => 151 | 232 => 179 | 231 => 178 | 227 => 180 | 234 => 182 | 233 => 181 | 236 => 184 | 235 => 183 | 228 => 209 | 271 => 211 | 151 => 210 | 197 => 189 | 120 => 232 | 152 => 231 | 260 => 217 | 137 => 241 | 119 => 242 | 224 => 176 | 225 => 175 | 217 => 174 | 266 => 207 | n => n, fun | 9 => 9 | 4 => 4 | 3 => 3 | 5 => 5 | 117 => 209 | 116 => 208 | 0 => 0 | 124 => 212 | 21 => 21 | 105 => 214 | 46 => 193 | 119 => 254 | 139 => 257 | 138 => 256 | n => n, fun | 3 => 6 | 4 => 7 | n => n⟩
theorem Tryz.lays160 : Go.Proofs.Lays.n160 Tryz.prog Tryz.lays160_ren := {
 mixed := by kernel_rfl
 f119 := Tryz.func242.trans (congrArg some (by kernel_rfl))
 f120 := Tryz.func232.trans (congrArg some (by kernel_rfl))
 f137 := Tryz.func241.trans (congrArg some (by kernel_rfl))
 f151 := Tryz.func210.trans (congrArg some (by kernel_rfl))
 f152 := Tryz.func231.trans (congrArg some (by kernel_rfl))
 f160 := Tryz.func151.trans (congrArg some (by kernel_rfl))
 f197 := Tryz.func189.trans (congrArg some (by kernel_rfl))
 f217 := Tryz.func174.trans (congrArg some (by kernel_rfl))
 f224 := Tryz.func176.trans (congrArg some (by kernel_rfl))
 f225 := Tryz.func175.trans (congrArg some (by kernel_rfl))
 f227 := Tryz.func180.trans (congrArg some (by kernel_rfl))
 f228 := Tryz.func209.trans (congrArg some (by kernel_rfl))
 f231 := Tryz.func178.trans (congrArg some (by kernel_rfl))
 f232 := Tryz.func179.trans (congrArg some (by kernel_rfl))
 f233 := Tryz.func181.trans (congrArg some (by kernel_rfl))
 f234 := Tryz.func182.trans (congrArg some (by kernel_rfl))
 f235 := Tryz.func183.trans (congrArg some (by kernel_rfl))
 f236 := Tryz.func184.trans (congrArg some (by kernel_rfl))
 f260 := Tryz.func217.trans (congrArg some (by kernel_rfl))
 f266 := Tryz.func207.trans (congrArg some (by kernel_rfl))
 f271 := Tryz.func211.trans (congrArg some (by kernel_rfl))
 t0 := Tryz.underlying0
 a0 := Tryz.isAgg0
 z0 := Tryz.sizeOf0
 v0 := Tryz.zeroValue0
 t3 := Tryz.underlying3
 a3 := Tryz.isAgg3
 z3 := Tryz.sizeOf3
 v3 := Tryz.zeroValue3
 t4 := Tryz.underlying4
 a4 := Tryz.isAgg4
 z4 := Tryz.sizeOf4
 v4 := Tryz.zeroValue4
 t5 := Tryz.underlying5
 a5 := Tryz.isAgg5
 z5 := Tryz.sizeOf5
 v5 := Tryz.zeroValue5
 t9 := Tryz.underlying9
 a9 := Tryz.isAgg9
 z9 := Tryz.sizeOf9
 v9 := Tryz.zeroValue9
 t21 := Tryz.underlying21
 a21 := Tryz.isAgg21
 z21 := Tryz.sizeOf21
 v21 := Tryz.zeroValue21
 t46 := Tryz.underlying193
 a46 := Tryz.isAgg193
 z46 := Tryz.sizeOf193
 v46 := Tryz.zeroValue193
 t105 := Tryz.underlying214
 a105 := Tryz.isAgg214
 z105 := Tryz.sizeOf214
 v105 := Tryz.zeroValue214
 t116 := Tryz.underlying208
 a116 := Tryz.isAgg208
 z116 := Tryz.sizeOf208
 t117 := Tryz.underlying209
 a117 := Tryz.isAgg209
 z117 := Tryz.sizeOf209
 v117 := Tryz.zeroValue209
 t119 := Tryz.underlying254
 a119 := Tryz.isAgg254
 z119 := Tryz.sizeOf254
 t124 := Tryz.underlying212
 a124 := Tryz.isAgg212
 z124 := Tryz.sizeOf212
 v124 := Tryz.zeroValue212
 t138 := Tryz.underlying256
 a138 := Tryz.isAgg256
 z138 := Tryz.sizeOf256
 v138 := Tryz.zeroValue256
 t139 := Tryz.underlying257
 a139 := Tryz.isAgg257
 z139 := Tryz.sizeOf257
 v139 := Tryz.zeroValue257
 g3 := by kernel_rfl
 g4 := by kernel_rfl }
open Go.RowKit in
/-- strings.Trim: "Trim returns a slice of the string s with all leading and trailing Unicode code points contained in cutset removed.": AT A cutset OF ONE ASCII BYTE. THE WORLD BEHIND IT: as it was, or (where s is not empty) with ONE DRAW MORE off the tape: the statement 'return trimLeftByte(trimRightByte(s, c), c)' draws its order of evaluation. (LAID: no walk: one application.) -/
theorem Tryz.strings_Trim_one (s : ByteArray) (c : UInt8) (hc : c.toNat < 128) (w : World) (hs : s.size ≤ 9223372036854775807) :
  Calls Tryz.prog 151 #[.string s, .string ⟨#[c]⟩] w fun e w' => e = .returned (.string ⟨(Lib.trimB s.data.toList c).toArray⟩) ∧ (w' = w ∨ w' = w.drew) := Any.strings_Trim_one Tryz.lays160 s c hc w hs
def Tryz.lays125_ren : Go.Shelf.Ren := ⟨fun | 125 => 161 | 128 => 200 | 129 => 169 | n => n, fun | 46 => 193 | 3 => 3 | 51 => 201 | 53 => 180 | 4 => 4 | 5 => 5 | 9 => 9 | n => n, fun | n => n⟩
theorem Tryz.lays125 : Go.Proofs.Lays.n125 Tryz.prog Tryz.lays125_ren := {
 mixed := by kernel_rfl
 f125 := Tryz.func161.trans (congrArg some (by kernel_rfl))
 f128 := Tryz.func200.trans (congrArg some (by kernel_rfl))
 f129 := Tryz.func169.trans (congrArg some (by kernel_rfl))
 t3 := Tryz.underlying3
 a3 := Tryz.isAgg3
 z3 := Tryz.sizeOf3
 v3 := Tryz.zeroValue3
 t4 := Tryz.underlying4
 a4 := Tryz.isAgg4
 z4 := Tryz.sizeOf4
 v4 := Tryz.zeroValue4
 t5 := Tryz.underlying5
 a5 := Tryz.isAgg5
 z5 := Tryz.sizeOf5
 v5 := Tryz.zeroValue5
 t9 := Tryz.underlying9
 a9 := Tryz.isAgg9
 z9 := Tryz.sizeOf9
 v9 := Tryz.zeroValue9
 t46 := Tryz.underlying193
 a46 := Tryz.isAgg193
 z46 := Tryz.sizeOf193
 v46 := Tryz.zeroValue193
 t51 := Tryz.underlying201
 a51 := Tryz.isAgg201
 z51 := Tryz.sizeOf201
 v51 := Tryz.zeroValue201
 t53 := Tryz.underlying180
 a53 := Tryz.isAgg180
 z53 := Tryz.sizeOf180
 v53 := Tryz.zeroValue180 }
/-- bits.Len: "Len returns the minimum number of bits required to represent x; the result is 0 for x == 0.": IT RETURNS 'Lib.bitLen x'; the world is as it was. (A uint has 64 bits in the model.) ITS CALLEE bits.Len64 IS MET BY ITS OWN CONTRACT OFF THE SHELF (lay that first). (LAID: no walk: one application.) -/
theorem Tryz.bits_Len (x : Int) (w : World) (h0 : 0 ≤ x) (h1 : x ≤ 18446744073709551615) :
  Calls Tryz.prog 161 #[.int .u64 x] w fun e w' => e = .returned (.int .i64 (Lib.bitLen x.toNat)) ∧ w' = w := Any.bits_Len Tryz.lays125 x w h0 h1
open Go.RowKit in
/-- (*strings.Builder).String: "String returns the accumulated string.": WHATEVER THE BUILDER HOLDS; THE FORM '_k': OVER 'Lib.IsBuilderF' (a builder that 'String()' may have read), AND WITH THE FRAME THAT REACHES ABOVE THE BUILDER: 'Lib.OthersKept': every block that is not b and is no row of uint8's stands as it stood: the iterator of a range among them. (LAID: no walk: one application.) -/
theorem Tryz.Builder_String_any_k (B b : Nat) (l : List UInt8) (w : World) (h : Lib.IsBuilderF 101 5 B b (Lib.byteCells l) w) (hBw : B ≤ w.heap.size) :
  Calls Tryz.prog 64 #[.pointer (some ⟨b, 0, none⟩)] w fun e w' => e = .returned (.string ⟨l.toArray⟩) ∧ (Lib.IsBuilderF 101 5 B b (Lib.byteCells l) w' ∧ Below B w w' ∧ Lib.OthersKept 5 (some b) w w') := Any.Builder_String_any_k Tryz.lays169 Tryz.Builder_Extra_169 B b l w h hBw
def Tryz.laysM171_ren : Go.Shelf.Ren := ⟨fun | 171 => 63 | 243 => 104 | 246 => 105 | 283 => 145 | 284 => 146 | 285 => 147 | 286 => 148 | 129 => 169 | 317 => 168 | 318 => 170 | 319 => 171 | 320 => 172 | 337 => 205 | 338 => 206 | n => n, fun | 3 => 3 | 9 => 9 | 2 => 2 | 4 => 4 | 171 => 179 | 0 => 0 | 53 => 180 | 37 => 99 | 5 => 5 | 173 => 183 | 212 => 200 | 51 => 201 | 20 => 20 | 213 => 202 | 46 => 193 | 232 => 247 | 233 => 248 | n => n, fun | 17 => 0 | 18 => 2 | 19 => 3 | n => n⟩
theorem Tryz.laysM171 : Go.Proofs.LaysM.n171 Tryz.prog Tryz.laysM171_ren := {
 mixed := by kernel_rfl
 f129 := Tryz.func169.trans (congrArg some (by kernel_rfl))
 f171 := Tryz.func63.trans (congrArg some (by kernel_rfl))
 f243 := Tryz.func104.trans (congrArg some (by kernel_rfl))
 f246 := Tryz.func105.trans (congrArg some (by kernel_rfl))
 f283 := Tryz.func145.trans (congrArg some (by kernel_rfl))
 f284 := Tryz.func146.trans (congrArg some (by kernel_rfl))
 f285 := Tryz.func147.trans (congrArg some (by kernel_rfl))
 f286 := Tryz.func148.trans (congrArg some (by kernel_rfl))
 f317 := Tryz.func168.trans (congrArg some (by kernel_rfl))
 f318 := Tryz.func170.trans (congrArg some (by kernel_rfl))
 f319 := Tryz.func171.trans (congrArg some (by kernel_rfl))
 f320 := Tryz.func172.trans (congrArg some (by kernel_rfl))
 f337 := Tryz.func205.trans (congrArg some (by kernel_rfl))
 f338 := Tryz.func206.trans (congrArg some (by kernel_rfl))
 t0 := Tryz.underlying0
 a0 := Tryz.isAgg0
 z0 := Tryz.sizeOf0
 v0 := Tryz.zeroValue0
 t2 := Tryz.underlying2
 a2 := Tryz.isAgg2
 z2 := Tryz.sizeOf2
 v2 := Tryz.zeroValue2
 t3 := Tryz.underlying3
 a3 := Tryz.isAgg3
 z3 := Tryz.sizeOf3
 v3 := Tryz.zeroValue3
 t4 := Tryz.underlying4
 a4 := Tryz.isAgg4
 z4 := Tryz.sizeOf4
 v4 := Tryz.zeroValue4
 t5 := Tryz.underlying5
 a5 := Tryz.isAgg5
 z5 := Tryz.sizeOf5
 v5 := Tryz.zeroValue5
 t9 := Tryz.underlying9
 a9 := Tryz.isAgg9
 z9 := Tryz.sizeOf9
 v9 := Tryz.zeroValue9
 t20 := Tryz.underlying20
 a20 := Tryz.isAgg20
 z20 := Tryz.sizeOf20
 v20 := Tryz.zeroValue20
 t37 := Tryz.underlying99
 a37 := Tryz.isAgg99
 z37 := Tryz.sizeOf99
 v37 := Tryz.zeroValue99
 t46 := Tryz.underlying193
 a46 := Tryz.isAgg193
 z46 := Tryz.sizeOf193
 v46 := Tryz.zeroValue193
 t51 := Tryz.underlying201
 a51 := Tryz.isAgg201
 z51 := Tryz.sizeOf201
 v51 := Tryz.zeroValue201
 t53 := Tryz.underlying180
 a53 := Tryz.isAgg180
 z53 := Tryz.sizeOf180
 v53 := Tryz.zeroValue180
 t171 := Tryz.underlying179
 a171 := Tryz.isAgg179
 z171 := Tryz.sizeOf179
 v171 := Tryz.zeroValue179
 t173 := Tryz.underlying183
 a173 := Tryz.isAgg183
 z173 := Tryz.sizeOf183
 v173 := Tryz.zeroValue183
 t212 := Tryz.underlying200
 a212 := Tryz.isAgg200
 z212 := Tryz.sizeOf200
 v212 := Tryz.zeroValue200
 t213 := Tryz.underlying202
 a213 := Tryz.isAgg202
 z213 := Tryz.sizeOf202
 t232 := Tryz.underlying247
 a232 := Tryz.isAgg247
 z232 := Tryz.sizeOf247
 v232 := Tryz.zeroValue247
 t233 := Tryz.underlying248
 a233 := Tryz.isAgg248
 z233 := Tryz.sizeOf248
 v233 := Tryz.zeroValue248
 g17 := by kernel_rfl
 g18 := by kernel_rfl
 g19 := by kernel_rfl
 i0 := by kernel_rfl
 i2 := by kernel_rfl
 i3 := by kernel_rfl
 i4 := by kernel_rfl
 i5 := by kernel_rfl
 i9 := by kernel_rfl
 i20 := by kernel_rfl
 i37 := by kernel_rfl
 i46 := by kernel_rfl
 i51 := by kernel_rfl
 i53 := by kernel_rfl
 i171 := by kernel_rfl
 i173 := by kernel_rfl
 i212 := by kernel_rfl
 i232 := by kernel_rfl
 i233 := by kernel_rfl
 m17 := by kernel_rfl
 m18 := by kernel_rfl
 m19 := by kernel_rfl }
open Go.RowKit Go.Sort Go.Lib in
/-- strconv.Itoa: "Itoa is equivalent to FormatInt(int64(i), 10).": i's DECIMAL NUMERAL ('Lib.itoa': a '-' where i is negative, then the digits), FOR EVERY int. The world behind the call: the world before it, new blocks behind the heap (the library's 'var a [24]byte'), draws. (LAID: no walk: one application.) -/
theorem Tryz.strconv_Itoa (n : Int) (h0 : -9223372036854775808 ≤ n) (h1 : n ≤ 9223372036854775807) (w : World) (htab : Lib.TabIs Tryz.prog w "internal/strconv.uint64pow10" .u64 Lib.pow10Tab) :
  Calls Tryz.prog 63 #[.int .i64 n] w fun e w' => e = .returned (.string ⟨(Lib.itoa n).toArray⟩) ∧ ∃ k os, w' = grow (w.drewN k) os := Any.strconv_Itoa Tryz.laysM171 n h0 h1 w htab
def Tryz.laysM173_ren : Go.Shelf.Ren := ⟨fun | 173 => 66 | 246 => 105 | 283 => 145 | 284 => 146 | 285 => 147 | 286 => 148 | 129 => 169 | 317 => 168 | 318 => 170 | 319 => 171 | 320 => 172 | 337 => 205 | 338 => 206 | n => n, fun | 2 => 2 | 3 => 3 | 9 => 9 | 4 => 4 | 171 => 179 | 0 => 0 | 53 => 180 | 37 => 99 | 5 => 5 | 173 => 183 | 212 => 200 | 51 => 201 | 20 => 20 | 213 => 202 | 46 => 193 | 232 => 247 | 233 => 248 | n => n, fun | 17 => 0 | 18 => 2 | 19 => 3 | n => n⟩
theorem Tryz.laysM173 : Go.Proofs.LaysM.n173 Tryz.prog Tryz.laysM173_ren := {
 mixed := by kernel_rfl
 f129 := Tryz.func169.trans (congrArg some (by kernel_rfl))
 f173 := Tryz.func66.trans (congrArg some (by kernel_rfl))
 f246 := Tryz.func105.trans (congrArg some (by kernel_rfl))
 f283 := Tryz.func145.trans (congrArg some (by kernel_rfl))
 f284 := Tryz.func146.trans (congrArg some (by kernel_rfl))
 f285 := Tryz.func147.trans (congrArg some (by kernel_rfl))
 f286 := Tryz.func148.trans (congrArg some (by kernel_rfl))
 f317 := Tryz.func168.trans (congrArg some (by kernel_rfl))
 f318 := Tryz.func170.trans (congrArg some (by kernel_rfl))
 f319 := Tryz.func171.trans (congrArg some (by kernel_rfl))
 f320 := Tryz.func172.trans (congrArg some (by kernel_rfl))
 f337 := Tryz.func205.trans (congrArg some (by kernel_rfl))
 f338 := Tryz.func206.trans (congrArg some (by kernel_rfl))
 t0 := Tryz.underlying0
 a0 := Tryz.isAgg0
 z0 := Tryz.sizeOf0
 v0 := Tryz.zeroValue0
 t2 := Tryz.underlying2
 a2 := Tryz.isAgg2
 z2 := Tryz.sizeOf2
 v2 := Tryz.zeroValue2
 t3 := Tryz.underlying3
 a3 := Tryz.isAgg3
 z3 := Tryz.sizeOf3
 v3 := Tryz.zeroValue3
 t4 := Tryz.underlying4
 a4 := Tryz.isAgg4
 z4 := Tryz.sizeOf4
 v4 := Tryz.zeroValue4
 t5 := Tryz.underlying5
 a5 := Tryz.isAgg5
 z5 := Tryz.sizeOf5
 v5 := Tryz.zeroValue5
 t9 := Tryz.underlying9
 a9 := Tryz.isAgg9
 z9 := Tryz.sizeOf9
 v9 := Tryz.zeroValue9
 t20 := Tryz.underlying20
 a20 := Tryz.isAgg20
 z20 := Tryz.sizeOf20
 v20 := Tryz.zeroValue20
 t37 := Tryz.underlying99
 a37 := Tryz.isAgg99
 z37 := Tryz.sizeOf99
 v37 := Tryz.zeroValue99
 t46 := Tryz.underlying193
 a46 := Tryz.isAgg193
 z46 := Tryz.sizeOf193
 v46 := Tryz.zeroValue193
 t51 := Tryz.underlying201
 a51 := Tryz.isAgg201
 z51 := Tryz.sizeOf201
 v51 := Tryz.zeroValue201
 t53 := Tryz.underlying180
 a53 := Tryz.isAgg180
 z53 := Tryz.sizeOf180
 v53 := Tryz.zeroValue180
 t171 := Tryz.underlying179
 a171 := Tryz.isAgg179
 z171 := Tryz.sizeOf179
 v171 := Tryz.zeroValue179
 t173 := Tryz.underlying183
 a173 := Tryz.isAgg183
 z173 := Tryz.sizeOf183
 v173 := Tryz.zeroValue183
 t212 := Tryz.underlying200
 a212 := Tryz.isAgg200
 z212 := Tryz.sizeOf200
 v212 := Tryz.zeroValue200
 t213 := Tryz.underlying202
 a213 := Tryz.isAgg202
 z213 := Tryz.sizeOf202
 t232 := Tryz.underlying247
 a232 := Tryz.isAgg247
 z232 := Tryz.sizeOf247
 v232 := Tryz.zeroValue247
 t233 := Tryz.underlying248
 a233 := Tryz.isAgg248
 z233 := Tryz.sizeOf248
 v233 := Tryz.zeroValue248
 g17 := by kernel_rfl
 g18 := by kernel_rfl
 g19 := by kernel_rfl
 i0 := by kernel_rfl
 i2 := by kernel_rfl
 i3 := by kernel_rfl
 i4 := by kernel_rfl
 i5 := by kernel_rfl
 i9 := by kernel_rfl
 i20 := by kernel_rfl
 i37 := by kernel_rfl
 i46 := by kernel_rfl
 i51 := by kernel_rfl
 i53 := by kernel_rfl
 i171 := by kernel_rfl
 i173 := by kernel_rfl
 i212 := by kernel_rfl
 i232 := by kernel_rfl
 i233 := by kernel_rfl
 m17 := by kernel_rfl
 m18 := by kernel_rfl
 m19 := by kernel_rfl }
open Go.RowKit Go.Sort Go.Lib in
/-- strconv.FormatInt: "FormatInt returns the string representation of i in the given base": AT BASE 10: i's decimal numeral, for every int64. (LAID: no walk: one application.) -/
theorem Tryz.strconv_FormatInt_10 (n : Int) (h0 : -9223372036854775808 ≤ n) (h1 : n ≤ 9223372036854775807) (w : World) (htab : Lib.TabIs Tryz.prog w "internal/strconv.uint64pow10" .u64 Lib.pow10Tab) :
  Calls Tryz.prog 66 #[.int .i64 n, .int .i64 10] w fun e w' => e = .returned (.string ⟨(Lib.itoa n).toArray⟩) ∧ ∃ k os, w' = grow (w.drewN k) os := Any.strconv_FormatInt_10 Tryz.laysM173 n h0 h1 w htab
def Tryz.laysC174_ren : Go.Shelf.Ren := ⟨fun | 174 => 152 | 247 => 185 | 245 => 186 | 287 => 212 | 279 => 213 | 280 => 214 | 281 => 215 | 282 => 216 | 321 => 233 | 322 => 234 | 316 => 235 | 171 => 63 | 205 => 236 | 243 => 104 | 246 => 105 | 283 => 145 | 284 => 146 | 285 => 147 | 286 => 148 | 129 => 169 | 317 => 168 | 318 => 170 | 319 => 171 | 320 => 172 | 337 => 205 | 338 => 206 | n => n, fun | 9 => 9 | 3 => 3 | 2 => 2 | 75 => 103 | 85 => 186 | 4 => 4 | 167 => 230 | 5 => 5 | 53 => 180 | 175 => 231 | 46 => 193 | 168 => 233 | 37 => 99 | 0 => 0 | 210 => 252 | 21 => 21 | 127 => 151 | 145 => 266 | 143 => 264 | 171 => 179 | 173 => 183 | 212 => 200 | 51 => 201 | 20 => 20 | 213 => 202 | 232 => 247 | 233 => 248 | 80 => 78 | n => n, fun | 15 => 4 | 16 => 5 | 17 => 0 | 18 => 2 | 19 => 3 | n => n⟩
theorem Tryz.laysC174 : Go.Proofs.LaysC.n174 Tryz.prog Tryz.laysC174_ren := {
 mixed := by kernel_rfl
 f129 := Tryz.func169.trans (congrArg some (by kernel_rfl))
 f171 := Tryz.func63.trans (congrArg some (by kernel_rfl))
 f174 := Tryz.func152.trans (congrArg some (by kernel_rfl))
 f205 := Tryz.func236.trans (congrArg some (by kernel_rfl))
 f243 := Tryz.func104.trans (congrArg some (by kernel_rfl))
 f245 := Tryz.func186.trans (congrArg some (by kernel_rfl))
 f246 := Tryz.func105.trans (congrArg some (by kernel_rfl))
 f247 := Tryz.func185.trans (congrArg some (by kernel_rfl))
 f279 := Tryz.func213.trans (congrArg some (by kernel_rfl))
 f280 := Tryz.func214.trans (congrArg some (by kernel_rfl))
 f281 := Tryz.func215.trans (congrArg some (by kernel_rfl))
 f282 := Tryz.func216.trans (congrArg some (by kernel_rfl))
 f283 := Tryz.func145.trans (congrArg some (by kernel_rfl))
 f284 := Tryz.func146.trans (congrArg some (by kernel_rfl))
 f285 := Tryz.func147.trans (congrArg some (by kernel_rfl))
 f286 := Tryz.func148.trans (congrArg some (by kernel_rfl))
 f287 := Tryz.func212.trans (congrArg some (by kernel_rfl))
 f316 := Tryz.func235.trans (congrArg some (by kernel_rfl))
 f317 := Tryz.func168.trans (congrArg some (by kernel_rfl))
 f318 := Tryz.func170.trans (congrArg some (by kernel_rfl))
 f319 := Tryz.func171.trans (congrArg some (by kernel_rfl))
 f320 := Tryz.func172.trans (congrArg some (by kernel_rfl))
 f321 := Tryz.func233.trans (congrArg some (by kernel_rfl))
 f322 := Tryz.func234.trans (congrArg some (by kernel_rfl))
 f337 := Tryz.func205.trans (congrArg some (by kernel_rfl))
 f338 := Tryz.func206.trans (congrArg some (by kernel_rfl))
 t0 := Tryz.underlying0
 a0 := Tryz.isAgg0
 z0 := Tryz.sizeOf0
 v0 := Tryz.zeroValue0
 t2 := Tryz.underlying2
 a2 := Tryz.isAgg2
 z2 := Tryz.sizeOf2
 v2 := Tryz.zeroValue2
 t3 := Tryz.underlying3
 a3 := Tryz.isAgg3
 z3 := Tryz.sizeOf3
 v3 := Tryz.zeroValue3
 t4 := Tryz.underlying4
 a4 := Tryz.isAgg4
 z4 := Tryz.sizeOf4
 v4 := Tryz.zeroValue4
 t5 := Tryz.underlying5
 a5 := Tryz.isAgg5
 z5 := Tryz.sizeOf5
 v5 := Tryz.zeroValue5
 t9 := Tryz.underlying9
 a9 := Tryz.isAgg9
 z9 := Tryz.sizeOf9
 v9 := Tryz.zeroValue9
 t20 := Tryz.underlying20
 a20 := Tryz.isAgg20
 z20 := Tryz.sizeOf20
 v20 := Tryz.zeroValue20
 t21 := Tryz.underlying21
 a21 := Tryz.isAgg21
 z21 := Tryz.sizeOf21
 v21 := Tryz.zeroValue21
 t37 := Tryz.underlying99
 a37 := Tryz.isAgg99
 z37 := Tryz.sizeOf99
 v37 := Tryz.zeroValue99
 t46 := Tryz.underlying193
 a46 := Tryz.isAgg193
 z46 := Tryz.sizeOf193
 v46 := Tryz.zeroValue193
 t51 := Tryz.underlying201
 a51 := Tryz.isAgg201
 z51 := Tryz.sizeOf201
 v51 := Tryz.zeroValue201
 t53 := Tryz.underlying180
 a53 := Tryz.isAgg180
 z53 := Tryz.sizeOf180
 v53 := Tryz.zeroValue180
 t75 := Tryz.underlying103
 a75 := Tryz.isAgg103
 z75 := Tryz.sizeOf103
 v75 := Tryz.zeroValue103
 t85 := Tryz.underlying186
 a85 := Tryz.isAgg186
 z85 := Tryz.sizeOf186
 v85 := Tryz.zeroValue186
 t127 := Tryz.underlying151
 a127 := Tryz.isAgg151
 z127 := Tryz.sizeOf151
 v127 := Tryz.zeroValue151
 t143 := Tryz.underlying264
 a143 := Tryz.isAgg264
 z143 := Tryz.sizeOf264
 v143 := Tryz.zeroValue264
 t145 := Tryz.underlying266
 a145 := Tryz.isAgg266
 z145 := Tryz.sizeOf266
 v145 := Tryz.zeroValue266
 t167 := Tryz.underlying230
 a167 := Tryz.isAgg230
 z167 := Tryz.sizeOf230
 v167 := Tryz.zeroValue230
 t168 := Tryz.underlying233
 a168 := Tryz.isAgg233
 z168 := Tryz.sizeOf233
 v168 := Tryz.zeroValue233
 t171 := Tryz.underlying179
 a171 := Tryz.isAgg179
 z171 := Tryz.sizeOf179
 v171 := Tryz.zeroValue179
 t173 := Tryz.underlying183
 a173 := Tryz.isAgg183
 z173 := Tryz.sizeOf183
 v173 := Tryz.zeroValue183
 t175 := Tryz.underlying231
 a175 := Tryz.isAgg231
 z175 := Tryz.sizeOf231
 v175 := Tryz.zeroValue231
 t210 := Tryz.underlying252
 a210 := Tryz.isAgg252
 z210 := Tryz.sizeOf252
 v210 := Tryz.zeroValue252
 t212 := Tryz.underlying200
 a212 := Tryz.isAgg200
 z212 := Tryz.sizeOf200
 v212 := Tryz.zeroValue200
 t213 := Tryz.underlying202
 a213 := Tryz.isAgg202
 z213 := Tryz.sizeOf202
 t232 := Tryz.underlying247
 a232 := Tryz.isAgg247
 z232 := Tryz.sizeOf247
 v232 := Tryz.zeroValue247
 t233 := Tryz.underlying248
 a233 := Tryz.isAgg248
 z233 := Tryz.sizeOf248
 v233 := Tryz.zeroValue248
 g15 := by kernel_rfl
 g16 := by kernel_rfl
 g17 := by kernel_rfl
 g18 := by kernel_rfl
 g19 := by kernel_rfl
 t80 := Tryz.underlying78
 a80 := Tryz.isAgg78
 z80 := Tryz.sizeOf78
 v80 := Tryz.zeroValue78
 i0 := by kernel_rfl
 i2 := by kernel_rfl
 i3 := by kernel_rfl
 i4 := by kernel_rfl
 i5 := by kernel_rfl
 i9 := by kernel_rfl
 i20 := by kernel_rfl
 i21 := by kernel_rfl
 i37 := by kernel_rfl
 i46 := by kernel_rfl
 i51 := by kernel_rfl
 i53 := by kernel_rfl
 i75 := by kernel_rfl
 i80 := by kernel_rfl
 i85 := by kernel_rfl
 i127 := by kernel_rfl
 i143 := by kernel_rfl
 i145 := by kernel_rfl
 i167 := by kernel_rfl
 i168 := by kernel_rfl
 i171 := by kernel_rfl
 i173 := by kernel_rfl
 i175 := by kernel_rfl
 i210 := by kernel_rfl
 i212 := by kernel_rfl
 i232 := by kernel_rfl
 i233 := by kernel_rfl
 m15 := by kernel_rfl
 m16 := by kernel_rfl
 m17 := by kernel_rfl
 m18 := by kernel_rfl
 m19 := by kernel_rfl
 c0 := by kernel_rfl
 c2 := by kernel_rfl
 c3 := by kernel_rfl
 c4 := by kernel_rfl
 c5 := by kernel_rfl
 c9 := by kernel_rfl
 c20 := by kernel_rfl
 c21 := by kernel_rfl
 c37 := by kernel_rfl
 c46 := by kernel_rfl
 c51 := by kernel_rfl
 c53 := by kernel_rfl
 c75 := by kernel_rfl
 c80 := by kernel_rfl
 c85 := by kernel_rfl
 c127 := by kernel_rfl
 c143 := by kernel_rfl
 c145 := by kernel_rfl
 c167 := by kernel_rfl
 c168 := by kernel_rfl
 c171 := by kernel_rfl
 c173 := by kernel_rfl
 c175 := by kernel_rfl
 c210 := by kernel_rfl
 c212 := by kernel_rfl
 c213 := by kernel_rfl
 c232 := by kernel_rfl
 c233 := by kernel_rfl }
open Go.RowKit in
/-- strconv.ParseInt(s, 10, 64), AT EVERY STRING THAT SPELLS AN int64 ('Lib.parseIntB 64 s.data.toList = .ok v'): v, AND NO ERROR. (LAID: no walk: one application.) -/
theorem Tryz.strconv_ParseInt_10_at64_ok (s : ByteArray) (hmax : s.size ≤ 9223372036854775806) (v : Int) (h : Lib.parseIntB 64 s.data.toList = .ok v) (w : World) :
  Calls Tryz.prog 152 #[.string s, .int .i64 10, .int .i64 64] w fun e w' => e = .returned (.tuple #[.int .i64 v, .nilIface]) ∧ (w' = w ∨ ∃ t, w' = Lib.bytesWorld w 5 t) := Any.strconv_ParseInt_10_at64_ok Tryz.laysC174 s hmax v h w
def Tryz.lays145_ren : Go.Shelf.Ren := ⟨fun | 145 => 69 | 220 => 107 | 219 => 150 | 217 => 174 | 225 => 175 | 224 => 176 | 267 => 177 | 266 => 207 | 314 => 208 | n => n, fun | 9 => 9 | 4 => 4 | 59 => 112 | 3 => 3 | 5 => 5 | 46 => 193 | 146 => 227 | 51 => 201 | n => n, fun | 1 => 1 | n => n⟩
theorem Tryz.lays145 : Go.Proofs.Lays.n145 Tryz.prog Tryz.lays145_ren := {
 mixed := by kernel_rfl
 f145 := Tryz.func69.trans (congrArg some (by kernel_rfl))
 f217 := Tryz.func174.trans (congrArg some (by kernel_rfl))
 f219 := Tryz.func150.trans (congrArg some (by kernel_rfl))
 f220 := Tryz.func107.trans (congrArg some (by kernel_rfl))
 f224 := Tryz.func176.trans (congrArg some (by kernel_rfl))
 f225 := Tryz.func175.trans (congrArg some (by kernel_rfl))
 f266 := Tryz.func207.trans (congrArg some (by kernel_rfl))
 f267 := Tryz.func177.trans (congrArg some (by kernel_rfl))
 f314 := Tryz.func208.trans (congrArg some (by kernel_rfl))
 t3 := Tryz.underlying3
 a3 := Tryz.isAgg3
 z3 := Tryz.sizeOf3
 v3 := Tryz.zeroValue3
 t4 := Tryz.underlying4
 a4 := Tryz.isAgg4
 z4 := Tryz.sizeOf4
 v4 := Tryz.zeroValue4
 t5 := Tryz.underlying5
 a5 := Tryz.isAgg5
 z5 := Tryz.sizeOf5
 v5 := Tryz.zeroValue5
 t9 := Tryz.underlying9
 a9 := Tryz.isAgg9
 z9 := Tryz.sizeOf9
 v9 := Tryz.zeroValue9
 t46 := Tryz.underlying193
 a46 := Tryz.isAgg193
 z46 := Tryz.sizeOf193
 v46 := Tryz.zeroValue193
 t51 := Tryz.underlying201
 a51 := Tryz.isAgg201
 z51 := Tryz.sizeOf201
 v51 := Tryz.zeroValue201
 t59 := Tryz.underlying112
 a59 := Tryz.isAgg112
 z59 := Tryz.sizeOf112
 v59 := Tryz.zeroValue112
 t146 := Tryz.underlying227
 a146 := Tryz.isAgg227
 z146 := Tryz.sizeOf227
 v146 := Tryz.zeroValue227
 g1 := by kernel_rfl }
open Go.RowKit Go.Lib in
/-- strings.Cut: "Cut slices s around the first instance of sep, returning the text before and after sep. The found result reports whether sep appears in s. If sep does not appear in s, cut returns s, "", false.": IT RETURNS 'Lib.cut s sep'; the world is as it was but for the count of draws. (LAID: no walk: one application.) -/
theorem Tryz.strings_Cut (s sep : ByteArray) (m : Int) (w : World) (hs : s.size < 4294967281) (hm : w.cell? ⟨1, 0, none⟩ = some (.int .i64 m)) :
  Calls Tryz.prog 69 #[.string s, .string sep] w fun e w' => e = .returned (.tuple #[.string ⟨(Lib.cut s.data.toList sep.data.toList).1.toArray⟩, .string ⟨(Lib.cut s.data.toList sep.data.toList).2.1.toArray⟩, .bool (Lib.cut s.data.toList sep.data.toList).2.2]) ∧ ∃ n, w' = w.drewN n := Any.strings_Cut Tryz.lays145 s sep m w hs hm
def Tryz.lays101_ren : Go.Shelf.Ren := ⟨fun | 101 => 110 | 208 => 153 | 206 => 187 | n => n, fun | 9 => 9 | 4 => 4 | 3 => 3 | n => n, fun | n => n⟩
theorem Tryz.lays101 : Go.Proofs.Lays.n101 Tryz.prog Tryz.lays101_ren := {
 mixed := by kernel_rfl
 f101 := Tryz.func110.trans (congrArg some (by kernel_rfl))
 f206 := Tryz.func187.trans (congrArg some (by kernel_rfl))
 f208 := Tryz.func153.trans (congrArg some (by kernel_rfl))
 t3 := Tryz.underlying3
 a3 := Tryz.isAgg3
 z3 := Tryz.sizeOf3
 v3 := Tryz.zeroValue3
 t4 := Tryz.underlying4
 a4 := Tryz.isAgg4
 z4 := Tryz.sizeOf4
 v4 := Tryz.zeroValue4
 t9 := Tryz.underlying9
 a9 := Tryz.isAgg9
 z9 := Tryz.sizeOf9
 v9 := Tryz.zeroValue9 }
open Go.RowKit Go.Lib in
/-- strings.TrimPrefix: "TrimPrefix returns s without the provided leading prefix string. If s doesn't start with prefix, s is returned unchanged.": IT RETURNS 'Lib.trimPrefix s prefix'; the world is as it was. (LAID: no walk: one application.) -/
theorem Tryz.strings_TrimPrefix (s p : ByteArray) (w : World) :
  Calls Tryz.prog 110 #[.string s, .string p] w fun e w' => e = .returned (.string ⟨(Lib.trimPrefix s.data.toList p.data.toList).toArray⟩) ∧ w' = w := Any.strings_TrimPrefix Tryz.lays101 s p w
def Tryz.lays146_ren : Go.Shelf.Ren := ⟨fun | 146 => 71 | 221 => 111 | 268 => 154 | 138 => 155 | 143 => 156 | 195 => 188 | 197 => 189 | 218 => 190 | 219 => 150 | 260 => 217 | 217 => 174 | 225 => 175 | 224 => 176 | 267 => 177 | 266 => 207 | 314 => 208 | n => n, fun | 9 => 9 | 31 => 75 | 3 => 3 | 4 => 4 | 0 => 0 | 105 => 214 | 21 => 21 | 5 => 5 | 46 => 193 | 119 => 254 | 139 => 257 | 138 => 256 | 146 => 227 | 51 => 201 | n => n, fun | 1 => 1 | 3 => 6 | 4 => 7 | n => n⟩
theorem Tryz.lays146 : Go.Proofs.Lays.n146 Tryz.prog Tryz.lays146_ren := {
 mixed := by kernel_rfl
 f138 := Tryz.func155.trans (congrArg some (by kernel_rfl))
 f143 := Tryz.func156.trans (congrArg some (by kernel_rfl))
 f146 := Tryz.func71.trans (congrArg some (by kernel_rfl))
 f195 := Tryz.func188.trans (congrArg some (by kernel_rfl))
 f197 := Tryz.func189.trans (congrArg some (by kernel_rfl))
 f217 := Tryz.func174.trans (congrArg some (by kernel_rfl))
 f218 := Tryz.func190.trans (congrArg some (by kernel_rfl))
 f219 := Tryz.func150.trans (congrArg some (by kernel_rfl))
 f221 := Tryz.func111.trans (congrArg some (by kernel_rfl))
 f224 := Tryz.func176.trans (congrArg some (by kernel_rfl))
 f225 := Tryz.func175.trans (congrArg some (by kernel_rfl))
 f260 := Tryz.func217.trans (congrArg some (by kernel_rfl))
 f266 := Tryz.func207.trans (congrArg some (by kernel_rfl))
 f267 := Tryz.func177.trans (congrArg some (by kernel_rfl))
 f268 := Tryz.func154.trans (congrArg some (by kernel_rfl))
 f314 := Tryz.func208.trans (congrArg some (by kernel_rfl))
 t0 := Tryz.underlying0
 a0 := Tryz.isAgg0
 z0 := Tryz.sizeOf0
 v0 := Tryz.zeroValue0
 t3 := Tryz.underlying3
 a3 := Tryz.isAgg3
 z3 := Tryz.sizeOf3
 v3 := Tryz.zeroValue3
 t4 := Tryz.underlying4
 a4 := Tryz.isAgg4
 z4 := Tryz.sizeOf4
 v4 := Tryz.zeroValue4
 t5 := Tryz.underlying5
 a5 := Tryz.isAgg5
 z5 := Tryz.sizeOf5
 v5 := Tryz.zeroValue5
 t9 := Tryz.underlying9
 a9 := Tryz.isAgg9
 z9 := Tryz.sizeOf9
 v9 := Tryz.zeroValue9
 t21 := Tryz.underlying21
 a21 := Tryz.isAgg21
 z21 := Tryz.sizeOf21
 v21 := Tryz.zeroValue21
 t31 := Tryz.underlying75
 a31 := Tryz.isAgg75
 z31 := Tryz.sizeOf75
 v31 := Tryz.zeroValue75
 t46 := Tryz.underlying193
 a46 := Tryz.isAgg193
 z46 := Tryz.sizeOf193
 v46 := Tryz.zeroValue193
 t51 := Tryz.underlying201
 a51 := Tryz.isAgg201
 z51 := Tryz.sizeOf201
 v51 := Tryz.zeroValue201
 t105 := Tryz.underlying214
 a105 := Tryz.isAgg214
 z105 := Tryz.sizeOf214
 v105 := Tryz.zeroValue214
 t119 := Tryz.underlying254
 a119 := Tryz.isAgg254
 z119 := Tryz.sizeOf254
 t138 := Tryz.underlying256
 a138 := Tryz.isAgg256
 z138 := Tryz.sizeOf256
 v138 := Tryz.zeroValue256
 t139 := Tryz.underlying257
 a139 := Tryz.isAgg257
 z139 := Tryz.sizeOf257
 v139 := Tryz.zeroValue257
 t146 := Tryz.underlying227
 a146 := Tryz.isAgg227
 z146 := Tryz.sizeOf227
 v146 := Tryz.zeroValue227
 g1 := by kernel_rfl
 g3 := by kernel_rfl
 g4 := by kernel_rfl }
open Go.RowKit Go.Lib in
/-- strings.Split. (LAID: no walk: one application.) -/
theorem Tryz.strings_Split (s sep : ByteArray) (m : Int) (w : World) (hs : s.size < 4294967281) (hm : w.cell? ⟨1, 0, none⟩ = some (.int .i64 m)) (h1 : 1 ≤ sep.size) :
  Calls Tryz.prog 71 #[.string s, .string sep] w fun e w' =>
   e = .returned (.slice (some ⟨w.heap.size, 0, none⟩) (Lib.countB s sep + 1) (Lib.countB s sep + 1)) ∧ w' = w.alloc (.cells ((Lib.splitB sep 0 (Lib.countB s sep) s).map Value.string).toArray 9) := Any.strings_Split Tryz.lays146 (by kernel_rfl) s sep m w hs hm h1
def Tryz.laysSlM5_f125_ren : Go.Shelf.Ren := ⟨fun | 5 => 125 | 8 => 161 | 7 => 160 | 19 => 200 | 20 => 169 | 10 => 191 | 11 => 192 | 12 => 193 | 13 => 194 | 14 => 195 | 15 => 196 | 16 => 197 | 17 => 198 | 18 => 199 | 30 => 218 | 31 => 219 | 32 => 220 | 33 => 221 | 34 => 222 | 35 => 202 | 40 => 237 | n => n, fun | 23 => 48 | 25 => 2 | 3 => 3 | 32 => 193 | 22 => 48 | 0 => 0 | 44 => 201 | 46 => 180 | 4 => 4 | 36 => 218 | 35 => 217 | 41 => 223 | 5 => 5 | 9 => 9 | 53 => 236 | 57 => 240 | 63 => 258 | 64 => 259 | n => n, fun | n => n⟩
theorem Tryz.laysSlM5_f125 : Go.Proofs.SlLaysM.n5 Tryz.prog Tryz.laysSlM5_f125_ren := {
 mixed := by kernel_rfl
 f5 := ⟨Tryz.f125.name, by decide, Tryz.func125.trans (congrArg some (by kernel_rfl))⟩
 f7 := ⟨Tryz.f160.name, by decide, Tryz.func160.trans (congrArg some (by kernel_rfl))⟩
 f8 := Tryz.func161.trans (congrArg some (by kernel_rfl))
 f10 := ⟨Tryz.f191.name, by decide, Tryz.func191.trans (congrArg some (by kernel_rfl))⟩
 f11 := ⟨Tryz.f192.name, by decide, Tryz.func192.trans (congrArg some (by kernel_rfl))⟩
 f12 := ⟨Tryz.f193.name, by decide, Tryz.func193.trans (congrArg some (by kernel_rfl))⟩
 f13 := ⟨Tryz.f194.name, by decide, Tryz.func194.trans (congrArg some (by kernel_rfl))⟩
 f14 := ⟨Tryz.f195.name, by decide, Tryz.func195.trans (congrArg some (by kernel_rfl))⟩
 f15 := ⟨Tryz.f196.name, by decide, Tryz.func196.trans (congrArg some (by kernel_rfl))⟩
 f16 := ⟨Tryz.f197.name, by decide, Tryz.func197.trans (congrArg some (by kernel_rfl))⟩
 f17 := ⟨Tryz.f198.name, by decide, Tryz.func198.trans (congrArg some (by kernel_rfl))⟩
 f18 := ⟨Tryz.f199.name, by decide, Tryz.func199.trans (congrArg some (by kernel_rfl))⟩
 f19 := Tryz.func200.trans (congrArg some (by kernel_rfl))
 f20 := Tryz.func169.trans (congrArg some (by kernel_rfl))
 f30 := ⟨Tryz.f218.name, by decide, Tryz.func218.trans (congrArg some (by kernel_rfl))⟩
 f31 := Tryz.func219.trans (congrArg some (by kernel_rfl))
 f32 := Tryz.func220.trans (congrArg some (by kernel_rfl))
 f33 := ⟨Tryz.f221.name, by decide, Tryz.func221.trans (congrArg some (by kernel_rfl))⟩
 f34 := ⟨Tryz.f222.name, by decide, Tryz.func222.trans (congrArg some (by kernel_rfl))⟩
 f35 := ⟨Tryz.f202.name, by decide, Tryz.func202.trans (congrArg some (by kernel_rfl))⟩
 f40 := ⟨Tryz.f237.name, by decide, Tryz.func237.trans (congrArg some (by kernel_rfl))⟩
 t0 := Tryz.underlying0
 a0 := Tryz.isAgg0
 z0 := Tryz.sizeOf0
 v0 := Tryz.zeroValue0
 t3 := Tryz.underlying3
 a3 := Tryz.isAgg3
 z3 := Tryz.sizeOf3
 v3 := Tryz.zeroValue3
 t4 := Tryz.underlying4
 a4 := Tryz.isAgg4
 z4 := Tryz.sizeOf4
 v4 := Tryz.zeroValue4
 t5 := Tryz.underlying5
 a5 := Tryz.isAgg5
 z5 := Tryz.sizeOf5
 v5 := Tryz.zeroValue5
 t9 := Tryz.underlying9
 a9 := Tryz.isAgg9
 z9 := Tryz.sizeOf9
 v9 := Tryz.zeroValue9
 t22 := Tryz.underlying48
 a22 := Tryz.isAgg48
 z22 := Tryz.sizeOf48
 v22 := Tryz.zeroValue48
 t23 := Tryz.underlying48
 a23 := Tryz.isAgg48
 z23 := Tryz.sizeOf48
 v23 := Tryz.zeroValue48
 t25 := Tryz.underlying2
 a25 := Tryz.isAgg2
 z25 := Tryz.sizeOf2
 v25 := Tryz.zeroValue2
 t32 := Tryz.underlying193
 a32 := Tryz.isAgg193
 z32 := Tryz.sizeOf193
 v32 := Tryz.zeroValue193
 t35 := Tryz.underlying217
 a35 := Tryz.isAgg217
 z35 := Tryz.sizeOf217
 v35 := Tryz.zeroValue217
 t36 := Tryz.underlying218
 a36 := Tryz.isAgg218
 z36 := Tryz.sizeOf218
 v36 := Tryz.zeroValue218
 t41 := Tryz.underlying223
 a41 := Tryz.isAgg223
 z41 := Tryz.sizeOf223
 v41 := Tryz.zeroValue223
 t44 := Tryz.underlying201
 a44 := Tryz.isAgg201
 z44 := Tryz.sizeOf201
 v44 := Tryz.zeroValue201
 t46 := Tryz.underlying180
 a46 := Tryz.isAgg180
 z46 := Tryz.sizeOf180
 v46 := Tryz.zeroValue180
 t53 := Tryz.underlying236
 a53 := Tryz.isAgg236
 z53 := Tryz.sizeOf236
 v53 := Tryz.zeroValue236
 t57 := Tryz.underlying240
 a57 := Tryz.isAgg240
 z57 := Tryz.sizeOf240
 v57 := Tryz.zeroValue240
 t63 := Tryz.underlying258
 a63 := Tryz.isAgg258
 z63 := Tryz.sizeOf258
 v63 := Tryz.zeroValue258
 t64 := Tryz.underlying259
 a64 := Tryz.isAgg259
 z64 := Tryz.sizeOf259
 v64 := Tryz.zeroValue259 }
open Go.Sort Go.RowKit in
theorem Tryz.slices_Sort_int (blk off cap : Nat) (zs : List Int) (w : World) (hH : Holds (Value.int .i64) w blk off zs.toArray) (hblk : blk < w.heap.size) (hsz : zs.length < 4611686018427387904) :
  Calls Tryz.prog 125 #[.slice (some ⟨blk, off, none⟩) zs.length cap] w fun e w' =>
   e = .returned (.tuple #[]) ∧ ∃ n os, w' = grow (putRow (Value.int .i64) (Sort.ahead w n) blk off (zs.mergeSort fun x y => decide (x ≤ y)).toArray) os := AnyM.slices_Sort_int Tryz.laysSlM5_f125 blk off cap zs w hH hblk hsz
open Go.RowKit Go.Sort in
/-- .. and plain. (LAID AT THE INSTANCE 'slices.Sort[[]int64,int64]': no walk: one application.) -/
theorem Tryz.slices_Sort_int_none (p : Option Addr) (cap : Nat) (w : World) :
  Calls Tryz.prog 125 #[.slice p 0 cap] w fun e w' => e = .returned (.tuple #[]) ∧ w' = w := AnyM.slices_Sort_int_none Tryz.laysSlM5_f125 p cap w
def Tryz.sortOw_ren : Go.Shelf.Ren := ⟨fun | 6 => 163 | 15 => 161 | 14 => 201 | 28 => 200 | 29 => 169 | 20 => 223 | 21 => 224 | 22 => 225 | 23 => 226 | 24 => 227 | 25 => 228 | 26 => 229 | 27 => 230 | 46 => 238 | 47 => 219 | 48 => 220 | 49 => 239 | 50 => 240 | 57 => 243 | n => n, fun | 22 => 23 | 24 => 73 | 25 => 196 | 3 => 3 | 39 => 193 | 0 => 0 | 53 => 201 | 55 => 180 | 4 => 4 | 46 => 218 | 45 => 217 | 50 => 223 | 5 => 5 | 9 => 9 | 66 => 236 | 70 => 240 | 76 => 258 | 77 => 259 | n => n, fun | n => n⟩
theorem Tryz.sortOw : Go.Proofs.SlLaysF0.n6 Tryz.prog Tryz.sortOw_ren := {
 mixed := by kernel_rfl
 f6 := ⟨Tryz.f163.name, by decide, Tryz.func163.trans (congrArg some (by kernel_rfl))⟩
 f14 := ⟨Tryz.f201.name, by decide, Tryz.func201.trans (congrArg some (by kernel_rfl))⟩
 f15 := Tryz.func161.trans (congrArg some (by kernel_rfl))
 f20 := ⟨Tryz.f223.name, by decide, Tryz.func223.trans (congrArg some (by kernel_rfl))⟩
 f21 := ⟨Tryz.f224.name, by decide, Tryz.func224.trans (congrArg some (by kernel_rfl))⟩
 f22 := ⟨Tryz.f225.name, by decide, Tryz.func225.trans (congrArg some (by kernel_rfl))⟩
 f23 := ⟨Tryz.f226.name, by decide, Tryz.func226.trans (congrArg some (by kernel_rfl))⟩
 f24 := ⟨Tryz.f227.name, by decide, Tryz.func227.trans (congrArg some (by kernel_rfl))⟩
 f25 := ⟨Tryz.f228.name, by decide, Tryz.func228.trans (congrArg some (by kernel_rfl))⟩
 f26 := ⟨Tryz.f229.name, by decide, Tryz.func229.trans (congrArg some (by kernel_rfl))⟩
 f27 := ⟨Tryz.f230.name, by decide, Tryz.func230.trans (congrArg some (by kernel_rfl))⟩
 f28 := Tryz.func200.trans (congrArg some (by kernel_rfl))
 f29 := Tryz.func169.trans (congrArg some (by kernel_rfl))
 f46 := ⟨Tryz.f238.name, by decide, Tryz.func238.trans (congrArg some (by kernel_rfl))⟩
 f47 := Tryz.func219.trans (congrArg some (by kernel_rfl))
 f48 := Tryz.func220.trans (congrArg some (by kernel_rfl))
 f49 := ⟨Tryz.f239.name, by decide, Tryz.func239.trans (congrArg some (by kernel_rfl))⟩
 f50 := ⟨Tryz.f240.name, by decide, Tryz.func240.trans (congrArg some (by kernel_rfl))⟩
 f57 := ⟨Tryz.f243.name, by decide, Tryz.func243.trans (congrArg some (by kernel_rfl))⟩
 t0 := Tryz.underlying0
 a0 := Tryz.isAgg0
 z0 := Tryz.sizeOf0
 v0 := Tryz.zeroValue0
 t3 := Tryz.underlying3
 a3 := Tryz.isAgg3
 z3 := Tryz.sizeOf3
 v3 := Tryz.zeroValue3
 t4 := Tryz.underlying4
 a4 := Tryz.isAgg4
 z4 := Tryz.sizeOf4
 v4 := Tryz.zeroValue4
 t5 := Tryz.underlying5
 a5 := Tryz.isAgg5
 z5 := Tryz.sizeOf5
 v5 := Tryz.zeroValue5
 t9 := Tryz.underlying9
 a9 := Tryz.isAgg9
 z9 := Tryz.sizeOf9
 v9 := Tryz.zeroValue9
 t22 := Tryz.underlying23
 a22 := Tryz.isAgg23
 z22 := Tryz.sizeOf23
 v22 := Tryz.zeroValue23
 t25 := Tryz.underlying196
 a25 := Tryz.isAgg196
 z25 := Tryz.sizeOf196
 v25 := Tryz.zeroValue196
 t39 := Tryz.underlying193
 a39 := Tryz.isAgg193
 z39 := Tryz.sizeOf193
 v39 := Tryz.zeroValue193
 t45 := Tryz.underlying217
 a45 := Tryz.isAgg217
 z45 := Tryz.sizeOf217
 v45 := Tryz.zeroValue217
 t46 := Tryz.underlying218
 a46 := Tryz.isAgg218
 z46 := Tryz.sizeOf218
 v46 := Tryz.zeroValue218
 t50 := Tryz.underlying223
 a50 := Tryz.isAgg223
 z50 := Tryz.sizeOf223
 v50 := Tryz.zeroValue223
 t53 := Tryz.underlying201
 a53 := Tryz.isAgg201
 z53 := Tryz.sizeOf201
 v53 := Tryz.zeroValue201
 t55 := Tryz.underlying180
 a55 := Tryz.isAgg180
 z55 := Tryz.sizeOf180
 v55 := Tryz.zeroValue180
 t66 := Tryz.underlying236
 a66 := Tryz.isAgg236
 z66 := Tryz.sizeOf236
 v66 := Tryz.zeroValue236
 t70 := Tryz.underlying240
 a70 := Tryz.isAgg240
 z70 := Tryz.sizeOf240
 v70 := Tryz.zeroValue240
 t76 := Tryz.underlying258
 a76 := Tryz.isAgg258
 z76 := Tryz.sizeOf258
 v76 := Tryz.zeroValue258
 t77 := Tryz.underlying259
 a77 := Tryz.isAgg259
 z77 := Tryz.sizeOf259
 v77 := Tryz.zeroValue259 }
def Tryz.cmpInt_ren : Go.Shelf.Ren := ⟨fun | 5 => 165 | 7 => 202 | n => n, fun | 22 => 2 | 3 => 3 | 4 => 4 | n => n, fun | n => n⟩
theorem Tryz.cmpInt : Go.Proofs.SlLaysC2.n5 Tryz.prog Tryz.cmpInt_ren := {
 mixed := by kernel_rfl
 f5 := ⟨Tryz.f165.name, by decide, Tryz.func165.trans (congrArg some (by kernel_rfl))⟩
 f7 := ⟨Tryz.f202.name, by decide, Tryz.func202.trans (congrArg some (by kernel_rfl))⟩
 t3 := Tryz.underlying3
 a3 := Tryz.isAgg3
 z3 := Tryz.sizeOf3
 v3 := Tryz.zeroValue3
 t4 := Tryz.underlying4
 a4 := Tryz.isAgg4
 z4 := Tryz.sizeOf4
 v4 := Tryz.zeroValue4
 t22 := Tryz.underlying2
 a22 := Tryz.isAgg2
 z22 := Tryz.sizeOf2
 v22 := Tryz.zeroValue2 }
end Go.Proofs
/- Whose marks can be worn to what is seen: a map, ranges over it, a sort. -/
namespace Go.Proofs.YtcnpbcgkhhebaaaGreatDoor
open Go.RowKit Go.Sort

theorem take_put {α : Type} (enc : α → Value) (cur : Array Value) (ts : List α) (h : ts.length ≤ cur.size) [Inhabited α] : (putCells enc 0 ts.toArray cur).toList.take ts.length = ts.map enc := by
 apply List.ext_getElem?
 intro j
 by_cases hj : j < ts.length
 ·rw [List.getElem?_take_of_lt hj, Array.getElem?_toList]
  simp [putCells, hj, show j < cur.size by omega]
 ·rw [List.getElem?_take_eq_none (by omega), List.getElem?_eq_none (by simp; omega)]

theorem flat_I (xs : List Int) : xs.flatMap eI = xs.map (Value.int .i64) := by
 induction xs with
 | nil => rfl
 | cons x xs ih => rw [List.flatMap_cons, List.map_cons, ih]; rfl

def srt (xs : List Int) : List Int := xs.mergeSort fun x y => decide (x ≤ y)

/-- slices.Sort on a list of the call's own. -/
theorem sort_any (base : Nat) (v : Value) (xs : List Int) (w : World) (h : Own eI 2 1 base w v xs) (hn : xs.length ≤ 1000000) :
  Calls Tryz.prog 125 #[v] w fun e w' => e = .returned (.tuple #[]) ∧ Own eI 2 1 base w' v (srt xs) ∧ w.grownBy w' v.ownBlock := by
 have h0 := h
 obtain ⟨hl, h⟩ := h
 rcases h with ⟨rfl, hz⟩ | ⟨g, cap, cur, rfl, hb, hg, hc1, hc2, hs, ht⟩
 ·have : xs = [] := List.eq_nil_of_length_eq_zero hz
  subst this
  refine (Tryz.slices_Sort_int_none none 0 w).mono ?_
  rintro e w' ⟨rfl, rfl⟩
  exact ⟨rfl, by rw [show srt [] = [] from by simp [srt]]; exact h0, grown_of (Below.refl _ _) none⟩
 ·rw [flat_I, Nat.mul_one] at ht
  have hlt : g < w.heap.size := (Array.getElem?_eq_some_iff.1 hg).1
  have hH : Holds (Value.int .i64) w g 0 xs.toArray := by
   intro j hj
   have hj' : j < xs.length := by simpa using hj
   refine ⟨?_, by simp [World.frozen?, hg]⟩
   have h1 : (cur.toList.take xs.length)[j]? = (xs.map (Value.int .i64))[j]? := by rw [ht]
   rw [List.getElem?_take_of_lt hj'] at h1
   simp only [World.cell?, hg, Nat.zero_add]
   simp only [Option.isSome_none, Bool.false_eq_true, if_false]
   rw [← Array.getElem?_toList, h1]
   simp [hj']
  refine (Tryz.slices_Sort_int g 0 cap xs w hH hlt (by omega)).mono ?_
  rintro e w' ⟨rfl, n, os, rfl⟩
  have hsl : (srt xs).length = xs.length := by simp [srt]
  refine ⟨rfl, ⟨by rw [flat_len encI], .inr ⟨g, cap, putCells (Value.int .i64) 0 (srt xs).toArray cur, by rw [hsl], hb, ?_, by rw [hsl]; exact hc1, hc2, by simp [putCells, hs], ?_⟩⟩, ⟨rfl, rfl, rfl, by simp, fun k hk hne => ?_⟩⟩
  ·rw [heap_grow_old _ _ (by simpa using hlt)]
   simp [putRow, mapBlock, Sort.ahead, Array.getElem?_modify, hg, onCells, srt]
  ·rw [Nat.mul_one, flat_I, take_put _ _ _ (by omega)]
  ·rw [heap_grow_old _ _ (by simpa using hk)]
   have : g ≠ k := fun e => hne (by rw [← e]; rfl)
   simp [putRow, mapBlock, Sort.ahead, Array.getElem?_modify, this]

theorem putE_new {κ : Type} [DecidableEq κ] {k : κ} {v : Value} {l : List (κ × Value)} (h : ∀ p ∈ l, p.1 ≠ k) : putE k v l = l ++ [(k, v)] := by
 unfold putE
 rw [findE_none h]

def kv (x : Ow) : ByteArray × Value := (x.mark, .int .i64 x.num)
def vI (p : ByteArray × Value) : Int := match p.2 with | .int _ n => n | _ => 0
def wornS (os : List Ow) (seen : ByteArray) : List Int := (os.filter fun x => wearsB x.mark seen).map (·.num)
abbrev Rising (os : List Ow) : Prop := (os.map (·.num)).Pairwise (· < ·)
abbrev Marks (os : List Ow) : Prop := (os.map (·.mark)).Nodup

def hasK (todo : List (ByteArray × Value)) (k : ByteArray) : Bool := todo.any fun q => decide (q.1 = k)
theorem hasK_perm {todo todo' : List (ByteArray × Value)} {p : ByteArray × Value} (hp : todo.Perm (p :: todo')) (k : ByteArray) : hasK todo k = (decide (p.1 = k) || hasK todo' k) := by
 rw [Bool.eq_iff_iff]
 simp only [hasK, Bool.or_eq_true, List.any_eq_true, decide_eq_true_eq, hp.mem_iff, List.mem_cons]
 constructor
 ·rintro ⟨q, rfl | hq, e⟩
  ·exact .inl e
  ·exact .inr ⟨q, hq, e⟩
 ·rintro (e | ⟨q, hq, e⟩)
  ·exact ⟨p, .inl rfl, e⟩
  ·exact ⟨q, .inr hq, e⟩
def Left2 (os : List Ow) (seen : ByteArray) (todo : List (ByteArray × Value)) : List (ByteArray × Value) := (os.map kv).filter fun p => hasK todo p.1 || wearsB p.1 seen
theorem left2_start (os : List Ow) (seen : ByteArray) : os.map kv = Left2 os seen (os.map kv) := by
 unfold Left2
 rw [List.filter_eq_self.2]
 intro p hp
 have : hasK (os.map kv) p.1 = true := List.any_eq_true.2 ⟨p, hp, by simp⟩
 rw [this]; rfl
theorem left2_end (os : List Ow) (seen : ByteArray) : (Left2 os seen []).map vI = wornS os seen := by
 unfold Left2 wornS
 rw [List.filter_map, List.map_map]
 rfl
structure Todo (os : List Ow) (todo : List (ByteArray × Value)) : Prop where
 nodup : (todo.map (·.1)).Nodup
 mem : ∀ p ∈ todo, ∃ x ∈ os, p = kv x
theorem Todo.start {os : List Ow} (h : Marks os) : Todo os (os.map kv) := ⟨by rw [List.map_map]; exact h, fun p hp => by obtain ⟨x, hx, rfl⟩ := List.mem_map.1 hp; exact ⟨x, hx, rfl⟩⟩
theorem Todo.step {os : List Ow} {todo todo' : List (ByteArray × Value)} {p : ByteArray × Value} (h : Todo os todo) (hp : todo.Perm (p :: todo')) : Todo os todo' ∧ (∃ x ∈ os, p = kv x) ∧ (∀ q ∈ todo', q.1 ≠ p.1) ∧ todo'.length + 1 = todo.length := by
 have hn := (hp.map (·.1)).nodup_iff.1 h.nodup
 rw [List.map_cons, List.nodup_cons] at hn
 refine ⟨⟨hn.2, fun q hq => h.mem q (hp.mem_iff.2 (List.mem_cons_of_mem _ hq))⟩, h.mem p (hp.mem_iff.2 List.mem_cons_self), fun q hq e => hn.1 (e ▸ List.mem_map_of_mem hq), by rw [hp.length_eq, List.length_cons]⟩
theorem left2_yes {os : List Ow} {seen : ByteArray} {todo todo' : List (ByteArray × Value)} {p : ByteArray × Value} (hp : todo.Perm (p :: todo')) (hw : wearsB p.1 seen = true) : Left2 os seen todo = Left2 os seen todo' := by
 unfold Left2
 refine List.filter_congr fun x _ => ?_
 rw [hasK_perm hp]
 by_cases h1 : p.1 = x.1
 ·rw [← h1, hw]; simp
 ·simp [h1]
theorem left2_no {os : List Ow} {seen : ByteArray} {todo todo' : List (ByteArray × Value)} {p : ByteArray × Value} (h : Todo os todo) (hp : todo.Perm (p :: todo')) (hw : wearsB p.1 seen = false) : (Left2 os seen todo).filter (fun q => decide (q.1 ≠ p.1)) = Left2 os seen todo' := by
 unfold Left2
 rw [List.filter_filter]
 refine List.filter_congr fun x _ => ?_
 rw [hasK_perm hp]
 by_cases h1 : p.1 = x.1
 ·have hn : hasK todo' x.1 = false := by
   rw [← h1]
   refine List.any_eq_false.2 fun q hq => ?_
   simpa using (h.step hp).2.2.1 q hq
  rw [hn, ← h1, hw]; simp
 ·have h2 : decide (x.1 ≠ p.1) = true := decide_eq_true (Ne.symm h1)
  rw [h2]; simp [h1]
theorem left2_nodup {os : List Ow} (h : Marks os) (seen : ByteArray) (todo : List (ByteArray × Value)) : ((Left2 os seen todo).map (·.1)).Nodup := by
 unfold Left2
 refine List.Nodup.sublist (List.Sublist.map _ List.filter_sublist) ?_
 rw [List.map_map]; exact h
theorem left2_todo {os : List Ow} (h : Marks os) (seen : ByteArray) : Todo os (Left2 os seen []) := ⟨left2_nodup h seen [], fun p hp => by
 have := (List.mem_filter.1 hp).1
 obtain ⟨x, hx, rfl⟩ := List.mem_map.1 this
 exact ⟨x, hx, rfl⟩⟩
theorem left2_len (os : List Ow) (seen : ByteArray) (todo : List (ByteArray × Value)) : (Left2 os seen todo).length ≤ os.length := by
 unfold Left2
 exact Nat.le_trans (List.length_filter_le _ _) (by rw [List.length_map]; omega)

theorem worn_srt {os : List Ow} (h : Rising os) (seen : ByteArray) {xs : List Int} (hp : xs.Perm (wornS os seen)) : srt xs = wornS os seen := by
 have h2 : (wornS os seen).Pairwise (· < ·) := List.Pairwise.sublist (List.Sublist.map _ List.filter_sublist) h
 refine List.Perm.eq_of_pairwise (le := fun a b : Int => a ≤ b) (fun a b _ _ h1 h2 => Int.le_antisymm h1 h2) ?_ (h2.imp fun h => Int.le_of_lt h) ((List.mergeSort_perm _ _).trans hp)
 have := List.pairwise_mergeSort (le := fun x y : Int => decide (x ≤ y)) (fun a b c => by simp; omega) (fun a b => by simp; omega) xs
 unfold srt
 exact this.imp fun h => by simpa using h
theorem kB_inj (a c : ByteArray) (h : kB a = kB c) : a = c := by
 unfold kB at h
 injection h with h
 simpa using h
end Go.Proofs.YtcnpbcgkhhebaaaGreatDoor
/- The walk of worn. -/
namespace Go.Proofs.YtcnpbcgkhhebaaaGreatDoor
open Go.RowKit

theorem kv_take {os : List Ow} (h : Marks os) {k : Nat} (hk : k < os.length) : putE os[k].mark (.int .i64 os[k].num) ((os.take k).map kv) = (os.take (k + 1)).map kv := by
 rw [List.take_succ_eq_append_getElem hk, List.map_append, putE_new]
 ·rfl
 ·intro p hp e
  obtain ⟨x, hx, rfl⟩ := List.mem_map.1 hp
  obtain ⟨i, hi, rfl⟩ := List.getElem_of_mem hx
  rw [List.length_take] at hi
  rw [List.getElem_take] at e
  rw [Marks, List.Nodup, List.pairwise_iff_getElem] at h
  have := h i k (by simp; omega) (by simpa using hk) (by omega)
  simp only [List.getElem_map] at this
  exact this e

theorem Own.ne_rng {α κ : Type} [DecidableEq κ] {enc : α → List Value} {e sz base : Nat} {w : World} {v : Value} {xs : List α} {enc2 : κ → Value} {b r : Nat} {l todo : List (κ × Value)} (h : Own enc e sz base w v xs) (hr : RngB enc2 w b r l todo) : v.ownBlock ≠ some r ∧ v.ownBlock ≠ some b := by
 obtain ⟨es, clock, since, seen, c0, h1, _, _, _, _, _, h7, _⟩ := hr
 obtain ⟨_, ⟨rfl, _⟩ | ⟨g, cap, cur, rfl, _, hg, _⟩⟩ := h
 ·exact ⟨by simp [Value.ownBlock], by simp [Value.ownBlock]⟩
 ·constructor
  ·intro e
   simp only [Value.ownBlock, Option.some.injEq] at e
   subst e
   rw [hg] at h7
   cases h7
  ·intro e
   simp only [Value.ownBlock, Option.some.injEq] at e
   subst e
   rw [hg] at h1
   cases h1

set_option maxRecDepth 100000 in
set_option maxHeartbeats 1000000 in
theorem worn_any (seen : ByteArray) (ob oo : Nat) (A : Option Addr) (c : Nat) (os : List Ow) (w : World) (h0 : w.cell? ⟨ob, oo, none⟩ = some (.slice A os.length c)) (hr : Rd eO 3 w A c os) (hn : os.length ≤ 1000) (hmk : Marks os) (hri : Rising os) (hm : ∀ x ∈ os, Asc x.mark) (hs : Asc seen) :
  Calls Tryz.prog 87 #[.pointer (some ⟨ob, oo, none⟩), .string seen] w fun e w' => OwnR eI 2 1 w.heap.size w' e (wornS os seen) ∧ Below w.heap.size w w' := by
 have hob : ob < w.heap.size := World.block_lt_of_cell? w _ h0
 have HR := Lib.hid hr
 have HMK := Lib.hid hmk
 have HRI := Lib.hid hri
 have HM := Lib.hid hm
 have HS := Lib.hid hs
 clear hr hmk hri hm hs
 have hlen := HR.out.len
 have hmm := @run_makeMap Tryz.prog
 have k00 := cA h0 (.map #[] 0)
 go_enter Tryz.func87, Tryz.ntmps87
 go_wp2
 clear hmm
 go_loopg [19] os.length (fun g s19 wr => ∃ k : Nat, k ≤ os.length ∧ os.length - k ≤ g ∧ s19 = .int .i64 k ∧ Hid (Below w.heap.size w wr) ∧ Hid (MapB kB wr w.heap.size ((os.take k).map kv)))
 case atStart =>
  exact ⟨0, by omega, by omega, rfl, goB, (show MapB _ _ _ _ from MapB.new kB w)⟩
 case round =>
  obtain ⟨k, hk, hg, rfl, BW, MW⟩ := hrel
  by_cases hlt : k < os.length
  ·have hli : (k : Int) < (os.length : Int) := by omega
   obtain ⟨b, off, y, hy, rfl, hb, c0', c1', c2'⟩ := (HR.out.below BW.out).atO hlt
   have HY := Lib.hid hy
   clear hy
   obtain ⟨num, mark, paid⟩ := y
   simp only at c0' c1' c2'
   have hB2 := below_a1 wr (.cells #[.int .i64 num, .string mark, .int .i64 paid] 73)
   have hm2 := MW.out.below hB2
   obtain ⟨w3, r3, m3, g3, s3⟩ := hm2.store brandKey Tryz.underlying169 mark (.int .i64 num)
   have hkt := kv_take HMK.out hlt
   rw [← HY.out] at hkt
   simp only at hkt
   rw [hkt] at m3
   have M3 := Lib.hid m3
   have B3 := Lib.hid (((belowA BW.out (.cells #[.int .i64 num, .string mark, .int .i64 paid] 73)).grown g3 (by have := BW.out.size; simp only [World.size_alloc]; omega) (fun q hq => by cases hq; exact Nat.le_refl _)))
   simp only [kB] at r3
   clear m3 g3 s3 hm2 hkt hB2
   go_wp2
   go_roundg (os.length - (k + 1))
   case measure => omega
   case rel => exact ⟨k + 1, by omega, by omega, by go_num, B3.out, M3.out⟩
  ·have hli : ¬ (k : Int) < (os.length : Int) := by omega
   have hke : (os.take k).map kv = Left2 os seen (os.map kv) := by rw [List.take_of_length_le (by omega)]; exact left2_start os seen
   have hm1 := MW.out
   rw [hke] at hm1
   have hke2 : os.map kv = Left2 os seen (os.map kv) := left2_start os seen
   obtain ⟨w4, r4, g4, b4, s4⟩ := hm1.range (T := 169) Tryz.underlying169
   rw [← hke2] at g4
   have R4 := Lib.hid g4
   have B4 := Lib.hid (below2 BW.out b4)
   have hws := BW.out.size
   have hsz4 := s4
   clear hke hm1 hke2 g4 b4 MW
   generalize wr.heap.size = r at *
   go_wp2
   go_loopg [32] os.length (fun g s32 wr => ∃ todo, todo.length ≤ g ∧ Hid (Below w.heap.size w wr) ∧ Hid (RngB kB wr w.heap.size r (Left2 os seen todo) todo) ∧ Hid (Todo os todo))
   case atStart =>
    exact ⟨os.map kv, by simp, B4.out, (by rw [← left2_start]; exact R4.out), Todo.start HMK.out⟩
   case round =>
    clear r4 s4 hsz4 R4 B4 BW hli hlt hg hk
    rename_i wOld
    obtain ⟨todo, hg, BW, RW, TD⟩ := hrel
    rcases RW.out.next 0 with ⟨rfl, hrun⟩ | ⟨p, todo', w5, hp, hrun, hrg, hen, hgr, hsz⟩
    ·have hm1 := RW.out.map_
     obtain ⟨w4, r4, g4, b4, s4⟩ := hm1.range (T := 169) Tryz.underlying169
     have R4 := Lib.hid g4
     have B4 := Lib.hid (below2 BW.out b4)
     have hws2' := BW.out.size
     have hws2 := hws2'
     have hsz4 := s4
     clear hm1 g4 b4 RW TD
     go_wp2
     generalize wr.heap.size = r2 at *
     go_loopg [9] os.length (fun g s9 wr => ∃ todo ns, todo.length ≤ g ∧ ns.length + todo.length ≤ os.length ∧ Hid (Below w.heap.size w wr) ∧ Hid (RngB kB wr w.heap.size r2 (Left2 os seen []) todo) ∧ Hid (Todo os todo) ∧ Hid (Own eI 2 1 (w.heap.size + 1) wr s9 ns) ∧ Hid ((ns ++ todo.map vI).Perm (wornS os seen)))
     case atStart =>
      have hl := left2_len os seen []
      exact ⟨Left2 os seen [], [], hl, by simpa using hl, B4.out, R4.out, left2_todo HMK.out seen, Own.nil_ _ _ _ _ _, (show ([] ++ (Left2 os seen []).map vI).Perm (wornS os seen) from by rw [left2_end]; exact .refl _)⟩
     case round =>
      clear r4 s4 hsz4 R4 B4 hws2
      rename_i wOld2
      obtain ⟨todo, ns, hg, hns, BW, RW, TD, OW, PW⟩ := hrel
      rcases RW.out.next 0 with ⟨rfl, hrun⟩ | ⟨p, todo', w5, hp, hrun, hrg, hen, hgr, hsz⟩
      ·have hso := sort_any (w.heap.size + 1) _ ns wr OW.out (by omega)
       go_wp2_with fail
       refine hso.mono ?_
       clear hso
       rintro e w9 ⟨rfl, ho9, hg9⟩
       have O9 := Lib.hid ho9
       have B9 := Lib.hid (BW.out.grown hg9 BW.out.size (fun q hq => Nat.le_of_lt (OW.out.lt_ _ hq).1))
       clear ho9 hg9
       go_wp2
       go_ret
       refine ⟨Own.ret ?_ rfl, B9.out⟩
       have hpm := PW.out
       rw [List.map_nil, List.append_nil] at hpm
       rw [← worn_srt HRI.out seen hpm]
       exact O9.out.mono (by omega)
      ·obtain ⟨TD2, ⟨x, hx, hpx⟩, hnk, hlen2⟩ := TD.out.step hp
       subst hpx
       have B5 := Lib.hid (BW.out.grown hgr (by have := BW.out.size; omega) (fun q hq => by cases hq; exact hws2'))
       have O5 := Lib.hid (OW.out.kept hgr (.inr (OW.out.ne_rng RW.out).1))
       have NE5 := Lib.hid (O5.out.ne_rng hrg)
       have RG := Lib.hid hrg
       have HP := Lib.hid hp
       have TD2' := Lib.hid TD2
       clear hp hnk hrg TD2 hx hgr hsz
       obtain ⟨num, mark, paid⟩ := x
       simp only [kv, kB] at hrun hen
       go_wp2_with (at_builtin; apply stop_)
       unfold Hid
       refine wpList_push e2 encI rfl _ _ rfl rfl (O5.out.below (below_a1 w5 (.cells #[.int .i64 num] 2))) w5.heap.size 1 num rfl ?_ (by omega) (by omega) (by have := B5.out.size; simp only [World.size_alloc]; omega) ?_
       ·intro j u hj; cases j with | zero => (simp [eI] at hj; subst hj; go_simp) | succ j => simp [eI] at hj
       intro v' w' hown' hgr hlk
       have HOWN := Lib.hid hown'
       have BW2 := Lib.hid ((belowA B5.out (.cells #[.int .i64 num] 2)).grown hgr (by have := B5.out.size; simp only [World.size_alloc]; omega) (fun q hq => Nat.le_of_lt (O5.out.lt_ _ hq).1))
       have RG2 := Lib.hid ((RG.out.below (below_a1 w5 (.cells #[.int .i64 num] 2))).kept hgr (Ne.symm NE5.out.2) (Ne.symm NE5.out.1))
       clear hown' hgr hlk
       go_wp2
       go_roundg todo'.length
       case measure => omega
       case rel => exact ⟨todo', ns ++ [num], Nat.le_refl _, (by rw [List.length_append]; simp only [List.length_cons, List.length_nil]; omega), BW2.out, RG2.out, TD2'.out, HOWN.out, (show (ns ++ [num] ++ todo'.map vI).Perm (wornS os seen) from by
         refine List.Perm.trans ?_ PW.out
         rw [List.append_assoc]
         exact ((HP.out.map vI).symm).append_left ns)⟩
    ·obtain ⟨TD2, ⟨x, hx, hpx⟩, hnk, hlen2⟩ := TD.out.step hp
     have hlr := RW.out.lt
     subst hpx
     have B5 := Lib.hid (BW.out.grown hgr (by have := BW.out.size; omega) (fun q hq => by cases hq; exact hws))
     have hwe := wears_any x.mark seen
     have RG := Lib.hid hrg
     have HP := Lib.hid hp
     have HNK := Lib.hid hnk
     have TD2' := Lib.hid TD2
     have HX := Lib.hid hx
     have HGR := Lib.hid hgr
     clear hp hnk hrg TD2 hx hgr
     obtain ⟨num, mark, paid⟩ := x
     simp only [kv, kB] at hrun hen hwe
     go_wp2_with fail
     refine (hwe _ (HM.out _ HX.out) HS.out).mono ?_
     clear hwe
     rintro e w6 ⟨rfl, hb6⟩
     have kk8 : w6.cell? ⟨wr.heap.size, 0, none⟩ = some (.string mark) := cB hb6 (by go_simp)
     have B6 := Lib.hid (below2 (belowA B5.out (.cells #[.string mark] 167)) hb6)
     have RG6 := Lib.hid ((RG.out.below (below_a1 w5 (.cells #[.string mark] 167))).below hb6)
     clear hb6
     cases hw : wearsB mark seen with
     | true =>
      have HL := Lib.hid (left2_yes (os := os) HP.out hw)
      clear hw
      go_wp2
      go_roundg todo'.length
      case measure => omega
      case rel => exact ⟨todo', Nat.le_refl _, B6.out, by rw [← HL.out]; exact RG6.out, TD2'.out⟩
     | false =>
      have HL := Lib.hid (left2_no TD.out HP.out hw)
      clear hw
      obtain ⟨w7, hrun7, hrg7, hgr7, hsz7⟩ := RG6.out.delete brandKey (T := 169) Tryz.underlying169 (left2_nodup HMK.out seen todo) kB_inj mark (fun q hq => HNK.out q hq) 0
      have RG7 := Lib.hid hrg7
      have B7 := Lib.hid (B6.out.grown hgr7 B6.out.size (fun q hq => by cases hq; exact Nat.le_refl _))
      simp only [kB] at hrun7
      clear hrg7 hgr7 hsz7 RG RG6
      go_wp2
      go_roundg todo'.length
      case measure => omega
      case rel => exact ⟨todo', Nat.le_refl _, B7.out, by rw [← HL.out]; exact RG7.out, TD2'.out⟩
end Go.Proofs.YtcnpbcgkhhebaaaGreatDoor
