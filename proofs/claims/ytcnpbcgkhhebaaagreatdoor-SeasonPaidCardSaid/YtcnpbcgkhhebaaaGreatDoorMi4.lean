/- Two lists that are equal; two seasons that are. -/
import Derived.Test.YtcnpbcgkhhebaaaGreatDoorMi3
namespace Go.Proofs.YtcnpbcgkhhebaaaGreatDoor
open Go.RowKit

set_option maxHeartbeats 1000000 in
theorem ints_any (A : Option Addr) (c : Nat) (A2 : Option Addr) (c2 : Nat) (xs : List Int) (w : World) (hr : Rd eI 1 w A c xs) (hr2 : Rd eI 1 w A2 c2 xs) :
  Calls Tryz.prog 28 #[.slice A xs.length c, .slice A2 xs.length c2] w fun e w' => e = .returned (.bool true) ∧ Below w.heap.size w w' := by
 have hlen := hr.len
 have HR := Lib.hid hr
 have HR2 := Lib.hid hr2
 clear hr hr2
 go_enter Tryz.func28, Tryz.ntmps28
 go_wp2
 go_loopg [5] xs.length (fun gg s5 wr => ∃ k : Nat, k ≤ xs.length ∧ xs.length - k ≤ gg ∧ s5 = .int .i64 k ∧ Hid (Below w.heap.size w wr))
 case atStart => exact ⟨0, Nat.zero_le _, by omega, rfl, Below.refl _ _⟩
 case round =>
  obtain ⟨k, hk, hg, rfl, BW⟩ := hrel
  by_cases hlt : k < xs.length
  ·have hli : (k : Int) < (xs.length : Int) := by omega
   obtain ⟨b, off, y, hy, rfl, hb, c0⟩ := (HR.out.below BW.out).atI hlt
   obtain ⟨b', off', z, hz, rfl, hb', c1⟩ := (HR2.out.below BW.out).atI hlt
   obtain rfl : y = z := hy.trans hz.symm
   clear hy hz
   go_wp2
   go_quiet (fail)
   go_wp2
   go_roundg (xs.length - (k + 1))
   case measure => omega
   case rel => exact ⟨k + 1, by omega, by omega, by go_num, belowDN BW.out _⟩
  ·have hli : ¬ (k : Int) < (xs.length : Int) := by omega
   go_wp2
   go_ret
   exact ⟨rfl, BW.out⟩

set_option maxHeartbeats 1000000 in
theorem longs_any (A : Option Addr) (c : Nat) (A2 : Option Addr) (c2 : Nat) (xs : List Int) (w : World) (hr : Rd eI 1 w A c xs) (hr2 : Rd eI 1 w A2 c2 xs) :
  Calls Tryz.prog 42 #[.slice A xs.length c, .slice A2 xs.length c2] w fun e w' => e = .returned (.bool true) ∧ Below w.heap.size w w' := by
 have hlen := hr.len
 have HR := Lib.hid hr
 have HR2 := Lib.hid hr2
 clear hr hr2
 go_enter Tryz.func42, Tryz.ntmps42
 go_wp2
 go_loopg [5] xs.length (fun gg s5 wr => ∃ k : Nat, k ≤ xs.length ∧ xs.length - k ≤ gg ∧ s5 = .int .i64 k ∧ Hid (Below w.heap.size w wr))
 case atStart => exact ⟨0, Nat.zero_le _, by omega, rfl, Below.refl _ _⟩
 case round =>
  obtain ⟨k, hk, hg, rfl, BW⟩ := hrel
  by_cases hlt : k < xs.length
  ·have hli : (k : Int) < (xs.length : Int) := by omega
   obtain ⟨b, off, y, hy, rfl, hb, c0⟩ := (HR.out.below BW.out).atI hlt
   obtain ⟨b', off', z, hz, rfl, hb', c1⟩ := (HR2.out.below BW.out).atI hlt
   obtain rfl : y = z := hy.trans hz.symm
   clear hy hz
   go_wp2
   go_quiet (fail)
   go_wp2
   go_roundg (xs.length - (k + 1))
   case measure => omega
   case rel => exact ⟨k + 1, by omega, by omega, by go_num, belowDN BW.out _⟩
  ·have hli : ¬ (k : Int) < (xs.length : Int) := by omega
   go_wp2
   go_ret
   exact ⟨rfl, BW.out⟩

set_option maxHeartbeats 1000000 in
theorem errors_any (A : Option Addr) (c : Nat) (A2 : Option Addr) (c2 : Nat) (xs : List Int) (w : World) (hr : Rd eI 1 w A c xs) (hr2 : Rd eI 1 w A2 c2 xs) :
  Calls Tryz.prog 21 #[.slice A xs.length c, .slice A2 xs.length c2] w fun e w' => e = .returned (.bool true) ∧ Below w.heap.size w w' := by
 have hlen := hr.len
 have HR := Lib.hid hr
 have HR2 := Lib.hid hr2
 clear hr hr2
 go_enter Tryz.func21, Tryz.ntmps21
 go_wp2
 go_loopg [5] xs.length (fun gg s5 wr => ∃ k : Nat, k ≤ xs.length ∧ xs.length - k ≤ gg ∧ s5 = .int .i64 k ∧ Hid (Below w.heap.size w wr))
 case atStart => exact ⟨0, Nat.zero_le _, by omega, rfl, Below.refl _ _⟩
 case round =>
  obtain ⟨k, hk, hg, rfl, BW⟩ := hrel
  by_cases hlt : k < xs.length
  ·have hli : (k : Int) < (xs.length : Int) := by omega
   obtain ⟨b, off, y, hy, rfl, hb, c0⟩ := (HR.out.below BW.out).atI hlt
   obtain ⟨b', off', z, hz, rfl, hb', c1⟩ := (HR2.out.below BW.out).atI hlt
   obtain rfl : y = z := hy.trans hz.symm
   clear hy hz
   go_wp2
   go_quiet (fail)
   go_wp2
   go_roundg (xs.length - (k + 1))
   case measure => omega
   case rel => exact ⟨k + 1, by omega, by omega, by go_num, belowDN BW.out _⟩
  ·have hli : ¬ (k : Int) < (xs.length : Int) := by omega
   go_wp2
   go_ret
   exact ⟨rfl, BW.out⟩

set_option maxRecDepth 100000 in
set_option maxHeartbeats 4000000 in
theorem same_any (A1 : Option Addr) (c1 : Nat) (A2 : Option Addr) (c2 : Nat) (B1 : Option Addr) (d1 : Nat) (B2 : Option Addr) (d2 : Nat) (os : List Ow) (ls : List Lg) (w : World) (ha : Rd eO 3 w A1 c1 os) (ha2 : Rd eL 5 w A2 c2 ls) (hb : Rd eO 3 w B1 d1 os) (hb2 : Rd eL 5 w B2 d2 ls) :
  Calls Tryz.prog 20 #[.agg #[.slice A1 os.length c1, .slice A2 ls.length c2], .agg #[.slice B1 os.length d1, .slice B2 ls.length d2]] w fun e w' => e = .returned (.bool true) ∧ Below w.heap.size w w' := by
 have hlen := ha.len
 have hlen2 := ha2.len
 have k0 : ((w.alloc (.cells #[.slice A1 os.length c1, .slice A2 ls.length c2] 26)).alloc (.cells #[.slice B1 os.length d1, .slice B2 ls.length d2] 26)).cell? ⟨w.heap.size, 0, none⟩ = some (.slice A1 os.length c1) := by go_simp
 have k1 : ((w.alloc (.cells #[.slice A1 os.length c1, .slice A2 ls.length c2] 26)).alloc (.cells #[.slice B1 os.length d1, .slice B2 ls.length d2] 26)).cell? ⟨w.heap.size, 1, none⟩ = some (.slice A2 ls.length c2) := by go_simp
 have k2 : ((w.alloc (.cells #[.slice A1 os.length c1, .slice A2 ls.length c2] 26)).alloc (.cells #[.slice B1 os.length d1, .slice B2 ls.length d2] 26)).cell? ⟨w.heap.size + 1, 0, none⟩ = some (.slice B1 os.length d1) := by go_simp
 have k3 : ((w.alloc (.cells #[.slice A1 os.length c1, .slice A2 ls.length c2] 26)).alloc (.cells #[.slice B1 os.length d1, .slice B2 ls.length d2] 26)).cell? ⟨w.heap.size + 1, 1, none⟩ = some (.slice B2 ls.length d2) := by go_simp
 have B0 : Below w.heap.size w ((w.alloc (.cells #[.slice A1 os.length c1, .slice A2 ls.length c2] 26)).alloc (.cells #[.slice B1 os.length d1, .slice B2 ls.length d2] 26)) := belowA (below_a1 _ _) _
 obtain ⟨w0, hw0⟩ : ∃ w0, ((w.alloc (.cells #[.slice A1 os.length c1, .slice A2 ls.length c2] 26)).alloc (.cells #[.slice B1 os.length d1, .slice B2 ls.length d2] 26)) = w0 := ⟨_, rfl⟩
 rw [hw0] at k0 k1 k2 k3 B0
 have HW0 := Lib.hid hw0
 have HA := Lib.hid (ha.below B0)
 have HA2 := Lib.hid (ha2.below B0)
 have HB := Lib.hid (hb.below B0)
 have HB2 := Lib.hid (hb2.below B0)
 have HB0 := Lib.hid B0
 have K0 := Lib.hid k0
 have K1 := Lib.hid k1
 have K2 := Lib.hid k2
 have K3 := Lib.hid k3
 clear ha ha2 hb hb2 B0 hw0 k0 k1 k2 k3
 go_enter Tryz.func20, Tryz.ntmps20
 go_wp2
 rw [HW0.out]
 go_loopg [5] os.length (fun gg s5 wr => ∃ k : Nat, k ≤ os.length ∧ os.length - k ≤ gg ∧ s5 = .int .i64 k ∧ Hid (Below w0.heap.size w0 wr))
 case atStart => exact ⟨0, Nat.zero_le _, by omega, rfl, Below.refl _ _⟩
 case round =>
  obtain ⟨k, hk, hg, rfl, BW⟩ := hrel
  have q0 := cB BW.out K0.out
  have q1 := cB BW.out K1.out
  have q2 := cB BW.out K2.out
  have q3 := cB BW.out K3.out
  by_cases hlt : k < os.length
  ·have hli : (k : Int) < (os.length : Int) := by omega
   obtain ⟨b, off, y, hy, rfl, hb, x0, x1, x2⟩ := (HA.out.below BW.out).atO hlt
   obtain ⟨b', off', z, hz, rfl, hb', y0, y1, y2⟩ := (HB.out.below BW.out).atO hlt
   obtain rfl : y = z := hy.trans hz.symm
   clear hy hz
   obtain ⟨num, mark, paid⟩ := y
   simp only at x0 x1 x2 y0 y1 y2
   go_wp2
   go_quiet (fail)
   go_wp2
   go_roundg (os.length - (k + 1))
   case measure => omega
   case rel => exact ⟨k + 1, by omega, by omega, by go_num, belowDN BW.out _⟩
  ·have hli : ¬ (k : Int) < (os.length : Int) := by omega
   obtain ⟨w2, hw2⟩ : ∃ w2, wr = w2 := ⟨_, rfl⟩
   rw [hw2] at q0 q1 q2 q3 BW ⊢
   clear hw2
   go_wp2
   clear q0 q1 q2 q3
   go_loopg [6] ls.length (fun gg s6 wr => ∃ k : Nat, k ≤ ls.length ∧ ls.length - k ≤ gg ∧ s6 = .int .i64 k ∧ Hid (Below w0.heap.size w0 wr))
   case atStart => exact ⟨0, Nat.zero_le _, by omega, rfl, BW.out⟩
   case round =>
    obtain ⟨j, hj, hg2, rfl, BV⟩ := hrel
    have q0 := cB BV.out K0.out
    have q1 := cB BV.out K1.out
    have q2 := cB BV.out K2.out
    have q3 := cB BV.out K3.out
    by_cases hlt2 : j < ls.length
    ·have hli2 : (j : Int) < (ls.length : Int) := by omega
     obtain ⟨b, off, y, hy, rfl, hb, x0, x1, x2, x3, x4⟩ := (HA2.out.below BV.out).atL hlt2
     obtain ⟨b', off', z, hz, rfl, hb', y0, y1, y2, y3, y4⟩ := (HB2.out.below BV.out).atL hlt2
     obtain rfl : y = z := hy.trans hz.symm
     clear hy hz
     obtain ⟨num, seen, feet, own, gone⟩ := y
     simp only at x0 x1 x2 x3 x4 y0 y1 y2 y3 y4
     go_wp2
     go_quiet (fail)
     go_wp2
     go_roundg (ls.length - (j + 1))
     case measure => omega
     case rel => exact ⟨j + 1, by omega, by omega, by go_num, belowDN BV.out _⟩
    ·have hli2 : ¬ (j : Int) < (ls.length : Int) := by omega
     go_wp2
     go_ret
     exact ⟨rfl, HB0.out.trans (BV.out.mono HB0.out.size)⟩
end Go.Proofs.YtcnpbcgkhhebaaaGreatDoor
/- Bytes and strings; the parts of a string as strings. -/
namespace Go.Proofs.YtcnpbcgkhhebaaaGreatDoor
open Go.RowKit

def mkB (l : List UInt8) : ByteArray := ⟨l.toArray⟩
theorem mkB_data (l : List UInt8) : (mkB l).data.toList = l := by simp [mkB]
theorem mkB_of (b : ByteArray) : mkB b.data.toList = b := by simp [mkB]
theorem mkB_inj {a b : List UInt8} (h : mkB a = mkB b) : a = b := by rw [← mkB_data a, h, mkB_data]
theorem mkB_size (l : List UInt8) : (mkB l).size = l.length := by show l.toArray.size = _; simp
theorem partsB_map (c : UInt8) (s : ByteArray) : partsB s ⟨#[c]⟩ = (parts c s.data.toList).map mkB := by
 rw [← partsB_eq, List.map_map]
 conv => lhs; rw [← List.map_id (partsB s ⟨#[c]⟩)]
 refine List.map_congr_left fun x _ => ?_
 show x = mkB x.data.toList
 rw [mkB_of]
end Go.Proofs.YtcnpbcgkhhebaaaGreatDoor
/- What a text says: its lines, and back. -/
namespace Go.Proofs.YtcnpbcgkhhebaaaGreatDoor
open Go.RowKit

theorem parts_app {c : UInt8} : ∀ (l1 l2 : List UInt8), c ∉ l1 → parts c (l1 ++ c :: l2) = l1 :: parts c l2
 | [], l2, _ => by rw [List.nil_append, parts.eq_2, if_pos rfl]
 | x :: l1, l2, h => by
  rw [List.cons_append, parts.eq_2, if_neg (fun e => h (by rw [e]; exact List.mem_cons_self)), parts_app l1 l2 (fun e => h (List.mem_cons_of_mem _ e))]
theorem parts_one {c : UInt8} {l : List UInt8} (h : c ∉ l) : parts c l = [l] := parts_none l fun _k e => h (List.mem_of_getElem? e)
theorem parts_no (c : UInt8) : ∀ l, ∀ p ∈ parts c l, c ∉ p
 | [], p, hp => by
  rw [parts.eq_1, List.mem_singleton] at hp
  subst hp
  simp
 | x :: l, p, hp => by
  have ih := parts_no c l
  rw [parts.eq_2] at hp
  split at hp
  ·rcases List.mem_cons.1 hp with rfl | hp
   ·simp
   ·exact ih p hp
  ·rename_i hx
   cases hq : parts c l with
   | nil => exact absurd hq (parts_ne c l)
   | cons h t =>
    rw [hq] at hp ih
    simp only at hp
    rcases List.mem_cons.1 hp with rfl | hp
    ·intro hm
     rcases List.mem_cons.1 hm with rfl | hm
     ·exact hx rfl
     ·exact ih h List.mem_cons_self hm
    ·exact ih p (List.mem_cons_of_mem _ hp)
theorem join_two (c : UInt8) (x y : List UInt8) (r : List (List UInt8)) : Lib.join (x :: y :: r) [c] = x ++ c :: Lib.join (y :: r) [c] := by simp [Lib.join, List.intercalate]
theorem join_one (c : UInt8) (x : List UInt8) : Lib.join [x] [c] = x := by simp [Lib.join, List.intercalate]
theorem join_head (c x : UInt8) (h : List UInt8) : ∀ t, Lib.join ((x :: h) :: t) [c] = x :: Lib.join (h :: t) [c]
 | [] => by rw [join_one, join_one]
 | y :: r => by rw [join_two, join_two, List.cons_append]
theorem join_parts (c : UInt8) : ∀ l, Lib.join (parts c l) [c] = l
 | [] => by rw [parts.eq_1, join_one]
 | x :: l => by
  have ih := join_parts c l
  rw [parts.eq_2]
  cases hq : parts c l with
  | nil => exact absurd hq (parts_ne c l)
  | cons h t =>
   rw [hq] at ih
   split
   ·rename_i e
    rw [join_two, ih, e, List.nil_append]
   ·simp only
    rw [join_head, ih]
theorem parts_join (c : UInt8) : ∀ ps : List (List UInt8), ps ≠ [] → (∀ p ∈ ps, c ∉ p) → parts c (Lib.join ps [c]) = ps
 | [], h, _ => absurd rfl h
 | [x], _, hp => by rw [join_one, parts_one (hp x List.mem_cons_self)]
 | x :: y :: r, _, hp => by rw [join_two, parts_app _ _ (hp x List.mem_cons_self), parts_join c (y :: r) (by simp) fun p h => hp p (List.mem_cons_of_mem _ h)]
theorem dec_dig : ∀ (u : Nat), ∀ c ∈ Lib.decDigits u, isDig c = true := by
 intro u
 induction u using Nat.strongRecOn with
 | _ u ih =>
  intro c hc
  have key : ∀ k : Nat, k < 10 → isDig (UInt8.ofNat (48 + k)) = true := by
   intro k hk
   have e : (UInt8.ofNat (48 + k)).toNat = 48 + k := by rw [show (UInt8.ofNat (48 + k)).toNat = (48 + k) % 256 from rfl]; omega
   simp only [isDig, e, Bool.and_eq_true, decide_eq_true_eq]
   omega
  rw [Lib.decDigits] at hc
  split at hc
  ·rw [List.mem_singleton] at hc
   subst hc
   exact key u (by omega)
  ·rcases List.mem_append.1 hc with hc | hc
   ·exact ih (u / 10) (by omega) c hc
   ·rw [List.mem_singleton] at hc
    subst hc
    exact key _ (by omega)
theorem itoa_dig {n : Int} (h : 0 ≤ n) : ∀ c ∈ Lib.itoa n, isDig c = true := by
 unfold Lib.itoa
 rw [if_neg (by omega)]
 exact dec_dig _
theorem dig_ne {c : UInt8} (h : isDig c = true) (d : UInt8) (hd : isDig d = false) : c ≠ d := fun e => by rw [e, hd] at h; cases h
theorem itoa_no {n : Int} (h : 0 ≤ n) (d : UInt8) (hd : isDig d = false) : d ∉ Lib.itoa n := fun hm => dig_ne (itoa_dig h d hm) d hd rfl

/-- The line of which these are the parts behind the number. -/
def coreP (q : List (List UInt8)) : Option Ln :=
 if q.length < 2 then none else
 if (mostsL (mkB ((q[0]?).getD []))).length ≠ q.length - 1 then none else
 match runL (decide (mkB ((q[0]?).getD []) = wLog)) ([], ⟨#[]⟩) ((mostsL (mkB ((q[0]?).getD []))).zip ((q.drop 1).map mkB)) with
 | none => none
 | some (all, letters) => some ⟨mkB ((q[0]?).getD []), (all[0]?).getD 0, (all[1]?).getD 0, letters, mkB (Lib.join q [32])⟩
theorem lineS_core (s : ByteArray) (n : Int) : lineS s n = match parts 32 s.data.toList with | [] => none | a :: q => if a = Lib.itoa n then coreP q else none := by
 unfold lineS
 rw [partsB_map]
 match hp : parts 32 s.data.toList with
 | [] => rfl
 | [a] =>
  simp only [List.map_cons, List.map_nil, List.length_cons, List.length_nil]
  rw [if_pos (by omega)]
  split
  ·rfl
  ·rfl
 | [a, b] =>
  simp only [List.map_cons, List.map_nil, List.length_cons, List.length_nil]
  rw [if_pos (by omega)]
  split
  ·rfl
  ·rfl
 | a :: b :: c :: r =>
  simp only [List.map_cons, List.length_cons, List.getElem?_cons_zero, List.getElem?_cons_succ, Option.getD_some, List.drop_succ_cons, List.drop_zero, List.length_map, coreP]
  rw [if_neg (by omega)]
  by_cases ha : a = Lib.itoa n
  ·have h1 : ¬ some (mkB a) ≠ some (⟨(Lib.itoa n).toArray⟩ : ByteArray) := fun h => h (by rw [ha]; rfl)
   have e1 : r.length + 1 + 1 + 1 - 2 = r.length + 1 + 1 - 1 := by omega
   have e2 : (mkB b).data.toList :: (mkB c).data.toList :: List.map (fun x : ByteArray => x.data.toList) (List.map mkB r) = b :: c :: r := by
    rw [mkB_data, mkB_data, List.map_map]
    congr 2
    conv => rhs; rw [← List.map_id r]
    exact List.map_congr_left fun x _ => mkB_data x
   rw [if_neg h1, if_pos ha, if_neg (show ¬ r.length + 1 + 1 < 2 by omega), e1, e2]
   rfl
  ·have h1 : some (mkB a) ≠ some (⟨(Lib.itoa n).toArray⟩ : ByteArray) := fun e => ha (mkB_inj (Option.some.inj e))
   rw [if_pos h1, if_neg ha]
theorem core_text {q : List (List UInt8)} {x : Ln} (h : coreP q = some x) : x.text.data.toList = Lib.join q [32] ∧ 2 ≤ q.length := by
 unfold coreP at h
 split at h
 ·cases h
 split at h
 ·cases h
 split at h
 ·cases h
 ·cases h
  exact ⟨mkB_data _, by omega⟩
/-- A line, but for its number. -/
structure IsLine (x : Ln) : Prop where
 core : coreP (parts 32 x.text.data.toList) = some x
 nl : (10 : UInt8) ∉ x.text.data.toList
theorem line_form {s : ByteArray} {n : Int} {x : Ln} (h : lineS s n = some x) : s.data.toList = Lib.itoa n ++ 32 :: x.text.data.toList ∧ coreP (parts 32 x.text.data.toList) = some x := by
 rw [lineS_core] at h
 split at h
 ·cases h
 rename_i a q hp
 split at h
 ·rename_i ha
  obtain ⟨h1, h2⟩ := core_text h
  obtain ⟨b, r, rfl⟩ : ∃ b r, q = b :: r := by
   match q, h2 with
   | b :: r, _ => exact ⟨b, r, rfl⟩
  refine ⟨?_, ?_⟩
  ·rw [h1, ← ha, ← join_two, ← hp, join_parts]
  ·rw [h1, parts_join 32 _ (by simp) fun p hm => parts_no 32 s.data.toList p (by rw [hp]; exact List.mem_cons_of_mem _ hm)]
   exact h
 ·cases h
theorem line_mk {t : List UInt8} {n : Int} {x : Ln} (hn : 0 ≤ n) (h : coreP (parts 32 t) = some x) : lineS (mkB (Lib.itoa n ++ 32 :: t)) n = some x := by
 rw [lineS_core, mkB_data, parts_app _ _ (itoa_no hn 32 (by decide))]
 show (if Lib.itoa n = Lib.itoa n then coreP (parts 32 t) else none) = some x
 rw [if_pos rfl]
 exact h
theorem parts_cons' (c : UInt8) (l : List UInt8) : ∃ p r, parts c l = p :: r := parts_cons c l
theorem lineL_of : ∀ (l : List Ln) (n : Nat), (∀ x ∈ l, IsLine x) → lineL n (parts 10 (textL n (l.map (·.text)))) = some l
 | [], n, _ => rfl
 | x :: l, n, h => by
  have hx := h x List.mem_cons_self
  have ih := lineL_of l (n + 1) fun y hy => h y (List.mem_cons_of_mem _ hy)
  have hno : (10 : UInt8) ∉ Lib.itoa ((n : Int) + 1) ++ 32 :: x.text.data.toList := by
   intro hm
   rcases List.mem_append.1 hm with hm | hm
   ·exact itoa_no (by omega) 10 (by decide) hm
   ·rcases List.mem_cons.1 hm with hm | hm
    ·exact absurd hm (by decide)
    ·exact hx.nl hm
  rw [List.map_cons, textL, show Lib.itoa ((n : Int) + 1) ++ [32] ++ x.text.data.toList ++ [10] ++ textL (n + 1) (l.map (·.text)) = (Lib.itoa ((n : Int) + 1) ++ 32 :: x.text.data.toList) ++ 10 :: textL (n + 1) (l.map (·.text)) by simp, parts_app _ _ hno]
  obtain ⟨p, r, hp⟩ := parts_cons 10 (textL (n + 1) (l.map (·.text)))
  rw [hp] at ih ⊢
  rw [lineL, show (⟨(Lib.itoa ((n : Int) + 1) ++ 32 :: x.text.data.toList).toArray⟩ : ByteArray) = mkB (Lib.itoa ((n : Int) + 1) ++ 32 :: x.text.data.toList) from rfl, line_mk (by omega) hx.core]
  simp only
  rw [ih]
  rfl
theorem lineL_inv : ∀ (ps : List (List UInt8)) (n : Nat) (l : List Ln), (∀ p ∈ ps, (10 : UInt8) ∉ p) → lineL n ps = some l → Lib.join ps [10] = textL n (l.map (·.text)) ∧ ∀ x ∈ l, IsLine x
 | [], n, l, _, h => by simp [lineL] at h
 | [p], n, l, _, h => by
  rw [lineL] at h
  split at h
  ·rename_i hp
   cases h
   subst hp
   exact ⟨join_one _ _, fun x hx => by cases hx⟩
  ·cases h
 | p :: q :: r, n, l, hno, h => by
  rw [lineL] at h
  split at h
  ·cases h
  ·rename_i x hx
   obtain ⟨l', hl', rfl⟩ := Option.map_eq_some_iff.1 h
   obtain ⟨h1, h2⟩ := lineL_inv (q :: r) (n + 1) l' (fun p hp => hno p (List.mem_cons_of_mem _ hp)) hl'
   obtain ⟨h3, h4⟩ := line_form hx
   have h3' : p = Lib.itoa ((n : Int) + 1) ++ 32 :: x.text.data.toList := h3
   refine ⟨?_, fun y hy => ?_⟩
   ·rw [join_two, h1, List.map_cons, textL, h3']
    simp
   ·rcases List.mem_cons.1 hy with rfl | hy
    ·refine ⟨h4, fun hm => hno p List.mem_cons_self ?_⟩
     rw [h3']
     exact List.mem_append_right _ (List.mem_cons_of_mem _ hm)
    ·exact h2 y hy
theorem parse_iff {text : ByteArray} {l : List Ln} : parseS text = (l, 0) ↔ text.data.toList = textL 0 (l.map (·.text)) ∧ (∀ x ∈ l, IsLine x) ∧ l.length ≤ 200 ∧ text.size ≤ 8000 := by
 constructor
 ·intro h
  unfold parseS at h
  split at h
  ·cases h
  ·split at h
   ·cases h
   ·rename_i l' hl
    split at h
    ·cases h
    ·cases h
     obtain ⟨h1, h2⟩ := lineL_inv _ 0 l (parts_no 10 _) hl
     rw [join_parts] at h1
     exact ⟨h1, h2, by omega, by omega⟩
 ·rintro ⟨h1, h2, h3, h4⟩
  unfold parseS
  rw [if_neg (by omega), h1, lineL_of l 0 h2]
  simp only
  rw [if_neg (by omega)]
end Go.Proofs.YtcnpbcgkhhebaaaGreatDoor
/- A text is played: which lines are in effect, as a list. -/
namespace Go.Proofs.YtcnpbcgkhhebaaaGreatDoor
open Go.RowKit

structure Pl where
 os : List Ow
 ls : List Lg
 eff : List (Nat × Ln)
 errs : List Int
def butE (eff : List (Nat × Ln)) (k : Int) : List (Nat × Ln) := eff.filter fun p => !decide ((p.1 : Int) = k)
def strikeE (s : Pl) (k : Int) : List Ow × List Lg × List (Nat × Ln) × Int :=
 if (s.errs.length : Int) ≤ k then (s.os, s.ls, s.eff, 3)
 else if s.eff.any (fun p => decide ((p.1 : Int) = k)) = false then (s.os, s.ls, s.eff, 5)
 else match againS [] [] ((butE s.eff k).map (·.2)) with
  | none => (s.os, s.ls, s.eff, 13)
  | some r => (r.1, r.2, butE s.eff k, 0)
def stepE (s : Pl) (x : Ln) : Pl :=
 if x.word = wStrike then ⟨(strikeE s (x.one - 1)).1, (strikeE s (x.one - 1)).2.1, (strikeE s (x.one - 1)).2.2.1, s.errs ++ [(strikeE s (x.one - 1)).2.2.2]⟩
 else ⟨(doS s.os s.ls x).1, (doS s.os s.ls x).2.1, if (doS s.os s.ls x).2.2 = 0 then s.eff ++ [(s.errs.length, x)] else s.eff, s.errs ++ [(doS s.os s.ls x).2.2]⟩
def playE (l : List Ln) : Pl := l.foldl stepE ⟨[], [], [], []⟩
theorem playE_snoc (l : List Ln) (x : Ln) : playE (l ++ [x]) = stepE (playE l) x := by unfold playE; rw [List.foldl_append]; rfl
theorem stepE_errs (s : Pl) (x : Ln) : ∃ e, (stepE s x).errs = s.errs ++ [e] := by
 unfold stepE
 split <;> exact ⟨_, rfl⟩
theorem fold_errs : ∀ (l : List Ln) (s : Pl), (l.foldl stepE s).errs.length = s.errs.length + l.length
 | [], s => rfl
 | x :: l, s => by
  obtain ⟨e, he⟩ := stepE_errs s x
  rw [List.foldl_cons, fold_errs l, he, List.length_append, List.length_cons, List.length_cons, List.length_nil]
  omega
theorem playE_errs (l : List Ln) : (playE l).errs.length = l.length := by
 unfold playE
 rw [fold_errs]
 simp
theorem playE_take {l : List Ln} {k : Nat} (hk : k < l.length) : playE (l.take (k + 1)) = stepE (playE (l.take k)) l[k] := by rw [List.take_succ_eq_append_getElem hk, playE_snoc]

theorem effK_above {lines : List Ln} {inn : List Int} {k : Nat} (h : ∀ i, k ≤ i → inn[i]? ≠ some 1) : ∀ d, effK lines inn (k + d) = effK lines inn k
 | 0 => rfl
 | d + 1 => by rw [show k + (d + 1) = k + d + 1 by omega, effK_no (h _ (by omega)), effK_above h d]
theorem effK_congr {lines : List Ln} {a b : List Int} : ∀ k, (∀ i, i < k → a[i]? = b[i]?) → effK lines a k = effK lines b k := by
 intro k h
 unfold effK
 have : ∀ (l : List Nat), (∀ i ∈ l, i < k) → l.filterMap (fun i => if a[i]? = some 1 then (lines[i]?).map fun x => (i, x) else none) = l.filterMap (fun i => if b[i]? = some 1 then (lines[i]?).map fun x => (i, x) else none) := by
  intro l hl
  induction l with
  | nil => rfl
  | cons i l ih =>
   rw [List.filterMap_cons, List.filterMap_cons, h i (hl i List.mem_cons_self), ih fun j hj => hl j (List.mem_cons_of_mem _ hj)]
 exact this _ fun i hi => List.mem_range.1 hi
def effAt (lines : List Ln) (a : List Int) (n : Nat) : Option (Nat × Ln) := if a[n]? = some 1 then (lines[n]?).map fun x => (n, x) else none
theorem effK_step (lines : List Ln) (a : List Int) (n : Nat) : effK lines a (n + 1) = effK lines a n ++ (effAt lines a n).toList := by
 unfold effK
 rw [List.range_succ, List.filterMap_append]
 rfl
theorem effK_but {lines : List Ln} {inn : List Int} {k : Nat} : ∀ n, effK lines (inn.set k 0) n = butE (effK lines inn n) k
 | 0 => rfl
 | n + 1 => by
  rw [effK_step, effK_step, effK_but n]
  unfold butE
  rw [List.filter_append]
  congr 1
  by_cases e : n = k
  ·subst e
   have h1 : effAt lines (inn.set n 0) n = none := by
    unfold effAt
    rw [if_neg]
    rw [List.getElem?_set]
    simp only [if_true]
    split <;> simp
   rw [h1]
   unfold effAt
   split
   ·cases lines[n]? with
    | none => rfl
    | some x => simp
   ·rfl
  ·have h1 : effAt lines (inn.set k 0) n = effAt lines inn n := by
    unfold effAt
    rw [List.getElem?_set_ne (fun e' => e e'.symm)]
   rw [h1]
   unfold effAt
   split
   ·cases lines[n]? with
    | none => rfl
    | some x =>
     have : ¬ ((n : Nat) : Int) = (k : Int) := by omega
     simp [this]
   ·rfl
theorem effL_any {lines : List Ln} {inn : List Int} {k : Nat} (hk : k < lines.length) (h : inn[k]? = some 0 ∨ inn[k]? = some 1) : (effL lines inn).any (fun p => decide ((p.1 : Int) = (k : Int))) = false ↔ (inn[k]?).getD 0 = 0 := by
 constructor
 ·intro ha
  rcases h with h | h
  ·rw [h]; rfl
  ·exfalso
   have hm : (k, lines[k]) ∈ effL lines inn := by
    unfold effL effK
    refine List.mem_filterMap.2 ⟨k, List.mem_range.2 hk, ?_⟩
    rw [if_pos h, List.getElem?_eq_getElem hk]
    rfl
   have : (effL lines inn).any (fun p => decide ((p.1 : Int) = (k : Int))) = true := List.any_eq_true.2 ⟨_, hm, decide_eq_true rfl⟩
   rw [ha] at this
   cases this
 ·intro h0
  rw [← Bool.not_eq_true, List.any_eq_true]
  rintro ⟨p, hp, hq⟩
  have h1 := (effK_mem hp).2.1
  have : p.1 = k := by have := of_decide_eq_true hq; omega
  rw [this] at h1
  rw [h1] at h0
  cases h0

/-- The book and its list say the same. -/
structure PlR (lines : List Ln) (k : Nat) (s : St) (p : Pl) : Prop where
 os : s.os = p.os
 ls : s.ls = p.ls
 errs : s.errs = p.errs
 eff : effL lines s.inn = p.eff
 len : s.inn.length = lines.length
 elen : p.errs.length = k
 above : ∀ i, k ≤ i → s.inn[i]? ≠ some 1
 bits : ∀ x ∈ s.inn, x = 0 ∨ x = 1
theorem play_rel {lines : List Ln} (hg : ∀ x ∈ lines, 1 ≤ x.one) : ∀ k, k ≤ lines.length → PlR lines k (playK lines k) (playE (lines.take k))
 | 0, _ => by
  have h0 : ∀ i : Nat, (List.replicate lines.length (0 : Int))[i]? ≠ some 1 := fun i e => by
   have h := List.eq_of_mem_replicate (List.mem_of_getElem? e)
   exact absurd h (by decide)
  refine ⟨rfl, rfl, rfl, ?_, by simp [playK], rfl, fun i _ => h0 i, fun x hx => .inl (List.eq_of_mem_replicate hx)⟩
  show effL lines (List.replicate lines.length 0) = []
  have := effK_above (lines := lines) (k := 0) (fun i _ => h0 i) lines.length
  rw [Nat.zero_add] at this
  exact this
 | k + 1, hk => by
  have ih := play_rel hg k (by omega)
  have hb := inn01 (lines := lines) (k + 1) hk
  have hl := (playK_len lines (k + 1) hk).1
  rw [playK_succ (by omega)] at hb hl ⊢
  rw [playE_take (by omega)]
  obtain ⟨x, hx⟩ : ∃ x, lines[k] = x := ⟨_, rfl⟩
  have hx1 := hg lines[k] (List.getElem_mem _)
  rw [hx] at hb hl hx1 ⊢
  generalize playK lines k = s at ih hb hl ⊢
  generalize playE (lines.take k) = p at ih ⊢
  unfold stepS at hb hl ⊢
  unfold stepE
  by_cases hw : x.word = wStrike
  ·rw [if_pos hw] at hb hl ⊢
   rw [if_pos hw]
   simp only at hb hl ⊢
   have key : (strikeS lines s.inn s.os s.ls (x.one - 1) k).1 = (strikeE p (x.one - 1)).1 ∧ (strikeS lines s.inn s.os s.ls (x.one - 1) k).2.1 = (strikeE p (x.one - 1)).2.1 ∧ (strikeS lines s.inn s.os s.ls (x.one - 1) k).2.2.2 = (strikeE p (x.one - 1)).2.2.2 ∧ effL lines (strikeS lines s.inn s.os s.ls (x.one - 1) k).2.2.1 = (strikeE p (x.one - 1)).2.2.1 ∧ (∀ i, k + 1 ≤ i → (strikeS lines s.inn s.os s.ls (x.one - 1) k).2.2.1[i]? ≠ some 1) := by
    have ha : ∀ i, k + 1 ≤ i → s.inn[i]? ≠ some 1 := fun i hi => ih.above i (by omega)
    unfold strikeS strikeE
    rw [ih.elen]
    by_cases c1 : (k : Int) ≤ x.one - 1
    ·rw [if_pos c1, if_pos c1]
     exact ⟨ih.os, ih.ls, rfl, ih.eff, ha⟩
    rw [if_neg c1, if_neg c1]
    obtain ⟨j, hj⟩ : ∃ j : Nat, x.one - 1 = j := ⟨(x.one - 1).toNat, by omega⟩
    have hjk : j < lines.length := by omega
    have hjk2 : j < k := by omega
    rw [hj, Int.toNat_natCast] at *
    have hbit : s.inn[j]? = some 0 ∨ s.inn[j]? = some 1 := by
     have hjl : j < s.inn.length := by rw [ih.len]; exact hjk
     rw [List.getElem?_eq_getElem hjl]
     rcases ih.bits _ (List.getElem_mem hjl) with h | h <;> simp [h]
    have hany := effL_any hjk hbit
    rw [ih.eff] at hany
    by_cases c2 : (s.inn[j]?).getD 0 = 0
    ·rw [if_pos c2, if_pos (hany.2 c2)]
     exact ⟨ih.os, ih.ls, rfl, ih.eff, ha⟩
    rw [if_neg c2, if_neg (fun e => c2 (hany.1 e)), ih.eff]
    have hbu : effL lines (s.inn.set j 0) = butE p.eff j := by rw [← ih.eff]; exact effK_but _
    show _ ∧ _
    unfold butE at hbu ⊢
    cases hq : againS [] [] ((p.eff.filter fun q => !decide ((q.1 : Int) = (j : Int))).map (·.2)) with
    | none => exact ⟨ih.os, ih.ls, rfl, ih.eff, ha⟩
    | some r =>
     refine ⟨rfl, rfl, rfl, hbu, fun i hi e => ?_⟩
     simp only at e
     rw [List.getElem?_set_ne (by omega)] at e
     exact ha i hi e
   obtain ⟨k1, k2, k3, k4, k5⟩ := key
   exact ⟨k1, k2, by rw [ih.errs, k3], k4, hl, by simp [ih.elen], k5, hb⟩
  ·rw [if_neg hw] at hb hl ⊢
   rw [if_neg hw]
   simp only at hb hl ⊢
   rw [ih.os, ih.ls] at *
   by_cases h0 : (doS p.os p.ls x).2.2 = 0
   ·rw [if_pos h0] at hb hl ⊢
    rw [if_pos h0]
    refine ⟨rfl, rfl, by rw [ih.errs], ?_, hl, by simp [ih.elen], fun i hi => by rw [List.getElem?_set_ne (by omega)]; exact ih.above i (by omega), hb⟩
    have ha : ∀ i, k + 1 ≤ i → (s.inn.set k 1)[i]? ≠ some 1 := fun i hi => by rw [List.getElem?_set_ne (by omega)]; exact ih.above i (by omega)
    have e1 := effK_above (lines := lines) ha (lines.length - (k + 1))
    have e2 := effK_above (lines := lines) ih.above (lines.length - k)
    rw [show k + 1 + (lines.length - (k + 1)) = lines.length by omega] at e1
    rw [show k + (lines.length - k) = lines.length by omega] at e2
    have e3 : effK lines (s.inn.set k 1) k = effK lines s.inn k := effK_congr k fun i hi => List.getElem?_set_ne (by omega)
    have hkl : k < s.inn.length := by rw [ih.len]; omega
    have e4 : (s.inn.set k 1)[k]? = some 1 := by rw [List.getElem?_set]; simp [hkl]
    show effK lines (s.inn.set k 1) lines.length = _
    rw [e1, effK_yes (by omega) e4, e3, ← e2, hx, ih.elen]
    congr 1
    exact ih.eff
   ·rw [if_neg h0] at hb hl ⊢
    rw [if_neg h0]
    exact ⟨rfl, rfl, by rw [ih.errs], ih.eff, hl, by simp [ih.elen], fun i hi => ih.above i (by omega), hb⟩

theorem good_one {text : ByteArray} {l : List Ln} (h : parseS text = (l, 0)) : ∀ x ∈ l, 1 ≤ x.one := fun x hx => by
 have := parseS_good (text := text)
 rw [h] at this
 exact (this x hx).one.1
theorem playS_rel {lines : List Ln} (hg : ∀ x ∈ lines, 1 ≤ x.one) : PlR lines lines.length (playS lines) (playE lines) := by
 have := play_rel hg lines.length (Nat.le_refl _)
 rwa [List.take_length] at this
end Go.Proofs.YtcnpbcgkhhebaaaGreatDoor
/- Which seasons are valid, in plain words. -/
namespace Go.Proofs.YtcnpbcgkhhebaaaGreatDoor
open Go.RowKit

theorem rise_inj {os : List Ow} (h : Rising os) : ∀ x ∈ os, ∀ y ∈ os, x.num = y.num → x = y := by
 intro x hx y hy e
 obtain ⟨i, hi, rfl⟩ := List.getElem_of_mem hx
 obtain ⟨j, hj, rfl⟩ := List.getElem_of_mem hy
 rw [Rising, List.pairwise_iff_getElem] at h
 simp only [List.length_map, List.getElem_map] at h
 rcases Nat.lt_trichotomy i j with hij | rfl | hij
 ·have := h i j hi hj hij; omega
 ·rfl
 ·have := h j i hj hi hij; omega
theorem own_ix {os : List Ow} (h : Rising os) {i : Nat} (hi : i < os.length) : ownIx os os[i].num = i := by
 unfold ownIx
 refine idxI_hit hi (fun j hj => ?_) (by simp)
 rw [Rising, List.pairwise_iff_getElem] at h
 simp only [List.length_map, List.getElem_map] at h
 have := h j i (by omega) hi hj
 rw [beq_eq_false_iff_ne]
 omega
theorem own_none {os : List Ow} {n : Int} (h : ∀ x ∈ os, x.num ≠ n) : ownIx os n = -1 := idxI_miss fun j hj => by rw [beq_eq_false_iff_ne]; exact h _ (List.getElem_mem hj)
theorem own_cases (os : List Ow) (n : Int) : (ownIx os n = -1 ∧ ∀ x ∈ os, x.num ≠ n) ∨ ∃ i : Nat, ownIx os n = i ∧ ∃ hi : i < os.length, os[i].num = n := by
 by_cases h : 0 ≤ ownIx os n
 ·obtain ⟨i, h1, hi, h2⟩ := idxI_at h
  exact .inr ⟨i, h1, hi, by simpa using h2⟩
 ·refine .inl ⟨own_none fun x hx e => ?_, fun x hx e => ?_⟩
  ·have := idxI_neg h x hx
   simp [e] at this
  ·have := idxI_neg h x hx
   simp [e] at this
theorem log_cases (ls : List Lg) (n : Int) : (logIx ls n = -1 ∧ ∀ x ∈ ls, x.num ≠ n) ∨ ∃ i : Nat, logIx ls n = i ∧ ∃ hi : i < ls.length, ls[i].num = n := by
 by_cases h : 0 ≤ logIx ls n
 ·obtain ⟨i, h1, hi, h2⟩ := idxI_at h
  exact .inr ⟨i, h1, hi, by simpa using h2⟩
 ·have hn : ∀ x ∈ ls, x.num ≠ n := fun x hx e => by
   have := idxI_neg h x hx
   simp [e] at this
  exact .inl ⟨idxI_miss fun j hj => by rw [beq_eq_false_iff_ne]; exact hn _ (List.getElem_mem hj), hn⟩
theorem rise_of {os : List Ow} (h : Rising os) : riseB os = true := by
 rw [riseB_iff]
 intro i hi
 rw [Rising, List.pairwise_iff_getElem] at h
 simp only [List.length_map, List.getElem_map] at h
 exact h i (i + 1) (by omega) hi (by omega)
structure Valid (os : List Ow) (ls : List Lg) : Prop where
 os20 : os.length ≤ 20
 ls100 : ls.length ≤ 100
 mark : ∀ x ∈ os, x.mark.size ≠ 0 ∧ isSeenB x.mark = true
 seen : ∀ l ∈ ls, isSeenB l.seen = true
 onum : ∀ x ∈ os, 1 ≤ x.num ∧ x.num ≤ 1099511627776
 lnum : ∀ l ∈ ls, 1 ≤ l.num ∧ l.num ≤ 1099511627776
 feet : ∀ l ∈ ls, 1 ≤ l.feet ∧ l.feet ≤ 10000
 lown : ∀ l ∈ ls, 0 ≤ l.own ∧ l.own ≤ 1099511627776
 rise : Rising os
 marks : Marks os
 nums : (ls.map (·.num)).Nodup
 has : ∀ l ∈ ls, l.own ≠ 0 → ∃ x ∈ os, x.num = l.own ∧ wearsB x.mark l.seen = true
 here : ∀ l ∈ ls, l.own = 0 → l.gone = false
 paid : ∀ x ∈ os, 0 ≤ x.paid ∧ x.paid ≤ feesOf ls x.num
theorem stray_iff (x : Lg) : strayB x = false ↔ (1 ≤ x.num ∧ x.num ≤ 1099511627776) ∧ (0 ≤ x.own ∧ x.own ≤ 1099511627776) ∧ (1 ≤ x.feet ∧ x.feet ≤ 10000) := by
 unfold strayB
 simp [and_assoc]
theorem valid_of {os : List Ow} {ls : List Lg} (h : checkS os ls = 0) : Valid os ls := by
 obtain ⟨h1, h2, h3, h4, h5, h6, h7⟩ := checkS_ok h
 obtain ⟨g1, g2, g3, g4, g5, g6⟩ := checkO_ok h7
 have hr := rise_pw g1
 have hs : ∀ l ∈ ls, (1 ≤ l.num ∧ l.num ≤ 1099511627776) ∧ (0 ≤ l.own ∧ l.own ≤ 1099511627776) ∧ (1 ≤ l.feet ∧ l.feet ≤ 10000) := fun l hl => (stray_iff l).1 (by simpa using List.any_eq_false.1 h6 l hl)
 refine ⟨h1, h2, ?_, ?_, ?_, fun l hl => (hs l hl).1, fun l hl => (hs l hl).2.2, fun l hl => (hs l hl).2.1, hr, g2, g3, ?_, ?_, ?_⟩
 ·intro x hx
  have := List.any_eq_false.1 h3 x hx
  unfold oddB at this
  simp only [Bool.or_eq_true, decide_eq_true_eq, not_or, Bool.not_eq_true', Bool.not_eq_false] at this
  exact this
 ·intro l hl
  have := List.any_eq_false.1 h4 l hl
  simpa using this
 ·intro x hx
  have := List.any_eq_false.1 h5 x hx
  unfold numBad at this
  simpa using this
 ·intro l hl h0
  have k1 := List.any_eq_false.1 g4 l hl
  have k2 := List.any_eq_false.1 g5 l hl
  unfold strangeB at k1
  unfold wrongB at k2
  rw [if_neg h0] at k2
  rcases own_cases os l.own with ⟨e, _⟩ | ⟨i, e, hi, hn⟩
  ·rw [e] at k1
   simp [h0] at k1
  ·rw [e, mk_at hi] at k2
   exact ⟨os[i], List.getElem_mem hi, hn, by simpa using k2⟩
 ·intro l hl h0
  have k2 := List.any_eq_false.1 g5 l hl
  unfold wrongB at k2
  rw [if_pos h0] at k2
  simpa using k2
 ·intro x hx
  obtain ⟨i, hi, rfl⟩ := List.getElem_of_mem hx
  rw [fees_at g1 ls hi]
  exact paid_ok h hi
theorem valid_check {os : List Ow} {ls : List Lg} (h : Valid os ls) : checkS os ls = 0 := by
 have hr := rise_of h.rise
 have d1 : (os.any oddB || ls.any (fun x => !isSeenB x.seen)) = false := by
  rw [Bool.or_eq_false_iff, List.any_eq_false, List.any_eq_false]
  refine ⟨fun x hx => ?_, fun l hl => by simp [h.seen l hl]⟩
  unfold oddB
  have := h.mark x hx
  simp [this.1, this.2]
 have d2 : os.any numBad = false := by
  rw [List.any_eq_false]
  intro x hx
  unfold numBad
  have := h.onum x hx
  simp [this.1, this.2]
 have d3 : ls.any strayB = false := by
  rw [List.any_eq_false]
  intro l hl
  rw [(stray_iff l).2 ⟨h.lnum l hl, h.lown l hl, h.feet l hl⟩]
  simp
 have d4 : ls.any (strangeB os) = false := by
  rw [List.any_eq_false]
  intro l hl
  unfold strangeB
  by_cases h0 : l.own = 0
  ·simp [h0]
  ·obtain ⟨x, hx, e, _⟩ := h.has l hl h0
   obtain ⟨i, hi, rfl⟩ := List.getElem_of_mem hx
   rw [← e, own_ix h.rise hi]
   simp
 have d5 : ls.any (wrongB os) = false := by
  rw [List.any_eq_false]
  intro l hl
  unfold wrongB
  by_cases h0 : l.own = 0
  ·rw [if_pos h0, h.here l hl h0]; simp
  ·rw [if_neg h0]
   obtain ⟨x, hx, e, hw⟩ := h.has l hl h0
   obtain ⟨i, hi, rfl⟩ := List.getElem_of_mem hx
   rw [← e, own_ix h.rise hi, mk_at hi, hw]
   simp
 have d6 : paidB os ls = true := by
  unfold paidB
  rw [List.all_eq_true]
  intro i hi
  rw [List.mem_range] at hi
  rw [List.getElem?_eq_getElem hi]
  have := h.paid _ (List.getElem_mem hi)
  rw [fees_at hr ls hi] at this
  simp [this.1, this.2]
 have m1 := dd_len (os.map (·.mark))
 have m2 := dd_len (ls.map (·.num))
 rw [List.length_map] at m1 m2
 have e1 := m1.2.2 h.marks
 have e2 := m2.2.2 h.nums
 have c1 := h.os20
 have c2 := h.ls100
 unfold checkS checkO
 rw [if_neg (by simp; omega), d1, d2, d3, d4, d5, d6, hr, e1, e2]
 simp
theorem valid_iff {os : List Ow} {ls : List Lg} : checkS os ls = 0 ↔ Valid os ls := ⟨valid_of, valid_check⟩

theorem fees_pos {ls : List Lg} (h : ∀ l ∈ ls, 1 ≤ l.feet ∧ l.feet ≤ 10000) (o : Int) : 0 ≤ feesOf ls o := (feesOf_bd h o).1
theorem fees_app (a b : List Lg) (o : Int) : feesOf (a ++ b) o = feesOf a o + feesOf b o := by
 unfold feesOf
 rw [List.filter_append, List.map_append, List.sum_append]
theorem fees_one (l : Lg) (o : Int) : feesOf [l] o = if l.own = o then fee l else 0 := by
 unfold feesOf
 by_cases h : l.own = o <;> simp [h]
theorem fees_nil (o : Int) : feesOf [] o = 0 := rfl
theorem fees_cons (l : Lg) (r : List Lg) (o : Int) : feesOf (l :: r) o = (if l.own = o then fee l else 0) + feesOf r o := by
 rw [show l :: r = [l] ++ r from rfl, fees_app, fees_one]
theorem fees_set {l' : Lg} {o : Int} : ∀ {ls : List Lg} {i : Nat} (hi : i < ls.length), feesOf (ls.set i l') o = feesOf ls o - (if ls[i].own = o then fee ls[i] else 0) + (if l'.own = o then fee l' else 0)
 | l :: r, 0, _ => by
  rw [List.set_cons_zero, fees_cons, fees_cons, List.getElem_cons_zero]
  omega
 | l :: r, i + 1, hi => by
  rw [List.set_cons_succ, fees_cons, fees_cons, fees_set (by simpa using hi), List.getElem_cons_succ]
  omega

/-- The first m logs of owner o that are here go. -/
def goneF (o : Int) : Nat → List Lg → List Lg
 | _, [] => []
 | 0, l :: r => l :: r
 | m + 1, l :: r => if l.own = o ∧ l.gone = false then { l with gone := true } :: goneF o m r else l :: goneF o (m + 1) r
def isHere (o : Int) (ls : List Lg) (i : Nat) : Bool := match ls[i]? with | some l => decide (l.own = o) && !l.gone | none => false
theorem hereIx_cons (o : Int) (l : Lg) (r : List Lg) : hereIx o (l :: r) (r.length + 1) = (if l.own = o ∧ l.gone = false then [0] else []) ++ (hereIx o r r.length).map (· + 1) := by
 have e : (isHere o (l :: r) ∘ Nat.succ) = isHere o r := by
  funext i
  simp [isHere]
 show ((List.range (r.length + 1)).filter (isHere o (l :: r))).map (fun i : Nat => (i : Int)) = _ ++ (((List.range r.length).filter (isHere o r)).map fun i : Nat => (i : Int)).map (· + 1)
 rw [List.range_succ_eq_map, List.filter_cons, List.filter_map, e]
 have h0 : isHere o (l :: r) 0 = (decide (l.own = o) && !l.gone) := rfl
 rw [h0, List.map_map]
 by_cases h : l.own = o ∧ l.gone = false
 ·rw [if_pos (by simp [h.1, h.2]), if_pos h, List.map_cons, List.map_map]
  rfl
 ·rw [if_neg (by rw [Bool.and_eq_true, decide_eq_true_eq, Bool.not_eq_true']; exact h), if_neg h, List.map_map]
  rfl
theorem gone_succ (l : Lg) (r : List Lg) (i : Nat) : goneAt (l :: r) ((i : Int) + 1) = l :: goneAt r i := by
 unfold goneAt
 rw [show ((i : Int) + 1).toNat = i + 1 by omega, Int.toNat_natCast, List.getElem?_cons_succ]
 split
 ·rw [List.set_cons_succ]
 ·rfl
theorem gones_succ (l : Lg) : ∀ (ix : List Nat) (r : List Lg), (ix.map fun i : Nat => (i : Int) + 1).foldl goneAt (l :: r) = l :: (ix.map fun i : Nat => (i : Int)).foldl goneAt r
 | [], r => rfl
 | i :: ix, r => by rw [List.map_cons, List.map_cons, List.foldl_cons, List.foldl_cons, gone_succ, gones_succ l ix]
theorem here_nat (o : Int) (r : List Lg) (n m : Nat) : ∃ ix : List Nat, (hereIx o r n).take m = ix.map fun i : Nat => (i : Int) := by
 unfold hereIx
 exact ⟨_, List.map_take.symm⟩
theorem gone_eq (o : Int) : ∀ (ls : List Lg) (m : Nat), ((hereIx o ls ls.length).take m).foldl goneAt ls = goneF o m ls
 | [], m => by
  have : hereIx o [] 0 = [] := rfl
  rw [List.length_nil, this, List.take_nil]
  cases m <;> rfl
 | l :: r, 0 => by rw [List.take_zero, goneF]; rfl
 | l :: r, m + 1 => by
  rw [List.length_cons, hereIx_cons, goneF]
  by_cases h : l.own = o ∧ l.gone = false
  ·rw [if_pos h, if_pos h, List.singleton_append, List.take_succ_cons, List.foldl_cons, ← List.map_take]
   obtain ⟨ix, hix⟩ := here_nat o r r.length m
   have ih := gone_eq o r m
   rw [hix] at ih ⊢
   rw [List.map_map]
   have e : goneAt (l :: r) 0 = { l with gone := true } :: r := rfl
   rw [e]
   have := gones_succ { l with gone := true } ix r
   rw [ih] at this
   exact this
  ·rw [if_neg h, if_neg h, List.nil_append, ← List.map_take]
   obtain ⟨ix, hix⟩ := here_nat o r r.length (m + 1)
   have ih := gone_eq o r (m + 1)
   rw [hix] at ih ⊢
   rw [List.map_map]
   have := gones_succ l ix r
   rw [ih] at this
   exact this
theorem goneF_map {β : Type} (f : Lg → β) (hf : ∀ l : Lg, f { l with gone := true } = f l) (o : Int) : ∀ (m : Nat) (ls : List Lg), (goneF o m ls).map f = ls.map f
 | 0, [] => rfl
 | m + 1, [] => rfl
 | 0, l :: r => rfl
 | m + 1, l :: r => by
  rw [goneF]
  split
  ·rw [List.map_cons, List.map_cons, hf, goneF_map f hf o m r]
  ·rw [List.map_cons, List.map_cons, goneF_map f hf o (m + 1) r]
theorem goneF_mem {o : Int} : ∀ (m : Nat) (ls : List Lg), ∀ k ∈ goneF o m ls, k ∈ ls ∨ ∃ l ∈ ls, l.own = o ∧ k = { l with gone := true }
 | 0, [], k, h => by cases h
 | m + 1, [], k, h => by cases h
 | 0, l :: r, k, h => .inl h
 | m + 1, l :: r, k, h => by
  rw [goneF] at h
  split at h
  ·rename_i hc
   rcases List.mem_cons.1 h with rfl | h
   ·exact .inr ⟨l, List.mem_cons_self, hc.1, rfl⟩
   ·rcases goneF_mem m r k h with h | ⟨x, hx, e⟩
    ·exact .inl (List.mem_cons_of_mem _ h)
    ·exact .inr ⟨x, List.mem_cons_of_mem _ hx, e⟩
  ·rcases List.mem_cons.1 h with rfl | h
   ·exact .inl List.mem_cons_self
   ·rcases goneF_mem (m + 1) r k h with h | ⟨x, hx, e⟩
    ·exact .inl (List.mem_cons_of_mem _ h)
    ·exact .inr ⟨x, List.mem_cons_of_mem _ hx, e⟩
theorem goneF_fees (o p : Int) : ∀ (m : Nat) (ls : List Lg), feesOf (goneF o m ls) p = feesOf ls p
 | 0, [] => rfl
 | m + 1, [] => rfl
 | 0, l :: r => rfl
 | m + 1, l :: r => by
  rw [goneF]
  split
  ·rw [fees_cons, fees_cons, goneF_fees o p m r]
   rfl
  ·rw [fees_cons, fees_cons, goneF_fees o p (m + 1) r]
end Go.Proofs.YtcnpbcgkhhebaaaGreatDoor
/- The parts of a line, word by word. -/
namespace Go.Proofs.YtcnpbcgkhhebaaaGreatDoor
open Go.RowKit

def bDs : ByteArray := ⟨#[45]⟩
def bNo : ByteArray := ⟨#[]⟩
def okN (a : ByteArray) (m : Int) : Bool := numOk a && decide (1 ≤ numV a) && decide (numV a ≤ m)
def okM (b : ByteArray) : Bool := !b.toList.isEmpty && isSeenB b
def twoQ (w a b t : ByteArray) (m1 m2 : Int) : Option Ln := if okN a m1 && okN b m2 then some ⟨w, numV a, numV b, bNo, t⟩ else none
def coreQ (q : List ByteArray) (t : ByteArray) : Option Ln :=
 match q with
 | [w, a] => if w = wStrike then (if okN a 200 then some ⟨w, numV a, 0, bNo, t⟩ else none) else none
 | [w, a, b] =>
  if w = wMark then (if okN a 1099511627776 && okM b then some ⟨w, numV a, 0, b, t⟩ else none)
  else if w = wClaim then twoQ w a b t 1099511627776 1099511627776
  else if w = wRaft then twoQ w a b t 1099511627776 100
  else if w = wPay then twoQ w a b t 1099511627776 1000000
  else none
 | [w, a, b, c] => if w = wLog then (if okN a 1099511627776 && okN c 10000 && (decide (b = bDs) || okM b) then some ⟨w, numV a, numV c, if b = bDs then bNo else b, t⟩ else none) else none
 | _ => none
theorem step_num {lg : Bool} {st : List Int × ByteArray} {m : Int} {p : ByteArray} (h : 0 < m) : stepL lg st (m, p) = if okN p m then some (st.1 ++ [numV p], st.2) else none := by
 unfold stepL okN
 rw [if_pos h]
 by_cases h1 : numOk p = true ∧ 1 ≤ numV p ∧ numV p ≤ m
 ·rw [if_pos h1, if_pos (by simp [h1])]
 ·rw [if_neg h1, if_neg (by simpa [and_assoc] using h1)]
theorem step_let {lg : Bool} {st : List Int × ByteArray} {b : ByteArray} : stepL lg st (0, b) = if b = bDs ∧ lg = true then some st else if okM b then some (st.1, b) else none := by
 unfold stepL okM
 rw [if_neg (by simp)]
 show (if b = bDs ∧ lg = true then some st else _) = _
 by_cases h : b = bDs ∧ lg = true
 ·rw [if_pos h, if_pos h]
 ·rw [if_neg h, if_neg h]
  cases b.toList.isEmpty <;> cases isSeenB b <;> rfl
theorem mosts_cases (w : ByteArray) : (w = wMark ∧ mostsL w = [1099511627776, 0]) ∨ (w = wLog ∧ mostsL w = [1099511627776, 0, 10000]) ∨ (w = wClaim ∧ mostsL w = [1099511627776, 1099511627776]) ∨ (w = wRaft ∧ mostsL w = [1099511627776, 100]) ∨ (w = wPay ∧ mostsL w = [1099511627776, 1000000]) ∨ (w = wStrike ∧ mostsL w = [200]) ∨ ((w ≠ wMark ∧ w ≠ wLog ∧ w ≠ wClaim ∧ w ≠ wRaft ∧ w ≠ wPay ∧ w ≠ wStrike) ∧ mostsL w = []) := by
 unfold mostsL
 by_cases h1 : w = wMark
 ·exact .inl ⟨h1, by rw [if_pos h1]⟩
 rw [if_neg h1]
 by_cases h2 : w = wLog
 ·exact .inr (.inl ⟨h2, by rw [if_pos h2]⟩)
 rw [if_neg h2]
 by_cases h3 : w = wClaim
 ·exact .inr (.inr (.inl ⟨h3, by rw [if_pos h3]⟩))
 rw [if_neg h3]
 by_cases h4 : w = wRaft
 ·exact .inr (.inr (.inr (.inl ⟨h4, by rw [if_pos h4]⟩)))
 rw [if_neg h4]
 by_cases h5 : w = wPay
 ·exact .inr (.inr (.inr (.inr (.inl ⟨h5, by rw [if_pos h5]⟩))))
 rw [if_neg h5]
 by_cases h6 : w = wStrike
 ·exact .inr (.inr (.inr (.inr (.inr (.inl ⟨h6, by rw [if_pos h6]⟩)))))
 rw [if_neg h6]
 exact .inr (.inr (.inr (.inr (.inr (.inr ⟨⟨h1, h2, h3, h4, h5, h6⟩, rfl⟩)))))
theorem run_two {lg : Bool} {m1 m2 : Int} {a b : ByteArray} (h1 : 0 < m1) (h2 : 0 < m2) : runL lg ([], bNo) [(m1, a), (m2, b)] = if okN a m1 && okN b m2 then some ([numV a, numV b], bNo) else none := by
 rw [runL, step_num h1]
 cases okN a m1
 ·rfl
 ·simp only [if_true, Bool.true_and, runL]
  rw [step_num h2]
  cases okN b m2 <;> rfl
def coreR (p : List ByteArray) (t : ByteArray) : Option Ln :=
 if p.length < 2 then none else
 if (mostsL ((p[0]?).getD bNo)).length ≠ p.length - 1 then none else
 match runL (decide ((p[0]?).getD bNo = wLog)) ([], bNo) ((mostsL ((p[0]?).getD bNo)).zip (p.drop 1)) with
 | none => none
 | some (all, letters) => some ⟨(p[0]?).getD bNo, (all[0]?).getD 0, (all[1]?).getD 0, letters, t⟩
theorem core_R (q : List (List UInt8)) : coreP q = coreR (q.map mkB) (mkB (Lib.join q [32])) := by
 cases q with
 | nil => rfl
 | cons w r =>
  unfold coreP coreR
  rw [List.length_map, ← List.map_drop]
  rfl
theorem core_RQ (p : List ByteArray) (t : ByteArray) : coreR p t = coreQ p t := by
 match p with
 | [] => rfl
 | [w] => rfl
 | [W, a] =>
  unfold coreR
  simp only [List.length_cons, List.length_nil, List.getElem?_cons_zero, Option.getD_some, List.drop_succ_cons, List.drop_zero, coreQ]
  rw [if_neg (by omega)]
  rcases mosts_cases W with ⟨e, m⟩ | ⟨e, m⟩ | ⟨e, m⟩ | ⟨e, m⟩ | ⟨e, m⟩ | ⟨e, m⟩ | ⟨e, m⟩
  ·rw [m, if_pos (by simp), e, if_neg (by decide)]
  ·rw [m, if_pos (by simp), e, if_neg (by decide)]
  ·rw [m, if_pos (by simp), e, if_neg (by decide)]
  ·rw [m, if_pos (by simp), e, if_neg (by decide)]
  ·rw [m, if_pos (by simp), e, if_neg (by decide)]
  ·rw [m, if_neg (by simp), e, if_pos rfl, List.zip_cons_cons, List.zip_nil_left, runL, step_num (by omega)]
   cases okN a 200 <;> rfl
  ·rw [m, if_pos (by simp), if_neg e.2.2.2.2.2]
 | [W, a, b] =>
  unfold coreR
  simp only [List.length_cons, List.length_nil, List.getElem?_cons_zero, Option.getD_some, List.drop_succ_cons, List.drop_zero, coreQ]
  rw [if_neg (by omega)]
  rcases mosts_cases W with ⟨e, m⟩ | ⟨e, m⟩ | ⟨e, m⟩ | ⟨e, m⟩ | ⟨e, m⟩ | ⟨e, m⟩ | ⟨e, m⟩
  ·rw [m, if_neg (by simp), e, if_pos rfl, List.zip_cons_cons, List.zip_cons_cons, List.zip_nil_left, runL, step_num (by omega)]
   cases okN a 1099511627776
   ·rfl
   ·simp only [if_true, Bool.true_and, runL]
    rw [step_let, if_neg (by rintro ⟨_, h⟩; exact absurd (of_decide_eq_true h) (by decide))]
    cases okM b <;> rfl
  ·rw [m, if_pos (by simp), e, if_neg (by decide), if_neg (by decide), if_neg (by decide), if_neg (by decide)]
  ·rw [m, if_neg (by simp), e, if_neg (by decide), if_pos rfl, List.zip_cons_cons, List.zip_cons_cons, List.zip_nil_left]
   show (match runL _ ([], bNo) _ with | none => none | some (all, letters) => some _) = _
   rw [run_two (by omega) (by omega), twoQ]
   cases (okN a 1099511627776 && okN b 1099511627776) <;> rfl
  ·rw [m, if_neg (by simp), e, if_neg (by decide), if_neg (by decide), if_pos rfl, List.zip_cons_cons, List.zip_cons_cons, List.zip_nil_left]
   show (match runL _ ([], bNo) _ with | none => none | some (all, letters) => some _) = _
   rw [run_two (by omega) (by omega), twoQ]
   cases (okN a 1099511627776 && okN b 100) <;> rfl
  ·rw [m, if_neg (by simp), e, if_neg (by decide), if_neg (by decide), if_neg (by decide), if_pos rfl, List.zip_cons_cons, List.zip_cons_cons, List.zip_nil_left]
   show (match runL _ ([], bNo) _ with | none => none | some (all, letters) => some _) = _
   rw [run_two (by omega) (by omega), twoQ]
   cases (okN a 1099511627776 && okN b 1000000) <;> rfl
  ·rw [m, if_pos (by simp), e, if_neg (by decide), if_neg (by decide), if_neg (by decide), if_neg (by decide)]
  ·rw [m, if_pos (by simp), if_neg e.1, if_neg e.2.2.1, if_neg e.2.2.2.1, if_neg e.2.2.2.2.1]
 | [W, a, b, c] =>
  unfold coreR
  simp only [List.length_cons, List.length_nil, List.getElem?_cons_zero, Option.getD_some, List.drop_succ_cons, List.drop_zero, coreQ]
  rw [if_neg (by omega)]
  rcases mosts_cases W with ⟨e, m⟩ | ⟨e, m⟩ | ⟨e, m⟩ | ⟨e, m⟩ | ⟨e, m⟩ | ⟨e, m⟩ | ⟨e, m⟩
  ·rw [m, if_pos (by simp), e, if_neg (by decide)]
  ·rw [m, if_neg (by simp), e, if_pos rfl, List.zip_cons_cons, List.zip_cons_cons, List.zip_cons_cons, List.zip_nil_left, runL, step_num (by omega)]
   cases okN a 1099511627776
   ·rfl
   ·simp only [if_true, Bool.true_and, runL]
    rw [step_let]
    by_cases hb : b = bDs
    ·rw [if_pos ⟨hb, by simp⟩, decide_eq_true hb, if_pos hb]
     simp only
     rw [step_num (by omega)]
     cases okN c 10000 <;> rfl
    ·rw [if_neg (fun h => hb h.1), decide_eq_false hb, if_neg hb]
     cases okM b
     ·simp
     ·simp only [if_true, Bool.or_true, Bool.and_true]
      rw [step_num (by omega)]
      cases okN c 10000 <;> rfl
  ·rw [m, if_pos (by simp), e, if_neg (by decide)]
  ·rw [m, if_pos (by simp), e, if_neg (by decide)]
  ·rw [m, if_pos (by simp), e, if_neg (by decide)]
  ·rw [m, if_pos (by simp), e, if_neg (by decide)]
  ·rw [m, if_pos (by simp), if_neg e.2.1]
 | w :: a :: b :: c :: d :: r =>
  unfold coreR
  simp only [List.length_cons, List.getElem?_cons_zero, Option.getD_some, coreQ]
  rw [if_neg (by omega), if_pos]
  rcases mosts_cases w with ⟨e, m⟩ | ⟨e, m⟩ | ⟨e, m⟩ | ⟨e, m⟩ | ⟨e, m⟩ | ⟨e, m⟩ | ⟨e, m⟩ <;> rw [m] <;> simp

theorem core_Q (q : List (List UInt8)) : coreP q = coreQ (q.map mkB) (mkB (Lib.join q [32])) := by rw [core_R, core_RQ]

/-- What a line says, word by word. -/
structure LnFull (x : Ln) : Prop where
 ok : LnOk x
 one : 1 ≤ x.one ∧ x.one ≤ 1099511627776
 word : x.word = wMark ∨ x.word = wLog ∨ x.word = wClaim ∨ x.word = wRaft ∨ x.word = wPay ∨ x.word = wStrike
 strike : x.word = wStrike → x.one ≤ 200
 mark : x.word = wMark → x.letters.size ≠ 0
 pay : x.word = wPay → 1 ≤ x.two
 raft : x.word = wRaft → 1 ≤ x.two
theorem okM_size {b : ByteArray} (h : okM b = true) : b.size ≠ 0 := by
 unfold okM at h
 rw [Bool.and_eq_true] at h
 intro h0
 have : b.data.toList = [] := List.eq_nil_of_length_eq_zero (by simpa using h0)
 rw [ByteArray.toList_eq, this] at h
 cases h.1
theorem line_full {s : ByteArray} {n : Int} {x : Ln} (h : lineS s n = some x) : LnFull x := by
 obtain ⟨h1, h2, h3, h4, h5⟩ := lineS_ok h
 have hc := (line_form h).2
 rw [core_Q] at hc
 have key : (x.word = wMark → x.letters.size ≠ 0) ∧ (x.word = wPay → 1 ≤ x.two) ∧ (x.word = wRaft → 1 ≤ x.two) := by
  generalize (parts 32 x.text.data.toList).map mkB = q at hc
  generalize mkB (Lib.join (parts 32 x.text.data.toList) [32]) = t at hc
  have tw : ∀ {w a b t : ByteArray} {m1 m2 : Int}, twoQ w a b t m1 m2 = some x → x.word = w ∧ 1 ≤ x.two := by
   intro w a b t m1 m2 hq
   unfold twoQ at hq
   split at hq
   ·rename_i c
    cases hq
    rw [Bool.and_eq_true] at c
    have c2 := c.2
    unfold okN at c2
    simp only [Bool.and_eq_true, decide_eq_true_eq] at c2
    exact ⟨rfl, c2.1.2⟩
   ·cases hq
  unfold coreQ at hc
  split at hc
  ·split at hc
   ·rename_i e
    split at hc
    ·cases hc
     exact ⟨fun f => absurd (e.symm.trans f) (by decide), fun f => absurd (e.symm.trans f) (by decide), fun f => absurd (e.symm.trans f) (by decide)⟩
    ·cases hc
   ·cases hc
  ·split at hc
   ·rename_i e
    split at hc
    ·rename_i c
     cases hc
     rw [Bool.and_eq_true] at c
     exact ⟨fun _ => okM_size c.2, fun f => absurd (e.symm.trans f) (by decide), fun f => absurd (e.symm.trans f) (by decide)⟩
    ·cases hc
   ·rename_i hm
    split at hc
    ·obtain ⟨e1, e2⟩ := tw hc
     exact ⟨fun f => absurd (e1.symm.trans f) hm, fun _ => e2, fun _ => e2⟩
    ·split at hc
     ·obtain ⟨e1, e2⟩ := tw hc
      exact ⟨fun f => absurd (e1.symm.trans f) hm, fun _ => e2, fun _ => e2⟩
     ·split at hc
      ·obtain ⟨e1, e2⟩ := tw hc
       exact ⟨fun f => absurd (e1.symm.trans f) hm, fun _ => e2, fun _ => e2⟩
      ·cases hc
  ·split at hc
   ·rename_i e
    split at hc
    ·cases hc
     exact ⟨fun f => absurd (e.symm.trans f) (by decide), fun f => absurd (e.symm.trans f) (by decide), fun f => absurd (e.symm.trans f) (by decide)⟩
    ·cases hc
   ·cases hc
  ·cases hc
 exact ⟨h1, ⟨h2, h3⟩, h5, h4, key.1, key.2.1, key.2.2⟩
theorem IsLine.full {x : Ln} (h : IsLine x) : LnFull x := line_full (line_mk (n := 1) (by omega) h.core)
end Go.Proofs.YtcnpbcgkhhebaaaGreatDoor
/- A line that is done leaves a valid season. -/
namespace Go.Proofs.YtcnpbcgkhhebaaaGreatDoor
open Go.RowKit

theorem valid_mark {os : List Ow} {ls : List Lg} {x : Ln} (h : Valid os ls) (h1 : 1 ≤ x.one ∧ x.one ≤ 1099511627776) (h2 : x.letters.size ≠ 0) (h3 : isSeenB x.letters = true) : Valid (markS os ls x).1 (markS os ls x).2.1 := by
 unfold markS
 split
 ·exact h
 ·rename_i c1
  rw [not_or] at c1
  split
  ·exact h
  ·rename_i c2
   have hn : ∀ z ∈ os, z.num ≠ x.one := fun z hz e => by
    have := idxI_neg (p := fun y : Ow => y.num == x.one) c1.1 z hz
    simp [e] at this
   have ho := h.os20
   refine ⟨by rw [ins_len]; omega, h.ls100, ?_, h.seen, ?_, h.lnum, h.feet, h.lown, ins_rising _ _ h.rise hn, ?_, h.nums, ?_, h.here, ?_⟩
   ·intro z hz
    rcases ins_mem.1 hz with hz | rfl
    ·exact h.mark z hz
    ·exact ⟨h2, h3⟩
   ·intro z hz
    rcases ins_mem.1 hz with hz | rfl
    ·exact h.onum z hz
    ·exact h1
   ·rw [Marks, ((ins_perm _ os).map (·.mark)).nodup_iff, List.map_append, List.nodup_append]
    refine ⟨h.marks, by simp, fun a ha b hb e => ?_⟩
    obtain ⟨z, hz, rfl⟩ := List.mem_map.1 ha
    simp only [List.map_cons, List.map_nil, List.mem_singleton] at hb
    subst hb
    refine c1.2 (List.any_eq_true.2 ⟨z, hz, ?_⟩)
    rw [beq_iff_eq, e]
   ·intro l hl h0
    obtain ⟨z, hz, e, hw⟩ := h.has l hl h0
    exact ⟨z, ins_mem.2 (.inl hz), e, hw⟩
   ·intro z hz
    rcases ins_mem.1 hz with hz | rfl
    ·exact h.paid z hz
    ·exact ⟨Int.le_refl _, fees_pos h.feet _⟩
theorem worn_mem {os : List Ow} {seen : ByteArray} {n : Int} : n ∈ wornS os seen ↔ ∃ x ∈ os, wearsB x.mark seen = true ∧ x.num = n := by
 unfold wornS
 rw [List.mem_map]
 constructor
 ·rintro ⟨x, hx, rfl⟩
  obtain ⟨h1, h2⟩ := List.mem_filter.1 hx
  exact ⟨x, h1, h2, rfl⟩
 ·rintro ⟨x, hx, hw, rfl⟩
  exact ⟨x, List.mem_filter.2 ⟨hx, hw⟩, rfl⟩
theorem oneOf_mem {l : List Int} (h : oneOf l ≠ 0) : l = [oneOf l] := by
 unfold oneOf at h ⊢
 split
 ·rfl
 ·rename_i h2
  exact absurd (by split <;> first | rfl | (rename_i e; exact absurd rfl (h2 _))) h
theorem valid_come {os : List Ow} {ls : List Lg} {x : Ln} (h : Valid os ls) (h1 : 1 ≤ x.one ∧ x.one ≤ 1099511627776) (h2 : 1 ≤ x.two ∧ x.two ≤ 10000) (h3 : isSeenB x.letters = true) : Valid (comeS os ls x).1 (comeS os ls x).2.1 := by
 unfold comeS
 split
 ·exact h
 ·rename_i c1
  split
  ·exact h
  ·rename_i c2
   have hl := h.ls100
   have hw : oneOf (wornS os x.letters) ≠ 0 → ∃ z ∈ os, z.num = oneOf (wornS os x.letters) ∧ wearsB z.mark x.letters = true := fun h0 => by
    have hm : oneOf (wornS os x.letters) ∈ wornS os x.letters := by
     have e := oneOf_mem h0
     exact e ▸ List.mem_singleton.2 rfl
    obtain ⟨z, hz, hw, e⟩ := worn_mem.1 hm
    exact ⟨z, hz, e, hw⟩
   have key : ∀ (P : Lg → Prop), (∀ l ∈ ls, P l) → P ⟨x.one, x.letters, x.two, oneOf (wornS os x.letters), false⟩ → ∀ l ∈ ls ++ [⟨x.one, x.letters, x.two, oneOf (wornS os x.letters), false⟩], P l := by
    intro P p1 p2 l hl
    rcases List.mem_append.1 hl with hl | hl
    ·exact p1 l hl
    ·rw [List.mem_singleton] at hl
     subst hl
     exact p2
   refine ⟨h.os20, by simp only [List.length_append, List.length_cons, List.length_nil]; omega, h.mark, key _ h.seen h3, h.onum, key _ h.lnum h1, key _ h.feet h2, key _ h.lown ?_, h.rise, h.marks, ?_, key _ h.has hw, key _ h.here (fun _ => rfl), ?_⟩
   ·show 0 ≤ oneOf (wornS os x.letters) ∧ oneOf (wornS os x.letters) ≤ 1099511627776
    by_cases h0 : oneOf (wornS os x.letters) = 0
    ·rw [h0]; omega
    ·obtain ⟨z, hz, e, _⟩ := hw h0
     have := h.onum z hz
     omega
   ·rw [List.map_append, List.nodup_append]
    refine ⟨h.nums, by simp, fun a ha b hb e => ?_⟩
    obtain ⟨z, hz, rfl⟩ := List.mem_map.1 ha
    simp only [List.map_cons, List.map_nil, List.mem_singleton] at hb
    subst hb
    rcases log_cases ls x.one with ⟨_, hn⟩ | ⟨i, e1, _⟩
    ·exact hn z hz e
    ·omega
   ·intro z hz
    obtain ⟨p1, p2⟩ := h.paid z hz
    rw [fees_app, fees_one]
    have hf : 3 ≤ fee ⟨x.one, x.letters, x.two, oneOf (wornS os x.letters), false⟩ := by unfold fee; simp only; omega
    split <;> omega
theorem claim_cases (os : List Ow) (ls : List Lg) (x : Ln) : ((claimS os ls x).1 = os ∧ (claimS os ls x).2.1 = ls ∧ (claimS os ls x).2.2 ≠ 0) ∨
  ∃ i k : Nat, ∃ hi : i < ls.length, ∃ hk : k < os.length, ls[i].num = x.one ∧ os[k].num = x.two ∧ ls[i].own = 0 ∧ wearsB os[k].mark ls[i].seen = true ∧ claimS os ls x = (os, ls.set i { ls[i] with own := x.two }, 0) := by
 have no : ∀ n : Int, n ≠ 0 → claimS os ls x = (os, ls, n) → ((claimS os ls x).1 = os ∧ (claimS os ls x).2.1 = ls ∧ (claimS os ls x).2.2 ≠ 0) := fun n hn e => by rw [e]; exact ⟨rfl, rfl, hn⟩
 rcases log_cases ls x.one with ⟨e1, _⟩ | ⟨i, e1, hi, h1⟩
 ·exact .inl (no 5 (by decide) (by unfold claimS; rw [e1, if_pos (.inl (by omega))]))
 rcases own_cases os x.two with ⟨e2, _⟩ | ⟨k, e2, hk, h2⟩
 ·exact .inl (no 5 (by decide) (by unfold claimS; rw [e2, if_pos (.inr (by omega))]))
 have hc : claimS os ls x = if ls[i].own ≠ 0 then (os, ls, 9) else if wearsB os[k].mark ls[i].seen then (os, ls.set i { ls[i] with own := x.two }, 0) else (os, ls, 17) := by
  unfold claimS
  rw [e1, e2, if_neg (by omega), Int.toNat_natCast, List.getElem?_eq_getElem hi, mk_at hk]
 by_cases h0 : ls[i].own = 0
 ·rw [if_neg (fun h => h h0)] at hc
  cases hw : wearsB os[k].mark ls[i].seen with
  | true =>
   rw [hw, if_pos rfl] at hc
   exact .inr ⟨i, k, hi, hk, h1, h2, h0, hw, hc⟩
  | false =>
   rw [hw, if_neg Bool.false_ne_true] at hc
   exact .inl (no 17 (by decide) hc)
 ·rw [if_pos h0] at hc
  exact .inl (no 9 (by decide) hc)
theorem set_all {α : Type} {P : α → Prop} {l : List α} {i : Nat} {y : α} (h : ∀ a ∈ l, P a) (hy : P y) : ∀ a ∈ l.set i y, P a := fun a ha => by
 rcases List.mem_or_eq_of_mem_set ha with ha | rfl
 ·exact h a ha
 ·exact hy
theorem valid_claim {os : List Ow} {ls : List Lg} {x : Ln} (h : Valid os ls) : Valid (claimS os ls x).1 (claimS os ls x).2.1 := by
 rcases claim_cases os ls x with ⟨e1, e2, _⟩ | ⟨i, k, hi, hk, h1, h2, h3, h4, e⟩
 ·rw [e1, e2]; exact h
 ·rw [e]
  have hm := List.getElem_mem hi
  have hko := h.onum _ (List.getElem_mem hk)
  rw [h2] at hko
  refine ⟨h.os20, by rw [List.length_set]; exact h.ls100, h.mark, set_all h.seen (h.seen ls[i] hm), h.onum, set_all h.lnum (h.lnum ls[i] hm), set_all h.feet (h.feet ls[i] hm), set_all h.lown ⟨by show 0 ≤ x.two; omega, hko.2⟩, h.rise, h.marks, ?_, set_all h.has ?_, set_all h.here ?_, ?_⟩
  ·show ((ls.set i { ls[i] with own := x.two }).map (·.num)).Nodup
   rw [map_set (·.num) (List.getElem?_eq_getElem hi)]
   ·exact h.nums
   ·rfl
  ·intro _
   exact ⟨os[k], List.getElem_mem hk, h2, h4⟩
  ·intro (h0 : x.two = 0)
   omega
  ·intro z hz
   have hzo := h.onum z hz
   obtain ⟨p1, p2⟩ := h.paid z hz
   show 0 ≤ z.paid ∧ z.paid ≤ feesOf (ls.set i { ls[i] with own := x.two }) z.num
   rw [fees_set hi, h3, if_neg (by omega)]
   have hf : 3 ≤ fee { ls[i] with own := x.two } := by have := h.feet _ hm; unfold fee; simp only; omega
   split <;> omega
theorem raft_form (os : List Ow) (ls : List Lg) (x : Ln) : raftS os ls x = if ownIx os x.one < 0 then (os, ls, 5) else if ((hereN x.one ls).length : Int) < x.two then (os, ls, 6) else (os, goneF x.one x.two.toNat ls, 0) := by
 unfold raftS
 rw [gone_eq]
 have : (hereIx x.one ls ls.length).length = (hereN x.one ls).length := by
  have key : ∀ ls : List Lg, (hereIx x.one ls ls.length).length = (hereN x.one ls).length := by
   intro ls
   induction ls with
   | nil => rfl
   | cons l r ih =>
    rw [List.length_cons, hereIx_cons, List.length_append, List.length_map, ih]
    unfold hereN
    rw [List.filter_cons]
    by_cases h : l.own = x.one ∧ l.gone = false
    ·rw [if_pos h, if_pos (by simp [h.1, h.2]), List.map_cons, List.length_cons, List.length_cons, List.length_nil]
     omega
    ·rw [if_neg h, if_neg (by rw [Bool.and_eq_true, decide_eq_true_eq, Bool.not_eq_true']; exact h)]
     simp
  exact key ls
 rw [this]
theorem valid_gone {os : List Ow} {ls : List Lg} {o : Int} {m : Nat} (h : Valid os ls) (ho : o ≠ 0) : Valid os (goneF o m ls) := by
 have key : ∀ (P : Lg → Prop), (∀ l ∈ ls, P l) → (∀ l ∈ ls, l.own = o → P { l with gone := true }) → ∀ l ∈ goneF o m ls, P l := by
  intro P p1 p2 l hl
  rcases goneF_mem m ls l hl with hl | ⟨k, hk, e, rfl⟩
  ·exact p1 l hl
  ·exact p2 k hk e
 have hlen : (goneF o m ls).length = ls.length := by
  have := congrArg List.length (goneF_map (fun _ => ()) (fun _ => rfl) o m ls)
  simpa using this
 refine ⟨h.os20, by rw [hlen]; exact h.ls100, h.mark, key _ h.seen fun l hl _ => h.seen l hl, h.onum, key _ h.lnum fun l hl _ => h.lnum l hl, key _ h.feet fun l hl _ => h.feet l hl, key _ h.lown fun l hl _ => h.lown l hl, h.rise, h.marks, ?_, key _ h.has fun l hl _ => h.has l hl, key _ h.here fun l hl e h0 => ?_, ?_⟩
 ·rw [goneF_map (·.num) (fun _ => rfl)]; exact h.nums
 ·exact absurd (e.symm.trans h0) ho
 ·intro z hz
  rw [goneF_fees]
  exact h.paid z hz
theorem valid_raft {os : List Ow} {ls : List Lg} {x : Ln} (h : Valid os ls) : Valid (raftS os ls x).1 (raftS os ls x).2.1 := by
 rw [raft_form]
 split
 ·exact h
 ·rename_i c1
  split
  ·exact h
  ·refine valid_gone h fun h0 => ?_
   rcases own_cases os x.one with ⟨e, _⟩ | ⟨i, e, hi, hn⟩
   ·omega
   ·have := h.onum _ (List.getElem_mem hi)
    omega
theorem fees_zero {os : List Ow} {ls : List Lg} (h : feesL os ls = List.replicate 20 0) {i : Nat} (hi : i < 20) : feeAt os ls i = 0 := by
 have h1 : (feesL os ls)[i]? = some (feeAt os ls i) := by unfold feesL; simp [hi]
 rw [h] at h1
 rw [List.getElem?_replicate] at h1
 simp [hi] at h1
 omega
/-- pay, in plain words: to pay is to owe at least so much. -/
theorem pay_form {os : List Ow} {ls : List Lg} {x : Ln} (hr : Rising os) (ho : os.length ≤ 20) (hp : ∀ y ∈ os, 0 ≤ y.paid) (h2 : 1 ≤ x.two) : (payS os ls x = (os, ls, 5) ∧ ∀ y ∈ os, y.num ≠ x.one) ∨
  ∃ i : Nat, ∃ hi : i < os.length, os[i].num = x.one ∧ payS os ls x = if feesOf ls x.one - os[i].paid < x.two then (os, ls, 4) else (os.set i { os[i] with paid := os[i].paid + x.two }, ls, 0) := by
 unfold payS
 rcases own_cases os x.one with ⟨e, hn⟩ | ⟨i, e, hi, hn⟩
 ·exact .inl ⟨by rw [e, if_pos (by omega)], hn⟩
 ·refine .inr ⟨i, hi, hn, ?_⟩
  have hf := fees_at (rise_of hr) ls hi
  rw [hn] at hf
  rw [e, if_neg (by omega), Int.toNat_natCast, List.getElem?_eq_getElem hi]
  simp only
  rw [hf]
  by_cases hz : feesL os ls = List.replicate 20 0
  ·have := fees_zero hz (i := i) (by omega)
   have hp1 := hp _ (List.getElem_mem hi)
   rw [if_pos (.inl hz), if_pos (by omega)]
  ·by_cases hc : feeAt os ls ↑i - os[i].paid < x.two
   ·rw [if_pos (.inr hc), if_pos hc]
   ·rw [if_neg (by rw [not_or]; exact ⟨hz, hc⟩), if_neg hc]
theorem valid_pay {os : List Ow} {ls : List Lg} {x : Ln} (h : Valid os ls) (h2 : 1 ≤ x.two) : Valid (payS os ls x).1 (payS os ls x).2.1 := by
 rcases pay_form (ls := ls) h.rise h.os20 (fun y hy => (h.paid y hy).1) h2 with ⟨e, _⟩ | ⟨i, hi, hn, e⟩
 ·rw [e]; exact h
 ·rw [e]
  split
  ·exact h
  ·rename_i hc
   have hm := List.getElem_mem hi
   have hmap : ∀ {β : Type} (f : Ow → β), f { os[i] with paid := os[i].paid + x.two } = f os[i] → (os.set i { os[i] with paid := os[i].paid + x.two }).map f = os.map f := fun f hf => map_set f (List.getElem?_eq_getElem hi) hf
   refine ⟨by rw [List.length_set]; exact h.os20, h.ls100, set_all h.mark (h.mark os[i] hm), h.seen, set_all h.onum (h.onum os[i] hm), h.lnum, h.feet, h.lown, ?_, ?_, h.nums, ?_, h.here, ?_⟩
   ·show ((os.set i { os[i] with paid := os[i].paid + x.two }).map (·.num)).Pairwise _
    rw [hmap (·.num) rfl]
    exact h.rise
   ·show ((os.set i { os[i] with paid := os[i].paid + x.two }).map (·.mark)).Nodup
    rw [hmap (·.mark) rfl]
    exact h.marks
   ·intro l hl h0
    obtain ⟨z, hz, ez, hw⟩ := h.has l hl h0
    obtain ⟨j, hj, rfl⟩ := List.getElem_of_mem hz
    by_cases e1 : i = j
    ·subst e1
     exact ⟨{ os[i] with paid := os[i].paid + x.two }, List.mem_of_getElem? (i := i) (by simp [hi]), ez, hw⟩
    ·exact ⟨os[j], List.mem_of_getElem? (i := j) (by rw [List.getElem?_set_ne e1, List.getElem?_eq_getElem hj]), ez, hw⟩
   ·refine set_all h.paid ?_
    have := h.paid _ hm
    rw [hn] at this
    show 0 ≤ os[i].paid + x.two ∧ os[i].paid + x.two ≤ feesOf ls os[i].num
    rw [hn]
    omega
theorem valid_do {os : List Ow} {ls : List Lg} {x : Ln} (h : Valid os ls) (hx : LnFull x) (hs : x.word ≠ wStrike) : Valid (doS os ls x).1 (doS os ls x).2.1 := by
 unfold doS
 by_cases w1 : x.word = wLog
 ·rw [if_pos w1]; exact valid_come h hx.one (hx.ok.feet w1) hx.ok.letters
 rw [if_neg w1]
 by_cases w2 : x.word = wClaim
 ·rw [if_pos w2]; exact valid_claim h
 rw [if_neg w2]
 by_cases w3 : x.word = wRaft
 ·rw [if_pos w3]; exact valid_raft h
 rw [if_neg w3]
 by_cases w4 : x.word = wPay
 ·rw [if_pos w4]; exact valid_pay h (hx.pay w4)
 rw [if_neg w4]
 have hm : x.word = wMark := by rcases hx.word with e | e | e | e | e | e <;> first | exact e | contradiction
 exact valid_mark h hx.one (hx.mark hm) hx.ok.letters
theorem valid_nil : Valid [] [] := ⟨by simp, by simp, by simp, by simp, by simp, by simp, by simp, by simp, by simp [Rising], by simp [Marks], by simp, by simp, by simp, by simp⟩
theorem valid_again : ∀ (l : List Ln) (os : List Ow) (ls : List Lg), Valid os ls → (∀ x ∈ l, LnFull x ∧ x.word ≠ wStrike) → ∀ r, againS os ls l = some r → Valid r.1 r.2
 | [], os, ls, h, _, r, e => by cases e; exact h
 | x :: l, os, ls, h, hx, r, e => by
  rw [againS] at e
  split at e
  ·exact valid_again l _ _ (valid_do h (hx x List.mem_cons_self).1 (hx x List.mem_cons_self).2) (fun y hy => hx y (List.mem_cons_of_mem _ hy)) r e
  ·cases e
theorem if3 {α : Type} {c : Prop} [Decidable c] {a b : α} {P : α → Prop} (h1 : c → P a) (h2 : ¬ c → P b) : P (if c then a else b) := by
 split
 ·exact h1 ‹_›
 ·exact h2 ‹_›
/-- A line that is refused changes nothing. -/
theorem do_refused (os : List Ow) (ls : List Lg) (x : Ln) (h : (doS os ls x).2.2 ≠ 0) : (doS os ls x).1 = os ∧ (doS os ls x).2.1 = ls := by
 have key : ∀ r : List Ow × List Lg × Int, (r.2.2 ≠ 0 → r.1 = os ∧ r.2.1 = ls) → doS os ls x = r → (doS os ls x).1 = os ∧ (doS os ls x).2.1 = ls := fun r hr e => by
  rw [e] at h ⊢
  exact hr h
 refine key _ ?_ rfl
 clear key h
 let P : List Ow × List Lg × Int → Prop := fun r => r.2.2 ≠ 0 → r.1 = os ∧ r.2.1 = ls
 show P (doS os ls x)
 have stay : ∀ n, P (os, ls, n) := fun n _ => ⟨rfl, rfl⟩
 have move : ∀ a b, P (a, b, 0) := fun a b h => absurd rfl h
 unfold doS
 refine if3 (fun _ => ?_) fun _ => if3 (fun _ => ?_) fun _ => if3 (fun _ => ?_) fun _ => if3 (fun _ => ?_) fun _ => ?_
 ·unfold comeS
  exact if3 (fun _ => stay _) fun _ => if3 (fun _ => stay _) fun _ => move _ _
 ·rcases claim_cases os ls x with ⟨e1, e2, _⟩ | ⟨i, k, hi, hk, _, _, _, _, e⟩
  ·exact fun _ => ⟨e1, e2⟩
  ·rw [e]; exact move _ _
 ·rw [raft_form]
  exact if3 (fun _ => stay _) fun _ => if3 (fun _ => stay _) fun _ => move _ _
 ·unfold payS
  refine if3 (fun _ => stay _) fun _ => ?_
  cases os[(ownIx os x.one).toNat]? with
  | none => exact stay _
  | some y => exact if3 (fun _ => stay _) fun _ => move _ _
 ·unfold markS
  exact if3 (fun _ => stay _) fun _ => if3 (fun _ => stay _) fun _ => move _ _
/-- What a list of lines in effect keeps. -/
structure PlGood (l : List Ln) (p : Pl) : Prop where
 again : againS [] [] (p.eff.map (·.2)) = some (p.os, p.ls)
 plain : ∀ q ∈ p.eff, q.2.word ≠ wStrike
 at_ : ∀ q ∈ p.eff, l[q.1]? = some q.2
 rise : (p.eff.map (·.1)).Pairwise (· < ·)
theorem PlGood.lt {l : List Ln} {p : Pl} (h : PlGood l p) : ∀ q ∈ p.eff, q.1 < l.length := fun q hq => (List.getElem?_eq_some_iff.1 (h.at_ q hq)).1
theorem PlGood.valid {l : List Ln} {p : Pl} (h : PlGood l p) (hl : ∀ x ∈ l, LnFull x) : Valid p.os p.ls := valid_again _ _ _ valid_nil (fun x hx => by
 obtain ⟨q, hq, rfl⟩ := List.mem_map.1 hx
 exact ⟨hl _ (List.mem_of_getElem? (h.at_ q hq)), h.plain q hq⟩) _ h.again
theorem butE_mem {eff : List (Nat × Ln)} {k : Int} {q : Nat × Ln} (h : q ∈ butE eff k) : q ∈ eff ∧ ¬ (q.1 : Int) = k := by
 unfold butE at h
 obtain ⟨h1, h2⟩ := List.mem_filter.1 h
 exact ⟨h1, by simpa using h2⟩
theorem good_step {l : List Ln} {x : Ln} {p : Pl} (h : PlGood l p) (he : p.errs.length = l.length) : PlGood (l ++ [x]) (stepE p x) := by
 have hat : ∀ q ∈ p.eff, (l ++ [x])[q.1]? = some q.2 := fun q hq => by rw [List.getElem?_append_left (h.lt q hq)]; exact h.at_ q hq
 unfold stepE
 by_cases hw : x.word = wStrike
 ·rw [if_pos hw]
  have base : PlGood (l ++ [x]) ⟨p.os, p.ls, p.eff, []⟩ := ⟨h.again, h.plain, hat, h.rise⟩
  unfold strikeE
  split
  ·exact ⟨h.again, h.plain, hat, h.rise⟩
  ·split
   ·exact ⟨h.again, h.plain, hat, h.rise⟩
   ·split
    ·exact ⟨h.again, h.plain, hat, h.rise⟩
    ·rename_i r hr
     refine ⟨hr, fun q hq => h.plain q (butE_mem hq).1, fun q hq => hat q (butE_mem hq).1, ?_⟩
     show ((butE p.eff (x.one - 1)).map (·.1)).Pairwise _
     exact h.rise.sublist (List.Sublist.map _ List.filter_sublist)
 ·rw [if_neg hw]
  by_cases h0 : (doS p.os p.ls x).2.2 = 0
  ·rw [if_pos h0]
   refine ⟨?_, ?_, ?_, ?_⟩
   ·show againS [] [] ((p.eff ++ [(p.errs.length, x)]).map (·.2)) = _
    rw [List.map_append, againS_app, h.again]
    show againS p.os p.ls [x] = _
    rw [againS, if_pos h0]
    rfl
   ·intro q hq
    rcases List.mem_append.1 hq with hq | hq
    ·exact h.plain q hq
    ·rw [List.mem_singleton] at hq; subst hq; exact hw
   ·intro q hq
    rcases List.mem_append.1 hq with hq | hq
    ·exact hat q hq
    ·rw [List.mem_singleton] at hq; subst hq
     show (l ++ [x])[p.errs.length]? = some x
     rw [he]
     simp
   ·show ((p.eff ++ [(p.errs.length, x)]).map (·.1)).Pairwise _
    rw [List.map_append, List.pairwise_append]
    refine ⟨h.rise, by simp, fun a ha b hb => ?_⟩
    obtain ⟨q, hq, rfl⟩ := List.mem_map.1 ha
    simp only [List.map_cons, List.map_nil, List.mem_singleton] at hb
    subst hb
    have := h.lt q hq
    omega
  ·rw [if_neg h0]
   obtain ⟨e1, e2⟩ := do_refused _ _ _ h0
   exact ⟨by rw [e1, e2]; exact h.again, h.plain, hat, h.rise⟩
theorem good_playE (l : List Ln) : PlGood l (playE l) := by
 have key : ∀ (k : Nat), k ≤ l.length → PlGood (l.take k) (playE (l.take k)) := by
  intro k
  induction k with
  | zero => intro _; exact ⟨rfl, by simp [playE], by simp [playE], by simp [playE]⟩
  | succ k ih =>
   intro hk
   rw [List.take_succ_eq_append_getElem (by omega), playE_snoc]
   exact good_step (ih (by omega)) (by rw [playE_errs])
 have := key l.length (Nat.le_refl _)
 rwa [List.take_length] at this
end Go.Proofs.YtcnpbcgkhhebaaaGreatDoor
/- Numbers and their digits. -/
namespace Go.Proofs.YtcnpbcgkhhebaaaGreatDoor
open Go.RowKit

theorem decV_nil (n : Nat) : decV n [] = n := by unfold decV; rfl
theorem decV_cons (n : Nat) (c : UInt8) (r : List UInt8) : decV n (c :: r) = decV (n * 10 + (c.toNat - 48)) r := by conv => lhs; unfold decV
theorem decV_app : ∀ (a b : List UInt8) (n : Nat), decV n (a ++ b) = decV (decV n a) b
 | [], b, n => by rw [decV_nil, List.nil_append]
 | c :: a, b, n => by rw [List.cons_append, decV_cons, decV_cons, decV_app a b]
theorem digU {k : Nat} (hk : k < 10) : (UInt8.ofNat (48 + k)).toNat = 48 + k := by rw [show (UInt8.ofNat (48 + k)).toNat = (48 + k) % 256 from rfl]; omega
theorem dec_one {u : Nat} (h : u < 10) : Lib.decDigits u = [UInt8.ofNat (48 + u)] := by rw [Lib.decDigits, dif_pos h]
theorem dec_more {u : Nat} (h : 10 ≤ u) : Lib.decDigits u = Lib.decDigits (u / 10) ++ [UInt8.ofNat (48 + u % 10)] := by rw [Lib.decDigits, dif_neg (by omega)]
theorem decV_dec (u : Nat) : decV 0 (Lib.decDigits u) = u := by
 induction u using Nat.strongRecOn with
 | _ u ih =>
  by_cases h : u < 10
  ·rw [dec_one h, decV_cons, decV_nil, digU h]; omega
  ·rw [dec_more (by omega), decV_app, ih (u / 10) (by omega), decV_cons, decV_nil, digU (by omega)]; omega
theorem dec_pos (u : Nat) : 1 ≤ (Lib.decDigits u).length := by
 by_cases h : u < 10
 ·rw [dec_one h]; simp
 ·rw [dec_more (by omega)]; simp
theorem dec_len {u : Nat} : ∀ {k : Nat}, 1 ≤ k → u < 10 ^ k → (Lib.decDigits u).length ≤ k := by
 induction u using Nat.strongRecOn with
 | _ u ih =>
  intro k hk h
  by_cases h1 : u < 10
  ·rw [dec_one h1]; simpa using hk
  ·obtain ⟨j, rfl⟩ : ∃ j, k = j + 1 := ⟨k - 1, by omega⟩
   have hj : 1 ≤ j := by
    rcases Nat.eq_zero_or_pos j with rfl | h
    ·simp at h; omega
    ·exact h
   rw [dec_more (by omega), List.length_append]
   have := ih (u / 10) (by omega) hj (by rw [Nat.pow_succ] at h; omega)
   simp only [List.length_cons, List.length_nil]
   omega
theorem dec_mono : ∀ {u v : Nat}, u ≤ v → (Lib.decDigits u).length ≤ (Lib.decDigits v).length := by
 intro u
 induction u using Nat.strongRecOn with
 | _ u ih =>
  intro v h
  by_cases h1 : u < 10
  ·rw [dec_one h1]; exact dec_pos v
  ·rw [dec_more (by omega), dec_more (u := v) (by omega), List.length_append, List.length_append]
   have := ih (u / 10) (by omega) (v := v / 10) (by omega)
   simp only [List.length_cons, List.length_nil]
   omega
theorem dec_head {u : Nat} (h : 1 ≤ u) : (Lib.decDigits u)[0]? ≠ some 48 := by
 induction u using Nat.strongRecOn with
 | _ u ih =>
  by_cases h1 : u < 10
  ·rw [dec_one h1]
   intro e
   have := congrArg UInt8.toNat (Option.some.inj (show some _ = some _ from e))
   rw [digU h1] at this
   have h48 : (48 : UInt8).toNat = 48 := rfl
   omega
  ·rw [dec_more (by omega), List.getElem?_append_left (by have := dec_pos (u / 10); omega)]
   exact ih (u / 10) (by omega) (by omega)
theorem itoa_nat (u : Nat) : Lib.itoa (u : Int) = Lib.decDigits u := Lib.itoa_nonneg u
theorem mkB_toList (l : List UInt8) : (mkB l).toList = l := by rw [ByteArray.toList_eq, mkB_data]
theorem numOk_dec {u : Nat} (h : u < 1000000000000000000) : numOk (mkB (Lib.decDigits u)) = true := by
 have h1 := dec_len (u := u) (k := 18) (by omega) h
 have h2 := dec_pos u
 unfold numOk
 rw [mkB_data, mkB_toList, mkB_size]
 have e1 : decide (18 < (Lib.decDigits u).length) = false := decide_eq_false (by omega)
 have e2 : (Lib.decDigits u).all isDig = true := List.all_eq_true.2 (dec_dig u)
 have e3 : (Lib.decDigits u).isEmpty = false := by rw [List.isEmpty_eq_false_iff]; intro e; rw [e] at h2; simp at h2
 rw [e1, e2, e3]
 by_cases hu : u < 10
 ·rw [dec_one hu]; simp
 ·have := dec_head (u := u) (by omega)
  rw [decide_eq_false this]
  rfl
theorem numV_dec {u : Nat} (h : u < 1000000000000000000) : numV (mkB (Lib.decDigits u)) = u := by
 unfold numV
 rw [numOk_dec h, if_pos rfl, mkB_data, decV_dec]
theorem okN_dec {u : Nat} {m : Int} (h1 : 1 ≤ u) (h2 : (u : Int) ≤ m) (h : u < 1000000000000000000) : okN (mkB (Lib.decDigits u)) m = true := by
 unfold okN
 rw [numOk_dec h, numV_dec h]
 simp
 omega
theorem decV_ge : ∀ (l : List UInt8) (n : Nat), n ≤ decV n l
 | [], n => Nat.le_refl _
 | c :: l, n => by
  rw [decV_cons]
  have := decV_ge l (n * 10 + (c.toNat - 48))
  omega
theorem dec_decV (l : List UInt8) (hd : ∀ c ∈ l, isDig c = true) (h0 : l ≠ []) (hz : 1 < l.length → l[0]? ≠ some 48) : Lib.decDigits (decV 0 l) = l := by
 have main : ∀ (n : Nat) (l : List UInt8), l.length = n → (∀ c ∈ l, isDig c = true) → l ≠ [] → (1 < l.length → l[0]? ≠ some 48) → Lib.decDigits (decV 0 l) = l := by
  intro n
  induction n with
  | zero => intro l hl _ h0 _; exact absurd (List.eq_nil_of_length_eq_zero hl) h0
  | succ n ih =>
   intro l hl hd h0 hz
   obtain ⟨a, c, rfl⟩ : ∃ a c, l = a ++ [c] := ⟨l.dropLast, l.getLast h0, (List.dropLast_concat_getLast h0).symm⟩
   have hc := hd c (by simp)
   simp only [isDig, Bool.and_eq_true, decide_eq_true_eq] at hc
   have ec : UInt8.ofNat (48 + (c.toNat - 48)) = c := by
    apply UInt8.toNat_inj.1
    rw [digU (by omega)]
    omega
   rw [decV_app, decV_cons, decV_nil]
   by_cases ha : a = []
   ·subst ha
    rw [decV_nil, dec_one (by omega), show 0 * 10 + (c.toNat - 48) = c.toNat - 48 by omega, ec]
    rfl
   ·have hlen : 1 < (a ++ [c]).length := by
     rw [List.length_append]
     have : 0 < a.length := List.length_pos_iff.2 ha
     simp only [List.length_cons, List.length_nil]
     omega
    have hz1 := hz hlen
    have ha0 : 0 < a.length := List.length_pos_iff.2 ha
    rw [List.getElem?_append_left ha0] at hz1
    have hda : ∀ x ∈ a, isDig x = true := fun x hx => hd x (List.mem_append_left _ hx)
    have hih := ih a (by simpa using hl) hda ha (fun _ => hz1)
    have hv : 1 ≤ decV 0 a := by
     match a, ha, hz1, hda with
     | x :: r, _, hz1, hda =>
      rw [decV_cons]
      have h1 := hda x List.mem_cons_self
      simp only [isDig, Bool.and_eq_true, decide_eq_true_eq] at h1
      have h2 : x.toNat ≠ 48 := fun e => hz1 (by
       have : x = 48 := UInt8.toNat_inj.1 (by rw [e]; rfl)
       rw [this]; rfl)
      have := decV_ge r (0 * 10 + (x.toNat - 48))
      omega
    rw [dec_more (by omega), show (decV 0 a * 10 + (c.toNat - 48)) / 10 = decV 0 a by omega, show (decV 0 a * 10 + (c.toNat - 48)) % 10 = c.toNat - 48 by omega, hih, ec]
 exact main _ l rfl hd h0 hz
theorem decB_numV {s : ByteArray} (h : numOk s = true) : decB (numV s) = s ∧ 0 ≤ numV s ∧ numV s < 1000000000000000000 := by
 have h' := h
 unfold numOk at h
 simp only [Bool.and_eq_true, Bool.not_eq_true', decide_eq_false_iff_not, List.all_eq_true, Bool.and_eq_false_iff] at h
 obtain ⟨⟨⟨h1, h2⟩, h3⟩, h4⟩ := h
 have hsz : s.data.toList.length = s.size := by simp
 have h0 : s.data.toList ≠ [] := fun e => by rw [ByteArray.toList_eq, e] at h3; cases h3
 have hd := dec_decV s.data.toList h2 h0 (fun hl e => by
  rcases h4 with h4 | h4
  ·exact h4 e
  ·omega)
 have hv := decV_lt s.data.toList 0 0 h2 (by simp)
 rw [Nat.zero_add] at hv
 have h18 : 10 ^ s.data.toList.length ≤ 10 ^ 18 := Nat.pow_le_pow_right (by omega) (by omega)
 have e18 : (10 : Nat) ^ 18 = 1000000000000000000 := by decide
 unfold numV
 rw [if_pos h']
 refine ⟨?_, by omega, by omega⟩
 unfold decB
 rw [itoa_nat, hd]

theorem itoa_mono {a b : Nat} (h : a ≤ b) : (Lib.itoa (a : Int)).length ≤ (Lib.itoa (b : Int)).length := by
 rw [itoa_nat, itoa_nat]
 exact dec_mono h
theorem textL_app : ∀ (a b : List ByteArray) (m : Nat), textL m (a ++ b) = textL m a ++ textL (m + a.length) b
 | [], b, m => rfl
 | x :: a, b, m => by
  rw [List.cons_append, textL, textL, textL_app a b (m + 1), List.length_cons, show m + 1 + a.length = m + (a.length + 1) by omega]
  simp only [List.append_assoc]
theorem textL_sub (l : List Ln) : ∀ (eff : List (Nat × Ln)) (m j : Nat), m ≤ j → (∀ q ∈ eff, j ≤ q.1 ∧ l[q.1 - j]? = some q.2) → (eff.map (·.1)).Pairwise (· < ·) → (textL m (eff.map (·.2.text))).length ≤ (textL j (l.map (·.text))).length := by
 induction l with
 | nil =>
  intro eff m j hm he hr
  cases eff with
  | nil => simp [textL]
  | cons q eff =>
   have := (he q List.mem_cons_self).2
   simp at this
 | cons y r ih =>
  intro eff m j hm he hr
  rw [List.map_cons]
  cases eff with
  | nil => simp [textL]
  | cons q eff =>
   obtain ⟨h1, h2⟩ := he q List.mem_cons_self
   rw [List.map_cons, List.pairwise_cons] at hr
   by_cases e : q.1 = j
   ·rw [e, Nat.sub_self, List.getElem?_cons_zero] at h2
    have hy : y = q.2 := Option.some.inj h2
    have := ih eff (m + 1) (j + 1) (by omega) (fun p hp => by
     obtain ⟨k1, k2⟩ := he p (List.mem_cons_of_mem _ hp)
     have k3 := hr.1 p.1 (List.mem_map_of_mem hp)
     refine ⟨by omega, ?_⟩
     rw [show p.1 - j = p.1 - (j + 1) + 1 by omega, List.getElem?_cons_succ] at k2
     exact k2) hr.2
    have hi := itoa_mono (a := m + 1) (b := j + 1) (by omega)
    have e1 : ((m + 1 : Nat) : Int) = (m : Int) + 1 := by omega
    have e2 : ((j + 1 : Nat) : Int) = (j : Int) + 1 := by omega
    rw [e1, e2] at hi
    rw [List.map_cons, textL, textL, hy]
    simp only [List.length_append, List.length_cons, List.length_nil]
    omega
   ·have := ih (q :: eff) m (j + 1) (by omega) (fun p hp => by
     obtain ⟨k1, k2⟩ := he p hp
     have k3 : j < p.1 := by
      rcases List.mem_cons.1 hp with rfl | hp
      ·omega
      ·have := hr.1 p.1 (List.mem_map_of_mem hp)
       omega
     refine ⟨by omega, ?_⟩
     rw [show p.1 - j = p.1 - (j + 1) + 1 by omega, List.getElem?_cons_succ] at k2
     exact k2) (by rw [List.map_cons, List.pairwise_cons]; exact hr)
    rw [textL]
    simp only [List.length_append]
    omega
end Go.Proofs.YtcnpbcgkhhebaaaGreatDoor
/- The chapter's examples, as plain data. -/
namespace Go.Proofs.YtcnpbcgkhhebaaaGreatDoor
open Go.RowKit

instance : DecidableEq Ow := fun a b => decidable_of_iff (a.num = b.num ∧ a.mark = b.mark ∧ a.paid = b.paid) ⟨fun ⟨h1, h2, h3⟩ => by cases a; cases b; simp only at h1 h2 h3; rw [h1, h2, h3], fun h => by rw [h]; exact ⟨rfl, rfl, rfl⟩⟩
instance : DecidableEq Lg := fun a b => decidable_of_iff (a.num = b.num ∧ a.seen = b.seen ∧ a.feet = b.feet ∧ a.own = b.own ∧ a.gone = b.gone) ⟨fun ⟨h1, h2, h3, h4, h5⟩ => by cases a; cases b; simp only at h1 h2 h3 h4 h5; rw [h1, h2, h3, h4, h5], fun h => by rw [h]; exact ⟨rfl, rfl, rfl, rfl, rfl⟩⟩
def exT : List Ln :=
 [⟨⟨#[109, 97, 114, 107]⟩, 7, 0, ⟨#[97, 98, 101]⟩, ⟨#[109, 97, 114, 107, 32, 55, 32, 97, 98, 101]⟩⟩,
 ⟨⟨#[109, 97, 114, 107]⟩, 5, 0, ⟨#[98, 99, 100]⟩, ⟨#[109, 97, 114, 107, 32, 53, 32, 98, 99, 100]⟩⟩,
 ⟨⟨#[108, 111, 103]⟩, 1, 120, ⟨#[97, 101]⟩, ⟨#[108, 111, 103, 32, 49, 32, 97, 101, 32, 49, 50, 48]⟩⟩,
 ⟨⟨#[108, 111, 103]⟩, 2, 45, ⟨#[98]⟩, ⟨#[108, 111, 103, 32, 50, 32, 98, 32, 52, 53]⟩⟩,
 ⟨⟨#[108, 111, 103]⟩, 3, 9, ⟨#[]⟩, ⟨#[108, 111, 103, 32, 51, 32, 45, 32, 57]⟩⟩,
 ⟨⟨#[99, 108, 97, 105, 109]⟩, 2, 5, ⟨#[]⟩, ⟨#[99, 108, 97, 105, 109, 32, 50, 32, 53]⟩⟩,
 ⟨⟨#[114, 97, 102, 116]⟩, 7, 2, ⟨#[]⟩, ⟨#[114, 97, 102, 116, 32, 55, 32, 50]⟩⟩,
 ⟨⟨#[112, 97, 121]⟩, 7, 10, ⟨#[]⟩, ⟨#[112, 97, 121, 32, 55, 32, 49, 48]⟩⟩,
 ⟨⟨#[115, 116, 114, 105, 107, 101]⟩, 2, 0, ⟨#[]⟩, ⟨#[115, 116, 114, 105, 107, 101, 32, 50]⟩⟩,
 ⟨⟨#[109, 97, 114, 107]⟩, 5, 0, ⟨#[98, 101]⟩, ⟨#[109, 97, 114, 107, 32, 53, 32, 98, 101]⟩⟩,
 ⟨⟨#[99, 108, 97, 105, 109]⟩, 3, 7, ⟨#[]⟩, ⟨#[99, 108, 97, 105, 109, 32, 51, 32, 55]⟩⟩,
 ⟨⟨#[115, 116, 114, 105, 107, 101]⟩, 11, 0, ⟨#[]⟩, ⟨#[115, 116, 114, 105, 107, 101, 32, 49, 49]⟩⟩,
 ⟨⟨#[108, 111, 103]⟩, 4, 300, ⟨#[98, 101]⟩, ⟨#[108, 111, 103, 32, 52, 32, 98, 101, 32, 51, 48, 48]⟩⟩,
 ⟨⟨#[115, 116, 114, 105, 107, 101]⟩, 6, 0, ⟨#[]⟩, ⟨#[115, 116, 114, 105, 107, 101, 32, 54]⟩⟩]
def exU : List Ln :=
 [⟨⟨#[109, 97, 114, 107]⟩, 3, 0, ⟨#[97]⟩, ⟨#[109, 97, 114, 107, 32, 51, 32, 97]⟩⟩,
 ⟨⟨#[109, 97, 114, 107]⟩, 4, 0, ⟨#[97]⟩, ⟨#[109, 97, 114, 107, 32, 52, 32, 97]⟩⟩,
 ⟨⟨#[108, 111, 103]⟩, 9, 8, ⟨#[97]⟩, ⟨#[108, 111, 103, 32, 57, 32, 97, 32, 56]⟩⟩,
 ⟨⟨#[115, 116, 114, 105, 107, 101]⟩, 1, 0, ⟨#[]⟩, ⟨#[115, 116, 114, 105, 107, 101, 32, 49]⟩⟩]
def lineB (x : Ln) : Bool := (match coreP (parts 32 x.text.data.toList) with | some y => decide (y.word = x.word) && decide (y.one = x.one) && decide (y.two = x.two) && decide (y.letters = x.letters) && decide (y.text = x.text) | none => false) && !x.text.data.toList.contains 10
theorem lineB_is {x : Ln} (h : lineB x = true) : IsLine x := by
 unfold lineB at h
 rw [Bool.and_eq_true] at h
 obtain ⟨h1, h2⟩ := h
 refine ⟨?_, fun hm => ?_⟩
 ·split at h1
  ·rename_i y hy
   rw [hy]
   simp only [Bool.and_eq_true, decide_eq_true_eq] at h1
   obtain ⟨⟨⟨⟨e1, e2⟩, e3⟩, e4⟩, e5⟩ := h1
   obtain ⟨a, b, c, d, e⟩ := x
   obtain ⟨a', b', c', d', e'⟩ := y
   simp only at e1 e2 e3 e4 e5
   rw [e1, e2, e3, e4, e5]
  ·cases h1
 ·rw [List.contains_iff_mem.2 hm] at h2
  cases h2
theorem exT_lines : ∀ x ∈ exT, IsLine x := fun x hx => lineB_is (List.all_eq_true.1 (show exT.all lineB = true by decide +kernel) x hx)
theorem exU_lines : ∀ x ∈ exU, IsLine x := fun x hx => lineB_is (List.all_eq_true.1 (show exU.all lineB = true by decide +kernel) x hx)
def exT6 : List Ln := exT.take 6
def exEndO : List Ow := [⟨5, ⟨#[98, 99, 100]⟩, 0⟩, ⟨7, ⟨#[97, 98, 101]⟩, 10⟩]
def exEndL : List Lg := [⟨1, ⟨#[97, 101]⟩, 120, 7, false⟩, ⟨2, ⟨#[98]⟩, 45, 0, false⟩, ⟨3, ⟨#[]⟩, 9, 0, false⟩, ⟨4, ⟨#[98, 101]⟩, 300, 7, false⟩]
def exSixO : List Ow := [⟨5, ⟨#[98, 99, 100]⟩, 0⟩, ⟨7, ⟨#[97, 98, 101]⟩, 0⟩]
def exSixL : List Lg := [⟨1, ⟨#[97, 101]⟩, 120, 7, false⟩, ⟨2, ⟨#[98]⟩, 45, 5, false⟩, ⟨3, ⟨#[]⟩, 9, 0, false⟩]
def exSmO (paid : Int) : List Ow := [⟨3, ⟨#[97]⟩, paid⟩]
def exSmL : List Lg := [⟨9, ⟨#[97]⟩, 8, 3, true⟩]
theorem exT_os : (playE exT).os = exEndO := by decide +kernel
theorem exT_ls : (playE exT).ls = exEndL := by decide +kernel
theorem exT_errs : (playE exT).errs = [0, 0, 0, 0, 0, 0, 6, 0, 13, 11, 0, 0, 0, 0] := by decide +kernel
theorem exT_eff : (playE exT).eff.map (·.1) = [0, 1, 2, 3, 4, 7, 12] := by decide +kernel
theorem exT6_os : (playE exT6).os = exSixO := by decide +kernel
theorem exT6_ls : (playE exT6).ls = exSixL := by decide +kernel
theorem exU_eff : (playE exU).eff.map (·.2.text) = [⟨#[108, 111, 103, 32, 57, 32, 97, 32, 56]⟩] := by decide +kernel
theorem ex_worn1 : wornS exEndO ⟨#[98, 101]⟩ = [7] := by decide +kernel
theorem ex_worn2 : wornS exEndO ⟨#[98]⟩ = [5, 7] := by decide +kernel
theorem ex_worn3 : wornS exEndO ⟨#[120]⟩ = [] := by decide +kernel
theorem ex_worn4 : wornS exEndO ⟨#[]⟩ = [5, 7] := by decide +kernel
theorem ex_check : checkS exEndO exEndL = 0 := by decide +kernel
theorem ex_owed : owedS exEndO exEndL 7 = (38, 0) := by decide +kernel
theorem ex_owed5 : owedS exEndO exEndL 5 = (0, 0) := by decide +kernel
theorem ex_owed9 : owedS exEndO exEndL 9 = (0, 5) := by decide +kernel
theorem ex_here : hereS exEndO exEndL 7 = ([1, 4], 0) := by decide +kernel
end Go.Proofs.YtcnpbcgkhhebaaaGreatDoor
/- A line of a season's file is loaded. -/
namespace Go.Proofs.YtcnpbcgkhhebaaaGreatDoor
open Go.RowKit

def wOwner : List UInt8 := [111, 119, 110, 101, 114]
def wLogL : List UInt8 := [108, 111, 103]
def wHere : List UInt8 := [104, 101, 114, 101]
def wGone : List UInt8 := [103, 111, 110, 101]
def undash (s : ByteArray) : ByteArray := ⟨(Lib.trimPrefix s.data.toList [45]).toArray⟩
def loadS (os : List Ow) (ls : List Lg) : List ByteArray → Option (List Ow × List Lg)
 | [p0, p1, p2, p3] => if p0.toList = wOwner ∧ ls.length = 0 then (if numOk p1 && numOk p3 && wordB p2 then some (os ++ [⟨numV p1, p2, numV p3⟩], ls) else none) else none
 | [p0, p1, p2, p3, p4, p5] => if p0.toList = wLogL then (if (decide (p2.toList = [45]) || wordB p2) && (decide (p5.toList = wHere) || decide (p5.toList = wGone)) then (if numOk p1 && numOk p3 && numOk p4 then some (os, ls ++ [⟨numV p1, undash p2, numV p3, numV p4, decide (p5.toList = wGone)⟩]) else none) else none) else none
 | _ => none
def LoadR (base ob : Nat) (w : World) (r : Option (List Ow × List Lg)) (e : Ending) (w' : World) : Prop :=
 Kt base ob w w' ∧ match r with
 | none => e = .returned (.bool false)
 | some (os, ls) => e = .returned (.bool true) ∧ ∃ v1 v2, Off0 base w' ob [] 26 v1 v2 os ls

theorem loadS_no (os : List Ow) (ls : List Lg) (P : List ByteArray) (hA : ∀ p0, P[0]? = some p0 → ¬ (p0.toList = wOwner ∧ P.length = 4 ∧ ls.length = 0)) (hB : ∀ p0, P[0]? = some p0 → ¬ (p0.toList = wLogL ∧ P.length = 6)) : loadS os ls P = none := by
 unfold loadS
 split
 ·rename_i p0 p1 p2 p3
  rw [if_neg fun h => hA p0 rfl ⟨h.1, rfl, h.2⟩]
 ·rename_i p0 p1 p2 p3 p4 p5
  rw [if_neg fun h => hB p0 rfl ⟨h, rfl⟩]
 ·rfl

set_option maxRecDepth 100000 in
set_option maxHeartbeats 4000000 in
theorem load_no (base ob : Nat) (os : List Ow) (ls : List Lg) (v1 v2 : Value) (A : Option Addr) (c : Nat) (P : List ByteArray) (w : World) (hP : Own eS 9 1 base w (.slice A P.length c) P) (hO : Off0 base w ob [] 26 v1 v2 os ls) (hP0 : 0 < P.length)
  (hA : ∀ p0, P[0]? = some p0 → ¬ (p0.toList = wOwner ∧ P.length = 4 ∧ ls.length = 0)) (hB : ∀ p0, P[0]? = some p0 → ¬ (p0.toList = wLogL ∧ P.length = 6)) :
  Calls Tryz.prog 70 #[.pointer (some ⟨ob, 0, none⟩), .slice A P.length c] w (LoadR base ob w (loadS os ls P)) := by
 have hno := loadS_no os ls P hA hB
 have hq1 := hO.q1
 obtain ⟨A2, c2, rfl⟩ := hO.o2.sl
 obtain ⟨b, off, p0, hp0, rfl, hb, d0⟩ := (hP.rs encS).atS hP0
 have hg : P[0]? = some p0 := by rw [List.getElem?_eq_getElem hP0, hp0]
 have HA := Lib.hid (hA p0 hg)
 have HB := Lib.hid (hB p0 hg)
 have HNO := Lib.hid hno
 rw [Nat.add_zero] at d0
 have hP0i : (0 : Int) < (P.length : Int) := by omega
 clear hO hP hp0 hA hB hg hno
 go_enter Tryz.func70, Tryz.ntmps70
 go_wp2_with fail
 all_goals first
  | exact absurd ⟨‹p0.toList = [111, 119, 110, 101, 114]›, by omega, by simp at *; omega⟩ HA.out
  | exact absurd ⟨‹p0.toList = [108, 111, 103]›, by omega⟩ HB.out
  | (go_ret
     rw [HNO.out]
     exact ⟨Kt.refl _ _ _, rfl⟩)
end Go.Proofs.YtcnpbcgkhhebaaaGreatDoor
/- A line of a season's file is loaded: an owner's. -/
namespace Go.Proofs.YtcnpbcgkhhebaaaGreatDoor
open Go.RowKit

set_option maxRecDepth 100000 in
set_option maxHeartbeats 4000000 in
theorem load_own (base ob : Nat) (os : List Ow) (ls : List Lg) (v1 v2 : Value) (A : Option Addr) (c : Nat) (p0 p1 p2 p3 : ByteArray) (w : World) (hP : Own eS 9 1 base w (.slice A 4 c) [p0, p1, p2, p3]) (hO : Off0 base w ob [] 26 v1 v2 os ls)
  (h0 : p0.toList = wOwner) (hl0 : ls.length = 0) (hsz : ∀ p ∈ [p0, p1, p2, p3], p.size ≤ 100000) (hbase : base ≤ w.heap.size) (hn : os.length ≤ 100000) :
  Calls Tryz.prog 70 #[.pointer (some ⟨ob, 0, none⟩), .slice A 4 c] w (LoadR base ob w (loadS os ls [p0, p1, p2, p3])) := by
 have hlo : loadS os ls [p0, p1, p2, p3] = if numOk p1 && numOk p3 && wordB p2 then some (os ++ [⟨numV p1, p2, numV p3⟩], ls) else none := by
  simp only [loadS]
  rw [if_pos ⟨h0, hl0⟩]
 have hq0 := hO.q0
 have hq1 := hO.q1
 obtain ⟨A1, c1, rfl⟩ := hO.o1.sl
 obtain ⟨A2, c2, rfl⟩ := hO.o2.sl
 have hne1 : ∀ g, A = some ⟨g, 0, none⟩ → (Value.slice A1 os.length c1).ownBlock ≠ some g := fun g e => by
  have := ne_of_kind hO.o1 hP (by decide)
  rcases this with h | h
  ·rw [h]; simp
  ·subst e; exact h
 obtain ⟨b, off, y0, hy0, rfl, hb, d0⟩ := (hP.rs encS).atS (i := 0) (by simp)
 obtain ⟨b', off', y1, hy1, e1, -, d1⟩ := (hP.rs encS).atS (i := 1) (by simp)
 cases e1
 obtain ⟨b', off', y2, hy2, e1, -, d2⟩ := (hP.rs encS).atS (i := 2) (by simp)
 cases e1
 obtain ⟨b', off', y3, hy3, e1, -, d3⟩ := (hP.rs encS).atS (i := 3) (by simp)
 cases e1
 simp only [List.getElem_cons_zero, List.getElem_cons_succ] at hy0 hy1 hy2 hy3
 rw [hy0] at d0
 rw [hy1] at d1
 rw [hy2] at d2
 rw [hy3] at d3
 clear hy0 hy1 hy2 hy3 y0 y1 y2 y3
 have hofs : off = 0 := by
  rcases hP.form with ⟨_, h⟩ | ⟨g, cap, h, _⟩
  ·cases h
  ·injection h with h1 _ _
   cases h1
   rfl
 subst hofs
 simp only [Nat.zero_add] at d0 d1 d2 d3
 have hcap := (hP.rs encS).1
 have hneb : (Value.slice A1 os.length c1).ownBlock ≠ some b := hne1 b rfl
 have hbob : b ≠ ob := fun e => by
  obtain ⟨-, cs, hc⟩ := hP.blk b rfl
  rw [e, hO.row] at hc
  cases hc
 have z1 := hsz p1 (by simp)
 have z2 := hsz p2 (by simp)
 have z3 := hsz p3 (by simp)
 have HO := Lib.hid hO
 have HLO := Lib.hid hlo
 have hd0 : p0.toList = [111, 119, 110, 101, 114] := h0
 have hc1 := fun W => digits_any p1 (by omega) W
 have hc3 := fun W => digits_any p3 (by omega) W
 have hc2 := fun W => isWord_any p2 (by omega) W
 have C1 := Lib.hid hc1
 have C2 := Lib.hid hc2
 have C3 := Lib.hid hc3
 have hls : ((ls.length : Int) == 0) = true := by simp [hl0]
 have HNB := Lib.hid hneb
 have HL0 := Lib.hid hl0
 have HBO := Lib.hid hbob
 clear hO hP hlo hne1 h0 hsz hc1 hc2 hc3 hl0 hneb
 go_enter Tryz.func70, Tryz.ntmps70
 go_wp2_with fail
 refine (C1.out _).mono ?_
 rintro e w2 ⟨rfl, hb2⟩
 have e1 := cB hb2 d1
 have e2 := cB hb2 d2
 have e3 := cB hb2 d3
 have e0 := cB hb2 hq0
 have B2 := Lib.hid hb2
 clear hb2 d0 d1 d2 d3 hq0 hq1
 go_wp2_with fail
 refine (C3.out _).mono ?_
 rintro e w3 ⟨rfl, hb3⟩
 have g2 := cB hb3 e2
 have g0 := cB hb3 e0
 have B3 := Lib.hid (below2 B2.out hb3)
 clear hb3 e0 e1 e2 e3 B2
 cases hn1 : numOk p1 with
 | false =>
  rw [hn1] at HLO
  go_wp2
  go_ret
  rw [HLO.out]
  exact ⟨(Kt.refl _ _ _).below B3.out, rfl⟩
 | true =>
  cases hn3 : numOk p3 with
  | false =>
   rw [hn1, hn3] at HLO
   go_wp2
   go_ret
   rw [HLO.out]
   exact ⟨(Kt.refl _ _ _).below B3.out, rfl⟩
  | true =>
   cases hw2 : wordB p2 with
   | false =>
    rw [hw2] at C2
    rw [hn1, hn3, hw2] at HLO
    go_wp2_with fail
    refine (C2.out _).mono ?_
    rintro e w4 ⟨rfl, hb4⟩
    go_wp2
    go_ret
    rw [HLO.out]
    exact ⟨(Kt.refl _ _ _).below (below2 B3.out hb4), rfl⟩
   | true =>
    rw [hw2] at C2
    rw [hn1, hn3, hw2] at HLO
    go_wp2_with fail
    refine (C2.out _).mono ?_
    rintro e w4 ⟨rfl, hb4⟩
    have f2 := cB hb4 g2
    have f0 := cB hb4 g0
    have B4 := Lib.hid (below2 B3.out hb4)
    clear hb4 g0 g2 B3
    go_wp2_with fail
    have hob4 : ob < w4.heap.size := World.block_lt_of_cell? w4 _ f0
    have hb4 : b < w4.heap.size := World.block_lt_of_cell? w4 _ f2
    have hbs : base ≤ w4.heap.size := Nat.le_trans hbase B4.out.size
    have B5 := belowD (below_a1 w4 (.cells #[.int .i64 (numV p1), .string p2, .int .i64 (numV p3)] 73))
    have OF4 := HO.out.below B4.out
    obtain ⟨A', c', w5, hrun, q1, q2, hg5, hoff, hkt⟩ := (OF4.below B5).push1 (by simp; omega) hn w4.heap.size ⟨numV p1, p2, numV p3⟩ (fun j u hj => by
     match j, hj with
     | 0, hj => simp [eO] at hj; subst hj; go_simp
     | 1, hj => simp [eO] at hj; subst hj; go_simp
     | 2, hj => simp [eO] at hj; subst hj; go_simp
     | j + 3, hj => simp [eO] at hj)
    have p2a := cell_grown hg5 (cB B5 f2) HNB.out
    have p2b := cell_grown (grown_cell w5 ob 0 (.slice A' (os.length + 1) c')) p2a (by have := HBO.out; simp; omega)
    have OF5 := Lib.hid hoff
    have KT5 := Lib.hid ((((Kt.refl base ob w).below B4.out).below B5).trans hkt)
    have HRUN := Lib.hid hrun
    clear hoff hkt B5 hg5 hrun OF4
    refine wp_region_held_drew (S := fun W => W.cell? ⟨b, 2, none⟩ = some (.string p2)) (by kernel_rfl) ?_ (fun hHeld => ?_)
    ·exact f2
    refine tk (i := 0) (v := ?_) rfl (Or.inl ⟨by rfl, ?_⟩) hHeld ?_
    rotate_left 1
    ·(intro w hSw; (try dsimp only at hSw); go_simp; try with_reducible rfl)
    try simp only [gA, Act.put]
    refine tk (i := 1) (v := ?_) rfl (Or.inl ⟨by rfl, ?_⟩) hHeld ?_
    rotate_left 1
    ·(intro w hSw; (try dsimp only at hSw); go_simp; try with_reducible rfl)
    try simp only [gA, Act.put]
    refine tk (i := 2) (v := ?_) rfl (Or.inl ⟨by rfl, ?_⟩) hHeld ?_
    rotate_left 1
    ·(intro w hSw; (try dsimp only at hSw); go_simp; try with_reducible rfl)
    try simp only [gA, Act.put]
    refine tk (i := 3) (v := ?_) rfl (Or.inl ⟨by rfl, ?_⟩) hHeld ?_
    rotate_left 1
    ·(intro w hSw; (try dsimp only at hSw); go_simp; try with_reducible rfl)
    try simp only [gA, Act.put]
    refine tk (i := 5) (v := ?_) rfl (Or.inl ⟨by rfl, ?_⟩) hHeld ?_
    rotate_left 1
    ·(intro w hSw; (try dsimp only at hSw); go_simp; try with_reducible rfl)
    try simp only [gA, Act.put]
    refine tk (i := 6) (v := ?_) rfl (Or.inl ⟨by rfl, ?_⟩) hHeld ?_
    rotate_left 1
    ·(intro w hSw; (try dsimp only at hSw); go_simp; try with_reducible rfl)
    try simp only [gA, Act.put]
    refine tk (i := 7) (v := ?_) rfl (Or.inl ⟨by rfl, ?_⟩) hHeld ?_
    rotate_left 1
    ·(intro w hSw; (try dsimp only at hSw); go_simp; try with_reducible rfl)
    try simp only [gA, Act.put]
    refine tk (i := 8) (v := ?_) rfl (Or.inl ⟨by rfl, ?_⟩) hHeld ?_
    rotate_left 1
    ·(intro w hSw; (try dsimp only at hSw); go_simp; try with_reducible rfl)
    try simp only [gA, Act.put]
    refine tk (i := 9) (v := ?_) rfl (Or.inl ⟨by rfl, ?_⟩) hHeld ?_
    rotate_left 1
    ·(intro w hSw; (try dsimp only at hSw); go_simp; try with_reducible rfl)
    try simp only [gA, Act.put]
    refine tk (i := 10) (v := ?_) rfl (Or.inl ⟨by rfl, ?_⟩) hHeld ?_
    rotate_left 1
    ·(intro w hSw; (try dsimp only at hSw); go_simp; try with_reducible rfl)
    try simp only [gA, Act.put]
    refine wpAnyH_ready (rs := [4, 11]) (by kernel_rfl) (by simp) ?_
    refine AllReadyH.cons rfl (fun K hK => ?_) ?_
    go_simp
    refine hK.out _ _ ?_ (fun hHeld => ?_)
    ·first | exact hHeld | exact cB (below_a1 _ _) hHeld | exact p2a | exact p2b
    clear hK K
    try simp only [gA, Act.put]
    refine wpAnyH_ready (rs := [11]) (by kernel_rfl) (by simp) ?_
    refine AllReadyH.cons rfl (fun K hK => ?_) AllReadyH.nil
    go_simp
    refine hK.out _ _ ?_ (fun hHeld => ?_)
    ·first | exact hHeld | exact cB (below_a1 _ _) hHeld | exact p2a | exact p2b
    clear hK K
    try simp only [gA, Act.put]
    refine wpAnyH_ready (rs := [12]) (by kernel_rfl) (by simp) ?_
    refine AllReadyH.cons rfl (fun K hK => ?_) AllReadyH.nil
    rw [if_pos (by rfl)]
    refine wp_app _ _ 23 rfl rfl rfl HRUN.out ?_
    refine hK.out _ _ ?_ (fun hHeld => ?_)
    ·exact p2a
    clear hK K
    try simp only [gA, Act.put]
    refine tk (i := 13) (v := ?_) rfl (Or.inl ⟨by rfl, ?_⟩) hHeld ?_
    rotate_left 1
    ·(intro w hSw; (try dsimp only at hSw); go_simp; try with_reducible rfl)
    try simp only [gA, Act.put]
    refine tk (i := 14) (v := ?_) rfl (Or.inl ⟨by rfl, ?_⟩) hHeld ?_
    rotate_left 1
    ·(intro w hSw; (try dsimp only at hSw); go_simp; try with_reducible rfl)
    try simp only [gA, Act.put]
    refine wpAnyH_ready (rs := [15]) (by kernel_rfl) (by simp) ?_
    refine AllReadyH.cons rfl (fun K hK => ?_) AllReadyH.nil
    go_simp
    refine hK.out _ _ ?_ (fun hHeld => ?_)
    ·exact p2b
    clear hK K
    try simp only [gA, Act.put]
    refine wpAnyH_done (by kernel_rfl) ?_ _
    rotate_left 1
    refine AllReadyH.cons rfl (fun K hK => ?_) AllReadyH.nil
    go_simp
    refine hK.out _ _ ?_ (fun hHeld => ?_)
    ·first | exact hHeld | exact cB (below_a1 _ _) hHeld | exact p2a | exact p2b
    clear hK K
    try simp only [gA, Act.put]
    refine wpAnyH_ready (rs := [4]) (by kernel_rfl) (by simp) ?_
    refine AllReadyH.cons rfl (fun K hK => ?_) AllReadyH.nil
    go_simp
    refine hK.out _ _ ?_ (fun hHeld => ?_)
    ·first | exact hHeld | exact cB (below_a1 _ _) hHeld | exact p2a | exact p2b
    clear hK K
    try simp only [gA, Act.put]
    refine wpAnyH_ready (rs := [12]) (by kernel_rfl) (by simp) ?_
    refine AllReadyH.cons rfl (fun K hK => ?_) AllReadyH.nil
    rw [if_pos (by rfl)]
    refine wp_app _ _ 23 rfl rfl rfl HRUN.out ?_
    refine hK.out _ _ ?_ (fun hHeld => ?_)
    ·exact p2a
    clear hK K
    try simp only [gA, Act.put]
    refine tk (i := 13) (v := ?_) rfl (Or.inl ⟨by rfl, ?_⟩) hHeld ?_
    rotate_left 1
    ·(intro w hSw; (try dsimp only at hSw); go_simp; try with_reducible rfl)
    try simp only [gA, Act.put]
    refine tk (i := 14) (v := ?_) rfl (Or.inl ⟨by rfl, ?_⟩) hHeld ?_
    rotate_left 1
    ·(intro w hSw; (try dsimp only at hSw); go_simp; try with_reducible rfl)
    try simp only [gA, Act.put]
    refine wpAnyH_ready (rs := [15]) (by kernel_rfl) (by simp) ?_
    refine AllReadyH.cons rfl (fun K hK => ?_) AllReadyH.nil
    go_simp
    refine hK.out _ _ ?_ (fun hHeld => ?_)
    ·exact p2b
    clear hK K
    try simp only [gA, Act.put]
    refine wpAnyH_done (by kernel_rfl) ?_ _
    rotate_left 1
    all_goals
     clear HRUN q1 q2 p2a p2b
     go_wp2
     go_ret
     rw [HLO.out]
     exact ⟨KT5.out, rfl, _, _, OF5.out⟩
end Go.Proofs.YtcnpbcgkhhebaaaGreatDoor
/- A line of a season's file is loaded: a log's. -/
namespace Go.Proofs.YtcnpbcgkhhebaaaGreatDoor
open Go.RowKit

def badL (p2 p5 : ByteArray) : Bool := !((decide (p2.toList = [45]) || wordB p2) && (decide (p5.toList = wHere) || decide (p5.toList = wGone)))

theorem three {w : World} {b : Nat} {c0 c1 c2 c3 c4 v0 v2 v3 : Value} (h : w.heap[b]? = some (.cells #[c0, c1, c2, c3, c4] 69 (0, 0))) :
  (((w.setCell ⟨b, 0, none⟩ v0).setCell ⟨b, 2, none⟩ v2).setCell ⟨b, 3, none⟩ v3).heap[b]? = some (.cells #[v0, c1, v2, v3, c4] 69 (0, 0)) ∧
  w.grownBy (((w.setCell ⟨b, 0, none⟩ v0).setCell ⟨b, 2, none⟩ v2).setCell ⟨b, 3, none⟩ v3) (some b) := by
 have h1 := heap_setCell_same w b 0 _ 69 v0 h
 have h2 := heap_setCell_same _ b 2 _ 69 v2 h1
 have h3 := heap_setCell_same _ b 3 _ 69 v3 h2
 refine ⟨h3.trans (by simp), ?_⟩
 have g1 := grown_cell w b 0 v0
 have g2 := grown_cell (w.setCell ⟨b, 0, none⟩ v0) b 2 v2
 have g3 := grown_cell ((w.setCell ⟨b, 0, none⟩ v0).setCell ⟨b, 2, none⟩ v2) b 3 v3
 exact ⟨rfl, rfl, rfl, by have := g1.size; have := g2.size; have := g3.size; omega, fun k hk hne => ((g3.block k (by have := g1.size; have := g2.size; omega) hne).trans (g2.block k (by have := g1.size; omega) hne)).trans (g1.block k hk hne)⟩
set_option maxRecDepth 100000 in
set_option maxHeartbeats 4000000 in
theorem load_log (base ob : Nat) (os : List Ow) (ls : List Lg) (v1 v2 : Value) (A : Option Addr) (c : Nat) (p0 p1 p2 p3 p4 p5 : ByteArray) (w : World) (hP : Own eS 9 1 base w (.slice A 6 c) [p0, p1, p2, p3, p4, p5]) (hO : Off0 base w ob [] 26 v1 v2 os ls)
  (h0 : p0.toList = wLogL) (hsz : ∀ p ∈ [p0, p1, p2, p3, p4, p5], p.size ≤ 100000) (hbase : base ≤ w.heap.size) (hn : ls.length ≤ 100000) :
  Calls Tryz.prog 70 #[.pointer (some ⟨ob, 0, none⟩), .slice A 6 c] w (LoadR base ob w (loadS os ls [p0, p1, p2, p3, p4, p5])) := by
 have hlo : loadS os ls [p0, p1, p2, p3, p4, p5] = if badL p2 p5 = true then none else (if numOk p1 && numOk p3 && numOk p4 then some (os, ls ++ [⟨numV p1, undash p2, numV p3, numV p4, decide (p5.toList = wGone)⟩]) else none) := by
  simp only [loadS]
  rw [if_pos h0]
  unfold badL
  cases hx : ((decide (p2.toList = [45]) || wordB p2) && (decide (p5.toList = wHere) || decide (p5.toList = wGone))) <;> simp
 have hq1 := hO.q1
 obtain ⟨A2, c2, rfl⟩ := hO.o2.sl
 have hne1 : ∀ g, A = some ⟨g, 0, none⟩ → (Value.slice A2 ls.length c2).ownBlock ≠ some g := fun g e => by
  have := ne_of_kind hO.o2 hP (by decide)
  rcases this with h | h
  ·rw [h]; simp
  ·subst e; exact h
 obtain ⟨b, off, y0, hy0, rfl, hb, d0⟩ := (hP.rs encS).atS (i := 0) (by simp)
 obtain ⟨b', off', y1, hy1, e1, -, d1⟩ := (hP.rs encS).atS (i := 1) (by simp)
 cases e1
 obtain ⟨b', off', y2, hy2, e1, -, d2⟩ := (hP.rs encS).atS (i := 2) (by simp)
 cases e1
 obtain ⟨b', off', y3, hy3, e1, -, d3⟩ := (hP.rs encS).atS (i := 3) (by simp)
 cases e1
 obtain ⟨b', off', y4, hy4, e1, -, d4⟩ := (hP.rs encS).atS (i := 4) (by simp)
 cases e1
 obtain ⟨b', off', y5, hy5, e1, -, d5⟩ := (hP.rs encS).atS (i := 5) (by simp)
 cases e1
 simp only [List.getElem_cons_zero, List.getElem_cons_succ] at hy0 hy1 hy2 hy3 hy4 hy5
 rw [hy0] at d0
 rw [hy1] at d1
 rw [hy2] at d2
 rw [hy3] at d3
 rw [hy4] at d4
 rw [hy5] at d5
 clear hy0 hy1 hy2 hy3 hy4 hy5 y0 y1 y2 y3 y4 y5
 have hofs : off = 0 := by
  rcases hP.form with ⟨_, h⟩ | ⟨g, cap, h, _⟩
  ·cases h
  ·injection h with h1 _ _
   cases h1
   rfl
 subst hofs
 simp only [Nat.zero_add] at d0 d1 d2 d3 d4 d5
 have hcap := (hP.rs encS).1
 have hneb : (Value.slice A2 ls.length c2).ownBlock ≠ some b := hne1 b rfl
 have hbob : b ≠ ob := fun e => by
  obtain ⟨-, cs, hc⟩ := hP.blk b rfl
  rw [e, hO.row] at hc
  cases hc
 have z1 := hsz p1 (by simp)
 have z2 := hsz p2 (by simp)
 have z3 := hsz p3 (by simp)
 have z4 := hsz p4 (by simp)
 have HO := Lib.hid hO
 have HLO := Lib.hid hlo
 have hd0 : p0.toList = [108, 111, 103] := h0
 have hc1 := fun W => digits_any p1 (by omega) W
 have hc3 := fun W => digits_any p3 (by omega) W
 have hc4 := fun W => digits_any p4 (by omega) W
 have hc2 := fun W => isWord_any p2 (by omega) W
 have C1 := Lib.hid hc1
 have C2 := Lib.hid hc2
 have C3 := Lib.hid hc3
 have C4 := Lib.hid hc4
 have HNB := Lib.hid hneb
 have HBO := Lib.hid hbob
 clear hO hP hlo hne1 h0 hsz hc1 hc2 hc3 hc4 hneb
 go_enter Tryz.func70, Tryz.ntmps70
 go_upto_region 8 with fail
 have E1 := Lib.hid d1
 have E3 := Lib.hid d3
 have E4 := Lib.hid d4
 have E2 := Lib.hid d2
 have E5 := Lib.hid d5
 have hq1' := Lib.hid hq1
 clear d1 d3 d4 hq1
 go_cut [75] (fun s75 wx => s75 = .bool (badL p2 p5) ∧ Hid (Below w.heap.size w wx))
 case first =>
  by_cases ha : p2.toList = [45]
  ·by_cases h5 : p5.toList = [104, 101, 114, 101]
   ·go_wp2_with fail
    go_meet
    exact ⟨by unfold badL; rw [decide_eq_true ha, decide_eq_true (show p5.toList = wHere from h5)]; rfl, Below.refl _ _⟩
   ·by_cases h6 : p5.toList = [103, 111, 110, 101]
    ·go_wp2_with fail
     go_meet
     exact ⟨by unfold badL; rw [decide_eq_true ha, decide_eq_true (show p5.toList = wGone from h6)]; simp, Below.refl _ _⟩
    ·go_wp2_with fail
     go_meet
     exact ⟨by unfold badL; rw [decide_eq_false (show ¬ p5.toList = wHere from h5), decide_eq_false (show ¬ p5.toList = wGone from h6)]; simp; exact ⟨h5, h6⟩, Below.refl _ _⟩
  ·cases hw : wordB p2 with
   | false =>
    rw [hw] at C2
    go_wp2_with fail
    refine (C2.out _).mono ?_
    rintro e w4 ⟨rfl, hb4⟩
    go_wp2_with fail
    go_meet
    exact ⟨by unfold badL; rw [decide_eq_false ha, hw]; rfl, hb4⟩
   | true =>
    rw [hw] at C2
    by_cases h5 : p5.toList = [104, 101, 114, 101]
    ·go_wp2_with fail
     refine (C2.out _).mono ?_
     rintro e w4 ⟨rfl, hb4⟩
     have k5 := cB hb4 E5.out
     go_wp2_with fail
     go_meet
     exact ⟨by unfold badL; rw [hw, decide_eq_true (show p5.toList = wHere from h5)]; simp, hb4⟩
    ·by_cases h6 : p5.toList = [103, 111, 110, 101]
     ·go_wp2_with fail
      refine (C2.out _).mono ?_
      rintro e w4 ⟨rfl, hb4⟩
      have k5 := cB hb4 E5.out
      go_wp2_with fail
      go_meet
      exact ⟨by unfold badL; rw [hw, decide_eq_true (show p5.toList = wGone from h6)]; simp, hb4⟩
     ·go_wp2_with fail
      refine (C2.out _).mono ?_
      rintro e w4 ⟨rfl, hb4⟩
      have k5 := cB hb4 E5.out
      go_wp2_with fail
      go_meet
      exact ⟨by unfold badL; rw [decide_eq_false (show ¬ p5.toList = wHere from h5), decide_eq_false (show ¬ p5.toList = wGone from h6)]; simp; exact ⟨h5, h6⟩, hb4⟩
 case rest =>
  obtain ⟨rfl, hbc⟩ := hcut
  cases hbd : badL p2 p5 with
  | true =>
   rw [hbd] at HLO
   go_wp2_with fail
   go_ret
   rw [HLO.out]
   exact ⟨(Kt.refl _ _ _).below hbc.out, rfl⟩
  | false =>
   rw [hbd] at HLO
   have f2 := cB hbc.out E2.out
   have f5 := cB hbc.out E5.out
   have hblt := World.block_lt_of_cell? wc _ f2
   obtain ⟨w9, rfl⟩ : ∃ w9 : World, w9 = wc := ⟨_, rfl⟩
   go_upto_region 10 with fail
   go_cut [9] (fun s9 wx => s9 = .pointer (some ⟨w9.heap.size, 0, none⟩) ∧ wx = (w9.alloc (.cells #[.int .i64 0, .string (undash p2), .int .i64 0, .int .i64 0, .bool (p5.toList == [103, 111, 110, 101])] 69)).drew)
   case first =>
    refine wp_region_held_drew (S := fun W => W.cell? ⟨b, 2, none⟩ = some (.string p2) ∧ W.cell? ⟨b, 5, none⟩ = some (.string p5)) (by kernel_rfl) ?_ (fun hHeld => ?_)
    ·exact ⟨f2, f5⟩
    refine tk (i := 0) (v := ?_) rfl (Or.inl ⟨by rfl, ?_⟩) hHeld ?_
    rotate_left 1
    ·(intro w hSw; (try dsimp only at hSw); go_simp; try with_reducible rfl)
    try simp only [gA, Act.put]
    refine tk (i := 1) (v := ?_) rfl (Or.inl ⟨by rfl, ?_⟩) hHeld ?_
    rotate_left 1
    ·(intro w hSw; (try dsimp only at hSw); go_simp; try with_reducible rfl)
    try simp only [gA, Act.put]
    refine tk (i := 2) (v := ?_) rfl (Or.inl ⟨by rfl, ?_⟩) hHeld ?_
    rotate_left 1
    ·(intro w hSw; (try dsimp only at hSw); go_simp; try with_reducible rfl)
    try simp only [gA, Act.put]
    refine tk (i := 4) (v := ?_) rfl (Or.inl ⟨by rfl, ?_⟩) hHeld ?_
    rotate_left 1
    ·(intro w hSw; (try dsimp only at hSw); go_simp; try with_reducible rfl)
    try simp only [gA, Act.put]
    refine tk (i := 5) (v := ?_) rfl (Or.inl ⟨by rfl, ?_⟩) hHeld ?_
    rotate_left 1
    ·(intro w hSw; (try dsimp only at hSw); go_simp; try with_reducible rfl)
    try simp only [gA, Act.put]
    refine tk (i := 6) (v := ?_) rfl (Or.inl ⟨by rfl, ?_⟩) hHeld ?_
    rotate_left 1
    ·(intro w hSw; (try dsimp only at hSw); go_simp; try with_reducible rfl)
    try simp only [gA, Act.put]
    refine tk (i := 7) (v := ?_) rfl (Or.inl ⟨by rfl, ?_⟩) hHeld ?_
    rotate_left 1
    ·(intro w hSw; (try dsimp only at hSw); go_simp; try with_reducible rfl)
    try simp only [gA, Act.put]
    refine wpAnyH_ready (rs := [3, 9]) (by kernel_rfl) (by simp) ?_
    refine AllReadyH.cons rfl (fun K hK => ?_) ?_
    go_simp
    go_at_call 110
    refine (Tryz.strings_TrimPrefix p2 ⟨#[45]⟩ _).mono ?_
    rintro e wt ⟨rfl, rfl⟩
    go_wp2_with fail
    refine hK.out _ _ ?_ (fun hHeld => ?_)
    ·first | exact hHeld | exact ⟨cB (below_a1 _ _) hHeld.1, cB (below_a1 _ _) hHeld.2⟩
    clear hK K
    try simp only [gA, Act.put]
    refine tk (i := 8) (v := ?_) rfl (Or.inl ⟨by rfl, ?_⟩) hHeld ?_
    rotate_left 1
    ·(intro w hSw; (try dsimp only at hSw); go_simp; try with_reducible rfl)
    try simp only [gA, Act.put]
    refine wpAnyH_ready (rs := [9]) (by kernel_rfl) (by simp) ?_
    refine AllReadyH.cons rfl (fun K hK => ?_) AllReadyH.nil
    go_simp
    refine hK.out _ _ ?_ (fun hHeld => ?_)
    ·first | exact hHeld | exact ⟨cB (below_a1 _ _) hHeld.1, cB (below_a1 _ _) hHeld.2⟩
    clear hK K
    try simp only [gA, Act.put]
    refine wpAnyH_ready (rs := [10]) (by kernel_rfl) (by simp) ?_
    refine AllReadyH.cons rfl (fun K hK => ?_) AllReadyH.nil
    go_simp
    refine hK.out _ _ ?_ (fun hHeld => ?_)
    ·exact ⟨cB (belowD (below_a1 _ _)) f2, cB (belowD (below_a1 _ _)) f5⟩
    clear hK K
    try simp only [gA, Act.put]
    refine wpAnyH_done (by kernel_rfl) ?_ _
    rotate_left 1
    refine AllReadyH.cons rfl (fun K hK => ?_) AllReadyH.nil
    go_simp
    refine hK.out _ _ ?_ (fun hHeld => ?_)
    ·first | exact hHeld | exact ⟨cB (below_a1 _ _) hHeld.1, cB (below_a1 _ _) hHeld.2⟩
    clear hK K
    try simp only [gA, Act.put]
    refine wpAnyH_ready (rs := [3]) (by kernel_rfl) (by simp) ?_
    refine AllReadyH.cons rfl (fun K hK => ?_) AllReadyH.nil
    go_simp
    go_at_call 110
    refine (Tryz.strings_TrimPrefix p2 ⟨#[45]⟩ _).mono ?_
    rintro e wt ⟨rfl, rfl⟩
    go_wp2_with fail
    refine hK.out _ _ ?_ (fun hHeld => ?_)
    ·first | exact hHeld | exact ⟨cB (below_a1 _ _) hHeld.1, cB (below_a1 _ _) hHeld.2⟩
    clear hK K
    try simp only [gA, Act.put]
    refine tk (i := 8) (v := ?_) rfl (Or.inl ⟨by rfl, ?_⟩) hHeld ?_
    rotate_left 1
    ·(intro w hSw; (try dsimp only at hSw); go_simp; try with_reducible rfl)
    try simp only [gA, Act.put]
    refine wpAnyH_ready (rs := [10]) (by kernel_rfl) (by simp) ?_
    refine AllReadyH.cons rfl (fun K hK => ?_) AllReadyH.nil
    go_simp
    refine hK.out _ _ ?_ (fun hHeld => ?_)
    ·exact ⟨cB (belowD (below_a1 _ _)) f2, cB (belowD (below_a1 _ _)) f5⟩
    clear hK K
    try simp only [gA, Act.put]
    refine wpAnyH_done (by kernel_rfl) ?_ _
    rotate_left 1
    all_goals
     go_wp2_with fail
     go_meet
     exact ⟨rfl, rfl⟩
   case rest =>
    obtain ⟨rfl, hwx⟩ := hcut
    obtain ⟨wx, rfl⟩ : ∃ wx : World, wx = wc := ⟨_, rfl⟩
    have hwe := hwx
    clear hwx
    have hrow : wx.heap[w9.heap.size]? = some (.cells #[.int .i64 0, .string (undash p2), .int .i64 0, .int .i64 0, .bool (p5.toList == [103, 111, 110, 101])] 69 (0, 0)) := by rw [hwe]; exact heap_alloc_new w9 _
    have hbx : Below w9.heap.size w9 wx := by rw [hwe]; exact belowD (below_a1 w9 _)
    have hX : w9.heap.size < wx.heap.size := (Array.getElem?_eq_some_iff.1 hrow).1
    clear hwe f2 f5 hblt
    obtain ⟨X, hXe⟩ : ∃ X, w9.heap.size = X := ⟨_, rfl⟩
    have HBX := Lib.hid (below2 hbc.out hbx)
    have hXw : w.heap.size ≤ X := by rw [← hXe]; exact hbc.out.size
    rw [hXe] at hrow hX ⊢
    have HRX := Lib.hid hrow
    clear hbx hrow hXe hbc
    go_wp2_with fail
    go_loopg [10, 121] 3 (fun gg s10 s121 wr => ∃ k : Nat, k ≤ 3 ∧ 3 - k ≤ gg ∧ s121 = .int .i64 k ∧ Hid (Below (wx.alloc (.cells #[.int .i64 1, .int .i64 3, .int .i64 4] 3)).heap.size (wx.alloc (.cells #[.int .i64 1, .int .i64 3, .int .i64 4] 3)) wr) ∧ Hid (Own eI 2 1 (wx.alloc (.cells #[.int .i64 1, .int .i64 3, .int .i64 4] 3)).heap.size wr s10 (([p1, p3, p4].take k).map numV)) ∧ Hid (∀ x ∈ [p1, p3, p4].take k, numOk x = true))
    case atStart => exact ⟨0, Nat.zero_le _, by omega, rfl, Below.refl _ _, Own.nil_ _ _ _ _ _, (show ∀ x ∈ [p1, p3, p4].take 0, numOk x = true from fun x hx => by simp at hx)⟩
    case round =>
     obtain ⟨k, hk, hg, rfl, BW, OW, OKS⟩ := hrel
     have nrow : wr.heap[wx.heap.size]? = some (.cells #[.int .i64 1, .int .i64 3, .int .i64 4] 3 (0, 0)) := (BW.out.block _ (by simp)).trans (heap_alloc_new wx _)
     by_cases hlt : k < 3
     ·have h3 : k = 0 ∨ k = 1 ∨ k = 2 := by omega
      rcases h3 with rfl | rfl | rfl
      ·have i0 : wr.cell? ⟨wx.heap.size, 0, none⟩ = some (.int .i64 1) := by rw [cell_of_row _ _ _ _ _ _ nrow]; rfl
       have dP : wr.cell? ⟨b, 1, none⟩ = some (.string p1) := cB BW.out (cB (below_a1 wx _) (cB HBX.out E1.out))
       clear nrow
       go_wp2_with fail
       refine (C1.out _).mono ?_
       rintro e w5 ⟨rfl, hb5⟩
       have OW5 := Lib.hid (OW.out.below hb5)
       have BW5 := Lib.hid (below2 BW.out hb5)
       clear hb5 i0 dP
       cases hn1 : numOk p1 with
       | false =>
        have hno : (numOk p1 && numOk p3 && numOk p4) = false := by rw [hn1]; simp
        rw [hno] at HLO
        go_wp2_with fail
        go_ret
        rw [HLO.out]
        exact ⟨(Kt.refl _ _ _).below (below2 HBX.out (below2 (below_a1 wx _) BW5.out)), rfl⟩
       | true =>
        go_wp2_with (at_builtin; apply stop_)
        unfold Hid
        refine wpList_push e2 encI rfl _ _ rfl rfl (OW5.out.below (below_a1 w5 (.cells #[.int .i64 (numV p1)] 2))) w5.heap.size 1 (numV p1) rfl (one_I (by go_simp)) (by simp) (by simp) (by have := BW5.out.size; simp only [World.size_alloc] at this ⊢; omega) ?_
        intro v' w' hown' hgr hlk
        have HOWN := Lib.hid hown'
        have BW2 := Lib.hid ((belowA BW5.out (.cells #[.int .i64 (numV p1)] 2)).grown hgr (by have := BW5.out.size; simp only [World.size_alloc] at this ⊢; omega) (fun q hq => (OW5.out.lt_ _ hq).1))
        clear hown' hgr hlk
        go_wp2
        go_roundg (2)
        case measure => omega
        case rel => exact ⟨1, by omega, by omega, by go_num, BW2.out, HOWN.out, (show ∀ x ∈ [p1, p3, p4].take 1, numOk x = true from by
         intro x hx
         simp only [List.take_succ_cons, List.take_zero, List.mem_cons, List.not_mem_nil, or_false] at hx
         rw [hx]; exact hn1)⟩
      ·have i0 : wr.cell? ⟨wx.heap.size, 1, none⟩ = some (.int .i64 3) := by rw [cell_of_row _ _ _ _ _ _ nrow]; rfl
       have dP : wr.cell? ⟨b, 3, none⟩ = some (.string p3) := cB BW.out (cB (below_a1 wx _) (cB HBX.out E3.out))
       clear nrow
       go_wp2_with fail
       refine (C3.out _).mono ?_
       rintro e w5 ⟨rfl, hb5⟩
       have OW5 := Lib.hid (OW.out.below hb5)
       have BW5 := Lib.hid (below2 BW.out hb5)
       clear hb5 i0 dP
       cases hn1 : numOk p3 with
       | false =>
        have hno : (numOk p1 && numOk p3 && numOk p4) = false := by rw [hn1]; simp
        rw [hno] at HLO
        go_wp2_with fail
        go_ret
        rw [HLO.out]
        exact ⟨(Kt.refl _ _ _).below (below2 HBX.out (below2 (below_a1 wx _) BW5.out)), rfl⟩
       | true =>
        go_wp2_with (at_builtin; apply stop_)
        unfold Hid
        refine wpList_push e2 encI rfl _ _ rfl rfl (OW5.out.below (below_a1 w5 (.cells #[.int .i64 (numV p3)] 2))) w5.heap.size 1 (numV p3) rfl (one_I (by go_simp)) (by simp) (by simp) (by have := BW5.out.size; simp only [World.size_alloc] at this ⊢; omega) ?_
        intro v' w' hown' hgr hlk
        have HOWN := Lib.hid hown'
        have BW2 := Lib.hid ((belowA BW5.out (.cells #[.int .i64 (numV p3)] 2)).grown hgr (by have := BW5.out.size; simp only [World.size_alloc] at this ⊢; omega) (fun q hq => (OW5.out.lt_ _ hq).1))
        clear hown' hgr hlk
        go_wp2
        go_roundg (1)
        case measure => omega
        case rel => exact ⟨2, by omega, by omega, by go_num, BW2.out, HOWN.out, (show ∀ x ∈ [p1, p3, p4].take 2, numOk x = true from by
         intro x hx
         simp only [List.take_succ_cons, List.take_zero, List.mem_cons, List.not_mem_nil, or_false] at hx
         rcases hx with rfl | rfl
         ·exact OKS.out _ (by simp)
         ·exact hn1)⟩
      ·have i0 : wr.cell? ⟨wx.heap.size, 2, none⟩ = some (.int .i64 4) := by rw [cell_of_row _ _ _ _ _ _ nrow]; rfl
       have dP : wr.cell? ⟨b, 4, none⟩ = some (.string p4) := cB BW.out (cB (below_a1 wx _) (cB HBX.out E4.out))
       clear nrow
       go_wp2_with fail
       refine (C4.out _).mono ?_
       rintro e w5 ⟨rfl, hb5⟩
       have OW5 := Lib.hid (OW.out.below hb5)
       have BW5 := Lib.hid (below2 BW.out hb5)
       clear hb5 i0 dP
       cases hn1 : numOk p4 with
       | false =>
        have hno : (numOk p1 && numOk p3 && numOk p4) = false := by rw [hn1]; simp
        rw [hno] at HLO
        go_wp2_with fail
        go_ret
        rw [HLO.out]
        exact ⟨(Kt.refl _ _ _).below (below2 HBX.out (below2 (below_a1 wx _) BW5.out)), rfl⟩
       | true =>
        go_wp2_with (at_builtin; apply stop_)
        unfold Hid
        refine wpList_push e2 encI rfl _ _ rfl rfl (OW5.out.below (below_a1 w5 (.cells #[.int .i64 (numV p4)] 2))) w5.heap.size 1 (numV p4) rfl (one_I (by go_simp)) (by simp) (by simp) (by have := BW5.out.size; simp only [World.size_alloc] at this ⊢; omega) ?_
        intro v' w' hown' hgr hlk
        have HOWN := Lib.hid hown'
        have BW2 := Lib.hid ((belowA BW5.out (.cells #[.int .i64 (numV p4)] 2)).grown hgr (by have := BW5.out.size; simp only [World.size_alloc] at this ⊢; omega) (fun q hq => (OW5.out.lt_ _ hq).1))
        clear hown' hgr hlk
        go_wp2
        go_roundg (0)
        case measure => omega
        case rel => exact ⟨3, by omega, by omega, by go_num, BW2.out, HOWN.out, (show ∀ x ∈ [p1, p3, p4].take 3, numOk x = true from by
         intro x hx
         simp only [List.take_succ_cons, List.take_zero, List.mem_cons, List.not_mem_nil, or_false] at hx
         rcases hx with rfl | rfl | rfl
         ·exact OKS.out _ (by simp)
         ·exact OKS.out _ (by simp)
         ·exact hn1)⟩
     ·obtain rfl : k = 3 := by omega
      clear nrow
      have hall : (numOk p1 && numOk p3 && numOk p4) = true := by rw [OKS.out p1 (by simp), OKS.out p3 (by simp), OKS.out p4 (by simp)]; rfl
      rw [hall] at HLO
      have hOW : Own eI 2 1 (wx.alloc (.cells #[.int .i64 1, .int .i64 3, .int .i64 4] 3)).heap.size wr _ [numV p1, numV p3, numV p4] := OW.out
      obtain ⟨A6, c6, rfl⟩ := hOW.sl
      obtain ⟨b6, off6, x0, hx0, rfl, hb6, a0⟩ := (hOW.rs encI).atI (i := 0) (by simp)
      obtain ⟨b', off', x1, hx1, e1, -, a1⟩ := (hOW.rs encI).atI (i := 1) (by simp)
      cases e1
      obtain ⟨b', off', x2, hx2, e1, -, a2⟩ := (hOW.rs encI).atI (i := 2) (by simp)
      cases e1
      simp only [List.getElem_cons_zero, List.getElem_cons_succ] at hx0 hx1 hx2
      rw [hx0, Nat.add_zero] at a0
      rw [hx1] at a1
      rw [hx2] at a2
      have hcap6 := (hOW.rs encI).1
      have hlo6 := (hOW.lt_ b6 rfl).1
      rw [World.size_alloc] at hlo6
      have hrowr : wr.heap[X]? = some (.cells #[.int .i64 0, .string (undash p2), .int .i64 0, .int .i64 0, .bool (p5.toList == [103, 111, 110, 101])] 69 (0, 0)) := (BW.out.block X (by simp; omega)).trans (((below_a1 wx (.cells #[.int .i64 1, .int .i64 3, .int .i64 4] 3)).block X hX).trans HRX.out)
      have BR := Lib.hid (below2 HBX.out (below2 (below_a1 wx _) BW.out))
      have hw2 : 2 ≤ wr.heap.size ∨ True := .inr trivial
      have rf : ∀ j, wr.frozen? ⟨X, j, none⟩ = false := fun j => by simp [World.frozen?, hrowr]
      have r0 : wr.cell? ⟨X, 0, none⟩ = some (.int .i64 0) := by rw [cell_of_row _ _ _ _ _ _ hrowr]; rfl
      have r2 : wr.cell? ⟨X, 2, none⟩ = some (.int .i64 0) := by rw [cell_of_row _ _ _ _ _ _ hrowr]; rfl
      have r3 : wr.cell? ⟨X, 3, none⟩ = some (.int .i64 0) := by rw [cell_of_row _ _ _ _ _ _ hrowr]; rfl
      have hX6 : X ≠ b6 := by omega
      have HRR := Lib.hid hrowr
      clear hx0 hx1 hx2 x0 x1 x2 hOW hall hrowr OW
      go_wp2_with fail
      refine wp_region_held_drew (S := fun W => W.cell? ⟨b6, off6, none⟩ = some (.int .i64 (numV p1)) ∧ W.cell? ⟨b6, off6 + 1, none⟩ = some (.int .i64 (numV p3)) ∧ W.cell? ⟨b6, off6 + 2, none⟩ = some (.int .i64 (numV p4))) (by kernel_rfl) ?_ (fun hHeld => ?_)
      ·exact ⟨a0, a1, a2⟩
      refine tk (i := 0) (v := ?_) rfl (Or.inl ⟨by rfl, ?_⟩) hHeld ?_
      rotate_left 1
      ·(intro w hSw; (try dsimp only at hSw); go_simp; try with_reducible rfl)
      try simp only [gA, Act.put]
      refine tk (i := 1) (v := ?_) rfl (Or.inl ⟨by rfl, ?_⟩) hHeld ?_
      rotate_left 1
      ·(intro w hSw; (try dsimp only at hSw); go_simp; try with_reducible rfl)
      try simp only [gA, Act.put]
      refine tk (i := 2) (v := ?_) rfl (Or.inl ⟨by rfl, ?_⟩) hHeld ?_
      rotate_left 1
      ·(intro w hSw; (try dsimp only at hSw); go_simp; try with_reducible rfl)
      try simp only [gA, Act.put]
      refine tk (i := 3) (v := ?_) rfl (Or.inl ⟨by rfl, ?_⟩) hHeld ?_
      rotate_left 1
      ·(intro w hSw; (try dsimp only at hSw); go_simp; try with_reducible rfl)
      try simp only [gA, Act.put]
      refine tk (i := 4) (v := ?_) rfl (Or.inl ⟨by rfl, ?_⟩) hHeld ?_
      rotate_left 1
      ·(intro w hSw; (try dsimp only at hSw); go_simp; try with_reducible rfl)
      try simp only [gA, Act.put]
      refine tk (i := 5) (v := ?_) rfl (Or.inl ⟨by rfl, ?_⟩) hHeld ?_
      rotate_left 1
      ·(intro w hSw; (try dsimp only at hSw); go_simp; try with_reducible rfl)
      try simp only [gA, Act.put]
      refine tk (i := 6) (v := ?_) rfl (Or.inl ⟨by rfl, ?_⟩) hHeld ?_
      rotate_left 1
      ·(intro w hSw; (try dsimp only at hSw); go_simp; try with_reducible rfl)
      try simp only [gA, Act.put]
      refine tk (i := 7) (v := ?_) rfl (Or.inl ⟨by rfl, ?_⟩) hHeld ?_
      rotate_left 1
      ·(intro w hSw; (try dsimp only at hSw); go_simp; try with_reducible rfl)
      try simp only [gA, Act.put]
      refine tk (i := 8) (v := ?_) rfl (Or.inl ⟨by rfl, ?_⟩) hHeld ?_
      rotate_left 1
      ·(intro w hSw; (try dsimp only at hSw); go_simp; try with_reducible rfl)
      try simp only [gA, Act.put]
      refine tk (i := 9) (v := ?_) rfl (Or.inl ⟨by rfl, ?_⟩) hHeld ?_
      rotate_left 1
      ·(intro w hSw; (try dsimp only at hSw); go_simp; try with_reducible rfl)
      try simp only [gA, Act.put]
      refine wpAnyH_ready (rs := [10]) (by kernel_rfl) (by simp) ?_
      refine AllReadyH.cons rfl (fun K hK => ?_) AllReadyH.nil
      go_simp
      refine hK.out _ _ ?_ (fun hHeld => ?_)
      ·exact ⟨cell_grown (grown_cell _ _ _ _) hHeld.1 (by simp; omega), cell_grown (grown_cell _ _ _ _) hHeld.2.1 (by simp; omega), cell_grown (grown_cell _ _ _ _) hHeld.2.2 (by simp; omega)⟩
      clear hK K
      try simp only [gA, Act.put]
      refine tk (i := 11) (v := ?_) rfl (Or.inl ⟨by rfl, ?_⟩) hHeld ?_
      rotate_left 1
      ·(intro w hSw; (try dsimp only at hSw); go_simp; try with_reducible rfl)
      try simp only [gA, Act.put]
      refine wpAnyH_ready (rs := [12]) (by kernel_rfl) (by simp) ?_
      refine AllReadyH.cons rfl (fun K hK => ?_) AllReadyH.nil
      go_simp
      refine hK.out _ _ ?_ (fun hHeld => ?_)
      ·exact ⟨cell_grown (grown_cell _ _ _ _) hHeld.1 (by simp; omega), cell_grown (grown_cell _ _ _ _) hHeld.2.1 (by simp; omega), cell_grown (grown_cell _ _ _ _) hHeld.2.2 (by simp; omega)⟩
      clear hK K
      try simp only [gA, Act.put]
      refine tk (i := 13) (v := ?_) rfl (Or.inl ⟨by rfl, ?_⟩) hHeld ?_
      rotate_left 1
      ·(intro w hSw; (try dsimp only at hSw); go_simp; try with_reducible rfl)
      try simp only [gA, Act.put]
      refine wpAnyH_ready (rs := [14]) (by kernel_rfl) (by simp) ?_
      refine AllReadyH.cons rfl (fun K hK => ?_) AllReadyH.nil
      go_simp
      refine hK.out _ _ ?_ (fun hHeld => ?_)
      ·exact ⟨cell_grown (grown_cell _ _ _ _) hHeld.1 (by simp; omega), cell_grown (grown_cell _ _ _ _) hHeld.2.1 (by simp; omega), cell_grown (grown_cell _ _ _ _) hHeld.2.2 (by simp; omega)⟩
      clear hK K
      try simp only [gA, Act.put]
      refine wpAnyH_done (by kernel_rfl) ?_ _
      rotate_left 1
      obtain ⟨hr3, hg3⟩ := three (w := wr) (v0 := .int .i64 (numV p1)) (v2 := .int .i64 (numV p3)) (v3 := .int .i64 (numV p4)) HRR.out
      go_wp2_with fail
      obtain ⟨w4, hw4⟩ : ∃ w4, ((((wr.setCell ⟨X, 0, none⟩ (.int .i64 (numV p1))).setCell ⟨X, 2, none⟩ (.int .i64 (numV p3))).setCell ⟨X, 3, none⟩ (.int .i64 (numV p4))).drew) = w4 := ⟨_, rfl⟩
      have hr4 : w4.heap[X]? = some (.cells #[.int .i64 (numV p1), .string (undash p2), .int .i64 (numV p3), .int .i64 (numV p4), .bool (p5.toList == [103, 111, 110, 101])] 69 (0, 0)) := by rw [← hw4]; exact hr3
      have hg4 : wr.grownBy w4 (some X) := by rw [← hw4]; exact ⟨hg3.os, hg3.tape, hg3.output, hg3.size, hg3.block⟩
      have OFr := HO.out.below BR.out
      have hX1 : ∀ g, v1.ownBlock = some g → g < w.heap.size := fun g e => (HO.out.o1.lt_ g e).2
      have hX2 : ∀ g, (Value.slice A2 ls.length c2).ownBlock = some g → g < w.heap.size := fun g e => (HO.out.o2.lt_ g e).2
      have hobw := HO.out.lt
      have OF2 := Lib.hid (OFr.kept_ hg4 (by simp; omega) (fun e => by have := hX1 X e.symm; omega) (fun e => by have := hX2 X e.symm; omega))
      have KT2 := Lib.hid ((((Kt.refl base ob w).below BR.out).grown hg4 fun g hq => by cases hq; exact ⟨by omega, .inr ⟨_, 69, _, HRR.out, .inr rfl⟩⟩))
      rw [hw4]
      clear OFr hg3 hr3 hg4 hw4 a0 a1 a2 rf r0 r2 r3
      have m0 : w4.cell? ⟨X, 0, none⟩ = some (.int .i64 (numV p1)) := by rw [cell_of_row _ _ _ _ _ _ hr4]; rfl
      have m1 : w4.cell? ⟨X, 1, none⟩ = some (.string (undash p2)) := by rw [cell_of_row _ _ _ _ _ _ hr4]; rfl
      have m2 : w4.cell? ⟨X, 2, none⟩ = some (.int .i64 (numV p3)) := by rw [cell_of_row _ _ _ _ _ _ hr4]; rfl
      have m3 : w4.cell? ⟨X, 3, none⟩ = some (.int .i64 (numV p4)) := by rw [cell_of_row _ _ _ _ _ _ hr4]; rfl
      have m4 : w4.cell? ⟨X, 4, none⟩ = some (.bool (p5.toList == [103, 111, 110, 101])) := by rw [cell_of_row _ _ _ _ _ _ hr4]; rfl
      have f0 := OF2.out.q1
      have hob4 : ob < w4.heap.size := World.block_lt_of_cell? w4 _ f0
      have hbX4 : X < w4.heap.size := World.block_lt_of_cell? w4 _ m0
      have B5 := belowD (below_a1 w4 (.cells #[.int .i64 (numV p1), .string (undash p2), .int .i64 (numV p3), .int .i64 (numV p4), .bool (p5.toList == [103, 111, 110, 101])] 69))
      have hbe : (p5.toList == [103, 111, 110, 101]) = decide (p5.toList = wGone) := by
       by_cases h : p5.toList = [103, 111, 110, 101]
       ·rw [decide_eq_true (show p5.toList = wGone from h), h]; rfl
       ·rw [decide_eq_false (show ¬ p5.toList = wGone from h)]; exact beq_eq_false_iff_ne.2 h
      have HBE := Lib.hid hbe
      clear hr4 hbe
      obtain ⟨A', c', w5, hrun, q1, q2, hg5, hoff, hkt⟩ := (OF2.out.below B5).push2 (by have := OF2.out.le; simp; omega) hn w4.heap.size ⟨numV p1, undash p2, numV p3, numV p4, p5.toList == [103, 111, 110, 101]⟩ (fun j u hj => by
       match j, hj with
       | 0, hj => simp [eL] at hj; subst hj; go_simp
       | 1, hj => simp [eL] at hj; subst hj; go_simp
       | 2, hj => simp [eL] at hj; subst hj; go_simp
       | 3, hj => simp [eL] at hj; subst hj; go_simp
       | 4, hj => simp [eL] at hj; subst hj; go_simp
       | j + 5, hj => simp [eL] at hj)
      have hnX : (Value.slice A2 ls.length c2).ownBlock ≠ some X := fun e => by have := hX2 X e; omega
      have q0a := cell_grown hg5 (cB B5 m0) hnX
      have q1a := cell_grown hg5 (cB B5 m1) hnX
      have q2a := cell_grown hg5 (cB B5 m2) hnX
      have q3a := cell_grown hg5 (cB B5 m3) hnX
      have q4a := cell_grown hg5 (cB B5 m4) hnX
      have q0b := cell_grown (grown_cell w5 ob 1 (.slice A' (ls.length + 1) c')) q0a (by simp; omega)
      have q1b := cell_grown (grown_cell w5 ob 1 (.slice A' (ls.length + 1) c')) q1a (by simp; omega)
      have q2b := cell_grown (grown_cell w5 ob 1 (.slice A' (ls.length + 1) c')) q2a (by simp; omega)
      have q3b := cell_grown (grown_cell w5 ob 1 (.slice A' (ls.length + 1) c')) q3a (by simp; omega)
      have q4b := cell_grown (grown_cell w5 ob 1 (.slice A' (ls.length + 1) c')) q4a (by simp; omega)
      have OF5 := Lib.hid hoff
      have KT5 := Lib.hid ((KT2.out.below B5).trans hkt)
      have HRUN := Lib.hid hrun
      clear hoff hkt B5 hg5 hrun OF2 KT2
      refine wp_region_held_drew (S := fun W => W.cell? ⟨X, 0, none⟩ = some (.int .i64 (numV p1)) ∧ W.cell? ⟨X, 1, none⟩ = some (.string (undash p2)) ∧ W.cell? ⟨X, 2, none⟩ = some (.int .i64 (numV p3)) ∧ W.cell? ⟨X, 3, none⟩ = some (.int .i64 (numV p4)) ∧ W.cell? ⟨X, 4, none⟩ = some (.bool (p5.toList == [103, 111, 110, 101]))) (by kernel_rfl) ?_ (fun hHeld => ?_)
      ·exact ⟨m0, m1, m2, m3, m4⟩
      refine tk (i := 0) (v := ?_) rfl (Or.inl ⟨by rfl, ?_⟩) hHeld ?_
      rotate_left 1
      ·(intro w hSw; (try dsimp only at hSw); go_simp; try with_reducible rfl)
      try simp only [gA, Act.put]
      refine tk (i := 1) (v := ?_) rfl (Or.inl ⟨by rfl, ?_⟩) hHeld ?_
      rotate_left 1
      ·(intro w hSw; (try dsimp only at hSw); go_simp; try with_reducible rfl)
      try simp only [gA, Act.put]
      refine tk (i := 2) (v := ?_) rfl (Or.inl ⟨by rfl, ?_⟩) hHeld ?_
      rotate_left 1
      ·(intro w hSw; (try dsimp only at hSw); go_simp; try with_reducible rfl)
      try simp only [gA, Act.put]
      refine tk (i := 3) (v := ?_) rfl (Or.inl ⟨by rfl, ?_⟩) hHeld ?_
      rotate_left 1
      ·(intro w hSw; (try dsimp only at hSw); go_simp; try with_reducible rfl)
      try simp only [gA, Act.put]
      refine tk (i := 5) (v := ?_) rfl (Or.inl ⟨by rfl, ?_⟩) hHeld ?_
      rotate_left 1
      ·(intro w hSw; (try dsimp only at hSw); go_simp; try with_reducible rfl)
      try simp only [gA, Act.put]
      refine wpAnyH_ready (rs := [4, 6]) (by kernel_rfl) (by simp) ?_
      refine AllReadyH.cons rfl (fun K hK => ?_) ?_
      go_simp
      refine hK.out _ _ ?_ (fun hHeld => ?_)
      ·first | exact hHeld | (exact ⟨cB (below_a1 _ _) hHeld.1, cB (below_a1 _ _) hHeld.2.1, cB (below_a1 _ _) hHeld.2.2.1, cB (below_a1 _ _) hHeld.2.2.2.1, cB (below_a1 _ _) hHeld.2.2.2.2⟩)
      clear hK K
      try simp only [gA, Act.put]
      refine wpAnyH_ready (rs := [6]) (by kernel_rfl) (by simp) ?_
      refine AllReadyH.cons rfl (fun K hK => ?_) AllReadyH.nil
      go_simp
      refine hK.out _ _ ?_ (fun hHeld => ?_)
      ·first | exact hHeld | (exact ⟨cB (below_a1 _ _) hHeld.1, cB (below_a1 _ _) hHeld.2.1, cB (below_a1 _ _) hHeld.2.2.1, cB (below_a1 _ _) hHeld.2.2.2.1, cB (below_a1 _ _) hHeld.2.2.2.2⟩)
      clear hK K
      try simp only [gA, Act.put]
      refine wpAnyH_ready (rs := [7]) (by kernel_rfl) (by simp) ?_
      refine AllReadyH.cons rfl (fun K hK => ?_) AllReadyH.nil
      rw [if_pos (by rfl)]
      refine wp_app _ _ 24 rfl rfl rfl HRUN.out ?_
      refine hK.out _ _ ?_ (fun hHeld => ?_)
      ·exact ⟨q0a, q1a, q2a, q3a, q4a⟩
      clear hK K
      try simp only [gA, Act.put]
      refine tk (i := 8) (v := ?_) rfl (Or.inl ⟨by rfl, ?_⟩) hHeld ?_
      rotate_left 1
      ·(intro w hSw; (try dsimp only at hSw); go_simp; try with_reducible rfl)
      try simp only [gA, Act.put]
      refine tk (i := 9) (v := ?_) rfl (Or.inl ⟨by rfl, ?_⟩) hHeld ?_
      rotate_left 1
      ·(intro w hSw; (try dsimp only at hSw); go_simp; try with_reducible rfl)
      try simp only [gA, Act.put]
      refine wpAnyH_ready (rs := [10]) (by kernel_rfl) (by simp) ?_
      refine AllReadyH.cons rfl (fun K hK => ?_) AllReadyH.nil
      go_simp
      refine hK.out _ _ ?_ (fun hHeld => ?_)
      ·exact ⟨q0b, q1b, q2b, q3b, q4b⟩
      clear hK K
      try simp only [gA, Act.put]
      refine wpAnyH_done (by kernel_rfl) ?_ _
      rotate_left 1
      refine AllReadyH.cons rfl (fun K hK => ?_) AllReadyH.nil
      go_simp
      refine hK.out _ _ ?_ (fun hHeld => ?_)
      ·first | exact hHeld | (exact ⟨cB (below_a1 _ _) hHeld.1, cB (below_a1 _ _) hHeld.2.1, cB (below_a1 _ _) hHeld.2.2.1, cB (below_a1 _ _) hHeld.2.2.2.1, cB (below_a1 _ _) hHeld.2.2.2.2⟩)
      clear hK K
      try simp only [gA, Act.put]
      refine wpAnyH_ready (rs := [4]) (by kernel_rfl) (by simp) ?_
      refine AllReadyH.cons rfl (fun K hK => ?_) AllReadyH.nil
      go_simp
      refine hK.out _ _ ?_ (fun hHeld => ?_)
      ·first | exact hHeld | (exact ⟨cB (below_a1 _ _) hHeld.1, cB (below_a1 _ _) hHeld.2.1, cB (below_a1 _ _) hHeld.2.2.1, cB (below_a1 _ _) hHeld.2.2.2.1, cB (below_a1 _ _) hHeld.2.2.2.2⟩)
      clear hK K
      try simp only [gA, Act.put]
      refine wpAnyH_ready (rs := [7]) (by kernel_rfl) (by simp) ?_
      refine AllReadyH.cons rfl (fun K hK => ?_) AllReadyH.nil
      rw [if_pos (by rfl)]
      refine wp_app _ _ 24 rfl rfl rfl HRUN.out ?_
      refine hK.out _ _ ?_ (fun hHeld => ?_)
      ·exact ⟨q0a, q1a, q2a, q3a, q4a⟩
      clear hK K
      try simp only [gA, Act.put]
      refine tk (i := 8) (v := ?_) rfl (Or.inl ⟨by rfl, ?_⟩) hHeld ?_
      rotate_left 1
      ·(intro w hSw; (try dsimp only at hSw); go_simp; try with_reducible rfl)
      try simp only [gA, Act.put]
      refine tk (i := 9) (v := ?_) rfl (Or.inl ⟨by rfl, ?_⟩) hHeld ?_
      rotate_left 1
      ·(intro w hSw; (try dsimp only at hSw); go_simp; try with_reducible rfl)
      try simp only [gA, Act.put]
      refine wpAnyH_ready (rs := [10]) (by kernel_rfl) (by simp) ?_
      refine AllReadyH.cons rfl (fun K hK => ?_) AllReadyH.nil
      go_simp
      refine hK.out _ _ ?_ (fun hHeld => ?_)
      ·exact ⟨q0b, q1b, q2b, q3b, q4b⟩
      clear hK K
      try simp only [gA, Act.put]
      refine wpAnyH_done (by kernel_rfl) ?_ _
      rotate_left 1
      all_goals
       clear HRUN q1 q2 q0a q1a q2a q3a q4a q0b q1b q2b q3b q4b
       go_wp2
       go_ret
       rw [HLO.out]
       exact ⟨KT5.out, rfl, _, _, by have h := OF5.out; rw [HBE.out] at h; exact h⟩
end Go.Proofs.YtcnpbcgkhhebaaaGreatDoor
/- A season's file is loaded. -/
namespace Go.Proofs.YtcnpbcgkhhebaaaGreatDoor
open Go.RowKit

theorem load_any (base ob : Nat) (os : List Ow) (ls : List Lg) (v1 v2 : Value) (A : Option Addr) (c : Nat) (P : List ByteArray) (w : World) (hP : Own eS 9 1 base w (.slice A P.length c) P) (hO : Off0 base w ob [] 26 v1 v2 os ls)
  (h1 : 0 < P.length) (hsz : ∀ p ∈ P, p.size ≤ 100000) (hbase : base ≤ w.heap.size) (hn1 : os.length ≤ 100000) (hn2 : ls.length ≤ 100000) :
  Calls Tryz.prog 70 #[.pointer (some ⟨ob, 0, none⟩), .slice A P.length c] w (LoadR base ob w (loadS os ls P)) := by
 by_cases hA : ∃ p0 p1 p2 p3, P = [p0, p1, p2, p3] ∧ p0.toList = wOwner ∧ ls.length = 0
 ·obtain ⟨p0, p1, p2, p3, rfl, h0, hl⟩ := hA
  exact load_own base ob os ls v1 v2 A c p0 p1 p2 p3 w hP hO h0 hl hsz hbase hn1
 by_cases hB : ∃ p0 p1 p2 p3 p4 p5, P = [p0, p1, p2, p3, p4, p5] ∧ p0.toList = wLogL
 ·obtain ⟨p0, p1, p2, p3, p4, p5, rfl, h0⟩ := hB
  exact load_log base ob os ls v1 v2 A c p0 p1 p2 p3 p4 p5 w hP hO h0 hsz hbase hn2
 refine load_no base ob os ls v1 v2 A c P w hP hO h1 (fun p0 hp h => hA ?_) (fun p0 hp h => hB ?_)
 ·match P, h.2.1, hp with
  | [a, b, d, e], _, hp =>
   cases hp
   exact ⟨_, _, _, _, rfl, h.1, h.2.2⟩
 ·match P, h.2, hp with
  | [a, b, d, e, f, g], _, hp =>
   cases hp
   exact ⟨_, _, _, _, _, _, rfl, h.1⟩

def loadL (os : List Ow) (ls : List Lg) : List (List UInt8) → Option (List Ow × List Lg)
 | [] => none
 | [p] => if p = [] then some (os, ls) else none
 | p :: q :: r => match loadS os ls (partsB ⟨p.toArray⟩ ⟨#[32]⟩) with
  | none => none
  | some x => loadL x.1 x.2 (q :: r)
def loadF (file : ByteArray) : (List Ow × List Lg) × Int :=
 if 16000 < file.size then (([], []), 7) else match loadL [] [] (parts 10 file.data.toList) with
  | none => (([], []), 8)
  | some x => if checkS x.1 x.2 ≠ 0 then (([], []), checkS x.1 x.2) else (x, 0)
def LoadFR (w : World) (r : (List Ow × List Lg) × Int) (e : Ending) (w' : World) : Prop :=
 ∃ v, e = .returned (.tuple #[v, .int .i64 r.2]) ∧ SeaO w.heap.size w' v r.1.1 r.1.2 ∧ Below w.heap.size w w'
theorem loadL_hit {os : List Ow} {ls : List Lg} {l : List UInt8} {i : Nat} (h : l[i]? = some 10) (hk : ∀ k : Nat, k < i → l[k]? ≠ some 10) :
  loadL os ls (parts 10 l) = match loadS os ls (partsB ⟨(l.take i).toArray⟩ ⟨#[32]⟩) with
   | none => none
   | some x => loadL x.1 x.2 (parts 10 (l.drop (i + 1))) := by
 rw [parts_hit l i h hk]
 obtain ⟨p, r, hp⟩ := parts_cons 10 (l.drop (i + 1))
 rw [hp, loadL]
theorem loadL_miss {os : List Ow} {ls : List Lg} {l : List UInt8} (h0 : l ≠ []) (hk : ∀ k : Nat, l[k]? ≠ some 10) : loadL os ls (parts 10 l) = none := by
 rw [parts_none l hk, loadL, if_neg h0]
theorem loadL_nil (os : List Ow) (ls : List Lg) : loadL os ls (parts 10 []) = some (os, ls) := rfl
theorem loadS_len {os : List Ow} {ls : List Lg} {P : List ByteArray} {r : List Ow × List Lg} (h : loadS os ls P = some r) : r.1.length + r.2.length = os.length + ls.length + 1 := by
 unfold loadS at h
 split at h
 ·split at h
  ·split at h
   ·cases h; simp; omega
   ·cases h
  ·cases h
 ·split at h
  ·split at h
   ·split at h
    ·cases h; simp; omega
    ·cases h
   ·cases h
  ·cases h
 ·cases h
end Go.Proofs.YtcnpbcgkhhebaaaGreatDoor
/- A season's file is loaded: the walk. -/
namespace Go.Proofs.YtcnpbcgkhhebaaaGreatDoor
open Go.RowKit

theorem part_le (s : ByteArray) : ∀ x ∈ partsB s ⟨#[32]⟩, x.size ≤ s.size := by
 intro x hx
 have h1 := parts_sum 32 s.data.toList
 have h2 : x.data.toList ∈ parts 32 s.data.toList := by rw [← partsB_eq]; exact List.mem_map.2 ⟨x, hx, rfl⟩
 have key : ∀ (l : List (List UInt8)) (y : List UInt8), y ∈ l → y.length + 1 ≤ (l.map (fun p => p.length + 1)).sum := by
  intro l
  induction l with
  | nil => intro y hy; cases hy
  | cons a l ih =>
   intro y hy
   simp only [List.map_cons, List.sum_cons]
   rcases List.mem_cons.1 hy with rfl | hy
   ·omega
   ·have := ih y hy
    omega
 have h3 := key _ _ h2
 rw [h1] at h3
 simp at h3
 exact h3
set_option maxRecDepth 100000 in
set_option maxHeartbeats 4000000 in
theorem loadF_any (file : ByteArray) (w : World) (hL : LaidW w) (hs : file.size ≤ 9223372036854775807) :
  Calls Tryz.prog 32 #[.string file] w (LoadFR w (loadF file)) := by
 by_cases h8 : 16000 < file.size
 ·have hd8 : decide (16000 < file.size) = true := decide_eq_true h8
  have hd8i : decide (16000 < (file.size : Int)) = true := decide_eq_true (by omega)
  have hp : loadF file = (([], []), 7) := by unfold loadF; rw [if_pos h8]
  have HP := Lib.hid hp
  clear hp hL
  go_enter Tryz.func32, Tryz.ntmps32
  go_wp2
  refine bodyPost_ret (v := .tuple #[.agg #[.slice none 0 0, .slice none 0 0], .int .i64 7]) (by simp [results, Tryz.f32, go_sem]) rfl ?_
  rw [HP.out]
  exact ⟨_, rfl, SeaO.nil_ _ _, below_a1 _ _⟩
 have hd8 : decide (16000 < file.size) = false := decide_eq_false h8
 have hd8i : decide (16000 < (file.size : Int)) = false := decide_eq_false (by omega)
 have hp : loadF file = match loadL [] [] (parts 10 file.data.toList) with | none => (([], []), 8) | some x => if checkS x.1 x.2 ≠ 0 then (([], []), checkS x.1 x.2) else (x, 0) := by unfold loadF; exact if_neg h8
 have HP := Lib.hid hp
 have HL := Lib.hid hL
 clear hp hL
 go_enter Tryz.func32, Tryz.ntmps32
 go_wp2
 clear hd8 hd8i hs
 obtain ⟨wA, hwA⟩ : ∃ wA, (w.alloc (.cells #[.slice none 0 0, .slice none 0 0] 26)).alloc (.cells #[.slice none 0 0, .slice none 0 0] 26) = wA := ⟨_, rfl⟩
 have BA : Below w.heap.size w wA := by rw [← hwA]; exact belowA (below_a1 _ _) _
 have ra : wA.heap[w.heap.size]? = some (.cells #[.slice none 0 0, .slice none 0 0] 26 (0, 0)) := by rw [← hwA, heap_alloc_old _ _ (by simp)]; exact heap_alloc_new _ _
 have rb : wA.heap[w.heap.size + 1]? = some (.cells #[.slice none 0 0, .slice none 0 0] 26 (0, 0)) := by rw [← hwA]; have := heap_alloc_new (w.alloc (.cells #[.slice none 0 0, .slice none 0 0] 26)) (.cells #[.slice none 0 0, .slice none 0 0] 26); rw [World.size_alloc] at this; exact this
 have zA : wA.heap.size = w.heap.size + 2 := by rw [← hwA]; simp
 have HBA := Lib.hid BA
 have RA := Lib.hid ra
 have OF0 := Lib.hid (show Off0 (w.heap.size + 1) wA (w.heap.size + 1) [] 26 (.slice none 0 0) (.slice none 0 0) [] [] from ⟨rb, Nat.le_refl _, Own.nil_ _ _ _ _ _, Own.nil_ _ _ _ _ _, by decide⟩)
 rw [hwA]
 clear hwA BA ra rb
 go_loopg [5] file.size (fun gg s5 wr => ∃ (os : List Ow) (ls : List Lg) (v1 v2 : Value) (rs : ByteArray), s5 = .string rs ∧ rs.size ≤ gg ∧ os.length + ls.length + rs.size ≤ file.size ∧ Hid (loadL [] [] (parts 10 file.data.toList) = loadL os ls (parts 10 rs.data.toList)) ∧ Hid (Off0 (w.heap.size + 1) wr (w.heap.size + 1) [] 26 v1 v2 os ls) ∧ Hid (Kt (w.heap.size + 1) (w.heap.size + 1) wA wr))
 case atStart => exact ⟨[], [], _, _, file, rfl, by omega, by simp, (show loadL [] [] (parts 10 file.data.toList) = loadL [] [] (parts 10 file.data.toList) from rfl), OF0.out, Kt.refl _ _ _⟩
 case round =>
  obtain ⟨os, ls, v1, v2, rs, rfl, hg, hsz, LL, OW, KT⟩ := hrel
  obtain ⟨A1, c1, rfl⟩ := OW.out.o1.sl
  obtain ⟨A2, c2, rfl⟩ := OW.out.o2.sl
  have BW := Lib.hid (HBA.out.trans (((KT.out.toBelow (by omega)).mono (Nat.le_succ _))))
  have RW := Lib.hid (KT.out.block _ _ RA.out (.inl (Nat.lt_succ_self _)))
  have hzr := KT.out.size
  cases he : rs.toList.isEmpty with
  | true =>
   have hrs : rs.data.toList = [] := by rw [List.isEmpty_iff, ByteArray.toList_eq] at he; exact he
   have hll : loadL [] [] (parts 10 file.data.toList) = some (os, ls) := by rw [LL.out, hrs, loadL_nil]
   have HLL := Lib.hid hll
   have hne : !rs.toList.isEmpty = false := by rw [he]; rfl
   have q0 := OW.out.q0
   have q1 := OW.out.q1
   have hcon := checkSeason_any A1 c1 os A2 c2 ls wr (OW.out.o1.rs encO) (OW.out.o2.rs encL)
   have s0 : wr.cell? ⟨w.heap.size, 0, none⟩ = some (.slice none 0 0) := by rw [cell_of_row _ _ _ _ _ _ RW.out]; rfl
   have s1 : wr.cell? ⟨w.heap.size, 1, none⟩ = some (.slice none 0 0) := by rw [cell_of_row _ _ _ _ _ _ RW.out]; rfl
   have f0 : ∀ j, wr.frozen? ⟨w.heap.size, j, none⟩ = false := fun j => by simp [World.frozen?, RW.out]
   clear hrs hll LL
   by_cases h0 : checkS os ls = 0
   ·rw [h0] at hcon
    have H0 := Lib.hid h0
    have CON := Lib.hid hcon
    clear h0 hcon s0 s1 f0
    go_wp2_with fail
    refine CON.out.mono ?_
    rintro e w2 ⟨rfl, hb2⟩
    have OF2 := Lib.hid (OW.out.below hb2)
    have RW2 := Lib.hid ((hb2.block _ (Array.getElem?_eq_some_iff.1 RW.out).1).trans RW.out)
    have BW2 := Lib.hid (below2 BW.out hb2)
    have q0 := OF2.out.q0
    have q1 := OF2.out.q1
    have s0 : w2.cell? ⟨w.heap.size, 0, none⟩ = some (.slice none 0 0) := by rw [cell_of_row _ _ _ _ _ _ RW2.out]; rfl
    have s1 : w2.cell? ⟨w.heap.size, 1, none⟩ = some (.slice none 0 0) := by rw [cell_of_row _ _ _ _ _ _ RW2.out]; rfl
    have f0 : w2.frozen? ⟨w.heap.size, 0, none⟩ = false := by simp [World.frozen?, RW2.out]
    have f1 : w2.frozen? ⟨w.heap.size, 1, none⟩ = false := by simp [World.frozen?, RW2.out]
    clear hb2
    go_wp2
    obtain ⟨W5, hW5⟩ : ∃ W5, (w2.setCell ⟨w.heap.size, 0, none⟩ (.slice A1 os.length c1)).setCell ⟨w.heap.size, 1, none⟩ (.slice A2 ls.length c2) = W5 := ⟨_, rfl⟩
    obtain ⟨k0, k1, hg5⟩ := two_cells (W := W5.drew) RW2.out (by rw [← hW5])
    rw [hW5]
    have hg6 : w2.grownBy W5 (some w.heap.size) := ⟨hg5.os, hg5.tape, hg5.output, hg5.size, hg5.block⟩
    have k0' : W5.cell? ⟨w.heap.size, 0, none⟩ = some (.slice A1 os.length c1) := k0
    have k1' : W5.cell? ⟨w.heap.size, 1, none⟩ = some (.slice A2 ls.length c2) := k1
    have hne : ∀ r, some w.heap.size = some r → ∃ cs t f, w2.heap[r]? = some (.cells cs t f) ∧ t = 26 := fun r e => by cases e; exact ⟨_, _, _, RW2.out, rfl⟩
    refine bodyPost_ret (v := .tuple #[.agg #[.slice A1 os.length c1, .slice A2 ls.length c2], .int .i64 0]) (by simp [results, Tryz.f32, go_sem, k0', k1']) rfl ?_
    rw [HP.out, HLL.out]
    simp only
    rw [if_neg (by rw [H0.out]; simp)]
    exact ⟨_, rfl, ⟨A1, c1, A2, c2, rfl, (OF2.out.o1.other hg6 (fun r e => by obtain ⟨cs, t, f, h, rfl⟩ := hne r e; exact ⟨_, _, _, h, by decide⟩)).mono (by omega), (OF2.out.o2.other hg6 (fun r e => by obtain ⟨cs, t, f, h, rfl⟩ := hne r e; exact ⟨_, _, _, h, by decide⟩)).mono (by omega)⟩, BW2.out.grown hg6 BW2.out.size (fun r e => by cases e; exact Nat.le_refl _)⟩
   ·have hd : (checkS os ls != 0) = true := by simp [h0]
    obtain ⟨r, hr⟩ : ∃ r, checkS os ls = r := ⟨_, rfl⟩
    rw [hr] at hcon hd
    have H0 := Lib.hid h0
    have HR := Lib.hid hr
    have CON := Lib.hid hcon
    clear h0 hcon s0 s1 f0 hr
    go_wp2_with fail
    refine CON.out.mono ?_
    rintro e w2 ⟨rfl, hb2⟩
    have RW2 := Lib.hid ((hb2.block _ (Array.getElem?_eq_some_iff.1 RW.out).1).trans RW.out)
    have BW2 := Lib.hid (below2 BW.out hb2)
    have s0 : w2.cell? ⟨w.heap.size, 0, none⟩ = some (.slice none 0 0) := by rw [cell_of_row _ _ _ _ _ _ RW2.out]; rfl
    have s1 : w2.cell? ⟨w.heap.size, 1, none⟩ = some (.slice none 0 0) := by rw [cell_of_row _ _ _ _ _ _ RW2.out]; rfl
    have f0 : w2.frozen? ⟨w.heap.size, 0, none⟩ = false := by simp [World.frozen?, RW2.out]
    have f1 : w2.frozen? ⟨w.heap.size, 1, none⟩ = false := by simp [World.frozen?, RW2.out]
    clear hb2
    go_wp2
    rw [setCell_same RW2.out rfl, setCell_same RW2.out rfl]
    refine bodyPost_ret (v := .tuple #[.agg #[.slice none 0 0, .slice none 0 0], .int .i64 r]) (by simp [results, Tryz.f32, go_sem, s0, s1]) rfl ?_
    rw [HP.out, HLL.out]
    simp only
    rw [if_pos H0.out, HR.out]
    exact ⟨_, rfl, SeaO.nil_ _ _, BW2.out⟩
  | false =>
   have hne : !rs.toList.isEmpty = true := by rw [he]; rfl
   have hrs0 : rs.data.toList ≠ [] := by
    intro e
    rw [ByteArray.toList_eq, e] at he
    cases he
   have hlen : rs.data.toList.length = rs.size := by simp
   have hcut := cut_any rs ⟨#[10]⟩ wr (HL.out.below BW.out) (by omega)
   have e10 : (⟨#[10]⟩ : ByteArray).data.toList = [10] := rfl
   rw [e10] at hcut
   have s0 : wr.cell? ⟨w.heap.size, 0, none⟩ = some (.slice none 0 0) := by rw [cell_of_row _ _ _ _ _ _ RW.out]; rfl
   have s1 : wr.cell? ⟨w.heap.size, 1, none⟩ = some (.slice none 0 0) := by rw [cell_of_row _ _ _ _ _ _ RW.out]; rfl
   rcases first_nl rs.data.toList with ⟨i, hi, hk⟩ | hk
   ·rw [cut_at hi hk] at hcut
    have hil : i < rs.data.toList.length := (List.getElem?_eq_some_iff.1 hi).1
    have hlh := loadL_hit (os := os) (ls := ls) hi hk
    obtain ⟨p, hpd⟩ : ∃ p : ByteArray, (⟨(rs.data.toList.take i).toArray⟩ : ByteArray) = p := ⟨_, rfl⟩
    obtain ⟨q, hqd⟩ : ∃ q : ByteArray, (⟨(rs.data.toList.drop (i + 1)).toArray⟩ : ByteArray) = q := ⟨_, rfl⟩
    have hq2 : q.data.toList = rs.data.toList.drop (i + 1) := by rw [← hqd]
    have hps : p.size ≤ rs.size := by rw [← hpd]; show (rs.data.toList.take i).toArray.size ≤ _; simp; omega
    have hqs : q.size + 1 ≤ rs.size := by rw [← hqd]; show (rs.data.toList.drop (i + 1)).toArray.size + 1 ≤ _; simp; omega
    simp only [hpd, hqd] at hcut
    rw [hpd, ← hq2] at hlh
    have LH := Lib.hid hlh
    have CUT := Lib.hid hcut
    have hsp : ∀ W, Below w.heap.size w W → Calls Tryz.prog 71 #[.string p, .string ⟨#[32]⟩] W fun e w' => OwnR eS 9 1 W.heap.size w' e (partsB p ⟨#[32]⟩) ∧ Below W.heap.size W w' :=
     fun W hB => split_any p ⟨#[32]⟩ W (HL.out.below hB) (by omega) (by decide) (partsB_len 32 p) (by have := partsB_le 32 p; omega)
    have hpl := partsB_len 32 p
    have hpz := part_le p
    obtain ⟨P, hPd⟩ : ∃ P, partsB p ⟨#[32]⟩ = P := ⟨_, rfl⟩
    rw [hPd] at hpl hpz LH
    simp only [hPd] at hsp
    have hP0 : 0 < P.length := by omega
    have HPZ := Lib.hid hpz
    have SPL := Lib.hid hsp
    clear hlh hcut hpd hqd hq2 hi hk hil hrs0 hlen s0 s1 hpl hpz hsp hPd
    go_wp2_with fail
    refine CUT.out.mono ?_
    rintro e w1 ⟨rfl, hb1⟩
    have BW1 := Lib.hid (below2 BW.out hb1)
    have OF1 := Lib.hid (OW.out.below hb1)
    have KT1 := Lib.hid (KT.out.below hb1)
    clear hb1 CUT
    go_wp2_with fail
    refine (SPL.out _ BW1.out).mono ?_
    rintro e w2 ⟨⟨A3, c3, rfl, hP⟩, hb2⟩
    have BW2 := Lib.hid (below2 BW1.out hb2)
    have hz1 : w.heap.size + 2 ≤ w1.heap.size := by have := KT1.out.size; omega
    have hld := load_any (w.heap.size + 1) (w.heap.size + 1) os ls _ _ A3 c3 P w2 (hP.mono (by omega)) (OF1.out.below hb2) hP0 (fun x hx => by have := HPZ.out x hx; omega) (by have := hb2.size; omega) (by omega) (by omega)
    have KT2 := Lib.hid (KT1.out.below hb2)
    have LD := Lib.hid hld
    clear hb2 hP hld
    cases hx : loadS os ls P with
    | none =>
     rw [hx] at LH LD
     have hlh : loadL os ls (parts 10 rs.data.toList) = none := LH.out
     have HLN := Lib.hid hlh
     clear LH hlh hx
     go_wp2_with fail
     refine LD.out.mono ?_
     rintro e w3 ⟨hkt, he3⟩
     simp only at he3
     subst he3
     have KT3 := Lib.hid (KT2.out.trans hkt)
     have RW2 := Lib.hid (KT3.out.block _ _ RA.out (.inl (Nat.lt_succ_self _)))
     have BW3 := Lib.hid (HBA.out.trans (((KT3.out.toBelow (by omega)).mono (Nat.le_succ _))))
     have s0 : w3.cell? ⟨w.heap.size, 0, none⟩ = some (.slice none 0 0) := by rw [cell_of_row _ _ _ _ _ _ RW2.out]; rfl
     have s1 : w3.cell? ⟨w.heap.size, 1, none⟩ = some (.slice none 0 0) := by rw [cell_of_row _ _ _ _ _ _ RW2.out]; rfl
     have f0 : w3.frozen? ⟨w.heap.size, 0, none⟩ = false := by simp [World.frozen?, RW2.out]
     have f1 : w3.frozen? ⟨w.heap.size, 1, none⟩ = false := by simp [World.frozen?, RW2.out]
     clear hkt LD
     go_wp2
     rw [setCell_same RW2.out rfl, setCell_same RW2.out rfl]
     refine bodyPost_ret (v := .tuple #[.agg #[.slice none 0 0, .slice none 0 0], .int .i64 8]) (by simp [results, Tryz.f32, go_sem, s0, s1]) rfl ?_
     rw [HP.out, LL.out, HLN.out]
     exact ⟨_, rfl, SeaO.nil_ _ _, BW3.out⟩
    | some x =>
     have hxl := loadS_len hx
     rw [hx] at LH LD
     obtain ⟨os2, ls2⟩ := x
     have hlh : loadL os ls (parts 10 rs.data.toList) = loadL os2 ls2 (parts 10 q.data.toList) := LH.out
     have HLN := Lib.hid hlh
     simp only at hxl
     clear LH hlh hx
     go_wp2_with fail
     refine LD.out.mono ?_
     rintro e w3 ⟨hkt, he3, v3, v4, ho3⟩
     subst he3
     have KT3 := Lib.hid (KT2.out.trans hkt)
     have OF3 := Lib.hid ho3
     clear hkt LD ho3
     go_wp2
     go_roundg q.size
     case measure => omega
     case rel => exact ⟨os2, ls2, v3, v4, q, rfl, by omega, by omega, (show loadL [] [] (parts 10 file.data.toList) = loadL os2 ls2 (parts 10 q.data.toList) from by rw [LL.out, HLN.out]), OF3.out, KT3.out⟩
   ·rw [cut_no hk] at hcut
    have hlm := loadL_miss (os := os) (ls := ls) hrs0 hk
    have LM := Lib.hid hlm
    have CUT := Lib.hid hcut
    clear hlm hcut hk hrs0 hlen s0 s1
    go_wp2_with fail
    refine CUT.out.mono ?_
    rintro e w1 ⟨rfl, hb1⟩
    have RW2 := Lib.hid ((hb1.block _ (Array.getElem?_eq_some_iff.1 RW.out).1).trans RW.out)
    have BW2 := Lib.hid (below2 BW.out hb1)
    have s0 : w1.cell? ⟨w.heap.size, 0, none⟩ = some (.slice none 0 0) := by rw [cell_of_row _ _ _ _ _ _ RW2.out]; rfl
    have s1 : w1.cell? ⟨w.heap.size, 1, none⟩ = some (.slice none 0 0) := by rw [cell_of_row _ _ _ _ _ _ RW2.out]; rfl
    have f0 : w1.frozen? ⟨w.heap.size, 0, none⟩ = false := by simp [World.frozen?, RW2.out]
    have f1 : w1.frozen? ⟨w.heap.size, 1, none⟩ = false := by simp [World.frozen?, RW2.out]
    clear hb1 CUT
    go_wp2
    rw [setCell_same RW2.out rfl, setCell_same RW2.out rfl]
    refine bodyPost_ret (v := .tuple #[.agg #[.slice none 0 0, .slice none 0 0], .int .i64 8]) (by simp [results, Tryz.f32, go_sem, s0, s1]) rfl ?_
    rw [HP.out, LL.out, LM.out]
    exact ⟨_, rfl, SeaO.nil_ _ _, BW2.out⟩
end Go.Proofs.YtcnpbcgkhhebaaaGreatDoor
/- What the season's functions say of a text that is one. -/
namespace Go.Proofs.YtcnpbcgkhhebaaaGreatDoor
open Go.RowKit

theorem run_form {text : ByteArray} {l : List Ln} (h : parseS text = (l, 0)) : runS text = (playS l, 0) ∧ (playS l).os = (playE l).os ∧ (playS l).ls = (playE l).ls ∧ (playS l).errs = (playE l).errs := by
 have hr := playS_rel (good_one h)
 refine ⟨?_, hr.os, hr.ls, hr.errs⟩
 unfold runS
 rw [h]
 rfl
theorem board_form {text : ByteArray} {l : List Ln} (h : parseS text = (l, 0)) {k : Nat} (hk : k ≤ l.length) : boardS text k = (playS (l.take k), 0) ∧ (playS (l.take k)).os = (playE (l.take k)).os ∧ (playS (l.take k)).ls = (playE (l.take k)).ls ∧ (playS (l.take k)).errs = (playE (l.take k)).errs := by
 have hr := playS_rel (lines := l.take k) (fun x hx => good_one h x (List.mem_of_mem_take hx))
 refine ⟨?_, hr.os, hr.ls, hr.errs⟩
 unfold boardS
 rw [h]
 simp only
 rw [if_neg (by simp), if_neg (by omega), Int.toNat_natCast]
theorem effect_form {text : ByteArray} {l : List Ln} (h : parseS text = (l, 0)) : effectS text = (plus1 (playE l).eff, 0) := by
 have hr := playS_rel (good_one h)
 unfold effectS
 rw [h]
 simp only
 rw [if_neg (by simp), hr.eff]
theorem plain_form {text : ByteArray} {l : List Ln} (h : parseS text = (l, 0)) : plainS text = (textB ((playE l).eff.map (·.2.text)), 0) := by
 have hr := playS_rel (good_one h)
 unfold plainS
 rw [h]
 simp only
 rw [if_neg (by simp), hr.eff, plainL_text]
 rfl
theorem board_bad {text : ByteArray} {l : List Ln} (h : parseS text = (l, 0)) {k : Int} (hk : k < 0 ∨ (l.length : Int) < k) : boardS text k = (⟨[], [], [], []⟩, 3) := by
 unfold boardS
 rw [h]
 simp only
 rw [if_neg (by simp), if_pos hk]

def enumE : Nat → List Ln → List (Nat × Ln)
 | _, [] => []
 | n, x :: r => (n, x) :: enumE (n + 1) r
theorem enumE_snd : ∀ (L : List Ln) (n : Nat), (enumE n L).map (·.2) = L
 | [], n => rfl
 | x :: r, n => by rw [enumE, List.map_cons, enumE_snd r]
theorem enumE_len (L : List Ln) (n : Nat) : (enumE n L).length = L.length := by
 have := congrArg List.length (enumE_snd L n)
 simpa using this
theorem enumE_fst : ∀ (L : List Ln) (n i : Nat), i < L.length → ((enumE n L)[i]?).map (·.1) = some (n + i)
 | [], n, i, h => by simp at h
 | x :: r, n, 0, h => rfl
 | x :: r, n, i + 1, h => by
  rw [enumE, List.getElem?_cons_succ, enumE_fst r (n + 1) i (by simpa using h)]
  congr 1
  omega
theorem play_all : ∀ (L : List Ln) (p : Pl) (r : List Ow × List Lg), againS p.os p.ls L = some r → (∀ x ∈ L, x.word ≠ wStrike) → L.foldl stepE p = ⟨r.1, r.2, p.eff ++ enumE p.errs.length L, p.errs ++ List.replicate L.length 0⟩
 | [], p, r, h, _ => by
  cases h
  simp [enumE]
 | x :: L, p, r, h, hs => by
  rw [againS] at h
  split at h
  ·rename_i h0
   have hx := hs x List.mem_cons_self
   have hstep : stepE p x = ⟨(doS p.os p.ls x).1, (doS p.os p.ls x).2.1, p.eff ++ [(p.errs.length, x)], p.errs ++ [0]⟩ := by
    unfold stepE
    rw [if_neg hx, if_pos h0, h0]
   rw [List.foldl_cons, hstep, play_all L _ r h fun y hy => hs y (List.mem_cons_of_mem _ hy)]
   simp only [List.length_append, List.length_cons, List.length_nil, enumE, List.append_assoc, List.singleton_append, List.replicate_succ]
  ·cases h
/-- The plain book. -/
theorem plain_book {text : ByteArray} {l : List Ln} (h : parseS text = (l, 0)) :
  (textB ((playE l).eff.map (·.2.text))).size ≤ text.size ∧ parseS (textB ((playE l).eff.map (·.2.text))) = ((playE l).eff.map (·.2), 0) ∧
  playE ((playE l).eff.map (·.2)) = ⟨(playE l).os, (playE l).ls, enumE 0 ((playE l).eff.map (·.2)), List.replicate (playE l).eff.length 0⟩ := by
 obtain ⟨h1, h2, h3, h4⟩ := parse_iff.1 h
 have hg := good_playE l
 have hts : text.size = text.data.toList.length := by simp
 have hsz : (textB ((playE l).eff.map (·.2.text))).size ≤ text.size := by
  have := textL_sub l (playE l).eff 0 0 (Nat.le_refl _) (fun q hq => ⟨Nat.zero_le _, hg.at_ q hq⟩) hg.rise
  rw [← h1] at this
  show (textL 0 ((playE l).eff.map (·.2.text))).toArray.size ≤ _
  rw [List.size_toArray, hts]
  exact this
 have hlen : (playE l).eff.length ≤ l.length := by
  have key : ∀ (eff : List Nat) (j n : Nat), (∀ i ∈ eff, j ≤ i ∧ i < n) → eff.Pairwise (· < ·) → eff.length ≤ n - j := by
   intro eff
   induction eff with
   | nil => intro j n _ _; simp
   | cons i eff ih =>
    intro j n hi hr
    rw [List.pairwise_cons] at hr
    have h0 := hi i List.mem_cons_self
    have := ih (i + 1) n (fun k hk => ⟨hr.1 k hk, (hi k (List.mem_cons_of_mem _ hk)).2⟩) hr.2
    rw [List.length_cons]
    omega
  have := key ((playE l).eff.map (·.1)) 0 l.length (fun i hi => by
   obtain ⟨q, hq, rfl⟩ := List.mem_map.1 hi
   exact ⟨Nat.zero_le _, hg.lt q hq⟩) hg.rise
  rw [List.length_map] at this
  omega
 refine ⟨hsz, parse_iff.2 ⟨?_, ?_, by rw [List.length_map]; omega, by omega⟩, ?_⟩
 ·rw [List.map_map]
  rfl
 ·intro x hx
  obtain ⟨q, hq, rfl⟩ := List.mem_map.1 hx
  exact h2 _ (List.mem_of_getElem? (hg.at_ q hq))
 ·have := play_all ((playE l).eff.map (·.2)) ⟨[], [], [], []⟩ ((playE l).os, (playE l).ls) hg.again (fun x hx => by
   obtain ⟨q, hq, rfl⟩ := List.mem_map.1 hx
   exact hg.plain q hq)
  unfold playE at this ⊢
  rw [this]
  simp
theorem fold_take : ∀ (L : List Ln) (p : Pl), (L.foldl stepE p).errs.take p.errs.length = p.errs
 | [], p => by rw [List.foldl_nil, List.take_length]
 | x :: L, p => by
  obtain ⟨e, he⟩ := stepE_errs p x
  have ih := fold_take L (stepE p x)
  rw [List.foldl_cons]
  have h2 := congrArg (List.take p.errs.length) ih
  rw [List.take_take, he, List.take_left, List.length_append, Nat.min_eq_left (by simp)] at h2
  exact h2
theorem errs_take (l : List Ln) (k : Nat) (hk : k ≤ l.length) : (playE l).errs.take k = (playE (l.take k)).errs := by
 have h := fold_take (l.drop k) (playE (l.take k))
 have e : (l.drop k).foldl stepE (playE (l.take k)) = playE l := by
  unfold playE
  rw [← List.foldl_append, List.take_append_drop]
 rw [e, playE_errs, List.length_take, Nat.min_eq_left hk] at h
 exact h
theorem step_refused {p : Pl} {x : Ln} (h : (stepE p x).errs[p.errs.length]? ≠ some 0) : (stepE p x).os = p.os ∧ (stepE p x).ls = p.ls ∧ (stepE p x).eff = p.eff := by
 unfold stepE at h ⊢
 by_cases hw : x.word = wStrike
 ·rw [if_pos hw] at h ⊢
  simp only [List.getElem?_append_right (Nat.le_refl _), Nat.sub_self, List.getElem?_cons_zero] at h
  unfold strikeE at h ⊢
  split
  ·exact ⟨rfl, rfl, rfl⟩
  ·rename_i c1
   rw [if_neg c1] at h
   split
   ·exact ⟨rfl, rfl, rfl⟩
   ·rename_i c2
    rw [if_neg c2] at h
    split
    ·exact ⟨rfl, rfl, rfl⟩
    ·rename_i r hr
     rw [hr] at h
     exact absurd rfl h
 ·rw [if_neg hw] at h ⊢
  simp only [List.getElem?_append_right (Nat.le_refl _), Nat.sub_self, List.getElem?_cons_zero] at h
  have h0 : (doS p.os p.ls x).2.2 ≠ 0 := fun e => h (by rw [e])
  obtain ⟨e1, e2⟩ := do_refused _ _ _ h0
  exact ⟨e1, e2, if_neg h0⟩
theorem step_err (p : Pl) (x : Ln) : ∃ e, (stepE p x).errs = p.errs ++ [e] ∧ (x.word ≠ wStrike → e = (doS p.os p.ls x).2.2) ∧ (x.word = wStrike → e = (strikeE p (x.one - 1)).2.2.2) := by
 unfold stepE
 split
 ·rename_i h; exact ⟨_, rfl, fun f => absurd h f, fun _ => rfl⟩
 ·rename_i h; exact ⟨_, rfl, fun _ => rfl, fun f => absurd f h⟩
end Go.Proofs.YtcnpbcgkhhebaaaGreatDoor
/- The file of a season. -/
namespace Go.Proofs.YtcnpbcgkhhebaaaGreatDoor
open Go.RowKit

set_option maxRecDepth 100000 in
set_option maxHeartbeats 4000000 in
theorem file_any (A : Option Addr) (c : Nat) (os : List Ow) (A2 : Option Addr) (c2 : Nat) (ls : List Lg) (w : World) (hL : LaidW w) (hr : Rd eO 3 w A c os) (hr2 : Rd eL 5 w A2 c2 ls) :
  Calls Tryz.prog 30 #[.agg #[.slice A os.length c, .slice A2 ls.length c2]] w fun e w' => e = .returned (.tuple #[.string (fileS os ls).1, .int .i64 (fileS os ls).2]) ∧ Below w.heap.size w w' := by
 have HR := Lib.hid (hr.below (below_a1 w (.cells #[.slice A os.length c, .slice A2 ls.length c2] 26)))
 have HR2 := Lib.hid (hr2.below (below_a1 w (.cells #[.slice A os.length c, .slice A2 ls.length c2] 26)))
 have HL := Lib.hid (hL.below (below_a1 w (.cells #[.slice A os.length c, .slice A2 ls.length c2] 26)))
 clear hr hr2 hL
 have hcon := checkSeason_any A c os A2 c2 ls (w.alloc (.cells #[.slice A os.length c, .slice A2 ls.length c2] 26)) HR.out HR2.out
 by_cases h0 : checkS os ls = 0
 ·have hok := fileOk h0
  have hfs : fileS os ls = if (fileL os ls).length = 0 then (⟨#[]⟩, 0) else (joinB (fileL os ls) bNl ++ bNl, 0) := by unfold fileS; rw [h0]; rfl
  rw [h0] at hcon
  have OK := Lib.hid hok
  have HFS := Lib.hid hfs
  have CON := Lib.hid hcon
  clear hok hfs hcon h0
  go_enter Tryz.func30, Tryz.ntmps30
  go_wp2_with fail
  refine CON.out.mono ?_
  rintro e w1 ⟨rfl, hb1⟩
  have B1 := Lib.hid hb1
  have HL1 := Lib.hid (HL.out.below hb1)
  have R1 := Lib.hid (HR.out.below hb1)
  have R2 := Lib.hid (HR2.out.below hb1)
  have c0 : w1.cell? ⟨w.heap.size, 0, none⟩ = some (.slice A os.length c) := cB hb1 (by go_simp)
  have c1 : w1.cell? ⟨w.heap.size, 1, none⟩ = some (.slice A2 ls.length c2) := cB hb1 (by go_simp)
  have hz1 : w.heap.size + 1 ≤ w1.heap.size := by have := hb1.size; simpa using this
  clear hb1
  go_wp2
  go_loopg [6, 21] os.length (fun gg s6 s21 wr => ∃ k : Nat, k ≤ os.length ∧ os.length - k ≤ gg ∧ s21 = .int .i64 k ∧ Hid (Below w1.heap.size w1 wr) ∧ Hid (Own eS 9 1 w1.heap.size wr s6 ((os.take k).map ownLine)))
  case atStart => exact ⟨0, Nat.zero_le _, by omega, rfl, Below.refl _ _, Own.nil_ _ _ _ _ _⟩
  case round =>
   obtain ⟨k, hk, hg, rfl, BW, OW⟩ := hrel
   by_cases hlt : k < os.length
   ·have hli : (k : Int) < (os.length : Int) := by omega
    obtain ⟨b, off, y, hy, rfl, hb, c0, c1, c2⟩ := (R1.out.below BW.out).atO hlt
    have hyo := OK.out.o y (by rw [hy]; exact List.getElem_mem hlt)
    have HY := Lib.hid hy
    have HYO := Lib.hid hyo
    clear hy hyo
    obtain ⟨num, mark, paid⟩ := y
    obtain ⟨A5, c5, rfl⟩ := OW.out.sl
    have hlk : ((os.take k).map ownLine).length = k := by rw [List.length_map, List.length_take]; omega
    simp only [hlk] at OW ⊢
    have HLK := Lib.hid hlk
    clear hlk
    simp only at c0 c1 c2
    go_wp2
    have z0 : (wr.alloc (.cells #[.int .i64 num, .string mark, .int .i64 paid] 73)).cell? ⟨wr.heap.size, 0, none⟩ = some (.int .i64 num) := by go_simp
    have z1 : (wr.alloc (.cells #[.int .i64 num, .string mark, .int .i64 paid] 73)).cell? ⟨wr.heap.size, 1, none⟩ = some (.string mark) := by go_simp
    have z2 : (wr.alloc (.cells #[.int .i64 num, .string mark, .int .i64 paid] 73)).cell? ⟨wr.heap.size, 2, none⟩ = some (.int .i64 paid) := by go_simp
    obtain ⟨wB, hwB⟩ : ∃ wB, wr.alloc (.cells #[.int .i64 num, .string mark, .int .i64 paid] 73) = wB := ⟨_, rfl⟩
    have BB : Below w1.heap.size w1 wB := by rw [← hwB]; exact belowA BW.out _
    have BBr : Below wr.heap.size wr wB := by rw [← hwB]; exact below_a1 _ _
    have LB := Lib.hid (HL1.out.below BB)
    have OB := Lib.hid (OW.out.below BBr)
    have HBB := Lib.hid BB
    rw [hwB] at z0 z1 z2
    rw [hwB]
    clear hwB BB BBr c0 c1 c2
    have HB1 := Lib.hid (show -9223372036854775808 ≤ (⟨num, mark, paid⟩ : Ow).num ∧ (⟨num, mark, paid⟩ : Ow).num ≤ 9223372036854775807 from by have := HYO.out.1; simp only at this ⊢; omega)
    have HB2 := Lib.hid (show -9223372036854775808 ≤ (⟨num, mark, paid⟩ : Ow).paid ∧ (⟨num, mark, paid⟩ : Ow).paid ≤ 9223372036854775807 from by have := HYO.out.2.1; simp only at this ⊢; omega)
    have HB3 := Lib.hid (show (⟨num, mark, paid⟩ : Ow).mark.size ≤ 30 from by have := HYO.out.2.2; simp only at this ⊢; omega)
    have hk20 := OK.out.n1
    refine wp_region_held_drew (S := fun W => W.cell? ⟨wr.heap.size, 0, none⟩ = some (.int .i64 num) ∧ W.cell? ⟨wr.heap.size, 1, none⟩ = some (.string mark) ∧ W.cell? ⟨wr.heap.size, 2, none⟩ = some (.int .i64 paid)) (by kernel_rfl) ?_ (fun hHeld => ?_)
    ·exact ⟨z0, z1, z2⟩
    refine tk (i := 0) (v := ?_) rfl (Or.inl ⟨by rfl, ?_⟩) hHeld ?_
    rotate_left
    ·(intro w hSw; (try dsimp only at hSw); go_simp; try with_reducible rfl)
    try simp only [gA, Act.put]
    refine tk (i := 1) (v := ?_) rfl (Or.inl ⟨by rfl, ?_⟩) hHeld ?_
    rotate_left
    ·(intro w hSw; (try dsimp only at hSw); go_simp; try with_reducible rfl)
    try simp only [gA, Act.put]
    refine tk (i := 2) (v := ?_) rfl (Or.inl ⟨by rfl, ?_⟩) hHeld ?_
    rotate_left
    ·(intro w hSw; (try dsimp only at hSw); go_simp; try with_reducible rfl)
    try simp only [gA, Act.put]
    refine tk (i := 3) (v := ?_) rfl (Or.inl ⟨by rfl, ?_⟩) hHeld ?_
    rotate_left
    ·(intro w hSw; (try dsimp only at hSw); go_simp; try with_reducible rfl)
    try simp only [gA, Act.put]
    refine tk (i := 5) (v := ?_) rfl (Or.inl ⟨by rfl, ?_⟩) hHeld ?_
    rotate_left
    ·(intro w hSw; (try dsimp only at hSw); go_simp; try with_reducible rfl)
    try simp only [gA, Act.put]
    refine tk (i := 6) (v := ?_) rfl (Or.inl ⟨by rfl, ?_⟩) hHeld ?_
    rotate_left
    ·(intro w hSw; (try dsimp only at hSw); go_simp; try with_reducible rfl)
    try simp only [gA, Act.put]
    refine tk (i := 7) (v := ?_) rfl (Or.inl ⟨by rfl, ?_⟩) hHeld ?_
    rotate_left
    ·(intro w hSw; (try dsimp only at hSw); go_simp; try with_reducible rfl)
    try simp only [gA, Act.put]
    refine tk (i := 8) (v := ?_) rfl (Or.inl ⟨by rfl, ?_⟩) hHeld ?_
    rotate_left
    ·(intro w hSw; (try dsimp only at hSw); go_simp; try with_reducible rfl)
    try simp only [gA, Act.put]
    refine tk (i := 9) (v := ?_) rfl (Or.inl ⟨by rfl, ?_⟩) hHeld ?_
    rotate_left
    ·(intro w hSw; (try dsimp only at hSw); go_simp; try with_reducible rfl)
    try simp only [gA, Act.put]
    refine wpAnyH_ready (rs := [4]) (by kernel_rfl) (by simp) ?_
    refine AllReadyH.cons rfl (fun K hK => ?_) AllReadyH.nil
    go_simp
    go_at_call 65
    refine (number_any num _ (LB.out.below goB) HB1.out.1 HB1.out.2).mono ?_
    rintro e wp ⟨rfl, hbp⟩
    go_wp2_with fail
    refine hK.out _ _ ?_ (fun hHeld => ?_)
    ·exact ⟨cB hbp hHeld.1, cB hbp hHeld.2.1, cB hbp hHeld.2.2⟩
    clear hK K
    try simp only [gA, Act.put]
    refine wpAnyH_ready (rs := [10]) (by kernel_rfl) (by simp) ?_
    refine AllReadyH.cons rfl (fun K hK => ?_) AllReadyH.nil
    go_simp
    go_at_call 65
    refine (number_any paid _ (LB.out.below goB) HB2.out.1 HB2.out.2).mono ?_
    rintro e wq ⟨rfl, hbq⟩
    go_wp2_with fail
    refine hK.out _ _ ?_ (fun hHeld => ?_)
    ·exact ⟨cB hbq hHeld.1, cB hbq hHeld.2.1, cB hbq hHeld.2.2⟩
    clear hK K
    try simp only [gA, Act.put]
    refine wpAnyH_ready (rs := [11]) (by kernel_rfl) (by simp) ?_
    refine AllReadyH.cons rfl (fun K hK => ?_) AllReadyH.nil
    go_simp
    refine hK.out _ _ ?_ (fun hHeld => ?_)
    ·exact ⟨cB (below_a1 wq _) hHeld.1, cB (below_a1 wq _) hHeld.2.1, cB (below_a1 wq _) hHeld.2.2⟩
    clear hK K
    try simp only [gA, Act.put]
    refine wpAnyH_ready (rs := [12]) (by kernel_rfl) (by simp) ?_
    refine AllReadyH.cons rfl (fun K hK => ?_) AllReadyH.nil
    go_simp
    go_at_call 67
    refine (joinO_any ⟨num, mark, paid⟩ wq HB1.out HB2.out HB3.out).mono ?_
    rintro e wj ⟨rfl, hbj⟩
    have hbj3 : Below (wq.alloc (.cells #[.string ⟨#[111, 119, 110, 101, 114]⟩, .string (decB num), .string mark, .string (decB paid)] 9)).heap.size (wq.alloc (.cells #[.string ⟨#[111, 119, 110, 101, 114]⟩, .string (decB num), .string mark, .string (decB paid)] 9)) wj := by rw [World.size_alloc]; exact hbj
    go_wp2_with fail
    refine hK.out _ _ ?_ (fun hHeld => ?_)
    ·exact ⟨cB hbj3 hHeld.1, cB hbj3 hHeld.2.1, cB hbj3 hHeld.2.2⟩
    clear hK K
    try simp only [gA, Act.put]
    refine wpAnyH_ready (rs := [13]) (by kernel_rfl) (by simp) ?_
    refine AllReadyH.cons rfl (fun K hK => ?_) AllReadyH.nil
    go_simp
    refine hK.out _ _ ?_ (fun hHeld => ?_)
    ·exact ⟨cB (below_a1 wj _) hHeld.1, cB (below_a1 wj _) hHeld.2.1, cB (below_a1 wj _) hHeld.2.2⟩
    clear hK K
    try simp only [gA, Act.put]
    have OJ := OB.out.below (show Below wB.heap.size wB (wj.alloc (.cells #[.string (ownLine ⟨num, mark, paid⟩)] 9)) from goB)
    have hne : ∀ g, (Value.slice A5 k c5).ownBlock = some g → g ≠ wr.heap.size := fun g e h => by have := (OW.out.lt_ _ e).2; omega
    obtain ⟨A6, c6, w6, hrun, hown, hgr⟩ := run_push e9 encS 75 OJ wj.heap.size 1 (ownLine ⟨num, mark, paid⟩) (one_S (by go_simp)) (by rw [HLK.out]; omega) (by rw [HLK.out]; omega) (by have := (show Below wB.heap.size wB (wj.alloc (.cells #[.string (ownLine ⟨num, mark, paid⟩)] 9)) from goB).size; have := HBB.out.size; omega)
    have HOWN := Lib.hid hown
    have HGR := Lib.hid hgr
    rw [HLK.out] at hrun
    clear OJ hown
    refine wpAnyH_ready (rs := [14]) (by kernel_rfl) (by simp) ?_
    refine AllReadyH.cons rfl (fun K hK => ?_) AllReadyH.nil
    rw [if_pos (by rfl)]
    refine wp_app _ _ 75 rfl rfl rfl hrun ?_
    refine hK.out _ _ ?_ (fun hHeld => ?_)
    ·exact ⟨cell_grown hgr (cB (below_a1 wj _) (cB hbj3 (cB (below_a1 wq _) (cB hbq (cB hbp z0))))) (fun e => hne _ e rfl), cell_grown hgr (cB (below_a1 wj _) (cB hbj3 (cB (below_a1 wq _) (cB hbq (cB hbp z1))))) (fun e => hne _ e rfl), cell_grown hgr (cB (below_a1 wj _) (cB hbj3 (cB (below_a1 wq _) (cB hbq (cB hbp z2))))) (fun e => hne _ e rfl)⟩
    clear hK K
    try simp only [gA, Act.put]
    refine tk (i := 15) (v := ?_) rfl (Or.inl ⟨by rfl, ?_⟩) hHeld ?_
    rotate_left
    ·(intro w hSw; (try dsimp only at hSw); go_simp; try with_reducible rfl)
    try simp only [gA, Act.put]
    refine wpAnyH_done (by kernel_rfl) ?_ _
    have hbJ : Below wB.heap.size wB (wj.alloc (.cells #[.string (ownLine ⟨num, mark, paid⟩)] 9)) := goB
    have BW2 := Lib.hid ((HBB.out.trans (hbJ.mono HBB.out.size)).grown HGR.out (by have := HBB.out.size; have := hbJ.size; omega) (fun q hq => (OW.out.lt_ _ hq).1))
    have hst := map_take ownLine os hlt
    rw [← HY.out] at hst
    have HST := Lib.hid hst
    rw [HLK.out] at HOWN
    clear hst hrun hgr hne hbJ hHeld z0 z1 z2
    go_wp2
    go_roundg (os.length - (k + 1))
    case measure => omega
    case rel => exact ⟨k + 1, by omega, by omega, by go_num, BW2.out, by rw [HST.out]; exact HOWN.out⟩
   ·have hli : ¬ (k : Int) < (os.length : Int) := by omega
    have hke : os.take k = os := List.take_of_length_le (by omega)
    rw [hke] at OW
    have c1' := cB BW.out c1
    have c0' := cB BW.out c0
    obtain ⟨A5, c5, rfl⟩ := OW.out.sl
    obtain ⟨wo, rfl⟩ : ∃ wo : World, wo = wr := ⟨_, rfl⟩
    clear hke c0 c1 hg hk
    go_wp2
    go_loopg [6, 44] ls.length (fun gg s6 s44 wr => ∃ k : Nat, k ≤ ls.length ∧ ls.length - k ≤ gg ∧ s44 = .int .i64 k ∧ Hid (Below w1.heap.size w1 wr) ∧ Hid (Own eS 9 1 w1.heap.size wr s6 (os.map ownLine ++ (ls.take k).map logLine)))
    case atStart => exact ⟨0, Nat.zero_le _, by omega, rfl, BW.out, by have h := OW.out; show Own _ _ _ _ _ _ _; rw [List.take_zero, List.map_nil, List.append_nil]; rw [List.length_map] at h; exact h⟩
    case round =>
     obtain ⟨k, hk, hg, rfl, BW2, OW2⟩ := hrel
     have OLN := Lib.hid (show (os.map ownLine).length ≤ 20 from by rw [List.length_map]; exact OK.out.n1)
     have hk100 := OK.out.n2
     by_cases hlt : k < ls.length
     ·have hli : (k : Int) < (ls.length : Int) := by omega
      obtain ⟨b, off, y, hy, rfl, hb, c0, c1, c2, c3, c4⟩ := (R2.out.below BW2.out).atL hlt
      have hyo := OK.out.l y (by rw [hy]; exact List.getElem_mem hlt)
      have HY := Lib.hid hy
      have HYO := Lib.hid hyo
      clear hy hyo
      obtain ⟨num, seen, feet, own, gone⟩ := y
      obtain ⟨A5, c5, rfl⟩ := OW2.out.sl
      have hlk : (os.map ownLine ++ (ls.take k).map logLine).length = os.length + k := by rw [List.length_append, List.length_map, List.length_map, List.length_take]; omega
      simp only [hlk] at OW2 ⊢
      have HLK := Lib.hid hlk
      have HB1 := Lib.hid (show -9223372036854775808 ≤ (⟨num, seen, feet, own, gone⟩ : Lg).num ∧ (⟨num, seen, feet, own, gone⟩ : Lg).num ≤ 9223372036854775807 from by have := HYO.out.1; simp only at this ⊢; omega)
      have HB2 := Lib.hid (show -9223372036854775808 ≤ (⟨num, seen, feet, own, gone⟩ : Lg).feet ∧ (⟨num, seen, feet, own, gone⟩ : Lg).feet ≤ 9223372036854775807 from by have := HYO.out.2.1; simp only at this ⊢; omega)
      have HB4 := Lib.hid (show -9223372036854775808 ≤ (⟨num, seen, feet, own, gone⟩ : Lg).own ∧ (⟨num, seen, feet, own, gone⟩ : Lg).own ≤ 9223372036854775807 from by have := HYO.out.2.2.1; simp only at this ⊢; omega)
      have HB3 := Lib.hid (show (⟨num, seen, feet, own, gone⟩ : Lg).seen.size ≤ 30 from by have := HYO.out.2.2.2; simp only at this ⊢; omega)
      have hk20 := OK.out.n1
      clear hlk
      simp only at c0 c1 c2 c3 c4
      have hzr := BW2.out.size
      have z0 : (wr.alloc (.cells #[.int .i64 num, .string seen, .int .i64 feet, .int .i64 own, .bool gone] 69)).cell? ⟨wr.heap.size, 0, none⟩ = some (.int .i64 num) := by go_simp
      have z1 : (wr.alloc (.cells #[.int .i64 num, .string seen, .int .i64 feet, .int .i64 own, .bool gone] 69)).cell? ⟨wr.heap.size, 1, none⟩ = some (.string seen) := by go_simp
      have z2 : (wr.alloc (.cells #[.int .i64 num, .string seen, .int .i64 feet, .int .i64 own, .bool gone] 69)).cell? ⟨wr.heap.size, 2, none⟩ = some (.int .i64 feet) := by go_simp
      have z3 : (wr.alloc (.cells #[.int .i64 num, .string seen, .int .i64 feet, .int .i64 own, .bool gone] 69)).cell? ⟨wr.heap.size, 3, none⟩ = some (.int .i64 own) := by go_simp
      have z4 : (wr.alloc (.cells #[.int .i64 num, .string seen, .int .i64 feet, .int .i64 own, .bool gone] 69)).cell? ⟨wr.heap.size, 4, none⟩ = some (.bool gone) := by go_simp
      have hst := map_take logLine ls hlt
      rw [← HY.out] at hst
      have HST := Lib.hid hst
      clear hst
      have hsz : seen.toList.isEmpty = true ∨ seen.toList.isEmpty = false := by cases seen.toList.isEmpty <;> simp
      have hjl := fun sn wh hs hw W => joinL_any ⟨num, seen, feet, own, gone⟩ sn wh hs hw W HB1.out HB2.out HB4.out HB3.out
      obtain ⟨LN, hLN⟩ : ∃ LN, logLine ⟨num, seen, feet, own, gone⟩ = LN := ⟨_, rfl⟩
      rw [hLN] at HST hjl
      have JL := Lib.hid hjl
      clear hjl hLN
      have BB : Below w1.heap.size w1 (wr.alloc (.cells #[.int .i64 num, .string seen, .int .i64 feet, .int .i64 own, .bool gone] 69)) := belowA BW2.out _
      have BBr : Below wr.heap.size wr (wr.alloc (.cells #[.int .i64 num, .string seen, .int .i64 feet, .int .i64 own, .bool gone] 69)) := below_a1 _ _
      have LB := Lib.hid (HL1.out.below BB)
      have OB := Lib.hid (OW2.out.below BBr)
      have HBB := Lib.hid BB
      have Z0 := Lib.hid z0
      have Z2 := Lib.hid z2
      have Z3 := Lib.hid z3
      clear BB BBr z0 z2 z3
      rcases hsz with hsz | hsz
      all_goals cases gone
      all_goals
       go_wp2
       have z0 := Z0.out
       have z2 := Z2.out
       have z3 := Z3.out
       refine wp_region_held_drew (S := fun W => W.cell? ⟨wr.heap.size, 0, none⟩ = some (.int .i64 num) ∧ W.cell? ⟨wr.heap.size, 2, none⟩ = some (.int .i64 feet) ∧ W.cell? ⟨wr.heap.size, 3, none⟩ = some (.int .i64 own)) (by kernel_rfl) ?_ (fun hHeld => ?_)
       ·exact ⟨Z0.out, Z2.out, Z3.out⟩
       refine tk (i := 0) (v := ?_) rfl (Or.inl ⟨by rfl, ?_⟩) hHeld ?_
       rotate_left
       ·(intro w hSw; (try dsimp only at hSw); go_simp; try with_reducible rfl)
       try simp only [gA, Act.put]
       refine tk (i := 1) (v := ?_) rfl (Or.inl ⟨by rfl, ?_⟩) hHeld ?_
       rotate_left
       ·(intro w hSw; (try dsimp only at hSw); go_simp; try with_reducible rfl)
       try simp only [gA, Act.put]
       refine tk (i := 2) (v := ?_) rfl (Or.inl ⟨by rfl, ?_⟩) hHeld ?_
       rotate_left
       ·(intro w hSw; (try dsimp only at hSw); go_simp; try with_reducible rfl)
       try simp only [gA, Act.put]
       refine tk (i := 3) (v := ?_) rfl (Or.inl ⟨by rfl, ?_⟩) hHeld ?_
       rotate_left
       ·(intro w hSw; (try dsimp only at hSw); go_simp; try with_reducible rfl)
       try simp only [gA, Act.put]
       refine tk (i := 5) (v := ?_) rfl (Or.inl ⟨by rfl, ?_⟩) hHeld ?_
       rotate_left
       ·(intro w hSw; (try dsimp only at hSw); go_simp; try with_reducible rfl)
       try simp only [gA, Act.put]
       refine tk (i := 6) (v := ?_) rfl (Or.inl ⟨by rfl, ?_⟩) hHeld ?_
       rotate_left
       ·(intro w hSw; (try dsimp only at hSw); go_simp; try with_reducible rfl)
       try simp only [gA, Act.put]
       refine tk (i := 7) (v := ?_) rfl (Or.inl ⟨by rfl, ?_⟩) hHeld ?_
       rotate_left
       ·(intro w hSw; (try dsimp only at hSw); go_simp; try with_reducible rfl)
       try simp only [gA, Act.put]
       refine tk (i := 8) (v := ?_) rfl (Or.inl ⟨by rfl, ?_⟩) hHeld ?_
       rotate_left
       ·(intro w hSw; (try dsimp only at hSw); go_simp; try with_reducible rfl)
       try simp only [gA, Act.put]
       refine tk (i := 10) (v := ?_) rfl (Or.inl ⟨by rfl, ?_⟩) hHeld ?_
       rotate_left
       ·(intro w hSw; (try dsimp only at hSw); go_simp; try with_reducible rfl)
       try simp only [gA, Act.put]
       refine tk (i := 11) (v := ?_) rfl (Or.inl ⟨by rfl, ?_⟩) hHeld ?_
       rotate_left
       ·(intro w hSw; (try dsimp only at hSw); go_simp; try with_reducible rfl)
       try simp only [gA, Act.put]
       refine tk (i := 12) (v := ?_) rfl (Or.inl ⟨by rfl, ?_⟩) hHeld ?_
       rotate_left
       ·(intro w hSw; (try dsimp only at hSw); go_simp; try with_reducible rfl)
       try simp only [gA, Act.put]
       refine tk (i := 14) (v := ?_) rfl (Or.inl ⟨by rfl, ?_⟩) hHeld ?_
       rotate_left
       ·(intro w hSw; (try dsimp only at hSw); go_simp; try with_reducible rfl)
       try simp only [gA, Act.put]
       refine wpAnyH_ready (rs := [4]) (by kernel_rfl) (by simp) ?_
       refine AllReadyH.cons rfl (fun K hK => ?_) AllReadyH.nil
       go_simp
       go_at_call 65
       refine (number_any num _ (LB.out.below goB) HB1.out.1 HB1.out.2).mono ?_
       rintro e wp ⟨rfl, hbp⟩
       go_wp2_with fail
       refine hK.out _ _ ?_ (fun hHeld => ?_)
       ·exact ⟨cB hbp hHeld.1, cB hbp hHeld.2.1, cB hbp hHeld.2.2⟩
       clear hK K
       try simp only [gA, Act.put]
       refine wpAnyH_ready (rs := [9]) (by kernel_rfl) (by simp) ?_
       refine AllReadyH.cons rfl (fun K hK => ?_) AllReadyH.nil
       go_simp
       go_at_call 65
       refine (number_any feet _ (LB.out.below goB) HB2.out.1 HB2.out.2).mono ?_
       rintro e wq ⟨rfl, hbq⟩
       go_wp2_with fail
       refine hK.out _ _ ?_ (fun hHeld => ?_)
       ·exact ⟨cB hbq hHeld.1, cB hbq hHeld.2.1, cB hbq hHeld.2.2⟩
       clear hK K
       try simp only [gA, Act.put]
       refine wpAnyH_ready (rs := [13]) (by kernel_rfl) (by simp) ?_
       refine AllReadyH.cons rfl (fun K hK => ?_) AllReadyH.nil
       go_simp
       go_at_call 65
       refine (number_any own _ (LB.out.below goB) HB4.out.1 HB4.out.2).mono ?_
       rintro e wu ⟨rfl, hbu⟩
       go_wp2_with fail
       refine hK.out _ _ ?_ (fun hHeld => ?_)
       ·exact ⟨cB hbu hHeld.1, cB hbu hHeld.2.1, cB hbu hHeld.2.2⟩
       clear hK K
       try simp only [gA, Act.put]
       refine wpAnyH_ready (rs := [15]) (by kernel_rfl) (by simp) ?_
       refine AllReadyH.cons rfl (fun K hK => ?_) AllReadyH.nil
       go_simp
       refine hK.out _ _ ?_ (fun hHeld => ?_)
       ·exact ⟨cB (below_a1 wu _) hHeld.1, cB (below_a1 wu _) hHeld.2.1, cB (below_a1 wu _) hHeld.2.2⟩
       clear hK K
       try simp only [gA, Act.put]
       refine wpAnyH_ready (rs := [16]) (by kernel_rfl) (by simp) ?_
       refine AllReadyH.cons rfl (fun K hK => ?_) AllReadyH.nil
       go_simp
       go_at_call 67
       refine (JL.out _ _ (by first | exact dash_yes hsz | exact dash_no hsz) rfl wu).mono ?_
       rintro e wj ⟨rfl, hbj⟩
       have hbj3 := below_al hbj
       go_wp2_with fail
       refine hK.out _ _ ?_ (fun hHeld => ?_)
       ·exact ⟨cB hbj3 hHeld.1, cB hbj3 hHeld.2.1, cB hbj3 hHeld.2.2⟩
       clear hK K
       try simp only [gA, Act.put]
       refine wpAnyH_ready (rs := [17]) (by kernel_rfl) (by simp) ?_
       refine AllReadyH.cons rfl (fun K hK => ?_) AllReadyH.nil
       go_simp
       refine hK.out _ _ ?_ (fun hHeld => ?_)
       ·exact ⟨cB (below_a1 wj _) hHeld.1, cB (below_a1 wj _) hHeld.2.1, cB (below_a1 wj _) hHeld.2.2⟩
       clear hK K
       try simp only [gA, Act.put]
       have hbU := undrew (below2 (below2 (below2 hbp hbq) hbu) (below2 (below_a1 wu _) (below2 hbj3 (below_a1 wj (.cells #[.string LN] 9)))))
       have OJ := OB.out.below hbU
       have hne : ∀ g, (Value.slice A5 (os.length + k) c5).ownBlock = some g → g ≠ wr.heap.size := fun g e h => by have := (OW2.out.lt_ _ e).2; omega
       obtain ⟨A6, c6, w6, hrun, hown, hgr⟩ := run_push e9 encS 75 OJ wj.heap.size 1 LN (one_S (by go_simp)) (by rw [HLK.out]; omega) (by rw [HLK.out]; omega) (by have := hbU.size; have := HBB.out.size; omega)
       have HOWN := Lib.hid hown
       have HGR := Lib.hid hgr
       have HBU := Lib.hid hbU
       rw [HLK.out] at hrun
       clear OJ hown hbU
       refine wpAnyH_ready (rs := [18]) (by kernel_rfl) (by simp) ?_
       refine AllReadyH.cons rfl (fun K hK => ?_) AllReadyH.nil
       rw [if_pos (by rfl)]
       refine wp_app _ _ 75 rfl rfl rfl hrun ?_
       refine hK.out _ _ ?_ (fun hHeld => ?_)
       ·exact ⟨cell_grown hgr (cB (below_a1 wj _) (cB hbj3 (cB (below_a1 wu _) (cB hbu (cB hbq (cB hbp Z0.out)))))) (fun e => hne _ e rfl), cell_grown hgr (cB (below_a1 wj _) (cB hbj3 (cB (below_a1 wu _) (cB hbu (cB hbq (cB hbp Z2.out)))))) (fun e => hne _ e rfl), cell_grown hgr (cB (below_a1 wj _) (cB hbj3 (cB (below_a1 wu _) (cB hbu (cB hbq (cB hbp Z3.out)))))) (fun e => hne _ e rfl)⟩
       clear hK K
       try simp only [gA, Act.put]
       refine tk (i := 19) (v := ?_) rfl (Or.inl ⟨by rfl, ?_⟩) hHeld ?_
       rotate_left
       ·(intro w hSw; (try dsimp only at hSw); go_simp; try with_reducible rfl)
       try simp only [gA, Act.put]
       refine wpAnyH_done (by kernel_rfl) ?_ _
       have BW3 := Lib.hid ((HBB.out.trans (HBU.out.mono HBB.out.size)).grown HGR.out (by have := HBB.out.size; have := HBU.out.size; omega) (fun q hq => (OW2.out.lt_ _ hq).1))
       rw [HLK.out] at HOWN
       clear hrun hgr hne hHeld z0 z1 z2 z3
       go_wp2
       go_roundg (ls.length - (k + 1))
       case measure => omega
       case rel => exact ⟨k + 1, by omega, by omega, by go_num, BW3.out, by rw [HST.out, ← List.append_assoc]; exact HOWN.out⟩
     ·have hli : ¬ (k : Int) < (ls.length : Int) := by omega
      have hke : ls.take k = ls := List.take_of_length_le (by omega)
      rw [hke] at OW2
      have hfl := fileL_len OK.out
      have hfn := fileL_n OK.out
      have hOW : Own eS 9 1 w1.heap.size wr _ (fileL os ls) := OW2.out
      obtain ⟨L, hL⟩ : ∃ L, fileL os ls = L := ⟨_, rfl⟩
      rw [hL] at hfl hfn hOW HFS
      obtain ⟨A6, c6, rfl⟩ := hOW.sl
      have hjn := fun W (hW : Below wr.heap.size wr W) => join_any A6 c6 L bNl W ((hOW.below hW).rs encS) (by omega) (by omega)
      have JN := Lib.hid hjn
      have hjs : (joinB L bNl).size ≤ 30000 := by show (List.toArray _).size ≤ _; rw [List.size_toArray]; exact hfl
      have BF := Lib.hid ((below_a1 w (.cells #[.slice _ os.length c, .slice A2 ls.length c2] 26)).trans ((B1.out.mono (by simp)).trans (BW2.out.mono (by omega))))
      clear hke OW2 hjn hOW hL hfl
      by_cases hN : L.length = 0
      ·have hd : ((L.length : Int) == 0) = true := by simp [hN]
       have hd2 : (L.length == 0) = true := by simp [hN]
       go_wp2
       go_ret2
       rw [HFS.out, if_pos hN]
       exact ⟨rfl, BF.out⟩
      ·have hd : ((L.length : Int) == 0) = false := beq_eq_false_iff_ne.2 (by omega)
       have hd2 : (L.length == 0) = false := beq_eq_false_iff_ne.2 hN
       have hjb : ¬ (9223372036854775807 < (joinB L bNl).size + 1) := by omega
       go_wp2_with fail
       refine (JN.out _ goB).mono ?_
       rintro e wj ⟨rfl, hbj⟩
       rw [show (⟨(Lib.join (L.map (·.data.toList)) bNl.data.toList).toArray⟩ : ByteArray) = joinB L bNl from rfl]
       go_wp2
       go_ret2
       rw [HFS.out, if_neg hN]
       exact ⟨rfl, BF.out.trans (hbj.mono BF.out.size)⟩
 ·have hd : (checkS os ls != 0) = true := by simp [h0]
  have hfs : fileS os ls = (⟨#[]⟩, checkS os ls) := by unfold fileS; rw [if_pos h0]
  obtain ⟨r, hr⟩ : ∃ r, checkS os ls = r := ⟨_, rfl⟩
  rw [hr] at hcon hd hfs
  have HFS := Lib.hid hfs
  have CON := Lib.hid hcon
  clear hcon hfs hr h0
  go_enter Tryz.func30, Tryz.ntmps30
  go_wp2_with fail
  refine CON.out.mono ?_
  rintro e w1 ⟨rfl, hb1⟩
  go_wp2
  go_ret2
  rw [HFS.out]
  exact ⟨rfl, below2 (below_a1 _ _) hb1⟩
end Go.Proofs.YtcnpbcgkhhebaaaGreatDoor
/- The examples of the chapter, by the contracts. -/
namespace Go.Proofs.YtcnpbcgkhhebaaaGreatDoor
open Go.RowKit

theorem exTs_eq : exTs = exT.map (·.text) := by decide +kernel
theorem exUs_eq : exUs = exU.map (·.text) := by decide +kernel
theorem ex_parseT : parseS (textB exTs) = (exT, 0) := parse_iff.2 ⟨by rw [exTs_eq]; rfl, exT_lines, by decide, by decide +kernel⟩
theorem ex_parseU : parseS (textB exUs) = (exU, 0) := parse_iff.2 ⟨by rw [exUs_eq]; rfl, exU_lines, by decide, by decide +kernel⟩
theorem exT_size : (textB exTs).size ≤ 9223372036854775807 := Nat.le_trans (show (textB exTs).size ≤ 8000 by decide +kernel) (by decide)
theorem exU_size : (textB exUs).size ≤ 9223372036854775807 := Nat.le_trans (show (textB exUs).size ≤ 8000 by decide +kernel) (by decide)
theorem exT_plus : plus1 (playE exT).eff = [1, 2, 3, 4, 5, 8, 13] := by decide +kernel
theorem exU_book : textB ((playE exU).eff.map (·.2.text)) = ⟨#[49, 32, 108, 111, 103, 32, 57, 32, 97, 32, 56, 10]⟩ := by decide +kernel
theorem ex_file : fileS [⟨3, ⟨#[97]⟩, 2⟩] [⟨9, ⟨#[97]⟩, 8, 3, true⟩] = (⟨#[111, 119, 110, 101, 114, 32, 51, 32, 97, 32, 50, 10, 108, 111, 103, 32, 57, 32, 97, 32, 56, 32, 51, 32, 103, 111, 110, 101, 10]⟩, 0) := by decide +kernel
theorem ex_load1 : loadF ⟨#[111, 119, 110, 101, 114, 32, 51, 32, 97, 32, 50, 10, 108, 111, 103, 32, 57, 32, 97, 32, 56, 32, 51, 32, 103, 111, 110, 101, 10]⟩ = (([⟨3, ⟨#[97]⟩, 2⟩], [⟨9, ⟨#[97]⟩, 8, 3, true⟩]), 0) := by decide +kernel
theorem ex_load2 : loadF ⟨#[111, 119, 110, 101, 114, 32, 51, 32, 97, 32, 52, 10, 108, 111, 103, 32, 57, 32, 97, 32, 56, 32, 51, 32, 103, 111, 110, 101, 10]⟩ = (([], []), 14) := by decide +kernel
theorem ex_load3 : loadF ⟨#[111, 119, 110, 101, 114, 32, 48, 51, 32, 97, 32, 50, 10]⟩ = (([], []), 8) := by decide +kernel
theorem st_eta (s : St) (os : List Ow) (ls : List Lg) (errs : List Int) (h1 : s.os = os) (h2 : s.ls = ls) (h3 : s.errs = errs) : ∃ inn, s = ⟨os, ls, inn, errs⟩ := by
 obtain ⟨a, b, c, d⟩ := s
 simp only at h1 h2 h3
 subst h1 h2 h3
 exact ⟨c, rfl⟩

theorem run_ex (T : ByteArray) (hT : T = textB exTs) (w : World) (hL : LaidW w) : Calls Tryz.prog 18 #[.string T] w fun e w' => (∃ A1 c1 A2 c2 A3 c3, e = .returned (.tuple #[.agg #[.slice A1 2 c1, .slice A2 4 c2], .slice A3 14 c3, .int .i64 0]) ∧ Rd eO 3 w' A1 c1 [⟨5, ⟨#[98, 99, 100]⟩, 0⟩, ⟨7, ⟨#[97, 98, 101]⟩, 10⟩] ∧ Rd eL 5 w' A2 c2 [⟨1, ⟨#[97, 101]⟩, 120, 7, false⟩, ⟨2, ⟨#[98]⟩, 45, 0, false⟩, ⟨3, ⟨#[]⟩, 9, 0, false⟩, ⟨4, ⟨#[98, 101]⟩, 300, 7, false⟩] ∧ Rd eI 1 w' A3 c3 [0, 0, 0, 0, 0, 0, 6, 0, 13, 11, 0, 0, 0, 0]) ∧ Below w.heap.size w w' := by
 subst hT
 obtain ⟨h1, h2, h3, h4⟩ := run_form ex_parseT
 obtain ⟨inn, hi⟩ := st_eta (playS exT) [⟨5, ⟨#[98, 99, 100]⟩, 0⟩, ⟨7, ⟨#[97, 98, 101]⟩, 10⟩] [⟨1, ⟨#[97, 101]⟩, 120, 7, false⟩, ⟨2, ⟨#[98]⟩, 45, 0, false⟩, ⟨3, ⟨#[]⟩, 9, 0, false⟩, ⟨4, ⟨#[98, 101]⟩, 300, 7, false⟩] [0, 0, 0, 0, 0, 0, 6, 0, 13, 11, 0, 0, 0, 0] (h2.trans exT_os) (h3.trans exT_ls) (h4.trans exT_errs)
 have h := run_any (textB exTs) w hL exT_size
 rw [h1, hi] at h
 refine h.mono ?_
 rintro e w' ⟨v, A3, c3, rfl, ⟨A1, c1, A2, c2, rfl, o1, o2⟩, o3, hb⟩
 exact ⟨⟨A1, c1, A2, c2, A3, c3, rfl, o1.rs encO, o2.rs encL, o3.rs encI⟩, hb⟩
theorem eff_ex (T : ByteArray) (hT : T = textB exTs) (w : World) (hL : LaidW w) : Calls Tryz.prog 22 #[.string T] w fun e w' => (∃ A c, e = .returned (.tuple #[.slice A 7 c, .int .i64 0]) ∧ Rd eI 1 w' A c [1, 2, 3, 4, 5, 8, 13]) ∧ Below w.heap.size w w' := by
 subst hT
 have h := effectS_any (textB exTs) w hL exT_size
 rw [effect_form ex_parseT, exT_plus] at h
 refine h.mono ?_
 rintro e w' ⟨⟨A, c, rfl, o1⟩, hb⟩
 exact ⟨⟨A, c, rfl, o1.rs encI⟩, hb⟩
theorem board6_ex (T : ByteArray) (hT : T = textB exTs) (w : World) (hL : LaidW w) : Calls Tryz.prog 26 #[.string T, .int .i64 6] w fun e w' => (∃ A1 c1 A2 c2, e = .returned (.tuple #[.agg #[.slice A1 2 c1, .slice A2 3 c2], .int .i64 0]) ∧ Rd eO 3 w' A1 c1 [⟨5, ⟨#[98, 99, 100]⟩, 0⟩, ⟨7, ⟨#[97, 98, 101]⟩, 0⟩] ∧ Rd eL 5 w' A2 c2 [⟨1, ⟨#[97, 101]⟩, 120, 7, false⟩, ⟨2, ⟨#[98]⟩, 45, 5, false⟩, ⟨3, ⟨#[]⟩, 9, 0, false⟩]) ∧ Below w.heap.size w w' := by
 subst hT
 obtain ⟨h1, h2, h3, h4⟩ := board_form ex_parseT (k := 6) (by decide)
 obtain ⟨inn, hi⟩ := st_eta (playS (exT.take 6)) [⟨5, ⟨#[98, 99, 100]⟩, 0⟩, ⟨7, ⟨#[97, 98, 101]⟩, 0⟩] [⟨1, ⟨#[97, 101]⟩, 120, 7, false⟩, ⟨2, ⟨#[98]⟩, 45, 5, false⟩, ⟨3, ⟨#[]⟩, 9, 0, false⟩] _ (h2.trans exT6_os) (h3.trans exT6_ls) rfl
 have h := board_any (textB exTs) 6 w hL exT_size
 rw [show (6 : Int) = ((6 : Nat) : Int) from rfl, h1, hi] at h
 refine h.mono ?_
 rintro e w' ⟨v, rfl, ⟨A1, c1, A2, c2, rfl, o1, o2⟩, hb⟩
 exact ⟨⟨A1, c1, A2, c2, rfl, o1.rs encO, o2.rs encL⟩, hb⟩
theorem board15_ex (T : ByteArray) (hT : T = textB exTs) (w : World) (hL : LaidW w) : Calls Tryz.prog 26 #[.string T, .int .i64 15] w fun e w' => (∃ A1 c1 A2 c2, e = .returned (.tuple #[.agg #[.slice A1 0 c1, .slice A2 0 c2], .int .i64 3])) ∧ Below w.heap.size w w' := by
 subst hT
 have h := board_any (textB exTs) 15 w hL exT_size
 rw [board_bad ex_parseT (k := 15) (.inr (by decide))] at h
 refine h.mono ?_
 rintro e w' ⟨v, rfl, ⟨A1, c1, A2, c2, rfl, o1, o2⟩, hb⟩
 exact ⟨⟨A1, c1, A2, c2, rfl⟩, hb⟩
theorem plain_ex (U : ByteArray) (hU : U = textB exUs) (w : World) (hL : LaidW w) : Calls Tryz.prog 24 #[.string U] w fun e w' => (e = .returned (.tuple #[.string ⟨#[49, 32, 108, 111, 103, 32, 57, 32, 97, 32, 56, 10]⟩, .int .i64 0])) ∧ Below w.heap.size w w' := by
 subst hU
 have h := plain_any (textB exUs) w hL exU_size
 rw [plain_form ex_parseU, exU_book] at h
 refine h.mono ?_
 rintro e w' ⟨rfl, hb⟩
 exact ⟨rfl, hb⟩
theorem file_ex (w : World) (hL : LaidW w) (v : Value) (base : Nat) (hv : SeaO base w v [⟨3, ⟨#[97]⟩, 2⟩] [⟨9, ⟨#[97]⟩, 8, 3, true⟩]) : Calls Tryz.prog 30 #[v] w fun e w' => e = .returned (.tuple #[.string ⟨#[111, 119, 110, 101, 114, 32, 51, 32, 97, 32, 50, 10, 108, 111, 103, 32, 57, 32, 97, 32, 56, 32, 51, 32, 103, 111, 110, 101, 10]⟩, .int .i64 0]) ∧ Below w.heap.size w w' := by
 obtain ⟨A1, c1, A2, c2, rfl, o1, o2⟩ := hv
 have h := file_any A1 c1 _ A2 c2 _ w hL (o1.rs encO) (o2.rs encL)
 rw [ex_file] at h
 refine h.mono ?_
 rintro e w' ⟨rfl, hb⟩
 exact ⟨rfl, hb⟩
theorem load1_ex (w : World) (hL : LaidW w) : Calls Tryz.prog 32 #[.string ⟨#[111, 119, 110, 101, 114, 32, 51, 32, 97, 32, 50, 10, 108, 111, 103, 32, 57, 32, 97, 32, 56, 32, 51, 32, 103, 111, 110, 101, 10]⟩] w fun e w' => (∃ A1 c1 A2 c2, e = .returned (.tuple #[.agg #[.slice A1 1 c1, .slice A2 1 c2], .int .i64 0]) ∧ Rd eO 3 w' A1 c1 [⟨3, ⟨#[97]⟩, 2⟩] ∧ Rd eL 5 w' A2 c2 [⟨9, ⟨#[97]⟩, 8, 3, true⟩]) ∧ Below w.heap.size w w' := by
 have h := loadF_any ⟨#[111, 119, 110, 101, 114, 32, 51, 32, 97, 32, 50, 10, 108, 111, 103, 32, 57, 32, 97, 32, 56, 32, 51, 32, 103, 111, 110, 101, 10]⟩ w hL (by decide)
 rw [ex_load1] at h
 refine h.mono ?_
 rintro e w' ⟨v, rfl, ⟨A1, c1, A2, c2, rfl, o1, o2⟩, hb⟩
 exact ⟨⟨A1, c1, A2, c2, rfl, o1.rs encO, o2.rs encL⟩, hb⟩
theorem load2_ex (w : World) (hL : LaidW w) : Calls Tryz.prog 32 #[.string ⟨#[111, 119, 110, 101, 114, 32, 51, 32, 97, 32, 52, 10, 108, 111, 103, 32, 57, 32, 97, 32, 56, 32, 51, 32, 103, 111, 110, 101, 10]⟩] w fun e w' => (∃ A1 c1 A2 c2, e = .returned (.tuple #[.agg #[.slice A1 0 c1, .slice A2 0 c2], .int .i64 14])) ∧ Below w.heap.size w w' := by
 have h := loadF_any ⟨#[111, 119, 110, 101, 114, 32, 51, 32, 97, 32, 52, 10, 108, 111, 103, 32, 57, 32, 97, 32, 56, 32, 51, 32, 103, 111, 110, 101, 10]⟩ w hL (by decide)
 rw [ex_load2] at h
 refine h.mono ?_
 rintro e w' ⟨v, rfl, ⟨A1, c1, A2, c2, rfl, o1, o2⟩, hb⟩
 exact ⟨⟨A1, c1, A2, c2, rfl⟩, hb⟩
theorem load3_ex (w : World) (hL : LaidW w) : Calls Tryz.prog 32 #[.string ⟨#[111, 119, 110, 101, 114, 32, 48, 51, 32, 97, 32, 50, 10]⟩] w fun e w' => (∃ A1 c1 A2 c2, e = .returned (.tuple #[.agg #[.slice A1 0 c1, .slice A2 0 c2], .int .i64 8])) ∧ Below w.heap.size w w' := by
 have h := loadF_any ⟨#[111, 119, 110, 101, 114, 32, 48, 51, 32, 97, 32, 50, 10]⟩ w hL (by decide)
 rw [ex_load3] at h
 refine h.mono ?_
 rintro e w' ⟨v, rfl, ⟨A1, c1, A2, c2, rfl, o1, o2⟩, hb⟩
 exact ⟨⟨A1, c1, A2, c2, rfl⟩, hb⟩
theorem worn_ex (w : World) (v : Value) (base : Nat) (hv : SeaO base w v [⟨5, ⟨#[98, 99, 100]⟩, 0⟩, ⟨7, ⟨#[97, 98, 101]⟩, 10⟩] [⟨1, ⟨#[97, 101]⟩, 120, 7, false⟩, ⟨2, ⟨#[98]⟩, 45, 0, false⟩, ⟨3, ⟨#[]⟩, 9, 0, false⟩, ⟨4, ⟨#[98, 101]⟩, 300, 7, false⟩]) : Calls Tryz.prog 36 #[v, .string ⟨#[98, 101]⟩] w fun e w' => (∃ A c, e = .returned (.tuple #[.slice A 1 c, .int .i64 0]) ∧ Rd eI 1 w' A c [7]) ∧ Below w.heap.size w w' := by
 obtain ⟨A1, c1, A2, c2, rfl, o1, o2⟩ := hv
 have h := wornE_any A1 c1 _ A2 c2 _ ⟨#[98, 101]⟩ w (o1.rs encO) (o2.rs encL)
 rw [show wornE [⟨5, ⟨#[98, 99, 100]⟩, 0⟩, ⟨7, ⟨#[97, 98, 101]⟩, 10⟩] [⟨1, ⟨#[97, 101]⟩, 120, 7, false⟩, ⟨2, ⟨#[98]⟩, 45, 0, false⟩, ⟨3, ⟨#[]⟩, 9, 0, false⟩, ⟨4, ⟨#[98, 101]⟩, 300, 7, false⟩] ⟨#[98, 101]⟩ = ([7], 0) from by decide +kernel] at h
 refine h.mono ?_
 rintro e w' ⟨⟨A, c, rfl, o1⟩, hb⟩
 exact ⟨⟨A, c, rfl, o1.rs encI⟩, hb⟩
theorem owed_ex (w : World) (v : Value) (base : Nat) (hv : SeaO base w v [⟨5, ⟨#[98, 99, 100]⟩, 0⟩, ⟨7, ⟨#[97, 98, 101]⟩, 10⟩] [⟨1, ⟨#[97, 101]⟩, 120, 7, false⟩, ⟨2, ⟨#[98]⟩, 45, 0, false⟩, ⟨3, ⟨#[]⟩, 9, 0, false⟩, ⟨4, ⟨#[98, 101]⟩, 300, 7, false⟩]) : Calls Tryz.prog 38 #[v, .int .i64 7] w fun e w' => (e = .returned (.tuple #[.int .i64 38, .int .i64 0])) ∧ Below w.heap.size w w' := by
 obtain ⟨A1, c1, A2, c2, rfl, o1, o2⟩ := hv
 have h := owed_any A1 c1 _ A2 c2 _ 7 w (o1.rs encO) (o2.rs encL)
 rw [show owedS [⟨5, ⟨#[98, 99, 100]⟩, 0⟩, ⟨7, ⟨#[97, 98, 101]⟩, 10⟩] [⟨1, ⟨#[97, 101]⟩, 120, 7, false⟩, ⟨2, ⟨#[98]⟩, 45, 0, false⟩, ⟨3, ⟨#[]⟩, 9, 0, false⟩, ⟨4, ⟨#[98, 101]⟩, 300, 7, false⟩] 7 = (38, 0) from by decide +kernel] at h
 refine h.mono ?_
 rintro e w' ⟨rfl, hb⟩
 exact ⟨rfl, hb⟩
theorem here_ex (w : World) (v : Value) (base : Nat) (hv : SeaO base w v [⟨5, ⟨#[98, 99, 100]⟩, 0⟩, ⟨7, ⟨#[97, 98, 101]⟩, 10⟩] [⟨1, ⟨#[97, 101]⟩, 120, 7, false⟩, ⟨2, ⟨#[98]⟩, 45, 0, false⟩, ⟨3, ⟨#[]⟩, 9, 0, false⟩, ⟨4, ⟨#[98, 101]⟩, 300, 7, false⟩]) : Calls Tryz.prog 40 #[v, .int .i64 7] w fun e w' => (∃ A c, e = .returned (.tuple #[.slice A 2 c, .int .i64 0]) ∧ Rd eI 1 w' A c [1, 4]) ∧ Below w.heap.size w w' := by
 obtain ⟨A1, c1, A2, c2, rfl, o1, o2⟩ := hv
 have h := here_all A1 c1 _ A2 c2 _ 7 w (o1.rs encO) (o2.rs encL)
 rw [show hereS [⟨5, ⟨#[98, 99, 100]⟩, 0⟩, ⟨7, ⟨#[97, 98, 101]⟩, 10⟩] [⟨1, ⟨#[97, 101]⟩, 120, 7, false⟩, ⟨2, ⟨#[98]⟩, 45, 0, false⟩, ⟨3, ⟨#[]⟩, 9, 0, false⟩, ⟨4, ⟨#[98, 101]⟩, 300, 7, false⟩] 7 = ([1, 4], 0) from by decide +kernel] at h
 refine h.mono ?_
 rintro e w' ⟨⟨A, c, rfl, o1⟩, hb⟩
 exact ⟨⟨A, c, rfl, o1.rs encI⟩, hb⟩
end Go.Proofs.YtcnpbcgkhhebaaaGreatDoor
/- The examples of the chapter: Works. -/
namespace Go.Proofs.YtcnpbcgkhhebaaaGreatDoor
open Go.RowKit

set_option maxRecDepth 100000 in
set_option maxHeartbeats 40000000 in
theorem works_any (w : World) (hL : LaidW w) : Calls Tryz.prog 17 #[] w fun e w' => e = .returned (.bool true) ∧ Below w.heap.size w w' := by
 have HL := Lib.hid hL
 have BB := Lib.hid (Below.refl w.heap.size w)
 obtain ⟨T, hT⟩ : ∃ T, T = textB exTs := ⟨_, rfl⟩
 obtain ⟨U, hU⟩ : ∃ U, U = textB exUs := ⟨_, rfl⟩
 have TX := Lib.hid (fun W => text53_any W)
 have UX := Lib.hid (fun (W : World) (n : Nat) (hn : n = W.heap.size) => textU_any W n hn)
 rw [← hT] at TX
 rw [← hU] at UX
 have HT := Lib.hid hT
 have HU := Lib.hid hU
 clear hL hT hU
 go_enter Tryz.func17, Tryz.ntmps17
 go_wp2_with fail
 have hE : Below w.heap.size w w := (Below.refl w.heap.size w)
 refine (TX.out _).mono ?_
 rintro e w1 ⟨rfl, hb⟩
 have hB := below2 hE hb
 replace HL := Lib.hid (HL.out.below hB)
 replace BB := Lib.hid (below2 BB.out hB)
 clear hE hb hB
 go_wp2_with fail
 have hE : Below w1.heap.size w1 w1 := (Below.refl w1.heap.size w1)
 refine (run_ex T HT.out _ (HL.out.below hE)).mono ?_
 rintro e w2 ⟨⟨A1, c1, A2, c2, A3, c3, rfl, ho1, ho2, ho3⟩, hb⟩
 have hB := below2 hE hb
 replace HL := Lib.hid (HL.out.below hB)
 replace BB := Lib.hid (below2 BB.out hB)
 have RO := Lib.hid ho1
 have RS := Lib.hid ho2
 have RE := Lib.hid ho3
 clear hE hb hB ho1 ho2 ho3
 go_wp2_with fail
 have hE : Below w2.heap.size w2 (w2.alloc (.cells #[.slice A1 2 c1, .slice A2 4 c2] 26)) := (below_a1 w2 (.cells #[.slice A1 2 c1, .slice A2 4 c2] 26))
 refine (TX.out _).mono ?_
 rintro e w3 ⟨rfl, hb⟩
 have hB := below2 hE hb
 replace HL := Lib.hid (HL.out.below hB)
 replace BB := Lib.hid (below2 BB.out hB)
 replace RO := Lib.hid (RO.out.below hB)
 replace RS := Lib.hid (RS.out.below hB)
 replace RE := Lib.hid (RE.out.below hB)
 have bx0 := Lib.hid (show w3.cell? ⟨w2.heap.size, 0, none⟩ = some (.slice A1 2 c1) from cB hb (by go_simp))
 have bx1 := Lib.hid (show w3.cell? ⟨w2.heap.size, 1, none⟩ = some (.slice A2 4 c2) from cB hb (by go_simp))
 clear hE hb hB
 go_wp2_with fail
 have hE : Below w3.heap.size w3 w3 := (Below.refl w3.heap.size w3)
 refine (eff_ex T HT.out _ (HL.out.below hE)).mono ?_
 rintro e w4 ⟨⟨A4, c4, rfl, ho1⟩, hb⟩
 have hB := below2 hE hb
 replace HL := Lib.hid (HL.out.below hB)
 replace BB := Lib.hid (below2 BB.out hB)
 replace RO := Lib.hid (RO.out.below hB)
 replace RS := Lib.hid (RS.out.below hB)
 replace RE := Lib.hid (RE.out.below hB)
 replace bx0 := Lib.hid (cB hB bx0.out)
 replace bx1 := Lib.hid (cB hB bx1.out)
 have RN := Lib.hid ho1
 clear hE hb hB ho1
 go_wp2_with fail
 have hE : Below w4.heap.size w4 w4 := (Below.refl w4.heap.size w4)
 refine (TX.out _).mono ?_
 rintro e w5 ⟨rfl, hb⟩
 have hB := below2 hE hb
 replace HL := Lib.hid (HL.out.below hB)
 replace BB := Lib.hid (below2 BB.out hB)
 replace RO := Lib.hid (RO.out.below hB)
 replace RS := Lib.hid (RS.out.below hB)
 replace RE := Lib.hid (RE.out.below hB)
 replace bx0 := Lib.hid (cB hB bx0.out)
 replace bx1 := Lib.hid (cB hB bx1.out)
 replace RN := Lib.hid (RN.out.below hB)
 clear hE hb hB
 go_wp2_with fail
 have hE : Below w5.heap.size w5 w5 := (Below.refl w5.heap.size w5)
 refine (board6_ex T HT.out _ (HL.out.below hE)).mono ?_
 rintro e w6 ⟨⟨A5, c5, A6, c6, rfl, ho1, ho2⟩, hb⟩
 have hB := below2 hE hb
 replace HL := Lib.hid (HL.out.below hB)
 replace BB := Lib.hid (below2 BB.out hB)
 replace RO := Lib.hid (RO.out.below hB)
 replace RS := Lib.hid (RS.out.below hB)
 replace RE := Lib.hid (RE.out.below hB)
 replace bx0 := Lib.hid (cB hB bx0.out)
 replace bx1 := Lib.hid (cB hB bx1.out)
 replace RN := Lib.hid (RN.out.below hB)
 have SL := Lib.hid ho2
 clear hE hb hB ho2
 clear ho1
 go_wp2_with fail
 have hE : Below w6.heap.size w6 (w6.alloc (.cells #[.slice A5 2 c5, .slice A6 3 c6] 26)) := (below_a1 w6 (.cells #[.slice A5 2 c5, .slice A6 3 c6] 26))
 refine (TX.out _).mono ?_
 rintro e w7 ⟨rfl, hb⟩
 have hB := below2 hE hb
 replace HL := Lib.hid (HL.out.below hB)
 replace BB := Lib.hid (below2 BB.out hB)
 replace RO := Lib.hid (RO.out.below hB)
 replace RS := Lib.hid (RS.out.below hB)
 replace RE := Lib.hid (RE.out.below hB)
 replace bx0 := Lib.hid (cB hB bx0.out)
 replace bx1 := Lib.hid (cB hB bx1.out)
 replace RN := Lib.hid (RN.out.below hB)
 replace SL := Lib.hid (SL.out.below hB)
 have by0 := Lib.hid (show w7.cell? ⟨w6.heap.size, 0, none⟩ = some (.slice A5 2 c5) from cB hb (by go_simp))
 have by1 := Lib.hid (show w7.cell? ⟨w6.heap.size, 1, none⟩ = some (.slice A6 3 c6) from cB hb (by go_simp))
 clear hE hb hB
 go_wp2_with fail
 have hE : Below w7.heap.size w7 w7 := (Below.refl w7.heap.size w7)
 refine (board15_ex T HT.out _ (HL.out.below hE)).mono ?_
 rintro e w8 ⟨⟨A7, c7, A8, c8, rfl⟩, hb⟩
 have hB := below2 hE hb
 replace HL := Lib.hid (HL.out.below hB)
 replace BB := Lib.hid (below2 BB.out hB)
 replace RO := Lib.hid (RO.out.below hB)
 replace RS := Lib.hid (RS.out.below hB)
 replace RE := Lib.hid (RE.out.below hB)
 replace bx0 := Lib.hid (cB hB bx0.out)
 replace bx1 := Lib.hid (cB hB bx1.out)
 replace RN := Lib.hid (RN.out.below hB)
 replace SL := Lib.hid (SL.out.below hB)
 replace by0 := Lib.hid (cB hB by0.out)
 replace by1 := Lib.hid (cB hB by1.out)
 clear hE hb hB
 go_wp2_with fail
 have hE : Below w8.heap.size w8 ((w8.alloc (.cells #[.slice A7 0 c7, .slice A8 0 c8] 26)).alloc (.cells #[.string ⟨#[109, 97, 114, 107, 32, 51, 32, 97]⟩, .string ⟨#[109, 97, 114, 107, 32, 52, 32, 97]⟩, .string ⟨#[108, 111, 103, 32, 57, 32, 97, 32, 56]⟩, .string ⟨#[115, 116, 114, 105, 107, 101, 32, 49]⟩] 9)) := (belowA (below_a1 w8 (.cells #[.slice A7 0 c7, .slice A8 0 c8] 26)) (.cells #[.string ⟨#[109, 97, 114, 107, 32, 51, 32, 97]⟩, .string ⟨#[109, 97, 114, 107, 32, 52, 32, 97]⟩, .string ⟨#[108, 111, 103, 32, 57, 32, 97, 32, 56]⟩, .string ⟨#[115, 116, 114, 105, 107, 101, 32, 49]⟩] 9))
 refine (UX.out (w8.alloc (.cells #[.slice A7 0 c7, .slice A8 0 c8] 26)) (w8.heap.size + 1) (by simp)).mono ?_
 rintro e w9 ⟨rfl, hb⟩
 have hB := below2 hE hb
 replace HL := Lib.hid (HL.out.below hB)
 replace BB := Lib.hid (below2 BB.out hB)
 replace RO := Lib.hid (RO.out.below hB)
 replace RS := Lib.hid (RS.out.below hB)
 replace RE := Lib.hid (RE.out.below hB)
 replace bx0 := Lib.hid (cB hB bx0.out)
 replace bx1 := Lib.hid (cB hB bx1.out)
 replace RN := Lib.hid (RN.out.below hB)
 replace SL := Lib.hid (SL.out.below hB)
 replace by0 := Lib.hid (cB hB by0.out)
 replace by1 := Lib.hid (cB hB by1.out)
 clear hE hb hB
 go_wp2_with fail
 have hE : Below w9.heap.size w9 w9 := (Below.refl w9.heap.size w9)
 refine (plain_ex U HU.out _ (HL.out.below hE)).mono ?_
 rintro e w10 ⟨rfl, hb⟩
 have hB := below2 hE hb
 replace HL := Lib.hid (HL.out.below hB)
 replace BB := Lib.hid (below2 BB.out hB)
 replace RO := Lib.hid (RO.out.below hB)
 replace RS := Lib.hid (RS.out.below hB)
 replace RE := Lib.hid (RE.out.below hB)
 replace bx0 := Lib.hid (cB hB bx0.out)
 replace bx1 := Lib.hid (cB hB bx1.out)
 replace RN := Lib.hid (RN.out.below hB)
 replace SL := Lib.hid (SL.out.below hB)
 replace by0 := Lib.hid (cB hB by0.out)
 replace by1 := Lib.hid (cB hB by1.out)
 clear hE hb hB
 go_wp2_with fail
 have hE : Below w10.heap.size w10 w10 := (Below.refl w10.heap.size w10)
 refine (small57_any 2 _).mono ?_
 rintro e w11 ⟨⟨v1, rfl, hv⟩, hb⟩
 have hB := below2 hE hb
 replace HL := Lib.hid (HL.out.below hB)
 replace BB := Lib.hid (below2 BB.out hB)
 replace RO := Lib.hid (RO.out.below hB)
 replace RS := Lib.hid (RS.out.below hB)
 replace RE := Lib.hid (RE.out.below hB)
 replace bx0 := Lib.hid (cB hB bx0.out)
 replace bx1 := Lib.hid (cB hB bx1.out)
 replace RN := Lib.hid (RN.out.below hB)
 replace SL := Lib.hid (SL.out.below hB)
 replace by0 := Lib.hid (cB hB by0.out)
 replace by1 := Lib.hid (cB hB by1.out)
 have SV := Lib.hid hv
 clear hE hb hB hv
 go_wp2_with fail
 have hE : Below w11.heap.size w11 w11 := (Below.refl w11.heap.size w11)
 refine (file_ex _ (HL.out.below hE) v1 _ SV.out).mono ?_
 rintro e w12 ⟨rfl, hb⟩
 have hB := below2 hE hb
 replace HL := Lib.hid (HL.out.below hB)
 replace BB := Lib.hid (below2 BB.out hB)
 replace RO := Lib.hid (RO.out.below hB)
 replace RS := Lib.hid (RS.out.below hB)
 replace RE := Lib.hid (RE.out.below hB)
 replace bx0 := Lib.hid (cB hB bx0.out)
 replace bx1 := Lib.hid (cB hB bx1.out)
 replace RN := Lib.hid (RN.out.below hB)
 replace SL := Lib.hid (SL.out.below hB)
 replace by0 := Lib.hid (cB hB by0.out)
 replace by1 := Lib.hid (cB hB by1.out)
 clear hE hb hB
 clear SV
 go_wp2_with fail
 have hE : Below w12.heap.size w12 w12 := (Below.refl w12.heap.size w12)
 refine (load1_ex _ (HL.out.below hE)).mono ?_
 rintro e w13 ⟨⟨A9, c9, A10, c10, rfl, ho1, ho2⟩, hb⟩
 have hB := below2 hE hb
 replace HL := Lib.hid (HL.out.below hB)
 replace BB := Lib.hid (below2 BB.out hB)
 replace RO := Lib.hid (RO.out.below hB)
 replace RS := Lib.hid (RS.out.below hB)
 replace RE := Lib.hid (RE.out.below hB)
 replace bx0 := Lib.hid (cB hB bx0.out)
 replace bx1 := Lib.hid (cB hB bx1.out)
 replace RN := Lib.hid (RN.out.below hB)
 replace SL := Lib.hid (SL.out.below hB)
 replace by0 := Lib.hid (cB hB by0.out)
 replace by1 := Lib.hid (cB hB by1.out)
 have MO := Lib.hid ho1
 have ML := Lib.hid ho2
 clear hE hb hB ho1 ho2
 go_wp2_with fail
 have hE : Below w13.heap.size w13 (w13.alloc (.cells #[.slice A9 1 c9, .slice A10 1 c10] 26)) := (below_a1 w13 (.cells #[.slice A9 1 c9, .slice A10 1 c10] 26))
 refine (load2_ex _ (HL.out.below hE)).mono ?_
 rintro e w14 ⟨⟨A11, c11, A12, c12, rfl⟩, hb⟩
 have hB := below2 hE hb
 replace HL := Lib.hid (HL.out.below hB)
 replace BB := Lib.hid (below2 BB.out hB)
 replace RO := Lib.hid (RO.out.below hB)
 replace RS := Lib.hid (RS.out.below hB)
 replace RE := Lib.hid (RE.out.below hB)
 replace bx0 := Lib.hid (cB hB bx0.out)
 replace bx1 := Lib.hid (cB hB bx1.out)
 replace RN := Lib.hid (RN.out.below hB)
 replace SL := Lib.hid (SL.out.below hB)
 replace by0 := Lib.hid (cB hB by0.out)
 replace by1 := Lib.hid (cB hB by1.out)
 replace MO := Lib.hid (MO.out.below hB)
 replace ML := Lib.hid (ML.out.below hB)
 have bz0 := Lib.hid (show w14.cell? ⟨w13.heap.size, 0, none⟩ = some (.slice A9 1 c9) from cB hb (by go_simp))
 have bz1 := Lib.hid (show w14.cell? ⟨w13.heap.size, 1, none⟩ = some (.slice A10 1 c10) from cB hb (by go_simp))
 clear hE hb hB
 go_wp2_with fail
 have hE : Below w14.heap.size w14 (w14.alloc (.cells #[.slice A11 0 c11, .slice A12 0 c12] 26)) := (below_a1 w14 (.cells #[.slice A11 0 c11, .slice A12 0 c12] 26))
 refine (load3_ex _ (HL.out.below hE)).mono ?_
 rintro e w15 ⟨⟨A13, c13, A14, c14, rfl⟩, hb⟩
 have hB := below2 hE hb
 replace HL := Lib.hid (HL.out.below hB)
 replace BB := Lib.hid (below2 BB.out hB)
 replace RO := Lib.hid (RO.out.below hB)
 replace RS := Lib.hid (RS.out.below hB)
 replace RE := Lib.hid (RE.out.below hB)
 replace bx0 := Lib.hid (cB hB bx0.out)
 replace bx1 := Lib.hid (cB hB bx1.out)
 replace RN := Lib.hid (RN.out.below hB)
 replace SL := Lib.hid (SL.out.below hB)
 replace by0 := Lib.hid (cB hB by0.out)
 replace by1 := Lib.hid (cB hB by1.out)
 replace MO := Lib.hid (MO.out.below hB)
 replace ML := Lib.hid (ML.out.below hB)
 replace bz0 := Lib.hid (cB hB bz0.out)
 replace bz1 := Lib.hid (cB hB bz1.out)
 clear hE hb hB
 go_wp2_with fail
 have hE : Below w15.heap.size w15 (w15.alloc (.cells #[.slice A13 0 c13, .slice A14 0 c14] 26)) := (below_a1 w15 (.cells #[.slice A13 0 c13, .slice A14 0 c14] 26))
 refine (end54_any _).mono ?_
 rintro e w16 ⟨⟨v2, rfl, hv⟩, hb⟩
 have hB := below2 hE hb
 replace HL := Lib.hid (HL.out.below hB)
 replace BB := Lib.hid (below2 BB.out hB)
 replace RO := Lib.hid (RO.out.below hB)
 replace RS := Lib.hid (RS.out.below hB)
 replace RE := Lib.hid (RE.out.below hB)
 replace bx0 := Lib.hid (cB hB bx0.out)
 replace bx1 := Lib.hid (cB hB bx1.out)
 replace RN := Lib.hid (RN.out.below hB)
 replace SL := Lib.hid (SL.out.below hB)
 replace by0 := Lib.hid (cB hB by0.out)
 replace by1 := Lib.hid (cB hB by1.out)
 replace MO := Lib.hid (MO.out.below hB)
 replace ML := Lib.hid (ML.out.below hB)
 replace bz0 := Lib.hid (cB hB bz0.out)
 replace bz1 := Lib.hid (cB hB bz1.out)
 have SV := Lib.hid hv
 clear hE hb hB hv
 go_wp2_with fail
 have hE : Below w16.heap.size w16 w16 := (Below.refl w16.heap.size w16)
 refine (worn_ex _ v2 _ SV.out).mono ?_
 rintro e w17 ⟨⟨A15, c15, rfl, ho1⟩, hb⟩
 have hB := below2 hE hb
 replace HL := Lib.hid (HL.out.below hB)
 replace BB := Lib.hid (below2 BB.out hB)
 replace RO := Lib.hid (RO.out.below hB)
 replace RS := Lib.hid (RS.out.below hB)
 replace RE := Lib.hid (RE.out.below hB)
 replace bx0 := Lib.hid (cB hB bx0.out)
 replace bx1 := Lib.hid (cB hB bx1.out)
 replace RN := Lib.hid (RN.out.below hB)
 replace SL := Lib.hid (SL.out.below hB)
 replace by0 := Lib.hid (cB hB by0.out)
 replace by1 := Lib.hid (cB hB by1.out)
 replace MO := Lib.hid (MO.out.below hB)
 replace ML := Lib.hid (ML.out.below hB)
 replace bz0 := Lib.hid (cB hB bz0.out)
 replace bz1 := Lib.hid (cB hB bz1.out)
 have RW := Lib.hid ho1
 clear hE hb hB ho1
 clear SV
 go_wp2_with fail
 have hE : Below w17.heap.size w17 w17 := (Below.refl w17.heap.size w17)
 refine (end54_any _).mono ?_
 rintro e w18 ⟨⟨v3, rfl, hv⟩, hb⟩
 have hB := below2 hE hb
 replace HL := Lib.hid (HL.out.below hB)
 replace BB := Lib.hid (below2 BB.out hB)
 replace RO := Lib.hid (RO.out.below hB)
 replace RS := Lib.hid (RS.out.below hB)
 replace RE := Lib.hid (RE.out.below hB)
 replace bx0 := Lib.hid (cB hB bx0.out)
 replace bx1 := Lib.hid (cB hB bx1.out)
 replace RN := Lib.hid (RN.out.below hB)
 replace SL := Lib.hid (SL.out.below hB)
 replace by0 := Lib.hid (cB hB by0.out)
 replace by1 := Lib.hid (cB hB by1.out)
 replace MO := Lib.hid (MO.out.below hB)
 replace ML := Lib.hid (ML.out.below hB)
 replace bz0 := Lib.hid (cB hB bz0.out)
 replace bz1 := Lib.hid (cB hB bz1.out)
 replace RW := Lib.hid (RW.out.below hB)
 have SV := Lib.hid hv
 clear hE hb hB hv
 go_wp2_with fail
 have hE : Below w18.heap.size w18 w18 := (Below.refl w18.heap.size w18)
 refine (owed_ex _ v3 _ SV.out).mono ?_
 rintro e w19 ⟨rfl, hb⟩
 have hB := below2 hE hb
 replace HL := Lib.hid (HL.out.below hB)
 replace BB := Lib.hid (below2 BB.out hB)
 replace RO := Lib.hid (RO.out.below hB)
 replace RS := Lib.hid (RS.out.below hB)
 replace RE := Lib.hid (RE.out.below hB)
 replace bx0 := Lib.hid (cB hB bx0.out)
 replace bx1 := Lib.hid (cB hB bx1.out)
 replace RN := Lib.hid (RN.out.below hB)
 replace SL := Lib.hid (SL.out.below hB)
 replace by0 := Lib.hid (cB hB by0.out)
 replace by1 := Lib.hid (cB hB by1.out)
 replace MO := Lib.hid (MO.out.below hB)
 replace ML := Lib.hid (ML.out.below hB)
 replace bz0 := Lib.hid (cB hB bz0.out)
 replace bz1 := Lib.hid (cB hB bz1.out)
 replace RW := Lib.hid (RW.out.below hB)
 clear hE hb hB
 clear SV
 go_wp2_with fail
 have hE : Below w19.heap.size w19 w19 := (Below.refl w19.heap.size w19)
 refine (end54_any _).mono ?_
 rintro e w20 ⟨⟨v4, rfl, hv⟩, hb⟩
 have hB := below2 hE hb
 replace HL := Lib.hid (HL.out.below hB)
 replace BB := Lib.hid (below2 BB.out hB)
 replace RO := Lib.hid (RO.out.below hB)
 replace RS := Lib.hid (RS.out.below hB)
 replace RE := Lib.hid (RE.out.below hB)
 replace bx0 := Lib.hid (cB hB bx0.out)
 replace bx1 := Lib.hid (cB hB bx1.out)
 replace RN := Lib.hid (RN.out.below hB)
 replace SL := Lib.hid (SL.out.below hB)
 replace by0 := Lib.hid (cB hB by0.out)
 replace by1 := Lib.hid (cB hB by1.out)
 replace MO := Lib.hid (MO.out.below hB)
 replace ML := Lib.hid (ML.out.below hB)
 replace bz0 := Lib.hid (cB hB bz0.out)
 replace bz1 := Lib.hid (cB hB bz1.out)
 replace RW := Lib.hid (RW.out.below hB)
 have SV := Lib.hid hv
 clear hE hb hB hv
 go_wp2_with fail
 have hE : Below w20.heap.size w20 w20 := (Below.refl w20.heap.size w20)
 refine (here_ex _ v4 _ SV.out).mono ?_
 rintro e w21 ⟨⟨A16, c16, rfl, ho1⟩, hb⟩
 have hB := below2 hE hb
 replace HL := Lib.hid (HL.out.below hB)
 replace BB := Lib.hid (below2 BB.out hB)
 replace RO := Lib.hid (RO.out.below hB)
 replace RS := Lib.hid (RS.out.below hB)
 replace RE := Lib.hid (RE.out.below hB)
 replace bx0 := Lib.hid (cB hB bx0.out)
 replace bx1 := Lib.hid (cB hB bx1.out)
 replace RN := Lib.hid (RN.out.below hB)
 replace SL := Lib.hid (SL.out.below hB)
 replace by0 := Lib.hid (cB hB by0.out)
 replace by1 := Lib.hid (cB hB by1.out)
 replace MO := Lib.hid (MO.out.below hB)
 replace ML := Lib.hid (ML.out.below hB)
 replace bz0 := Lib.hid (cB hB bz0.out)
 replace bz1 := Lib.hid (cB hB bz1.out)
 replace RW := Lib.hid (RW.out.below hB)
 have RH := Lib.hid ho1
 clear hE hb hB ho1
 clear SV
 obtain ⟨be, oe, q6, hq6, rfl, -, e6⟩ := RE.out.atI (i := 6) (by decide)
 obtain ⟨be', oe', q8, hq8, hee, -, e8⟩ := RE.out.atI (i := 8) (by decide)
 cases hee
 obtain ⟨be', oe', q9, hq9, hee, -, e9⟩ := RE.out.atI (i := 9) (by decide)
 cases hee
 obtain ⟨be', oe', q13, hq13, hee, -, e13⟩ := RE.out.atI (i := 13) (by decide)
 cases hee
 obtain ⟨bl, ol, yl, hyl, rfl, -, -, -, -, l3, -⟩ := SL.out.atL (i := 1) (by decide)
 simp only [List.getElem_cons_zero, List.getElem_cons_succ] at hq6 hq8 hq9 hq13 hyl
 subst hq6 hq8 hq9 hq13 hyl
 simp only at l3
 have E6 := Lib.hid e6
 have E8 := Lib.hid e8
 have E9 := Lib.hid e9
 have E13 := Lib.hid e13
 have L3 := Lib.hid l3
 clear e6 e8 e9 e13 l3
 have b1 := by1.out
 go_wp2_with fail
 clear b1
 simp only [List.append_eq, List.cons_append, List.nil_append]
 have S0 : Below w21.heap.size w21 w21 ∧ w21.cell? ⟨w2.heap.size, 0, none⟩ = some (.slice A1 2 c1) ∧ w21.cell? ⟨w2.heap.size, 1, none⟩ = some (.slice A2 4 c2) ∧ w21.cell? ⟨w6.heap.size, 1, none⟩ = some (.slice (some ⟨bl, ol, none⟩) 3 c6) ∧ w21.cell? ⟨w13.heap.size, 0, none⟩ = some (.slice A9 1 c9) ∧ w21.cell? ⟨w13.heap.size, 1, none⟩ = some (.slice A10 1 c10) ∧ w21.cell? ⟨be, oe + 6, none⟩ = some (.int .i64 6) ∧ w21.cell? ⟨be, oe + 8, none⟩ = some (.int .i64 13) ∧ w21.cell? ⟨be, oe + 9, none⟩ = some (.int .i64 11) ∧ w21.cell? ⟨be, oe + 13, none⟩ = some (.int .i64 0) ∧ w21.cell? ⟨bl, ol + 8, none⟩ = some (.int .i64 5) := ⟨Below.refl _ _, bx0.out, bx1.out, by1.out, bz0.out, bz1.out, E6.out, E8.out, E9.out, E13.out, L3.out⟩
 go_region_held3 (fun W => Below w21.heap.size w21 W ∧ W.cell? ⟨w2.heap.size, 0, none⟩ = some (.slice A1 2 c1) ∧ W.cell? ⟨w2.heap.size, 1, none⟩ = some (.slice A2 4 c2) ∧ W.cell? ⟨w6.heap.size, 1, none⟩ = some (.slice (some ⟨bl, ol, none⟩) 3 c6) ∧ W.cell? ⟨w13.heap.size, 0, none⟩ = some (.slice A9 1 c9) ∧ W.cell? ⟨w13.heap.size, 1, none⟩ = some (.slice A10 1 c10) ∧ W.cell? ⟨be, oe + 6, none⟩ = some (.int .i64 6) ∧ W.cell? ⟨be, oe + 8, none⟩ = some (.int .i64 13) ∧ W.cell? ⟨be, oe + 9, none⟩ = some (.int .i64 11) ∧ W.cell? ⟨be, oe + 13, none⟩ = some (.int .i64 0) ∧ W.cell? ⟨bl, ol + 8, none⟩ = some (.int .i64 5)) (first | assumption | (exact ⟨belowD S0.1, (show _ from S0.2.1), (show _ from S0.2.2.1), (show _ from S0.2.2.2.1), (show _ from S0.2.2.2.2.1), (show _ from S0.2.2.2.2.2.1), (show _ from S0.2.2.2.2.2.2.1), (show _ from S0.2.2.2.2.2.2.2.1), (show _ from S0.2.2.2.2.2.2.2.2.1), (show _ from S0.2.2.2.2.2.2.2.2.2.1), (show _ from S0.2.2.2.2.2.2.2.2.2.2)⟩) | (have h := ‹Below w21.heap.size w21 _ ∧ _›; exact ⟨belowA h.1 _, cA h.2.1 _, cA h.2.2.1 _, cA h.2.2.2.1 _, cA h.2.2.2.2.1 _, cA h.2.2.2.2.2.1 _, cA h.2.2.2.2.2.2.1 _, cA h.2.2.2.2.2.2.2.1 _, cA h.2.2.2.2.2.2.2.2.1 _, cA h.2.2.2.2.2.2.2.2.2.1 _, cA h.2.2.2.2.2.2.2.2.2.2 _⟩))
  (first | (go_at_call 54; (have h := ‹Below w21.heap.size w21 _ ∧ _›); refine (end54_any _).mono ?_; rintro e wq ⟨⟨v5, rfl, ⟨A17, c17, A18, c18, rfl, hp1, hp2⟩⟩, hbq⟩; (have hS : Below w21.heap.size w21 wq ∧ wq.cell? ⟨w2.heap.size, 0, none⟩ = some (.slice A1 2 c1) ∧ wq.cell? ⟨w2.heap.size, 1, none⟩ = some (.slice A2 4 c2) ∧ wq.cell? ⟨w6.heap.size, 1, none⟩ = some (.slice (some ⟨bl, ol, none⟩) 3 c6) ∧ wq.cell? ⟨w13.heap.size, 0, none⟩ = some (.slice A9 1 c9) ∧ wq.cell? ⟨w13.heap.size, 1, none⟩ = some (.slice A10 1 c10) ∧ wq.cell? ⟨be, oe + 6, none⟩ = some (.int .i64 6) ∧ wq.cell? ⟨be, oe + 8, none⟩ = some (.int .i64 13) ∧ wq.cell? ⟨be, oe + 9, none⟩ = some (.int .i64 11) ∧ wq.cell? ⟨be, oe + 13, none⟩ = some (.int .i64 0) ∧ wq.cell? ⟨bl, ol + 8, none⟩ = some (.int .i64 5) := ⟨below2 h.1 hbq, cB hbq h.2.1, cB hbq h.2.2.1, cB hbq h.2.2.2.1, cB hbq h.2.2.2.2.1, cB hbq h.2.2.2.2.2.1, cB hbq h.2.2.2.2.2.2.1, cB hbq h.2.2.2.2.2.2.2.1, cB hbq h.2.2.2.2.2.2.2.2.1, cB hbq h.2.2.2.2.2.2.2.2.2.1, cB hbq h.2.2.2.2.2.2.2.2.2.2⟩); (have EO := Lib.hid (hp1.rs encO)); (have EL := Lib.hid (hp2.rs encL)); clear hp1 hp2; skip) | (go_at_call 20; (have h := ‹Below w21.heap.size w21 _ ∧ _›); refine (same_any _ _ _ _ _ _ _ _ [⟨5, ⟨#[98, 99, 100]⟩, 0⟩, ⟨7, ⟨#[97, 98, 101]⟩, 10⟩] [⟨1, ⟨#[97, 101]⟩, 120, 7, false⟩, ⟨2, ⟨#[98]⟩, 45, 0, false⟩, ⟨3, ⟨#[]⟩, 9, 0, false⟩, ⟨4, ⟨#[98, 101]⟩, 300, 7, false⟩] _ (RO.out.below h.1) (RS.out.below h.1) EO.out EL.out).mono ?_; rintro e wq ⟨rfl, hbq⟩; (have hS : Below w21.heap.size w21 wq ∧ wq.cell? ⟨w2.heap.size, 0, none⟩ = some (.slice A1 2 c1) ∧ wq.cell? ⟨w2.heap.size, 1, none⟩ = some (.slice A2 4 c2) ∧ wq.cell? ⟨w6.heap.size, 1, none⟩ = some (.slice (some ⟨bl, ol, none⟩) 3 c6) ∧ wq.cell? ⟨w13.heap.size, 0, none⟩ = some (.slice A9 1 c9) ∧ wq.cell? ⟨w13.heap.size, 1, none⟩ = some (.slice A10 1 c10) ∧ wq.cell? ⟨be, oe + 6, none⟩ = some (.int .i64 6) ∧ wq.cell? ⟨be, oe + 8, none⟩ = some (.int .i64 13) ∧ wq.cell? ⟨be, oe + 9, none⟩ = some (.int .i64 11) ∧ wq.cell? ⟨be, oe + 13, none⟩ = some (.int .i64 0) ∧ wq.cell? ⟨bl, ol + 8, none⟩ = some (.int .i64 5) := ⟨below2 h.1 hbq, cB hbq h.2.1, cB hbq h.2.2.1, cB hbq h.2.2.2.1, cB hbq h.2.2.2.2.1, cB hbq h.2.2.2.2.2.1, cB hbq h.2.2.2.2.2.2.1, cB hbq h.2.2.2.2.2.2.2.1, cB hbq h.2.2.2.2.2.2.2.2.1, cB hbq h.2.2.2.2.2.2.2.2.2.1, cB hbq h.2.2.2.2.2.2.2.2.2.2⟩); clear EO EL; skip) | (go_at_call 28; (have h := ‹Below w21.heap.size w21 _ ∧ _›); refine (ints_any _ _ _ _ [1, 2, 3, 4, 5, 8, 13] _ (RN.out.below h.1) ((Own.lit encI _ 3 [1, 2, 3, 4, 5, 8, 13] #[.int .i64 1, .int .i64 2, .int .i64 3, .int .i64 4, .int .i64 5, .int .i64 8, .int .i64 13] rfl (by decide)).rs encI)).mono ?_; rintro e wq ⟨rfl, hbq⟩; (have hS : Below w21.heap.size w21 wq ∧ wq.cell? ⟨w2.heap.size, 0, none⟩ = some (.slice A1 2 c1) ∧ wq.cell? ⟨w2.heap.size, 1, none⟩ = some (.slice A2 4 c2) ∧ wq.cell? ⟨w6.heap.size, 1, none⟩ = some (.slice (some ⟨bl, ol, none⟩) 3 c6) ∧ wq.cell? ⟨w13.heap.size, 0, none⟩ = some (.slice A9 1 c9) ∧ wq.cell? ⟨w13.heap.size, 1, none⟩ = some (.slice A10 1 c10) ∧ wq.cell? ⟨be, oe + 6, none⟩ = some (.int .i64 6) ∧ wq.cell? ⟨be, oe + 8, none⟩ = some (.int .i64 13) ∧ wq.cell? ⟨be, oe + 9, none⟩ = some (.int .i64 11) ∧ wq.cell? ⟨be, oe + 13, none⟩ = some (.int .i64 0) ∧ wq.cell? ⟨bl, ol + 8, none⟩ = some (.int .i64 5) := ⟨below2 h.1 hbq, cB hbq h.2.1, cB hbq h.2.2.1, cB hbq h.2.2.2.1, cB hbq h.2.2.2.2.1, cB hbq h.2.2.2.2.2.1, cB hbq h.2.2.2.2.2.2.1, cB hbq h.2.2.2.2.2.2.2.1, cB hbq h.2.2.2.2.2.2.2.2.1, cB hbq h.2.2.2.2.2.2.2.2.2.1, cB hbq h.2.2.2.2.2.2.2.2.2.2⟩); skip) | (go_at_call 57; (have h := ‹Below w21.heap.size w21 _ ∧ _›); refine (small57_any 2 _).mono ?_; rintro e wq ⟨⟨v6, rfl, ⟨A19, c19, A20, c20, rfl, hp1, hp2⟩⟩, hbq⟩; (have hS : Below w21.heap.size w21 wq ∧ wq.cell? ⟨w2.heap.size, 0, none⟩ = some (.slice A1 2 c1) ∧ wq.cell? ⟨w2.heap.size, 1, none⟩ = some (.slice A2 4 c2) ∧ wq.cell? ⟨w6.heap.size, 1, none⟩ = some (.slice (some ⟨bl, ol, none⟩) 3 c6) ∧ wq.cell? ⟨w13.heap.size, 0, none⟩ = some (.slice A9 1 c9) ∧ wq.cell? ⟨w13.heap.size, 1, none⟩ = some (.slice A10 1 c10) ∧ wq.cell? ⟨be, oe + 6, none⟩ = some (.int .i64 6) ∧ wq.cell? ⟨be, oe + 8, none⟩ = some (.int .i64 13) ∧ wq.cell? ⟨be, oe + 9, none⟩ = some (.int .i64 11) ∧ wq.cell? ⟨be, oe + 13, none⟩ = some (.int .i64 0) ∧ wq.cell? ⟨bl, ol + 8, none⟩ = some (.int .i64 5) := ⟨below2 h.1 hbq, cB hbq h.2.1, cB hbq h.2.2.1, cB hbq h.2.2.2.1, cB hbq h.2.2.2.2.1, cB hbq h.2.2.2.2.2.1, cB hbq h.2.2.2.2.2.2.1, cB hbq h.2.2.2.2.2.2.2.1, cB hbq h.2.2.2.2.2.2.2.2.1, cB hbq h.2.2.2.2.2.2.2.2.2.1, cB hbq h.2.2.2.2.2.2.2.2.2.2⟩); (have GO := Lib.hid (hp1.rs encO)); (have GL := Lib.hid (hp2.rs encL)); clear hp1 hp2; skip) | (go_at_call 20; (have h := ‹Below w21.heap.size w21 _ ∧ _›); refine (same_any _ _ _ _ _ _ _ _ [⟨3, ⟨#[97]⟩, 2⟩] [⟨9, ⟨#[97]⟩, 8, 3, true⟩] _ (MO.out.below h.1) (ML.out.below h.1) GO.out GL.out).mono ?_; rintro e wq ⟨rfl, hbq⟩; (have hS : Below w21.heap.size w21 wq ∧ wq.cell? ⟨w2.heap.size, 0, none⟩ = some (.slice A1 2 c1) ∧ wq.cell? ⟨w2.heap.size, 1, none⟩ = some (.slice A2 4 c2) ∧ wq.cell? ⟨w6.heap.size, 1, none⟩ = some (.slice (some ⟨bl, ol, none⟩) 3 c6) ∧ wq.cell? ⟨w13.heap.size, 0, none⟩ = some (.slice A9 1 c9) ∧ wq.cell? ⟨w13.heap.size, 1, none⟩ = some (.slice A10 1 c10) ∧ wq.cell? ⟨be, oe + 6, none⟩ = some (.int .i64 6) ∧ wq.cell? ⟨be, oe + 8, none⟩ = some (.int .i64 13) ∧ wq.cell? ⟨be, oe + 9, none⟩ = some (.int .i64 11) ∧ wq.cell? ⟨be, oe + 13, none⟩ = some (.int .i64 0) ∧ wq.cell? ⟨bl, ol + 8, none⟩ = some (.int .i64 5) := ⟨below2 h.1 hbq, cB hbq h.2.1, cB hbq h.2.2.1, cB hbq h.2.2.2.1, cB hbq h.2.2.2.2.1, cB hbq h.2.2.2.2.2.1, cB hbq h.2.2.2.2.2.2.1, cB hbq h.2.2.2.2.2.2.2.1, cB hbq h.2.2.2.2.2.2.2.2.1, cB hbq h.2.2.2.2.2.2.2.2.2.1, cB hbq h.2.2.2.2.2.2.2.2.2.2⟩); skip) | (go_at_call 42; (have h := ‹Below w21.heap.size w21 _ ∧ _›); refine (longs_any _ _ _ _ [7] _ (RW.out.below h.1) ((Own.lit encI _ 2 [7] #[.int .i64 7] rfl (by decide)).rs encI)).mono ?_; rintro e wq ⟨rfl, hbq⟩; (have hS : Below w21.heap.size w21 wq ∧ wq.cell? ⟨w2.heap.size, 0, none⟩ = some (.slice A1 2 c1) ∧ wq.cell? ⟨w2.heap.size, 1, none⟩ = some (.slice A2 4 c2) ∧ wq.cell? ⟨w6.heap.size, 1, none⟩ = some (.slice (some ⟨bl, ol, none⟩) 3 c6) ∧ wq.cell? ⟨w13.heap.size, 0, none⟩ = some (.slice A9 1 c9) ∧ wq.cell? ⟨w13.heap.size, 1, none⟩ = some (.slice A10 1 c10) ∧ wq.cell? ⟨be, oe + 6, none⟩ = some (.int .i64 6) ∧ wq.cell? ⟨be, oe + 8, none⟩ = some (.int .i64 13) ∧ wq.cell? ⟨be, oe + 9, none⟩ = some (.int .i64 11) ∧ wq.cell? ⟨be, oe + 13, none⟩ = some (.int .i64 0) ∧ wq.cell? ⟨bl, ol + 8, none⟩ = some (.int .i64 5) := ⟨below2 h.1 hbq, cB hbq h.2.1, cB hbq h.2.2.1, cB hbq h.2.2.2.1, cB hbq h.2.2.2.2.1, cB hbq h.2.2.2.2.2.1, cB hbq h.2.2.2.2.2.2.1, cB hbq h.2.2.2.2.2.2.2.1, cB hbq h.2.2.2.2.2.2.2.2.1, cB hbq h.2.2.2.2.2.2.2.2.2.1, cB hbq h.2.2.2.2.2.2.2.2.2.2⟩); clear RW; skip) | (go_at_call 42; (have h := ‹Below w21.heap.size w21 _ ∧ _›); refine (longs_any _ _ _ _ [1, 4] _ (RH.out.below h.1) ((Own.lit encI _ 2 [1, 4] #[.int .i64 1, .int .i64 4] rfl (by decide)).rs encI)).mono ?_; rintro e wq ⟨rfl, hbq⟩; (have hS : Below w21.heap.size w21 wq ∧ wq.cell? ⟨w2.heap.size, 0, none⟩ = some (.slice A1 2 c1) ∧ wq.cell? ⟨w2.heap.size, 1, none⟩ = some (.slice A2 4 c2) ∧ wq.cell? ⟨w6.heap.size, 1, none⟩ = some (.slice (some ⟨bl, ol, none⟩) 3 c6) ∧ wq.cell? ⟨w13.heap.size, 0, none⟩ = some (.slice A9 1 c9) ∧ wq.cell? ⟨w13.heap.size, 1, none⟩ = some (.slice A10 1 c10) ∧ wq.cell? ⟨be, oe + 6, none⟩ = some (.int .i64 6) ∧ wq.cell? ⟨be, oe + 8, none⟩ = some (.int .i64 13) ∧ wq.cell? ⟨be, oe + 9, none⟩ = some (.int .i64 11) ∧ wq.cell? ⟨be, oe + 13, none⟩ = some (.int .i64 0) ∧ wq.cell? ⟨bl, ol + 8, none⟩ = some (.int .i64 5) := ⟨below2 h.1 hbq, cB hbq h.2.1, cB hbq h.2.2.1, cB hbq h.2.2.2.1, cB hbq h.2.2.2.2.1, cB hbq h.2.2.2.2.2.1, cB hbq h.2.2.2.2.2.2.1, cB hbq h.2.2.2.2.2.2.2.1, cB hbq h.2.2.2.2.2.2.2.2.1, cB hbq h.2.2.2.2.2.2.2.2.2.1, cB hbq h.2.2.2.2.2.2.2.2.2.2⟩); skip))
 all_goals
  have BX := below2 BB.out (‹Below w21.heap.size w21 _ ∧ _›).1
  go_wp2
  go_ret
  exact ⟨rfl, BX⟩
end Go.Proofs.YtcnpbcgkhhebaaaGreatDoor
/- A file, line by line. -/
namespace Go.Proofs.YtcnpbcgkhhebaaaGreatDoor
open Go.RowKit

/-- The lines, each with its end. -/
def accB (xs : List ByteArray) : ByteArray := ⟨(xs.flatMap fun x => x.data.toList ++ [10]).toArray⟩
theorem bx {a b : ByteArray} (h : a.data.toList = b.data.toList) : a = b := ByteArray.ext (Array.ext' h)
theorem accB_l (xs : List ByteArray) : (accB xs).data.toList = xs.flatMap fun x => x.data.toList ++ [10] := rfl
theorem accB_snoc (xs : List ByteArray) (x : ByteArray) : accB (xs ++ [x]) = accB xs ++ x ++ ⟨#[10]⟩ := bx (by simp [accB_l])
theorem accB_size (xs : List ByteArray) (n : Nat) (h : ∀ x ∈ xs, x.data.toList.length ≤ n) : (accB xs).size ≤ (n + 1) * xs.length := by
 have : ∀ xs : List ByteArray, (∀ x ∈ xs, x.data.toList.length ≤ n) → (xs.flatMap fun x => x.data.toList ++ [(10 : UInt8)]).length ≤ (n + 1) * xs.length := by
  intro xs
  induction xs with
  | nil => intro _; simp
  | cons x r ih =>
   intro h
   have h1 := ih fun y hy => h y (List.mem_cons_of_mem _ hy)
   have h2 := h x List.mem_cons_self
   simp only [List.flatMap_cons, List.length_append, List.length_cons, List.length_nil, Nat.mul_add]
   omega
 exact this xs h
theorem join_acc : ∀ (x : ByteArray) (xs : List ByteArray), joinB (x :: xs) bNl ++ bNl = accB (x :: xs)
 | x, [] => bx (by simp [accB_l, joinB, bNl, Lib.join])
 | x, y :: r => by
  have ih := congrArg (fun b : ByteArray => b.data.toList) (join_acc y r)
  apply bx
  simp only [accB_l, joinB, bNl, ByteArray.data_append, Array.toList_append, List.map_cons] at ih ⊢
  rw [List.flatMap_cons, ← ih]
  simp [Lib.join]
theorem fileS_acc {os : List Ow} {ls : List Lg} (h : checkS os ls = 0) : fileS os ls = (accB (fileL os ls), 0) := by
 unfold fileS
 rw [if_neg (by simp [h])]
 cases hf : fileL os ls with
 | nil => rfl
 | cons x r =>
  rw [if_neg (by simp), join_acc]
theorem ownLine_eq (t : ByteArray) (x : Ow) : t ++ ⟨#[111, 119, 110, 101, 114, 32]⟩ ++ decB x.num ++ ⟨#[32]⟩ ++ x.mark ++ ⟨#[32]⟩ ++ decB x.paid ++ ⟨#[10]⟩ = t ++ ownLine x ++ ⟨#[10]⟩ :=
 bx (by simp [ownLine, ownP, joinB, bSp, bOwner, Lib.join])
theorem logLine_eq (t : ByteArray) (x : Lg) : t ++ ⟨#[108, 111, 103, 32]⟩ ++ decB x.num ++ ⟨#[32]⟩ ++ dashB x.seen ++ ⟨#[32]⟩ ++ decB x.feet ++ ⟨#[32]⟩ ++ decB x.own ++ ⟨#[32]⟩ ++ whereB x.gone ++ ⟨#[10]⟩ = t ++ logLine x ++ ⟨#[10]⟩ :=
 bx (by simp [logLine, logP, joinB, bSp, bLog, Lib.join])
end Go.Proofs.YtcnpbcgkhhebaaaGreatDoor
/- Texts and lines that are made: plain data. -/
namespace Go.Proofs.YtcnpbcgkhhebaaaGreatDoor
open Go.RowKit

/-- How many lines a text has. -/
def nLines (t : ByteArray) : Nat := (parts 10 t.data.toList).length - 1
theorem no_nl {n : Nat} {x : ByteArray} (h : (10 : UInt8) ∉ x.data.toList) : (10 : UInt8) ∉ Lib.itoa ((n : Int) + 1) ++ 32 :: x.data.toList := by
 intro hm
 rcases List.mem_append.1 hm with hm | hm
 ·exact itoa_no (by omega) 10 (by decide) hm
 ·rcases List.mem_cons.1 hm with hm | hm
  ·exact absurd hm (by decide)
  ·exact h hm
theorem textL_cons (m : Nat) (x : ByteArray) (r : List ByteArray) : textL m (x :: r) = (Lib.itoa ((m : Int) + 1) ++ 32 :: x.data.toList) ++ 10 :: textL (m + 1) r := by
 rw [textL]
 simp
theorem parts_textL : ∀ (xs : List ByteArray) (m : Nat), (∀ x ∈ xs, (10 : UInt8) ∉ x.data.toList) → (parts 10 (textL m xs)).length = xs.length + 1
 | [], m, _ => rfl
 | x :: r, m, h => by
  rw [textL_cons, parts_app _ _ (no_nl (h x List.mem_cons_self)), List.length_cons, parts_textL r (m + 1) fun y hy => h y (List.mem_cons_of_mem _ hy), List.length_cons]
theorem line_nl {L : List Ln} (h : ∀ x ∈ L, IsLine x) : ∀ t ∈ L.map (·.text), (10 : UInt8) ∉ t.data.toList := fun t ht => by
 obtain ⟨x, hx, rfl⟩ := List.mem_map.1 ht
 exact (h x hx).nl
theorem text_of {text : ByteArray} {l : List Ln} (h : parseS text = (l, 0)) : text = textB (l.map (·.text)) := bx (by rw [(parse_iff.1 h).1]; rfl)
theorem parse_text {L : List Ln} (h : ∀ x ∈ L, IsLine x) (h2 : L.length ≤ 200) (h3 : (textB (L.map (·.text))).size ≤ 8000) : parseS (textB (L.map (·.text))) = (L, 0) := parse_iff.2 ⟨rfl, h, h2, h3⟩
theorem nLines_textB (L : List Ln) (h : ∀ x ∈ L, IsLine x) : nLines (textB (L.map (·.text))) = L.length := by
 have e := parts_textL (L.map (·.text)) 0 (line_nl h)
 show (parts 10 (textL 0 (L.map (·.text)))).length - 1 = _
 rw [e, List.length_map]
 rfl
theorem nLines_parse {text : ByteArray} {l : List Ln} (h : parseS text = (l, 0)) : nLines text = l.length := by
 have h' := parse_iff.1 h
 rw [text_of h, nLines_textB l h'.2.1]

/-- One more line. -/
def addB (text line : ByteArray) : ByteArray := text ++ decB ((nLines text : Int) + 1) ++ ⟨#[32]⟩ ++ line ++ ⟨#[10]⟩
theorem textL_more : ∀ (xs : List ByteArray) (m : Nat) (y : ByteArray), textL m (xs ++ [y]) = textL m xs ++ (Lib.itoa (((m + xs.length : Nat) : Int) + 1) ++ [32] ++ y.data.toList ++ [10]) := fun xs m y => textL_snoc y xs m
theorem addB_text {L : List Ln} {x : Ln} (h : ∀ y ∈ L, IsLine y) : addB (textB (L.map (·.text))) x.text = textB ((L ++ [x]).map (·.text)) := by
 apply bx
 unfold addB
 rw [nLines_textB L h]
 show _ = textL 0 ((L ++ [x]).map (·.text))
 rw [List.map_append, List.map_cons, List.map_nil, textL_more, Nat.zero_add, List.length_map]
 simp only [ByteArray.data_append, Array.toList_append, textB]
 show _ ++ Lib.itoa ((L.length : Int) + 1) ++ [32] ++ _ ++ [10] = _
 simp
theorem itoa_small {n : Nat} {k : Nat} (hk : 1 ≤ k) (h : n < 10 ^ k) : (Lib.itoa (n : Int)).length ≤ k := by
 rw [itoa_nat]
 exact dec_len hk h
theorem decB_len (n : Int) : (decB n).size = (Lib.itoa n).length := by
 show (Lib.itoa n).toArray.size = _
 rw [List.size_toArray]
theorem addB_size {text line : ByteArray} : (addB text line).size = text.size + (decB ((nLines text : Int) + 1)).size + 1 + line.size + 1 := by
 unfold addB
 simp only [ByteArray.size_append]
 rfl
theorem parse_add {text : ByteArray} {l : List Ln} {x : Ln} (h : parseS text = (l, 0)) (hx : IsLine x) (hn : l.length < 200) (hs : text.size + x.text.size ≤ 7995) : parseS (addB text x.text) = (l ++ [x], 0) := by
 have h' := parse_iff.1 h
 have hs2 := addB_size (text := text) (line := x.text)
 rw [nLines_parse h, decB_len] at hs2
 have := itoa_small (n := l.length + 1) (k := 3) (by omega) (by omega)
 rw [Int.natCast_add, show ((1 : Nat) : Int) = 1 from rfl] at this
 have he : addB text x.text = textB ((l ++ [x]).map (·.text)) := by rw [text_of h, addB_text h'.2.1]
 rw [he] at hs2 ⊢
 refine parse_text ?_ (by rw [List.length_append]; simp; omega) (by omega)
 intro y hy
 rcases List.mem_append.1 hy with hy | hy
 ·exact h'.2.1 y hy
 ·rw [List.mem_singleton] at hy; subst hy; exact hx

/-- A line out of its parts. -/
theorem isLine_mk {q : List ByteArray} {x : Ln} (hq : ∀ p ∈ q, (32 : UInt8) ∉ p.data.toList ∧ (10 : UInt8) ∉ p.data.toList) (hne : q ≠ []) (ht : x.text = mkB (Lib.join (q.map (·.data.toList)) [32])) (h : coreQ q x.text = some x) : IsLine x := by
 have hq2 : (q.map (·.data.toList)).map mkB = q := by
  rw [List.map_map]
  conv => rhs; rw [← List.map_id q]
  exact List.map_congr_left fun p _ => mkB_of p
 have hj : x.text.data.toList = Lib.join (q.map (·.data.toList)) [32] := by rw [ht, mkB_data]
 refine ⟨?_, ?_⟩
 ·rw [hj, parts_join 32 _ (by simpa using hne) (fun p hp => by
   obtain ⟨b, hb, rfl⟩ := List.mem_map.1 hp
   exact (hq b hb).1), core_Q, hq2, ← ht, h]
 ·rw [hj]
  intro hm
  have key : ∀ xs : List (List UInt8), (∀ p ∈ xs, (10 : UInt8) ∉ p) → (10 : UInt8) ∉ Lib.join xs [32] := by
   intro xs
   induction xs with
   | nil => intro _; simp [Lib.join, List.intercalate]
   | cons a r ih =>
    intro ha
    cases r with
    | nil => rw [join_one]; exact ha a List.mem_cons_self
    | cons b r =>
     rw [join_two]
     intro hm
     rcases List.mem_append.1 hm with hm | hm
     ·exact ha a List.mem_cons_self hm
     ·rcases List.mem_cons.1 hm with hm | hm
      ·exact absurd hm (by decide)
      ·exact ih (fun p hp => ha p (List.mem_cons_of_mem _ hp)) hm
  exact key _ (fun p hp => by
   obtain ⟨b, hb, rfl⟩ := List.mem_map.1 hp
   exact (hq b hb).2) hm
theorem decB_no {n : Int} (h : 0 ≤ n) : (32 : UInt8) ∉ (decB n).data.toList ∧ (10 : UInt8) ∉ (decB n).data.toList := ⟨itoa_no h 32 (by decide), itoa_no h 10 (by decide)⟩
theorem decB_nat (n : Nat) : decB (n : Int) = mkB (Lib.decDigits n) := by unfold decB; rw [itoa_nat]; rfl
theorem okN_decB {n : Nat} {m : Int} (h1 : 1 ≤ n) (h2 : (n : Int) ≤ m) (h : n < 1000000000000000000) : okN (decB n) m = true ∧ numV (decB n) = n := by
 rw [decB_nat]
 exact ⟨okN_dec h1 h2 h, numV_dec h⟩
theorem coreQ_strike (a t : ByteArray) : coreQ [wStrike, a] t = if okN a 200 then some ⟨wStrike, numV a, 0, bNo, t⟩ else none := by simp [coreQ]
theorem coreQ_mark (a b t : ByteArray) : coreQ [wMark, a, b] t = if okN a 1099511627776 && okM b then some ⟨wMark, numV a, 0, b, t⟩ else none := by simp [coreQ]
theorem coreQ_claim (a b t : ByteArray) : coreQ [wClaim, a, b] t = twoQ wClaim a b t 1099511627776 1099511627776 := by simp [coreQ, show ¬ wClaim = wMark by decide]
theorem coreQ_raft (a b t : ByteArray) : coreQ [wRaft, a, b] t = twoQ wRaft a b t 1099511627776 100 := by simp [coreQ, show ¬ wRaft = wMark by decide, show ¬ wRaft = wClaim by decide]
theorem coreQ_pay (a b t : ByteArray) : coreQ [wPay, a, b] t = twoQ wPay a b t 1099511627776 1000000 := by simp [coreQ, show ¬ wPay = wMark by decide, show ¬ wPay = wClaim by decide, show ¬ wPay = wRaft by decide]
theorem coreQ_log (a b c t : ByteArray) : coreQ [wLog, a, b, c] t = if okN a 1099511627776 && okN c 10000 && (decide (b = bDs) || okM b) then some ⟨wLog, numV a, numV c, if b = bDs then bNo else b, t⟩ else none := by simp [coreQ]
def strikeT (n : Int) : ByteArray := ⟨#[115, 116, 114, 105, 107, 101, 32]⟩ ++ decB n
def strikeLn (n : Int) : Ln := ⟨wStrike, n, 0, bNo, strikeT n⟩
theorem strike_line {n : Nat} (h1 : 1 ≤ n) (h2 : n ≤ 200) : IsLine (strikeLn n) := by
 obtain ⟨k1, k2⟩ := okN_decB (n := n) (m := 200) h1 (by omega) (by omega)
 refine isLine_mk (q := [wStrike, decB n]) ?_ (by simp) ?_ ?_
 ·intro p hp
  simp only [List.mem_cons, List.not_mem_nil, or_false] at hp
  rcases hp with rfl | rfl
  ·decide
  ·exact decB_no (by omega)
 ·exact bx (by simp [strikeLn, strikeT, mkB, Lib.join, wStrike])
 ·rw [coreQ_strike, k1, if_pos rfl, k2]
  rfl
def twoLn (w : ByteArray) (a b : Int) : Ln := ⟨w, a, b, bNo, w ++ ⟨#[32]⟩ ++ decB a ++ ⟨#[32]⟩ ++ decB b⟩
theorem two_text {w : ByteArray} {a b : Int} : (twoLn w a b).text = mkB (Lib.join ([w, decB a, decB b].map (·.data.toList)) [32]) := bx (by simp [twoLn, mkB, Lib.join])
theorem raft_line {a b : Nat} (h1 : 1 ≤ a) (h2 : a ≤ 1099511627776) (h3 : 1 ≤ b) (h4 : b ≤ 100) : IsLine (twoLn wRaft a b) := by
 obtain ⟨k1, k2⟩ := okN_decB (n := a) (m := 1099511627776) h1 (by omega) (by omega)
 obtain ⟨k3, k4⟩ := okN_decB (n := b) (m := 100) h3 (by omega) (by omega)
 refine isLine_mk (q := [wRaft, decB a, decB b]) ?_ (by simp) two_text ?_
 ·intro p hp
  simp only [List.mem_cons, List.not_mem_nil, or_false] at hp
  rcases hp with rfl | rfl | rfl
  ·decide
  ·exact decB_no (by omega)
  ·exact decB_no (by omega)
 ·rw [coreQ_raft, twoQ, k1, k3, k2, k4]
  rfl
theorem pay_line {a b : Nat} (h1 : 1 ≤ a) (h2 : a ≤ 1099511627776) (h3 : 1 ≤ b) (h4 : b ≤ 1000000) : IsLine (twoLn wPay a b) := by
 obtain ⟨k1, k2⟩ := okN_decB (n := a) (m := 1099511627776) h1 (by omega) (by omega)
 obtain ⟨k3, k4⟩ := okN_decB (n := b) (m := 1000000) h3 (by omega) (by omega)
 refine isLine_mk (q := [wPay, decB a, decB b]) ?_ (by simp) two_text ?_
 ·intro p hp
  simp only [List.mem_cons, List.not_mem_nil, or_false] at hp
  rcases hp with rfl | rfl | rfl
  ·decide
  ·exact decB_no (by omega)
  ·exact decB_no (by omega)
 ·rw [coreQ_pay, twoQ, k1, k3, k2, k4]
  rfl
def dashS (s : ByteArray) : ByteArray := if s = bNo then bDs else s
def logLn (n : Int) (s : ByteArray) (f : Int) : Ln := ⟨wLog, n, f, s, wLog ++ ⟨#[32]⟩ ++ decB n ++ ⟨#[32]⟩ ++ dashS s ++ ⟨#[32]⟩ ++ decB f⟩
theorem seen_low {s : ByteArray} (h : isSeenB s = true) : ∀ c ∈ s.data.toList, 97 ≤ c.toNat := by
 have key : ∀ (l : List UInt8) (a : Int), 96 ≤ a → incr a l = true → ∀ u ∈ l, 97 ≤ u.toNat := by
  intro l
  induction l with
  | nil => intro a _ _ u hu; cases hu
  | cons c r ih =>
   intro a ha h u hu
   unfold incr at h
   simp only [Bool.and_eq_true, decide_eq_true_eq] at h
   rcases List.mem_cons.1 hu with rfl | hu
   ·omega
   ·exact ih _ (by omega) h.2 u hu
 unfold isSeenB at h
 rw [Bool.and_eq_true] at h
 exact key _ _ (by omega) h.1
theorem log_line {a f : Nat} {s : ByteArray} (h1 : 1 ≤ a) (h2 : a ≤ 1099511627776) (h3 : 1 ≤ f) (h4 : f ≤ 10000) (hs : isSeenB s = true) : IsLine (logLn a s f) := by
 obtain ⟨k1, k2⟩ := okN_decB (n := a) (m := 1099511627776) h1 (by omega) (by omega)
 obtain ⟨k3, k4⟩ := okN_decB (n := f) (m := 10000) h3 (by omega) (by omega)
 have hlow := seen_low hs
 have hno : ∀ c : UInt8, c.toNat < 97 → c ∉ s.data.toList := fun c hc hm => by have := hlow c hm; omega
 have hd : (32 : UInt8) ∉ (dashS s).data.toList ∧ (10 : UInt8) ∉ (dashS s).data.toList := by
  unfold dashS
  split
  ·decide
  ·exact ⟨hno 32 (by decide), hno 10 (by decide)⟩
 refine isLine_mk (q := [wLog, decB a, dashS s, decB f]) ?_ (by simp) (bx (by simp [logLn, mkB, Lib.join])) ?_
 ·intro p hp
  simp only [List.mem_cons, List.not_mem_nil, or_false] at hp
  rcases hp with rfl | rfl | rfl | rfl
  ·decide
  ·exact decB_no (by omega)
  ·exact hd
  ·exact decB_no (by omega)
 ·have hc : (decide (dashS s = bDs) || okM (dashS s)) = true := by
   unfold dashS
   split
   ·simp
   ·rename_i h0
    rw [Bool.or_eq_true]
    refine .inr ?_
    unfold okM
    rw [hs, Bool.and_true, Bool.not_eq_true']
    rw [List.isEmpty_eq_false_iff]
    intro e
    exact h0 (bx (by rw [← ByteArray.toList_eq, e]; rfl))
  have hl : (if dashS s = bDs then bNo else dashS s) = s := by
   unfold dashS
   by_cases h0 : s = bNo
   ·rw [if_pos h0, if_pos rfl, h0]
   ·rw [if_neg h0, if_neg]
    intro e
    exact hno 45 (by decide) (by rw [e]; decide)
  rw [coreQ_log, k1, k3, hc, k2, k4, hl]
  rfl
end Go.Proofs.YtcnpbcgkhhebaaaGreatDoor
