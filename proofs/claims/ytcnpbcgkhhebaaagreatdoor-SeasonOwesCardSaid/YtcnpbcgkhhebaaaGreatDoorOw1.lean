/- SeasonOwes returns true, for every season, string and number; and what it was given reads as before: the given card, under the row's condition: the listed package-level variables read as the program's text lays them. -/
import Derived.Test.YtcnpbcgkhhebaaaGreatDoorKn4
import Derived.Lib.MinMax
import Derived.Test.YtcnpbcgkhhebaaaGreatDoorTie
import Derived.Test.YtcnpbcgkhhebaaaGreatDoorCards
import Derived.ProofKit
import Derived.HandedShaped
import Derived.Shelf.Vars
import Derived.Lib.LaidTab
import Derived.Stop.LaidErr
import Derived.Lay
import Derived.SevenTiedAt
import Derived.Stop.Joined
import Derived.LaidMore
import Derived.Deep.Slices
import Derived.Deep.Fields
import Derived.Lib.SmallJoins
import Derived.ChangeMaps5
/- The document: whose marks can be worn, what is owed, which logs are here. -/
namespace Go.Proofs.YtcnpbcgkhhebaaaGreatDoor
open Go.RowKit

/-- A season's marks, and what is seen of its logs, are strings. -/
structure Szs (os : List Ow) (ls : List Lg) : Prop where
  m : ∀ x ∈ os, x.mark.size ≤ 9223372036854775807
  s : ∀ l ∈ ls, l.seen.size ≤ 9223372036854775807
theorem ret2_nil {α : Type} {enc : α → List Value} {e sz base : Nat} {w : World} {n : Int} : OwnR2 enc e sz base w (.returned (.tuple #[.slice none 0 0, .int .i64 n])) [] n := ⟨none, 0, rfl, Own.nil_ _ _ _ _ _⟩

set_option maxRecDepth 100000 in
set_option maxHeartbeats 4000000 in
theorem worn2E_any (A : Option Addr) (c : Nat) (os : List Ow) (A2 : Option Addr) (c2 : Nat) (ls : List Lg) (seen : ByteArray) (w : World) (hr : Rd eO 3 w A c os) (hr2 : Rd eL 5 w A2 c2 ls) (hz : Szs os ls) (hs : seen.size ≤ 9223372036854775807) :
    Calls Tryz.prog 37 #[.agg #[.slice A os.length c, .slice A2 ls.length c2], .string seen] w fun e w' => OwnR2 eI 2 1 w.heap.size w' e (wornE os ls seen).1 (wornE os ls seen).2 ∧ Below w.heap.size w w' := by
  have B0 := below_a1 w (.cells #[.slice A os.length c, .slice A2 ls.length c2] 26)
  have CK := Lib.hid (fun W (hB : Below (w.alloc (.cells #[.slice A os.length c, .slice A2 ls.length c2] 26)).heap.size (w.alloc (.cells #[.slice A os.length c, .slice A2 ls.length c2] 26)) W) => check2_any A c os A2 c2 ls W (hr.below (below2 B0 hB)) (hr2.below (below2 B0 hB)) hz.m hz.s)
  have CS := Lib.hid (fun W (hB : Below (w.alloc (.cells #[.slice A os.length c, .slice A2 ls.length c2] 26)).heap.size (w.alloc (.cells #[.slice A os.length c, .slice A2 ls.length c2] 26)) W) => (⟨cB hB (by go_simp), cB hB (by go_simp), below2 B0 hB⟩ : W.cell? ⟨w.heap.size, 0, none⟩ = some (.slice A os.length c) ∧ W.cell? ⟨w.heap.size, 1, none⟩ = some (.slice A2 ls.length c2) ∧ Below w.heap.size w W))
  by_cases h0 : checkS os ls = 0
  · have h20 := checkS_len h0
    have WO := Lib.hid (fun W (hB : Below (w.alloc (.cells #[.slice A os.length c, .slice A2 ls.length c2] 26)).heap.size (w.alloc (.cells #[.slice A os.length c, .slice A2 ls.length c2] 26)) W) => wornOf_any A c os (.slice A2 ls.length c2) seen W (hr.below (below2 B0 hB)) (by omega) hz.m hs)
    rw [h0] at CK
    obtain ⟨L, hL⟩ : ∃ L, (os.filter fun x => wearsB x.mark seen).map (·.num) = L := ⟨_, rfl⟩
    rw [hL] at WO
    have HL := Lib.hid (show wornS os seen = L from hL)
    clear hL
    have SE := Lib.hid (fun W => isSeen2_any seen W hs)
    have H0 := Lib.hid h0
    clear h0 h20 hr hr2 hz hs B0
    go_enter Tryz.func37, Tryz.ntmps37
    go_wp2_with fail
    refine (CK.out _ (Below.refl _ _)).mono ?_
    rintro e w1 ⟨rfl, hb1⟩
    obtain ⟨k0, k1, -⟩ := CS.out _ hb1
    have HB1 := Lib.hid hb1
    clear hb1
    go_wp2_with fail
    refine (SE.out _).mono ?_
    cases hq : isSeenB seen with
    | true =>
      have HQ := Lib.hid hq
      clear hq
      rintro e w2 ⟨rfl, hb2⟩
      have HB2 := Lib.hid (below2 HB1.out hb2)
      obtain ⟨k0, k1, -⟩ := CS.out _ HB2.out
      clear hb2
      go_wp2_with fail
      refine (WO.out _ HB2.out).mono ?_
      rintro e w3 ⟨⟨A3, c3, rfl, ho⟩, hb3⟩
      have HO := Lib.hid ho
      obtain ⟨-, -, hbw⟩ := CS.out _ (below2 HB2.out hb3)
      have HBW := Lib.hid hbw
      have hle := HB2.out.size
      clear ho hb3 hbw
      go_wp2
      go_ret2
      have e1 : wornE os ls seen = (L, 0) := by unfold wornE; rw [if_neg (fun h => h H0.out), HQ.out, HL.out]; rfl
      rw [e1]
      exact ⟨⟨A3, c3, rfl, HO.out.mono (by simp only [World.size_alloc] at hle; omega)⟩, HBW.out⟩
    | false =>
      have HQ := Lib.hid hq
      clear hq
      rintro e w2 ⟨rfl, hb2⟩
      obtain ⟨-, -, hbw⟩ := CS.out _ (below2 HB1.out hb2)
      have HBW := Lib.hid hbw
      clear hb2 hbw
      go_wp2
      go_ret2
      have e1 : wornE os ls seen = ([], 8) := by unfold wornE; rw [if_neg (fun h => h H0.out), HQ.out]; rfl
      rw [e1]
      exact ⟨ret2_nil, HBW.out⟩
  · have hd : (checkS os ls != 0) = true := by simp [h0]
    have e1 : wornE os ls seen = ([], checkS os ls) := by unfold wornE; rw [if_pos h0]
    have E1 := Lib.hid e1
    obtain ⟨r, hrr⟩ : ∃ r, checkS os ls = r := ⟨_, rfl⟩
    rw [hrr] at CK hd E1
    clear h0 hrr hr hr2 hz hs B0 e1
    go_enter Tryz.func37, Tryz.ntmps37
    go_wp2_with fail
    refine (CK.out _ (Below.refl _ _)).mono ?_
    rintro e w1 ⟨rfl, hb1⟩
    obtain ⟨k0, k1, -⟩ := CS.out _ hb1
    have HB1 := Lib.hid hb1
    clear hb1
    go_wp2_with fail
    refine (CK.out _ HB1.out).mono ?_
    rintro e w2 ⟨rfl, hb2⟩
    obtain ⟨-, -, hbw⟩ := CS.out _ (below2 HB1.out hb2)
    have HBW := Lib.hid hbw
    clear hb2 hbw
    go_wp2
    go_ret2
    rw [E1.out]
    exact ⟨ret2_nil, HBW.out⟩
set_option maxRecDepth 100000 in
set_option maxHeartbeats 4000000 in
theorem here2_any (A : Option Addr) (c : Nat) (os : List Ow) (A2 : Option Addr) (c2 : Nat) (ls : List Lg) (n : Int) (w : World) (hr : Rd eO 3 w A c os) (hr2 : Rd eL 5 w A2 c2 ls) (hz : Szs os ls) :
    Calls Tryz.prog 41 #[.agg #[.slice A os.length c, .slice A2 ls.length c2], .int .i64 n] w fun e w' => OwnR2 eI 2 1 w.heap.size w' e (hereS os ls n).1 (hereS os ls n).2 ∧ Below w.heap.size w w' := by
  have B0 := below_a1 w (.cells #[.slice A os.length c, .slice A2 ls.length c2] 26)
  have CK := Lib.hid (fun W (hB : Below (w.alloc (.cells #[.slice A os.length c, .slice A2 ls.length c2] 26)).heap.size (w.alloc (.cells #[.slice A os.length c, .slice A2 ls.length c2] 26)) W) => check2_any A c os A2 c2 ls W (hr.below (below2 B0 hB)) (hr2.below (below2 B0 hB)) hz.m hz.s)
  have CS := Lib.hid (fun W (hB : Below (w.alloc (.cells #[.slice A os.length c, .slice A2 ls.length c2] 26)).heap.size (w.alloc (.cells #[.slice A os.length c, .slice A2 ls.length c2] 26)) W) => (⟨cB hB (by go_simp), cB hB (by go_simp), below2 B0 hB⟩ : W.cell? ⟨w.heap.size, 0, none⟩ = some (.slice A os.length c) ∧ W.cell? ⟨w.heap.size, 1, none⟩ = some (.slice A2 ls.length c2) ∧ Below w.heap.size w W))
  by_cases h0 : checkS os ls = 0
  · have h20 := checkS_len h0
    have OA := Lib.hid (fun W (hB : Below (w.alloc (.cells #[.slice A os.length c, .slice A2 ls.length c2] 26)).heap.size (w.alloc (.cells #[.slice A os.length c, .slice A2 ls.length c2] 26)) W) => ownerAt_any A c os (.slice A2 ls.length c2) n W (hr.below (below2 B0 hB)))
    have HE := Lib.hid (fun W (hB : Below (w.alloc (.cells #[.slice A os.length c, .slice A2 ls.length c2] 26)).heap.size (w.alloc (.cells #[.slice A os.length c, .slice A2 ls.length c2] 26)) W) => hereOf_any (.slice A os.length c) A2 c2 ls n W (hr2.below (below2 B0 hB)) (by omega))
    rw [h0] at CK
    have H0 := Lib.hid h0
    obtain ⟨i, hi⟩ : ∃ i, ownIx os n = i := ⟨_, rfl⟩
    rw [hi] at OA
    have HI := Lib.hid hi
    clear h0 h20 hr hr2 hz B0 hi
    go_enter Tryz.func41, Tryz.ntmps41
    go_wp2_with fail
    refine (CK.out _ (Below.refl _ _)).mono ?_
    rintro e w1 ⟨rfl, hb1⟩
    obtain ⟨k0, k1, -⟩ := CS.out _ hb1
    have HB1 := Lib.hid hb1
    clear hb1
    go_wp2_with fail
    refine (OA.out _ HB1.out).mono ?_
    rintro e w2 ⟨rfl, hb2⟩
    have HB2 := Lib.hid (below2 HB1.out hb2)
    obtain ⟨k0, k1, hbw⟩ := CS.out _ HB2.out
    have HBW2 := Lib.hid hbw
    clear hb2 hbw
    by_cases hneg : i < 0
    · have hd : decide (i < 0) = true := decide_eq_true hneg
      have HN := Lib.hid hneg
      go_wp2
      go_ret2
      have e1 : hereS os ls n = ([], 5) := by unfold hereS; rw [if_neg (fun h => h H0.out), HI.out, if_pos HN.out]
      rw [e1]
      exact ⟨ret2_nil, HBW2.out⟩
    · have hd : decide (i < 0) = false := decide_eq_false hneg
      have HN := Lib.hid hneg
      go_wp2_with fail
      refine (HE.out _ HB2.out).mono ?_
      rintro e w3 ⟨⟨A3, c3, rfl, ho⟩, hb3⟩
      have HO := Lib.hid ho
      obtain ⟨-, -, hbw⟩ := CS.out _ (below2 HB2.out hb3)
      have HBW := Lib.hid hbw
      have hle := HB2.out.size
      clear ho hb3 hbw
      go_wp2
      go_ret2
      have e1 : hereS os ls n = (hereN n ls, 0) := by unfold hereS; rw [if_neg (fun h => h H0.out), HI.out, if_neg (by have := HN.out; omega)]
      rw [e1]
      exact ⟨⟨A3, c3, rfl, HO.out.mono (by simp only [World.size_alloc] at hle; omega)⟩, HBW.out⟩
  · have hd : (checkS os ls != 0) = true := by simp [h0]
    have e1 : hereS os ls n = ([], checkS os ls) := by unfold hereS; rw [if_pos h0]
    have E1 := Lib.hid e1
    obtain ⟨r, hrr⟩ : ∃ r, checkS os ls = r := ⟨_, rfl⟩
    rw [hrr] at CK hd E1
    clear h0 hrr hr hr2 hz B0 e1
    go_enter Tryz.func41, Tryz.ntmps41
    go_wp2_with fail
    refine (CK.out _ (Below.refl _ _)).mono ?_
    rintro e w1 ⟨rfl, hb1⟩
    obtain ⟨k0, k1, -⟩ := CS.out _ hb1
    have HB1 := Lib.hid hb1
    clear hb1
    go_wp2_with fail
    refine (CK.out _ HB1.out).mono ?_
    rintro e w2 ⟨rfl, hb2⟩
    obtain ⟨-, -, hbw⟩ := CS.out _ (below2 HB1.out hb2)
    have HBW := Lib.hid hbw
    clear hb2 hbw
    go_wp2
    go_ret2
    rw [E1.out]
    exact ⟨ret2_nil, HBW.out⟩
set_option maxRecDepth 100000 in
set_option maxHeartbeats 4000000 in
theorem owed2_any (A : Option Addr) (c : Nat) (os : List Ow) (A2 : Option Addr) (c2 : Nat) (ls : List Lg) (n : Int) (w : World) (hr : Rd eO 3 w A c os) (hr2 : Rd eL 5 w A2 c2 ls) (hz : Szs os ls) :
    Calls Tryz.prog 39 #[.agg #[.slice A os.length c, .slice A2 ls.length c2], .int .i64 n] w fun e w' => e = .returned (.tuple #[.int .i64 (owedS os ls n).1, .int .i64 (owedS os ls n).2]) ∧ Below w.heap.size w w' := by
  have B0 := below_a1 w (.cells #[.slice A os.length c, .slice A2 ls.length c2] 26)
  have CK := Lib.hid (fun W (hB : Below (w.alloc (.cells #[.slice A os.length c, .slice A2 ls.length c2] 26)).heap.size (w.alloc (.cells #[.slice A os.length c, .slice A2 ls.length c2] 26)) W) => check2_any A c os A2 c2 ls W (hr.below (below2 B0 hB)) (hr2.below (below2 B0 hB)) hz.m hz.s)
  have CS := Lib.hid (fun W (hB : Below (w.alloc (.cells #[.slice A os.length c, .slice A2 ls.length c2] 26)).heap.size (w.alloc (.cells #[.slice A os.length c, .slice A2 ls.length c2] 26)) W) => (⟨cB hB (by go_simp), cB hB (by go_simp), below2 B0 hB⟩ : W.cell? ⟨w.heap.size, 0, none⟩ = some (.slice A os.length c) ∧ W.cell? ⟨w.heap.size, 1, none⟩ = some (.slice A2 ls.length c2) ∧ Below w.heap.size w W))
  by_cases h0 : checkS os ls = 0
  · have h20 := checkS_len h0
    have OA := Lib.hid (fun W (hB : Below (w.alloc (.cells #[.slice A os.length c, .slice A2 ls.length c2] 26)).heap.size (w.alloc (.cells #[.slice A os.length c, .slice A2 ls.length c2] 26)) W) => ownerAt_any A c os (.slice A2 ls.length c2) n W (hr.below (below2 B0 hB)))
    have FE := Lib.hid (fun W (hB : Below (w.alloc (.cells #[.slice A os.length c, .slice A2 ls.length c2] 26)).heap.size (w.alloc (.cells #[.slice A os.length c, .slice A2 ls.length c2] 26)) W) => feesOf_any (.slice A os.length c) A2 c2 ls n W (hr2.below (below2 B0 hB)) (feet_ok h0) (by omega))
    have RO := Lib.hid (fun W (hB : Below (w.alloc (.cells #[.slice A os.length c, .slice A2 ls.length c2] 26)).heap.size (w.alloc (.cells #[.slice A os.length c, .slice A2 ls.length c2] 26)) W) => hr.below (below2 B0 hB))
    rw [h0] at CK
    have H0 := Lib.hid h0
    have hri := (checkO_ok (checkS_ok h0).2.2.2.2.2.2).1
    by_cases hneg : ownIx os n < 0
    · obtain ⟨i, hi⟩ : ∃ i, ownIx os n = i := ⟨_, rfl⟩
      rw [hi] at OA hneg
      have HI := Lib.hid hi
      clear h0 h20 hr hr2 hz B0 hi hri
      go_enter Tryz.func39, Tryz.ntmps39
      go_wp2_with fail
      refine (CK.out _ (Below.refl _ _)).mono ?_
      rintro e w1 ⟨rfl, hb1⟩
      obtain ⟨k0, k1, -⟩ := CS.out _ hb1
      have HB1 := Lib.hid hb1
      clear hb1
      go_wp2_with fail
      refine (OA.out _ HB1.out).mono ?_
      rintro e w2 ⟨rfl, hb2⟩
      have HB2 := Lib.hid (below2 HB1.out hb2)
      obtain ⟨k0, k1, hbw⟩ := CS.out _ HB2.out
      have HBW2 := Lib.hid hbw
      clear hb2 hbw
      have hd : decide (i < 0) = true := decide_eq_true hneg
      have HN := Lib.hid hneg
      go_wp2
      go_ret2
      have e1 : owedS os ls n = (0, 5) := by unfold owedS; rw [if_neg (fun h => h H0.out), HI.out, if_pos HN.out]
      rw [e1]
      exact ⟨rfl, HBW2.out⟩
    obtain ⟨i, hi, hil, hin⟩ := idxI_at (p := fun x : Ow => x.num == n) (xs := os) (show 0 ≤ ownIx os n from Int.not_lt.1 hneg)
    have hin' : os[i].num = n := by simpa using hin
    have hff := fees_at hri ls hil
    rw [hin'] at hff
    have hpd := paid_ok h0 hil
    have hfb := feeAt_bd (os := os) (feet_ok h0) (i : Int)
    have e1 : owedS os ls n = (feeAt os ls i - os[i].paid, 0) := by
      unfold owedS
      rw [if_neg (fun h => h h0), if_neg hneg, show ownIx os n = (i : Int) from hi]
      unfold paidAt
      rw [Int.toNat_natCast, List.getElem?_eq_getElem hil]
    obtain ⟨f, hf⟩ : ∃ f, feeAt os ls i = f := ⟨_, rfl⟩
    have hi2 : ownIx os n = (i : Int) := hi
    rw [hff, hf] at FE
    rw [hf] at hfb hpd e1
    rw [hi2] at OA
    have E1 := Lib.hid e1
    have hsub : IntKind.i64.wrap (f - os[i].paid) = f - os[i].paid := IntWalk.i64_in _ (by omega)
    have HSUB := Lib.hid hsub
    clear hneg hi hin hin' hff h0 hr hr2 hz B0 hri hf hi2 e1 hpd hfb hsub
    go_enter Tryz.func39, Tryz.ntmps39
    go_wp2_with fail
    refine (CK.out _ (Below.refl _ _)).mono ?_
    rintro e w1 ⟨rfl, hb1⟩
    obtain ⟨k0, k1, -⟩ := CS.out _ hb1
    have HB1 := Lib.hid hb1
    clear hb1
    go_wp2_with fail
    refine (OA.out _ HB1.out).mono ?_
    rintro e w3 ⟨rfl, hb2⟩
    have HB2 := Lib.hid (below2 HB1.out hb2)
    obtain ⟨k03, k13, -⟩ := CS.out _ HB2.out
    obtain ⟨b, off, y, hy, rfl, hb, d0, d1, k23⟩ := (RO.out _ HB2.out).atO hil
    rw [← hy] at E1 HSUB
    have OW := Lib.hid (fun W (hB : Below w3.heap.size w3 W) => OA.out W (below2 HB2.out hB))
    have FE2 := FE
    clear FE
    have FE := Lib.hid (fun W (hB : Below w3.heap.size w3 W) => FE2.out W (below2 HB2.out hB))
    have hsub := HSUB.out
    clear hb2 d0 d1 hy OA FE2
    obtain ⟨num, mark, paid⟩ := y
    simp only at k23 E1 hsub
    have hii : (i : Int) < (os.length : Int) := by omega
    have hi0 : ¬ (i : Int) < 0 := by omega
    have hd : decide ((i : Int) < 0) = false := decide_eq_false hi0
    go_wp2_with fail
    refine wp_region_held_drew (S := fun W => Below w3.heap.size w3 W) (by kernel_rfl) ?_ (fun hHeld => ?_)
    · exact belowD (Below.refl _ _)
    refine wpAnyH_take (i := 0) (v := ?_) rfl (by kernel_rfl) (by kernel_rfl) (by kernel_rfl) (fun _ _ _ h => h) (Or.inl ⟨by rfl, ?_⟩) hHeld ?_
    rotate_left 1
    · (intro w hSw; (try dsimp only at hSw); have u0 := cB hSw k03; have u1 := cB hSw k13; have u2 := cB hSw k23; go_simp; try with_reducible rfl)
    try simp only [List.getElem_toArray, List.getElem_cons_zero, Act.put, List.setIfInBounds_toArray, List.set_cons_zero, List.set_cons_succ]
    refine wpAnyH_take (i := 1) (v := ?_) rfl (by kernel_rfl) (by kernel_rfl) (by kernel_rfl) (fun _ _ _ h => h) (Or.inl ⟨by rfl, ?_⟩) hHeld ?_
    rotate_left 1
    · (intro w hSw; (try dsimp only at hSw); have u0 := cB hSw k03; have u1 := cB hSw k13; have u2 := cB hSw k23; go_simp; try with_reducible rfl)
    try simp only [List.getElem_toArray, List.getElem_cons_succ, List.getElem_cons_zero, Act.put, List.setIfInBounds_toArray, List.set_cons_zero, List.set_cons_succ]
    refine wpAnyH_take (i := 3) (v := ?_) rfl (by kernel_rfl) (by kernel_rfl) (by kernel_rfl) (fun _ _ _ h => h) (Or.inl ⟨by rfl, ?_⟩) hHeld ?_
    rotate_left 1
    · (intro w hSw; (try dsimp only at hSw); have u0 := cB hSw k03; have u1 := cB hSw k13; have u2 := cB hSw k23; go_simp; try with_reducible rfl)
    try simp only [List.getElem_toArray, List.getElem_cons_succ, List.getElem_cons_zero, Act.put, List.setIfInBounds_toArray, List.set_cons_zero, List.set_cons_succ]
    refine wpAnyH_take (i := 4) (v := ?_) rfl (by kernel_rfl) (by kernel_rfl) (by kernel_rfl) (fun _ _ _ h => h) (Or.inl ⟨by rfl, ?_⟩) hHeld ?_
    rotate_left 1
    · (intro w hSw; (try dsimp only at hSw); have u0 := cB hSw k03; have u1 := cB hSw k13; have u2 := cB hSw k23; go_simp; try with_reducible rfl)
    try simp only [List.getElem_toArray, List.getElem_cons_succ, List.getElem_cons_zero, Act.put, List.setIfInBounds_toArray, List.set_cons_zero, List.set_cons_succ]
    refine wpAnyH_take (i := 5) (v := ?_) rfl (by kernel_rfl) (by kernel_rfl) (by kernel_rfl) (fun _ _ _ h => h) (Or.inl ⟨by rfl, ?_⟩) hHeld ?_
    rotate_left 1
    · (intro w hSw; (try dsimp only at hSw); have u0 := cB hSw k03; have u1 := cB hSw k13; have u2 := cB hSw k23; go_simp; try with_reducible rfl)
    try simp only [List.getElem_toArray, List.getElem_cons_succ, List.getElem_cons_zero, Act.put, List.setIfInBounds_toArray, List.set_cons_zero, List.set_cons_succ]
    refine wpAnyH_take (i := 6) (v := ?_) rfl (by kernel_rfl) (by kernel_rfl) (by kernel_rfl) (fun _ _ _ h => h) (Or.inl ⟨by rfl, ?_⟩) hHeld ?_
    rotate_left 1
    · (intro w hSw; (try dsimp only at hSw); have u0 := cB hSw k03; have u1 := cB hSw k13; have u2 := cB hSw k23; go_simp; try with_reducible rfl)
    try simp only [List.getElem_toArray, List.getElem_cons_succ, List.getElem_cons_zero, Act.put, List.setIfInBounds_toArray, List.set_cons_zero, List.set_cons_succ]
    refine wpAnyH_ready (rs := [2]) (by kernel_rfl) (by simp) ?_
    refine AllReadyH.cons rfl (fun K hK => ?_) AllReadyH.nil
    go_simp
    go_at_call 92
    refine (FE.out _ hHeld).mono ?_
    rintro e wq ⟨rfl, hbq⟩
    go_wp2_with fail
    refine hK.out _ _ ?_ (fun hHeld => ?_)
    · exact below2 hHeld hbq
    clear hK K
    try simp only [List.getElem_toArray, List.getElem_cons_succ, List.getElem_cons_zero, Act.put, List.setIfInBounds_toArray, List.set_cons_zero, List.set_cons_succ]
    refine wpAnyH_ready (rs := [7]) (by kernel_rfl) (by simp) ?_
    refine AllReadyH.cons rfl (fun K hK => ?_) AllReadyH.nil
    go_simp
    go_at_call 91
    refine (OW.out _ hHeld).mono ?_
    rintro e wq ⟨rfl, hbq⟩
    go_wp2_with fail
    refine hK.out _ _ ?_ (fun hHeld => ?_)
    · exact below2 hHeld hbq
    clear hK K
    try simp only [List.getElem_toArray, List.getElem_cons_succ, List.getElem_cons_zero, Act.put, List.setIfInBounds_toArray, List.set_cons_zero, List.set_cons_succ]
    refine wpAnyH_take (i := 8) (v := ?_) rfl (by kernel_rfl) (by kernel_rfl) (by kernel_rfl) (fun _ _ _ h => h) (Or.inl ⟨by rfl, ?_⟩) hHeld ?_
    rotate_left 1
    · (intro w hSw; (try dsimp only at hSw); have u0 := cB hSw k03; have u1 := cB hSw k13; have u2 := cB hSw k23; go_simp; try with_reducible rfl)
    try simp only [List.getElem_toArray, List.getElem_cons_succ, List.getElem_cons_zero, Act.put, List.setIfInBounds_toArray, List.set_cons_zero, List.set_cons_succ]
    refine wpAnyH_take (i := 9) (v := ?_) rfl (by kernel_rfl) (by kernel_rfl) (by kernel_rfl) (fun _ _ _ h => h) (Or.inl ⟨by rfl, ?_⟩) hHeld ?_
    rotate_left 1
    · (intro w hSw; (try dsimp only at hSw); have u0 := cB hSw k03; have u1 := cB hSw k13; have u2 := cB hSw k23; go_simp; try with_reducible rfl)
    try simp only [List.getElem_toArray, List.getElem_cons_succ, List.getElem_cons_zero, Act.put, List.setIfInBounds_toArray, List.set_cons_zero, List.set_cons_succ]
    refine wpAnyH_take (i := 10) (v := ?_) rfl (by kernel_rfl) (by kernel_rfl) (by kernel_rfl) (fun _ _ _ h => h) (Or.inl ⟨by rfl, ?_⟩) hHeld ?_
    rotate_left 1
    · (intro w hSw; (try dsimp only at hSw); have u0 := cB hSw k03; have u1 := cB hSw k13; have u2 := cB hSw k23; go_simp; try with_reducible rfl)
    try simp only [List.getElem_toArray, List.getElem_cons_succ, List.getElem_cons_zero, Act.put, List.setIfInBounds_toArray, List.set_cons_zero, List.set_cons_succ]
    refine wpAnyH_take (i := 11) (v := ?_) rfl (by kernel_rfl) (by kernel_rfl) (by kernel_rfl) (fun _ _ _ h => h) (Or.inl ⟨by rfl, ?_⟩) hHeld ?_
    rotate_left 1
    · (intro w hSw; (try dsimp only at hSw); have u0 := cB hSw k03; have u1 := cB hSw k13; have u2 := cB hSw k23; go_simp; try with_reducible rfl)
    try simp only [List.getElem_toArray, List.getElem_cons_succ, List.getElem_cons_zero, Act.put, List.setIfInBounds_toArray, List.set_cons_zero, List.set_cons_succ]
    refine wpAnyH_take (i := 12) (v := ?_) rfl (by kernel_rfl) (by kernel_rfl) (by kernel_rfl) (fun _ _ _ h => h) (Or.inl ⟨by rfl, ?_⟩) hHeld ?_
    rotate_left 1
    · (intro w hSw; (try dsimp only at hSw); have u0 := cB hSw k03; have u1 := cB hSw k13; have u2 := cB hSw k23; go_simp; try with_reducible rfl)
    try simp only [List.getElem_toArray, List.getElem_cons_succ, List.getElem_cons_zero, Act.put, List.setIfInBounds_toArray, List.set_cons_zero, List.set_cons_succ]
    refine wpAnyH_take (i := 13) (v := ?_) rfl (by kernel_rfl) (by kernel_rfl) (by kernel_rfl) (fun _ _ _ h => h) (Or.inl ⟨by rfl, ?_⟩) hHeld ?_
    rotate_left 1
    · (intro w hSw; (try dsimp only at hSw); have u0 := cB hSw k03; have u1 := cB hSw k13; have u2 := cB hSw k23; go_simp; try with_reducible rfl)
    try simp only [List.getElem_toArray, List.getElem_cons_succ, List.getElem_cons_zero, Act.put, List.setIfInBounds_toArray, List.set_cons_zero, List.set_cons_succ]
    refine wpAnyH_done (by kernel_rfl) ?_ _
    rotate_left 1
    all_goals
      have BX := (CS.out _ (below2 HB2.out (by assumption))).2.2
      go_wp2
      go_ret2
      rw [E1.out]
      exact ⟨rfl, BX⟩
  · have hd : (checkS os ls != 0) = true := by simp [h0]
    have e1 : owedS os ls n = (0, checkS os ls) := by unfold owedS; rw [if_pos h0]
    have E1 := Lib.hid e1
    obtain ⟨r, hrr⟩ : ∃ r, checkS os ls = r := ⟨_, rfl⟩
    rw [hrr] at CK hd E1
    clear h0 hrr hr hr2 hz B0 e1
    go_enter Tryz.func39, Tryz.ntmps39
    go_wp2_with fail
    refine (CK.out _ (Below.refl _ _)).mono ?_
    rintro e w1 ⟨rfl, hb1⟩
    obtain ⟨k0, k1, -⟩ := CS.out _ hb1
    have HB1 := Lib.hid hb1
    clear hb1
    go_wp2_with fail
    refine (CK.out _ HB1.out).mono ?_
    rintro e w2 ⟨rfl, hb2⟩
    obtain ⟨-, -, hbw⟩ := CS.out _ (below2 HB1.out hb2)
    have HBW := Lib.hid hbw
    clear hb2 hbw
    go_wp2
    go_ret2
    rw [E1.out]
    exact ⟨rfl, HBW.out⟩
end Go.Proofs.YtcnpbcgkhhebaaaGreatDoor
/- Is a season great? -/
namespace Go.Proofs.YtcnpbcgkhhebaaaGreatDoor
open Go.RowKit

def mxN (l : List Nat) (n : Nat) : Nat := l.foldl max n
theorem mxN_ge (l : List Nat) (n : Nat) : n ≤ mxN l n ∧ ∀ x ∈ l, x ≤ mxN l n := by
  induction l generalizing n with
  | nil => exact ⟨Nat.le_refl _, fun x hx => by cases hx⟩
  | cons a l ih =>
    obtain ⟨h1, h2⟩ := ih (max n a)
    have e : mxN (a :: l) n = mxN l (max n a) := rfl
    rw [e]
    refine ⟨by omega, fun x hx => ?_⟩
    rcases List.mem_cons.1 hx with rfl | hx
    · omega
    · exact h2 x hx
theorem mxN_snoc {l : List Nat} {k : Nat} (hk : k < l.length) (n : Nat) : mxN (l.take (k + 1)) n = max (mxN (l.take k) n) l[k] := by
  unfold mxN
  rw [List.take_succ_eq_append_getElem hk, List.foldl_append]
  rfl
def markN (os : List Ow) : List Nat := os.map (·.mark.size)
def seenN (ls : List Lg) : List Nat := ls.map (·.seen.size)
def topN (os : List Ow) (ls : List Lg) : Nat := mxN ((seenN ls).take 110) (mxN ((markN os).take 30) 0)
def greatS (os : List Ow) (ls : List Lg) : Bool := decide (os.length > 30) || decide (ls.length > 110) || decide (topN os ls > 20)
theorem not_great {os : List Ow} {ls : List Lg} (h : greatS os ls = false) : os.length ≤ 30 ∧ ls.length ≤ 110 ∧ (∀ x ∈ os, x.mark.size ≤ 20) ∧ ∀ l ∈ ls, l.seen.size ≤ 20 := by
  unfold greatS topN at h
  simp only [Bool.or_eq_false_iff, decide_eq_false_iff_not] at h
  obtain ⟨⟨h1, h2⟩, h3⟩ := h
  rw [List.take_of_length_le (by unfold seenN; rw [List.length_map]; omega), List.take_of_length_le (by unfold markN; rw [List.length_map]; omega)] at h3
  have a := mxN_ge (markN os) 0
  have b := mxN_ge (seenN ls) (mxN (markN os) 0)
  refine ⟨by omega, by omega, fun x hx => ?_, fun l hl => ?_⟩
  · have := a.2 x.mark.size (List.mem_map_of_mem hx)
    omega
  · have := b.2 l.seen.size (List.mem_map_of_mem hl)
    omega
theorem g_t {a b c : Nat} (h : a > 30 ∨ b > 110 ∨ c > 20) : Ending.returned (.bool true) = Ending.returned (.bool (decide (a > 30) || decide (b > 110) || decide (c > 20))) := by
  congr 2
  rw [eq_comm, Bool.or_eq_true, Bool.or_eq_true, decide_eq_true_eq, decide_eq_true_eq, decide_eq_true_eq]
  omega
theorem g_d {a b c : Nat} (h : ¬ a > 30) (h2 : ¬ b > 110) : Ending.returned (.bool (decide ((c : Int) > 20))) = Ending.returned (.bool (decide (a > 30) || decide (b > 110) || decide (c > 20))) := by
  rw [decide_eq_false h, decide_eq_false h2]
  congr 2
  exact decide_eq_decide.2 (by omega)
theorem g_e (a b c : Nat) : Ending.returned (.bool (decide (30 < (a : Int)) || decide (110 < (b : Int)) || decide (20 < (c : Int)))) = Ending.returned (.bool (decide (a > 30) || decide (b > 110) || decide (c > 20))) := by
  congr 2
  congr 1
  · congr 1
    · exact decide_eq_decide.2 (by omega)
    · exact decide_eq_decide.2 (by omega)
  · exact decide_eq_decide.2 (by omega)
set_option maxRecDepth 100000 in
set_option maxHeartbeats 4000000 in
theorem great_any (A : Option Addr) (c : Nat) (os : List Ow) (A2 : Option Addr) (c2 : Nat) (ls : List Lg) (w : World) (hr : Rd eO 3 w A c os) (hr2 : Rd eL 5 w A2 c2 ls)
    (hm : ∀ x ∈ os, x.mark.size ≤ 9223372036854775807) (hs : ∀ l ∈ ls, l.seen.size ≤ 9223372036854775807) :
    Calls Tryz.prog 29 #[.agg #[.slice A os.length c, .slice A2 ls.length c2]] w fun e w' => e = .returned (.bool (greatS os ls)) ∧ Below w.heap.size w w' := by
  have HR := Lib.hid (hr.below (below_a1 w (.cells #[.slice A os.length c, .slice A2 ls.length c2] 26)))
  have HR2 := Lib.hid (hr2.below (below_a1 w (.cells #[.slice A os.length c, .slice A2 ls.length c2] 26)))
  have HM := Lib.hid hm
  have HS := Lib.hid hs
  have hlen := hr.len
  have hlen2 := hr2.len
  clear hr hr2 hm hs
  go_enter Tryz.func29, Tryz.ntmps29
  go_wp2
  go_loopg [3, 4] 30 (fun gg s3 s4 wr => ∃ k n : Nat, k ≤ os.length ∧ k ≤ 30 ∧ 30 - k ≤ gg ∧ s4 = .int .i64 k ∧ s3 = .int .i64 n ∧ n ≤ 9223372036854775807 ∧ Hid (Below (w.alloc (.cells #[.slice A os.length c, .slice A2 ls.length c2] 26)).heap.size (w.alloc (.cells #[.slice A os.length c, .slice A2 ls.length c2] 26)) wr) ∧ Hid (n = mxN ((markN os).take k) 0))
  case atStart => exact ⟨0, 0, Nat.zero_le _, by omega, by omega, rfl, rfl, by omega, Below.refl _ _, rfl⟩
  case round =>
    obtain ⟨k, n, hk, hk30, hg, rfl, rfl, hn, BW, NN⟩ := hrel
    have k0 : wr.cell? ⟨w.heap.size, 0, none⟩ = some (.slice A os.length c) := cB BW.out (by go_simp)
    have k1 : wr.cell? ⟨w.heap.size, 1, none⟩ = some (.slice A2 ls.length c2) := cB BW.out (by go_simp)
    by_cases hlt : k < os.length
    · have hli : (k : Int) < (os.length : Int) := by omega
      by_cases h30 : k < 30
      · have h30i : (k : Int) < 30 := by omega
        obtain ⟨b, off, x, hx, rfl, hb, -, x1, -⟩ := (HR.out.below BW.out).atO hlt
        have hxs := HM.out x (by rw [hx]; exact List.getElem_mem hlt)
        have hnn : max n x.mark.size = mxN ((markN os).take (k + 1)) 0 := by
          rw [mxN_snoc (by unfold markN; rw [List.length_map]; exact hlt), ← NN.out]
          unfold markN
          rw [List.getElem_map, hx]
        have HNN := Lib.hid hnn
        clear hnn hx
        go_wp2
        go_roundg (30 - (k + 1))
        case measure => omega
        case rel => exact ⟨k + 1, max n x.mark.size, by omega, by omega, by omega, by go_num, by congr 1; omega, by omega, BW.out, HNN.out⟩
      · have h30i : ¬ (k : Int) < 30 := by omega
        have NF := Lib.hid (show n = mxN ((markN os).take 30) 0 by rw [NN.out, show k = 30 by omega])
        go_wp2
        go_loopg [3, 5] 110 (fun gg s3 s5 wr => ∃ j m : Nat, j ≤ ls.length ∧ j ≤ 110 ∧ 110 - j ≤ gg ∧ s5 = .int .i64 j ∧ s3 = .int .i64 m ∧ m ≤ 9223372036854775807 ∧ Hid (Below (w.alloc (.cells #[.slice A os.length c, .slice A2 ls.length c2] 26)).heap.size (w.alloc (.cells #[.slice A os.length c, .slice A2 ls.length c2] 26)) wr) ∧ Hid (m = mxN ((seenN ls).take j) (mxN ((markN os).take 30) 0)))
        case atStart => exact ⟨0, n, Nat.zero_le _, by omega, by omega, rfl, rfl, hn, BW.out, NF.out⟩
        case round =>
          obtain ⟨j, m, hj, hj110, hg2, rfl, rfl, hm, BV, MM⟩ := hrel
          have q0 : wr.cell? ⟨w.heap.size, 0, none⟩ = some (.slice A os.length c) := cB BV.out (by go_simp)
          have q1 : wr.cell? ⟨w.heap.size, 1, none⟩ = some (.slice A2 ls.length c2) := cB BV.out (by go_simp)
          have HFIN : ∀ (r : Nat), j = r → (r = ls.length ∨ 110 ≤ r) → Hid (greatS os ls = (decide (os.length > 30) || decide (ls.length > 110) || decide (m > 20))) := by
            intro r hr0 hr1
            subst hr0
            refine Lib.hid ?_
            have : m = topN os ls := by
              rw [MM.out]
              unfold topN
              congr 1
              rcases hr1 with h | h
              · rw [List.take_of_length_le (by unfold seenN; rw [List.length_map]; omega), List.take_of_length_le (by unfold seenN; rw [List.length_map]; omega)]
              · rw [show j = 110 by omega]
            rw [this]
            rfl
          by_cases hjl : j < ls.length
          · have hjli : (j : Int) < (ls.length : Int) := by omega
            by_cases h110 : j < 110
            · have h110i : (j : Int) < 110 := by omega
              clear HFIN
              obtain ⟨b, off, y, hy, rfl, hb, -, y1, -⟩ := (HR2.out.below BV.out).atL hjl
              have hys := HS.out y (by rw [hy]; exact List.getElem_mem hjl)
              have hmm : max m y.seen.size = mxN ((seenN ls).take (j + 1)) (mxN ((markN os).take 30) 0) := by
                rw [mxN_snoc (by unfold seenN; rw [List.length_map]; exact hjl), ← MM.out]
                unfold seenN
                rw [List.getElem_map, hy]
              have HMM := Lib.hid hmm
              clear hmm hy
              go_wp2
              go_roundg (110 - (j + 1))
              case measure => omega
              case rel => exact ⟨j + 1, max m y.seen.size, by omega, by omega, by omega, by go_num, by congr 1; omega, by omega, BV.out, HMM.out⟩
            · have h110i : ¬ (j : Int) < 110 := by omega
              have HG := HFIN j rfl (Or.inr (by omega))
              clear HFIN
              go_wp2
              all_goals
                go_ret
                refine ⟨?_, below2 (below_a1 _ _) BV.out⟩
                rw [HG.out]
                first
                | exact g_e _ _ _
                | (refine g_t ?_; omega)
                | (refine g_d ?_ ?_ <;> omega)
          · have hjli : ¬ (j : Int) < (ls.length : Int) := by omega
            have HG := HFIN j rfl (Or.inl (by omega))
            clear HFIN
            go_wp2
            all_goals
              go_ret
              refine ⟨?_, below2 (below_a1 _ _) BV.out⟩
              rw [HG.out]
              first
              | exact g_e _ _ _
              | (refine g_t ?_; omega)
              | (refine g_d ?_ ?_ <;> omega)
    · have hli : ¬ (k : Int) < (os.length : Int) := by omega
      have NF := Lib.hid (show n = mxN ((markN os).take 30) 0 by rw [NN.out, List.take_of_length_le (by unfold markN; rw [List.length_map]; omega), List.take_of_length_le (by unfold markN; rw [List.length_map]; omega)])
      go_wp2
      go_loopg [3, 5] 110 (fun gg s3 s5 wr => ∃ j m : Nat, j ≤ ls.length ∧ j ≤ 110 ∧ 110 - j ≤ gg ∧ s5 = .int .i64 j ∧ s3 = .int .i64 m ∧ m ≤ 9223372036854775807 ∧ Hid (Below (w.alloc (.cells #[.slice A os.length c, .slice A2 ls.length c2] 26)).heap.size (w.alloc (.cells #[.slice A os.length c, .slice A2 ls.length c2] 26)) wr) ∧ Hid (m = mxN ((seenN ls).take j) (mxN ((markN os).take 30) 0)))
      case atStart => exact ⟨0, n, Nat.zero_le _, by omega, by omega, rfl, rfl, hn, BW.out, NF.out⟩
      case round =>
        obtain ⟨j, m, hj, hj110, hg2, rfl, rfl, hm, BV, MM⟩ := hrel
        have q0 : wr.cell? ⟨w.heap.size, 0, none⟩ = some (.slice A os.length c) := cB BV.out (by go_simp)
        have q1 : wr.cell? ⟨w.heap.size, 1, none⟩ = some (.slice A2 ls.length c2) := cB BV.out (by go_simp)
        have HFIN : ∀ (r : Nat), j = r → (r = ls.length ∨ 110 ≤ r) → Hid (greatS os ls = (decide (os.length > 30) || decide (ls.length > 110) || decide (m > 20))) := by
          intro r hr0 hr1
          subst hr0
          refine Lib.hid ?_
          have : m = topN os ls := by
            rw [MM.out]
            unfold topN
            congr 1
            rcases hr1 with h | h
            · rw [List.take_of_length_le (by unfold seenN; rw [List.length_map]; omega), List.take_of_length_le (by unfold seenN; rw [List.length_map]; omega)]
            · rw [show j = 110 by omega]
          rw [this]
          rfl
        by_cases hjl : j < ls.length
        · have hjli : (j : Int) < (ls.length : Int) := by omega
          by_cases h110 : j < 110
          · have h110i : (j : Int) < 110 := by omega
            clear HFIN
            obtain ⟨b, off, y, hy, rfl, hb, -, y1, -⟩ := (HR2.out.below BV.out).atL hjl
            have hys := HS.out y (by rw [hy]; exact List.getElem_mem hjl)
            have hmm : max m y.seen.size = mxN ((seenN ls).take (j + 1)) (mxN ((markN os).take 30) 0) := by
              rw [mxN_snoc (by unfold seenN; rw [List.length_map]; exact hjl), ← MM.out]
              unfold seenN
              rw [List.getElem_map, hy]
            have HMM := Lib.hid hmm
            clear hmm hy
            go_wp2
            go_roundg (110 - (j + 1))
            case measure => omega
            case rel => exact ⟨j + 1, max m y.seen.size, by omega, by omega, by omega, by go_num, by congr 1; omega, by omega, BV.out, HMM.out⟩
          · have h110i : ¬ (j : Int) < 110 := by omega
            have HG := HFIN j rfl (Or.inr (by omega))
            clear HFIN
            go_wp2
            all_goals
              go_ret
              refine ⟨?_, below2 (below_a1 _ _) BV.out⟩
              rw [HG.out]
              first
              | exact g_e _ _ _
              | (refine g_t ?_; omega)
              | (refine g_d ?_ ?_ <;> omega)
        · have hjli : ¬ (j : Int) < (ls.length : Int) := by omega
          have HG := HFIN j rfl (Or.inl (by omega))
          clear HFIN
          go_wp2
          all_goals
            go_ret
            refine ⟨?_, below2 (below_a1 _ _) BV.out⟩
            rw [HG.out]
            first
            | exact g_e _ _ _
            | (refine g_t ?_; omega)
            | (refine g_d ?_ ?_ <;> omega)
end Go.Proofs.YtcnpbcgkhhebaaaGreatDoor
/- SeasonOwes: the two answer alike. -/
namespace Go.Proofs.YtcnpbcgkhhebaaaGreatDoor
open Go.RowKit

set_option maxRecDepth 100000 in
set_option maxHeartbeats 4000000 in
theorem owes_any (A : Option Addr) (c : Nat) (os : List Ow) (A2 : Option Addr) (c2 : Nat) (ls : List Lg) (seen : ByteArray) (n : Int) (w : World) (hr : Rd eO 3 w A c os) (hr2 : Rd eL 5 w A2 c2 ls)
    (hm : ∀ x ∈ os, x.mark.size ≤ 9223372036854775807) (hs : ∀ l ∈ ls, l.seen.size ≤ 9223372036854775807) (hz : seen.size ≤ 9223372036854775807) (hL : LaidW w) :
    Calls Tryz.prog 6 #[.agg #[.slice A os.length c, .slice A2 ls.length c2], .string seen, .int .i64 n] w fun e w' => e = .returned (.bool true) ∧ Below w.heap.size w w' := by
  have B0 := below_a1 w (.cells #[.slice A os.length c, .slice A2 ls.length c2] 26)
  have R1 := Lib.hid (hr.below B0)
  have R2 := Lib.hid (hr2.below B0)
  have HL := Lib.hid (hL.below B0)
  have BB := Lib.hid B0
  have k0 : (w.alloc (.cells #[.slice A os.length c, .slice A2 ls.length c2] 26)).cell? ⟨w.heap.size, 0, none⟩ = some (.slice A os.length c) := by go_simp
  have k1 : (w.alloc (.cells #[.slice A os.length c, .slice A2 ls.length c2] 26)).cell? ⟨w.heap.size, 1, none⟩ = some (.slice A2 ls.length c2) := by go_simp
  have HM := Lib.hid hm
  have HS := Lib.hid hs
  have HZ := Lib.hid hz
  clear hr hr2 hL B0 hm hs hz
  go_enter Tryz.func6, Tryz.ntmps6
  go_wp2_with fail
  refine (great_any A c os A2 c2 ls _ R1.out R2.out HM.out HS.out).mono ?_
  rintro e w2 ⟨rfl, hb⟩
  replace HL := Lib.hid (HL.out.below hb)
  replace BB := Lib.hid (below2 BB.out hb)
  replace R1 := Lib.hid (R1.out.below hb)
  replace R2 := Lib.hid (R2.out.below hb)
  replace k0 := cB hb k0
  replace k1 := cB hb k1
  clear hb
  cases hg : greatS os ls with
  | true =>
    go_wp2_with fail
    refine (works_any _ HL.out).mono ?_
    rintro e wz ⟨rfl, hb⟩
    replace BB := Lib.hid (below2 BB.out hb)
    clear hb
    go_wp2
    go_ret
    exact ⟨rfl, BB.out⟩
  | false =>
    by_cases hz : (seen.size : Int) > 30
    · have _z : True := trivial
      go_wp2_with fail
      refine (works_any _ HL.out).mono ?_
      rintro e wz ⟨rfl, hb⟩
      replace BB := Lib.hid (below2 BB.out hb)
      clear hb
      go_wp2
      go_ret
      exact ⟨rfl, BB.out⟩
    · have _z : True := trivial
      have ZZ := Lib.hid (show Szs os ls from ⟨HM.out, HS.out⟩)
      clear hg
      obtain ⟨ea, ha⟩ : ∃ x, wornE os ls seen = x := ⟨_, rfl⟩
      obtain ⟨eb, hb⟩ : ∃ x, owedS os ls n = x := ⟨_, rfl⟩
      obtain ⟨ec, hc⟩ : ∃ x, hereS os ls n = x := ⟨_, rfl⟩
      obtain ⟨a1, a2⟩ := ea
      obtain ⟨b1, b2⟩ := eb
      obtain ⟨d1, d2⟩ := ec
      have hwa := fun (W : World) (h : Rd eO 3 W A c os) (h2 : Rd eL 5 W A2 c2 ls) => wornE_any A c os A2 c2 ls seen W h h2
      have hwb := fun (W : World) (h : Rd eO 3 W A c os) (h2 : Rd eL 5 W A2 c2 ls) => worn2E_any A c os A2 c2 ls seen W h h2 ZZ.out HZ.out
      have hoa := fun (W : World) (h : Rd eO 3 W A c os) (h2 : Rd eL 5 W A2 c2 ls) => owed_any A c os A2 c2 ls n W h h2
      have hob := fun (W : World) (h : Rd eO 3 W A c os) (h2 : Rd eL 5 W A2 c2 ls) => owed2_any A c os A2 c2 ls n W h h2 ZZ.out
      have hha := fun (W : World) (h : Rd eO 3 W A c os) (h2 : Rd eL 5 W A2 c2 ls) => here_all A c os A2 c2 ls n W h h2
      have hhb := fun (W : World) (h : Rd eO 3 W A c os) (h2 : Rd eL 5 W A2 c2 ls) => here2_any A c os A2 c2 ls n W h h2 ZZ.out
      rw [ha] at hwa hwb
      rw [hb] at hoa hob
      rw [hc] at hha hhb
      have WA := Lib.hid hwa
      have WB := Lib.hid hwb
      have OA := Lib.hid hoa
      have OB := Lib.hid hob
      have HA := Lib.hid hha
      have HB := Lib.hid hhb
      clear hwa hwb hoa hob hha hhb ha hb hc
      go_wp2_with fail
      refine (WA.out _ R1.out R2.out).mono ?_
      rintro e w3 ⟨⟨P1, p1, rfl, ho⟩, hb⟩
      replace HL := Lib.hid (HL.out.below hb)
      replace BB := Lib.hid (below2 BB.out hb)
      replace R1 := Lib.hid (R1.out.below hb)
      replace R2 := Lib.hid (R2.out.below hb)
      replace k0 := cB hb k0
      replace k1 := cB hb k1
      clear hb
      have L1 := Lib.hid (ho.rs encI)
      clear ho
      go_wp2_with fail
      refine (WB.out _ R1.out R2.out).mono ?_
      rintro e w4 ⟨⟨P2, p2, rfl, ho⟩, hb⟩
      replace HL := Lib.hid (HL.out.below hb)
      replace BB := Lib.hid (below2 BB.out hb)
      replace R1 := Lib.hid (R1.out.below hb)
      replace R2 := Lib.hid (R2.out.below hb)
      replace k0 := cB hb k0
      replace k1 := cB hb k1
      replace L1 := Lib.hid (L1.out.below hb)
      clear hb
      have L2 := Lib.hid (ho.rs encI)
      clear ho
      go_wp2_with fail
      refine (OA.out _ R1.out R2.out).mono ?_
      rintro e w5 ⟨rfl, hb⟩
      replace HL := Lib.hid (HL.out.below hb)
      replace BB := Lib.hid (below2 BB.out hb)
      replace R1 := Lib.hid (R1.out.below hb)
      replace R2 := Lib.hid (R2.out.below hb)
      replace k0 := cB hb k0
      replace k1 := cB hb k1
      replace L1 := Lib.hid (L1.out.below hb)
      replace L2 := Lib.hid (L2.out.below hb)
      clear hb
      go_wp2_with fail
      refine (OB.out _ R1.out R2.out).mono ?_
      rintro e w6 ⟨rfl, hb⟩
      replace HL := Lib.hid (HL.out.below hb)
      replace BB := Lib.hid (below2 BB.out hb)
      replace R1 := Lib.hid (R1.out.below hb)
      replace R2 := Lib.hid (R2.out.below hb)
      replace k0 := cB hb k0
      replace k1 := cB hb k1
      replace L1 := Lib.hid (L1.out.below hb)
      replace L2 := Lib.hid (L2.out.below hb)
      clear hb
      go_wp2_with fail
      refine (HA.out _ R1.out R2.out).mono ?_
      rintro e w7 ⟨⟨P3, p3, rfl, ho⟩, hb⟩
      replace HL := Lib.hid (HL.out.below hb)
      replace BB := Lib.hid (below2 BB.out hb)
      replace R1 := Lib.hid (R1.out.below hb)
      replace R2 := Lib.hid (R2.out.below hb)
      replace k0 := cB hb k0
      replace k1 := cB hb k1
      replace L1 := Lib.hid (L1.out.below hb)
      replace L2 := Lib.hid (L2.out.below hb)
      clear hb
      have L3 := Lib.hid (ho.rs encI)
      clear ho
      go_wp2_with fail
      refine (HB.out _ R1.out R2.out).mono ?_
      rintro e w8 ⟨⟨P4, p4, rfl, ho⟩, hb⟩
      replace HL := Lib.hid (HL.out.below hb)
      replace BB := Lib.hid (below2 BB.out hb)
      replace R1 := Lib.hid (R1.out.below hb)
      replace R2 := Lib.hid (R2.out.below hb)
      replace k0 := cB hb k0
      replace k1 := cB hb k1
      replace L1 := Lib.hid (L1.out.below hb)
      replace L2 := Lib.hid (L2.out.below hb)
      replace L3 := Lib.hid (L3.out.below hb)
      clear hb
      have L4 := Lib.hid (ho.rs encI)
      clear ho
      go_wp2_with fail
      refine (longs_any _ _ _ _ a1 _ L1.out L2.out).mono ?_
      rintro e w9 ⟨rfl, hb⟩
      replace HL := Lib.hid (HL.out.below hb)
      replace BB := Lib.hid (below2 BB.out hb)
      replace R1 := Lib.hid (R1.out.below hb)
      replace R2 := Lib.hid (R2.out.below hb)
      replace k0 := cB hb k0
      replace k1 := cB hb k1
      replace L1 := Lib.hid (L1.out.below hb)
      replace L2 := Lib.hid (L2.out.below hb)
      replace L3 := Lib.hid (L3.out.below hb)
      replace L4 := Lib.hid (L4.out.below hb)
      clear hb
      go_wp2_with fail
      refine (longs_any _ _ _ _ d1 _ L3.out L4.out).mono ?_
      rintro e w10 ⟨rfl, hb⟩
      replace HL := Lib.hid (HL.out.below hb)
      replace BB := Lib.hid (below2 BB.out hb)
      replace R1 := Lib.hid (R1.out.below hb)
      replace R2 := Lib.hid (R2.out.below hb)
      replace k0 := cB hb k0
      replace k1 := cB hb k1
      replace L1 := Lib.hid (L1.out.below hb)
      replace L2 := Lib.hid (L2.out.below hb)
      replace L3 := Lib.hid (L3.out.below hb)
      replace L4 := Lib.hid (L4.out.below hb)
      clear hb
      go_wp2_with fail
      refine (works_any _ HL.out).mono ?_
      rintro e wz ⟨rfl, hb⟩
      replace BB := Lib.hid (below2 BB.out hb)
      clear hb
      go_wp2
      go_ret
      exact ⟨rfl, BB.out⟩
end Go.Proofs.YtcnpbcgkhhebaaaGreatDoor
/- From a row's condition to what the walks ask of the world. -/
namespace Go.Proofs.YtcnpbcgkhhebaaaGreatDoor
open Go.RowKit

theorem ownKn : ownKnob Tryz.prog.godebug = none := by kernel_rfl
def laidAllL : List (String × DataW Unit) := [("math/bits.deBruijn32tab", Rows.laid_math_bits_deBruijn32tab), ("math/bits.deBruijn64tab", Rows.laid_math_bits_deBruijn64tab), ("internal/strconv.uint64pow10", Rows.laid_internal_strconv_uint64pow10), ("unicode/utf8.acceptRanges", Rows.laid_unicode_utf8_acceptRanges), ("strconv.ErrRange", Rows.laid_strconv_ErrRange), ("strconv.ErrSyntax", Rows.laid_strconv_ErrSyntax), ("unicode/utf8.first", Rows.laid_unicode_utf8_first)]
theorem pow_data : (Rows.laid_internal_strconv_uint64pow10 : DataW Unit) = Lib.tabData .u64 Lib.pow10Tab := by kernel_rfl
theorem glob0_type : (Tryz.prog.globals[0]?).map (·.type) = some 200 := by kernel_rfl
theorem laidW_of {W : World} (hsh : W.ShapedOpen Tryz.prog) (hL : laidMetH Tryz.prog laidAllL W) : LaidW W := by
  rw [MakeChecks.laidMetH_plain _ _ _ (by kernel_rfl)] at hL
  have h2 := hL.tail.tail
  rw [show ("internal/strconv.uint64pow10", (Rows.laid_internal_strconv_uint64pow10 : DataW Unit)) = ("internal/strconv.uint64pow10", Lib.tabData .u64 Lib.pow10Tab) from by rw [pow_data]] at h2
  refine ⟨Lib.tabIs_of_head glob0 glob0_type (n := 20) (e := 180) (by kernel_rfl) (by kernel_rfl) (by kernel_rfl) (by kernel_rfl) h2, ?_⟩
  exact cell_of_shapedOpen_int (g := 1) (t := 3) (zero := #[.int .i64 0]) hsh (of_decide_eq_true (by kernel_rfl)) (by kernel_rfl) rfl (by kernel_rfl) (by kernel_rfl) Tryz.underlying3

section
variable {H : Type} {enc : TypeId × Value → H}
/-- The wrap that hands both on: the world's shape, and the row's condition. -/
theorem handed_both {a : Assume} {C : Checked} {os : Os} {f : FuncId} {fn : Func} {s : ChangeSpec} {conds : List PathCond} {apart fresh handsOn again : Bool} {X : World → Array Value → Prop}
    (hX : ∀ (w w' : World) (args : Array Value), w.heap = w'.heap → X w args → X w' args)
    (own : ownKnob C.prog.godebug = none) (started : os.Started) (noInit : C.prog.inits.idxOf? f = none) (hfn : C.prog.funcs[f]? = some fn)
    (witness : ∃ (w : World) (tape : Tape) (i : Input), w.os = os ∧ (w.forCall tape i).Shaped C.prog ∧ i.vars = [] ∧ Input.okWide C.prog (w.forCall tape i) .any w.heap.size f i ∧
      ((s.pre enc C.prog fn conds apart (w.forCall tape i).memory i.args ∧ X (w.forCall tape i).memory i.args) ∧ sizedMet enc C.prog fn (OpenSpec.ofChange s) apart (w.forCall tape i).memory i.args) ∧ a.holds C.prog (lone (Frame.enter C.prog f i.args .normal) [] (w.forCall tape i)))
    (contract : ∀ (W : World) (base : Nat) (args : Array Value) (ds gs : List (DataW H)) (before : List MemPlace),
      (∀ (j : Nat) t v, fn.params[j]? = some t → args[j]? = some v → Value.okWide C.prog W .any base t v) →
      DataW.Whole enc C.prog fn.params.toList s.vars apart W args.toList ds gs before →
      conds.all (PathCond.test C.prog ⟨fn.params.toList, ds, s.plain.varTypes C.prog, gs⟩) = true →
      (DataW.weightsEach C.prog (fn.params.toList ++ s.plain.varTypes C.prog) (ds ++ gs)).all (· ≤ reachBytes) = true → W.ShapedOpen C.prog → X W args →
      a.holds C.prog (lone (Frame.enter C.prog f args .normal) [] W) →
      Calls C.prog f args W fun e W' => ∃ v, e = .returned v ∧ s.post enc C.prog fn apart fresh handsOn again W args v W') :
    ReturnsInHanded a C os f .any (fun w args => (s.pre enc C.prog fn conds apart w args ∧ X w args) ∧ sizedMet enc C.prog fn (OpenSpec.ofChange s) apart w args) (s.post enc C.prog fn apart fresh handsOn again) := by
  refine returnsInHanded_of_calls own started noInit witness ?_
  intro w tape i _ hsh _ hok hpre hholds
  obtain ⟨_, _, _, fn', hfn', _, _, _, _, hval⟩ := hok
  have e : fn' = fn := Option.some.inj (hfn'.symm.trans hfn)
  subst e
  obtain ⟨⟨⟨ds, gs, before, hw, hc⟩, hx⟩, hz⟩ := hpre
  have hw' := DataW.Whole.of_heap (w' := w.forCall tape i) (by rfl) hw
  refine (contract (w.forCall tape i) w.heap.size i.args ds gs before hval hw' hc (hz.weights hw) hsh (hX _ _ _ (by rfl) hx) hholds).mono fun e W' ⟨v, he, hp⟩ => ?_
  subst he
  exact ChangeSpec.post_blind hp
end
theorem laid_fits (os : Os) : (World.holding Tryz.prog os ⟨#[], #[], []⟩).layFits Tryz.prog laidAllL [] = true := by kernel_rfl
theorem laid_ifaces (os : Os) : (World.holding Tryz.prog os ⟨#[], #[], []⟩).layIfaces Tryz.prog laidAllL (World.laidAll Tryz.prog os laidAllL) = true := by kernel_rfl
theorem laid_met (os : Os) (args : Array Value) : laidMetH Tryz.prog laidAllL ((World.laidAll Tryz.prog os laidAllL).forCall (fun _ _ => 0) ⟨#[], args, []⟩).memory := by
  rw [MakeChecks.laidMetH_plain _ _ _ (by kernel_rfl)]
  exact laidMet_laidAll _ (laid_fits os) (laid_ifaces os)
end Go.Proofs.YtcnpbcgkhhebaaaGreatDoor
/- What comes in: a season, read as data, is a season in memory. -/
namespace Go.Proofs.YtcnpbcgkhhebaaaGreatDoor
open Go.ChangeShapes Go.WideShapes Go.ChangeAt Go.RowKit Go.Deep Go.Joins
set_option maxRecDepth 100000

section
variable {H : Type} {enc : TypeId × Value → H} {W : World} {base : Nat} {sp : Nat → Bool} {held : Bool}
theorem one_at {α : Type} {xs : List α} {i : Nat} (h : i < xs.length) : ∃ y, xs[i]? = some y := ⟨xs[i], List.getElem?_eq_getElem h⟩
theorem open_own {fuel : Nat} {cs : List Value} {y : DataW H × List MemPlace} (h : DataW.trod enc Tryz.prog W base sp held fuel 73 cs = some y) : ∃ x : Ow, cs = eO x ∧ x.mark.size ≤ maxLen := by
  have hC : Tryz.prog.cellsOf 73 = 3 := by kernel_rfl
  have c2 : Tryz.prog.cellsOf 2 = 1 := by kernel_rfl
  have c9 : Tryz.prog.cellsOf 9 = 1 := by kernel_rfl
  obtain ⟨xs, n, _, _, hlen, hxs, hf⟩ := DataW.trod_struct (show Tryz.prog.underlying 73 = some (.struct #[⟨"Number", 2, 0, false, "", "", 0⟩, ⟨"Mark", 9, 1, false, "", "", 8⟩, ⟨"Paid", 2, 2, false, "", "", 24⟩]) by kernel_rfl) h
  rw [hC] at hlen
  match cs, hlen with
  | [a, b, c], _ =>
    have hxs3 : xs.length = 3 := hxs
    obtain ⟨y0, e0⟩ := one_at (xs := xs) (i := 0) (by omega)
    obtain ⟨y1, e1⟩ := one_at (xs := xs) (i := 1) (by omega)
    obtain ⟨y2, e2⟩ := one_at (xs := xs) (i := 2) (by omega)
    have h0 := hf 0 (⟨"Number", 2, 0, false, "", "", 0⟩ : Field) rfl
    have h1 := hf 1 (⟨"Mark", 9, 1, false, "", "", 8⟩ : Field) rfl
    have h2 := hf 2 (⟨"Paid", 2, 2, false, "", "", 24⟩ : Field) rfl
    simp only [c2, c9, List.drop_zero, List.drop_succ_cons, List.take_succ_cons, List.take_zero] at h0 h1 h2
    obtain ⟨z0, k0, _, _⟩ := DataW.trod_int Tryz.underlying2 (h0.trans e0)
    obtain ⟨z1, k1, _, k1s⟩ := DataW.trod_string Tryz.underlying9 (h1.trans e1)
    obtain ⟨z2, k2, _, _⟩ := DataW.trod_int Tryz.underlying2 (h2.trans e2)
    cases k0
    cases k1
    cases k2
    exact ⟨⟨z0, z1, z2⟩, rfl, k1s⟩
theorem open_lg {fuel : Nat} {cs : List Value} {y : DataW H × List MemPlace} (h : DataW.trod enc Tryz.prog W base sp held fuel 69 cs = some y) : ∃ x : Lg, cs = eL x ∧ x.seen.size ≤ maxLen := by
  have hC : Tryz.prog.cellsOf 69 = 5 := by kernel_rfl
  have c2 : Tryz.prog.cellsOf 2 = 1 := by kernel_rfl
  have c9 : Tryz.prog.cellsOf 9 = 1 := by kernel_rfl
  have c4 : Tryz.prog.cellsOf 4 = 1 := by kernel_rfl
  obtain ⟨xs, n, _, _, hlen, hxs, hf⟩ := DataW.trod_struct (show Tryz.prog.underlying 69 = some (.struct #[⟨"Number", 2, 0, false, "", "", 0⟩, ⟨"Seen", 9, 1, false, "", "", 8⟩, ⟨"Feet", 2, 2, false, "", "", 24⟩, ⟨"Owner", 2, 3, false, "", "", 32⟩, ⟨"Gone", 4, 4, false, "", "", 40⟩]) by kernel_rfl) h
  rw [hC] at hlen
  match cs, hlen with
  | [a, b, c, d, e], _ =>
    have hxs3 : xs.length = 5 := hxs
    obtain ⟨y0, e0⟩ := one_at (xs := xs) (i := 0) (by omega)
    obtain ⟨y1, e1⟩ := one_at (xs := xs) (i := 1) (by omega)
    obtain ⟨y2, e2⟩ := one_at (xs := xs) (i := 2) (by omega)
    obtain ⟨y3, e3⟩ := one_at (xs := xs) (i := 3) (by omega)
    obtain ⟨y4, e4⟩ := one_at (xs := xs) (i := 4) (by omega)
    have h0 := hf 0 (⟨"Number", 2, 0, false, "", "", 0⟩ : Field) rfl
    have h1 := hf 1 (⟨"Seen", 9, 1, false, "", "", 8⟩ : Field) rfl
    have h2 := hf 2 (⟨"Feet", 2, 2, false, "", "", 24⟩ : Field) rfl
    have h3 := hf 3 (⟨"Owner", 2, 3, false, "", "", 32⟩ : Field) rfl
    have h4 := hf 4 (⟨"Gone", 4, 4, false, "", "", 40⟩ : Field) rfl
    simp only [c2, c9, c4, List.drop_zero, List.drop_succ_cons, List.take_succ_cons, List.take_zero] at h0 h1 h2 h3 h4
    obtain ⟨z0, k0, _, _⟩ := DataW.trod_int Tryz.underlying2 (h0.trans e0)
    obtain ⟨z1, k1, _, k1s⟩ := DataW.trod_string Tryz.underlying9 (h1.trans e1)
    obtain ⟨z2, k2, _, _⟩ := DataW.trod_int Tryz.underlying2 (h2.trans e2)
    obtain ⟨z3, k3, _, _⟩ := DataW.trod_int Tryz.underlying2 (h3.trans e3)
    obtain ⟨z4, k4, _⟩ := DataW.trod_bool Tryz.underlying4 (h4.trans e4)
    cases k0
    cases k1
    cases k2
    cases k3
    cases k4
    exact ⟨⟨z0, z1, z2, z3, z4⟩, rfl, k1s⟩
theorem cell_plain {a : Addr} {v : Value} (h : W.cell? a = some v) : a = ⟨a.block, a.off, none⟩ := by
  obtain ⟨b, o, s⟩ := a
  cases s with
  | none => rfl
  | some s =>
    exfalso
    revert h
    unfold World.cell?
    split <;> simp
theorem open_rows {α : Type} [Inhabited α] {en : α → List Value} {sz : Nat} {ok : α → Prop} (hen : Enc en sz) (hsz : 0 < sz) {t e : TypeId} (ht : Tryz.prog.underlying t = some (.slice e)) (hC : Tryz.prog.cellsOf e = sz)
    (hel : ∀ {n : Nat} {cs : List Value} {y : DataW H × List MemPlace}, DataW.trod enc Tryz.prog W base sp held n e cs = some y → ∃ x : α, cs = en x ∧ ok x)
    {fuel : Nat} {c0 : Value} {y : DataW H × List MemPlace} (h : DataW.trod enc Tryz.prog W base sp held fuel t [c0] = some y) :
    ∃ A c xs, c0 = .slice A xs.length c ∧ Rd en sz W A c xs ∧ ∀ x ∈ xs, ok x := by
  rcases open_slice ht h with ⟨h0, _⟩ | ⟨a, len, cap, m, n, D, Pl, h0, _, hl, hm, hmm, _, hx⟩
  · cases h0
    exact ⟨none, 0, [], rfl, Rd.nil_ _ _ (by omega), fun x hx => by cases hx⟩
  · cases h0
    have hlm : len ≤ m := by rw [hmm]; split <;> omega
    obtain ⟨f, hf⟩ := choose_lt (α := α) (n := len) (p := fun i x => W.cells? base (a.add (i * sz)) sz = some (en x) ∧ ok x) (fun i hi => by
      obtain ⟨cs', k1, k2⟩ := hx i (by omega)
      obtain ⟨x, rfl, hk⟩ := hel k2
      rw [hC] at k1
      exact ⟨x, k1, hk⟩)
    refine ⟨some a, cap, (List.range len).map f, by simp, ⟨by simpa using hl, by unfold maxLen at hm; omega, fun hn => ?_⟩, fun x hx => ?_⟩
    · have hcell : ∀ i, i < len → ∀ j u, (en (f i))[j]? = some u → W.cell? (a.add (i * sz + j)) = some u := fun i hi j u hu => by
        obtain ⟨_, hlen, hat⟩ := World.cells?_some (hf i hi).1
        have hj : j < sz := by have := (List.getElem?_eq_some_iff.1 hu).1; rw [hen.len] at this; exact this
        have := hat j hj
        rw [hu, add_add] at this
        exact this
      have hlen0 : 0 < len := by simpa using hn
      have h1 : 0 < (en (f 0)).length := by rw [hen.len]; exact hsz
      have h2 := hcell 0 hlen0 0 _ (List.getElem?_eq_getElem h1)
      have h2' : W.cell? a = some (en (f 0))[0] := by simpa [Addr.add] using h2
      have ha := cell_plain h2'
      refine ⟨a.block, a.off, by rw [← ha], World.block_lt_of_cell? W a h2', fun i x hx j u hu => ?_⟩
      rw [List.getElem?_map] at hx
      obtain ⟨k, hk, rfl⟩ := Option.map_eq_some_iff.1 hx
      obtain ⟨hi, hk2⟩ := List.getElem?_eq_some_iff.1 hk
      rw [List.getElem_range] at hk2
      subst hk2
      rw [List.length_range] at hi
      have := hcell i hi j u hu
      rw [ha, Addr.add_lit] at this
      rw [← Nat.add_assoc] at this
      exact this
    · obtain ⟨i, hi, rfl⟩ := List.mem_map.1 hx
      exact (hf i (List.mem_range.1 hi)).2
theorem open_season {b0 : Nat} {r : Reach} {v : Value} {d : DataW H} {p : List MemPlace} (hv : Value.okWide Tryz.prog W r b0 26 v) (h : DataW.Trod enc Tryz.prog W base sp held 26 v d p) :
    ∃ A c os A2 c2 ls, v = .agg #[.slice A os.length c, .slice A2 ls.length c2] ∧ Rd eO 3 W A c os ∧ Rd eL 5 W A2 c2 ls ∧ (∀ x ∈ os, x.mark.size ≤ maxLen) ∧ (∀ l ∈ ls, l.seen.size ≤ maxLen) := by
  obtain ⟨v0, v1, y0, y1, n, rfl, _, _, h0, h1⟩ := open_agg2 (show Tryz.prog.underlying 26 = some (.struct #[⟨"Owners", 23, 0, false, "", "", 0⟩, ⟨"Logs", 24, 1, false, "", "", 24⟩]) by kernel_rfl) (by kernel_rfl) (by kernel_rfl) hv h
  obtain ⟨A, c, os, rfl, r1, k1⟩ := open_rows (en := eO) (ok := fun x : Ow => x.mark.size ≤ maxLen) encO (by omega) Tryz.underlying23 (by kernel_rfl) (fun h => open_own h) h0
  obtain ⟨A2, c2, ls, rfl, r2, k2⟩ := open_rows (en := eL) (ok := fun x : Lg => x.seen.size ≤ maxLen) encL (by omega) Tryz.underlying24 (by kernel_rfl) (fun h => open_lg h) h1
  exact ⟨A, c, os, A2, c2, ls, rfl, r1, r2, k1, k2⟩
end
end Go.Proofs.YtcnpbcgkhhebaaaGreatDoor
/- Closed facts of the program's. -/
namespace Go.Proofs.YtcnpbcgkhhebaaaGreatDoor
open Go.ChangeShapes Go.WideShapes Go.ChangeAt Go.RowKit
set_option maxRecDepth 100000
theorem and_mk {a b : Bool} (ha : a = true) (hb : b = true) : (a && b) = true := by rw [ha, hb]; rfl
theorem sh_laidOut : laidOutB Tryz.prog = true := by kernel_rfl
theorem sh_mapsRowed : mapsRowed Tryz.prog = true := by kernel_rfl
theorem sh_stops : (Tryz.prog.stops == []) = true := by kernel_rfl
theorem sh_knobs : (Tryz.prog.stopKnobs == []) = true := by kernel_rfl
theorem sh_heard : Tryz.prog.stopsHeard = true := by kernel_rfl
theorem sh_enter : Tryz.prog.mayEnter = true := by kernel_rfl
theorem sh_main : Tryz.prog.mainIs = some (true, "bb3957611fb07b8f30c253038086df1c9e34512f5bd6bdaf1e554329739cb219".toList) := by kernel_rfl
theorem sh_looks : true = Tryz.prog.looks [] := by kernel_rfl
end Go.Proofs.YtcnpbcgkhhebaaaGreatDoor
/- Closed facts of SeasonOwes's row. -/
namespace Go.Proofs.YtcnpbcgkhhebaaaGreatDoor
open Go.ChangeShapes Go.WideShapes Go.ChangeAt Go.RowKit
set_option maxRecDepth 100000
theorem seasonOwes_j0 : (Rows.seasonOwesRow.wf (OpenSpec.ofChange Rows.seasonOwesSpec)) = true := by kernel_rfl
theorem seasonOwes_j3 : (Tryz.f6.params.all (Tryz.prog.readableRec ·)) = true := by kernel_rfl
theorem seasonOwes_j4 : (namedTie Tryz.prog Rows.seasonOwesRow.named Rows.seasonOwesSpec.vars) = true := by kernel_rfl
theorem seasonOwes_j5 : ((Rows.seasonOwesRow.stops == [])) = true := by kernel_rfl
theorem seasonOwes_j7 : ((Rows.seasonOwesRow.knobs == [])) = true := by kernel_rfl
theorem seasonOwes_j9 : ((Rows.seasonOwesRow.inPlace == Tryz.prog.inPlace 6)) = true := by kernel_rfl
theorem seasonOwes_j10 : ((Rows.seasonOwesRow.unfollowed == Tryz.prog.unfollowed 6)) = true := by kernel_rfl
theorem seasonOwes_j11 : ((Rows.seasonOwesRow.recurses == Tryz.prog.recurses 6)) = true := by kernel_rfl
theorem seasonOwes_j12 : ((Rows.seasonOwesRow.named == Tryz.prog.varsNamed 6)) = true := by kernel_rfl
theorem seasonOwes_j13 : ((Rows.seasonOwesRow.maps == (Tryz.f6.params.toList ++ Rows.seasonOwesSpec.plain.varTypes Tryz.prog).any (Tryz.prog.mapsRec ·))) = true := by kernel_rfl
theorem seasonOwes_j14 : ((Rows.seasonOwesRow.ifaces == (Tryz.f6.params.toList ++ Rows.seasonOwesSpec.plain.varTypes Tryz.prog).any (Tryz.prog.ifacesRec ·))) = true := by kernel_rfl
theorem seasonOwes_j15 : ((Rows.seasonOwesRow.mapsOut == Tryz.prog.mapsAmong Tryz.f6.resultTypes.toList)) = true := by kernel_rfl
theorem seasonOwes_j16 : ((Rows.seasonOwesRow.loops == (Tryz.f6.params.toList ++ Rows.seasonOwesSpec.plain.varTypes Tryz.prog).any (Tryz.prog.loopsFrom ·))) = true := by kernel_rfl
theorem seasonOwes_j17 : ((Rows.seasonOwesRow.wideKeys == (Tryz.f6.params.toList ++ Rows.seasonOwesSpec.plain.varTypes Tryz.prog ++ Tryz.f6.resultTypes.toList).any (Tryz.prog.wideKeysFrom ·))) = true := by kernel_rfl
theorem seasonOwes_j18 : (Rows.seasonOwesSpec.vars.all (Tryz.prog.varReadable ·)) = true := by kernel_rfl
theorem seasonOwes_j19 : (Tryz.f6.resultTypes.all (fun t => Tryz.prog.readableRec t && decide (t < Tryz.prog.types.size))) = true := by kernel_rfl
theorem seasonOwes_j20 : ((Rows.seasonOwesRow.ifacesOut == Tryz.f6.resultTypes.toList.any (Tryz.prog.ifacesRec ·))) = true := by kernel_rfl
theorem seasonOwes_j21 : ((Rows.seasonOwesRow.loopsOut == Tryz.f6.resultTypes.toList.any (Tryz.prog.loopsFrom ·))) = true := by kernel_rfl
theorem seasonOwes_j22 : ((Rows.seasonOwesRow.plainKeys == Tryz.prog.plainKeys)) = true := by kernel_rfl
theorem seasonOwes_j23 : (Rows.seasonOwesRow.shortTexts.isNone) = true := by kernel_rfl
theorem seasonOwes_j26 : ((Rows.seasonOwesRow.lifted == Tryz.prog.liftsFinal)) = true := by kernel_rfl
theorem seasonOwes_j27 : ((Tryz.prog.make == some Rows.seasonOwesRow.make)) = true := by kernel_rfl
theorem seasonOwes_j28 : ((Rows.seasonOwesRow.kinds == (if Rows.seasonOwesRow.domain.isEmpty then [] else Tryz.f6.params.toList.map fun t => match Tryz.prog.underlying t with | some (.int k) => some k | _ => none))) = true := by kernel_rfl
theorem seasonOwes_j29 : ((Rows.seasonOwesRow.pinned == Rows.seasonOwesRow.pinnedBy)) = true := by kernel_rfl
theorem seasonOwes_j30 : ((Rows.seasonOwesRow.veiled == (Tryz.f6.params.toList ++ Rows.seasonOwesSpec.plain.varTypes Tryz.prog ++ Tryz.f6.resultTypes.toList).any (Tryz.prog.veiledRec ·))) = true := by kernel_rfl
theorem seasonOwes_j31 : (Rows.seasonOwesRow.veiledFits Tryz.prog Tryz.f6.params.toList (Tryz.f6.params.toList ++ Rows.seasonOwesSpec.plain.varTypes Tryz.prog ++ Tryz.f6.resultTypes.toList)) = true := by kernel_rfl
theorem seasonOwes_joined : joinedFacts Tryz.prog 6 Tryz.f6 Rows.seasonOwesSpec Rows.seasonOwesRow = true := by
  unfold joinedFacts
  exact (and_mk (and_mk (and_mk (and_mk (and_mk (and_mk (and_mk (and_mk (and_mk (and_mk (and_mk (and_mk (and_mk (and_mk (and_mk (and_mk (and_mk (and_mk (and_mk (and_mk (and_mk (and_mk (and_mk (and_mk (and_mk (and_mk (and_mk (and_mk (and_mk (and_mk (and_mk seasonOwes_j0 sh_laidOut) sh_mapsRowed) seasonOwes_j3) seasonOwes_j4) seasonOwes_j5) sh_stops) seasonOwes_j7) sh_knobs) seasonOwes_j9) seasonOwes_j10) seasonOwes_j11) seasonOwes_j12) seasonOwes_j13) seasonOwes_j14) seasonOwes_j15) seasonOwes_j16) seasonOwes_j17) seasonOwes_j18) seasonOwes_j19) seasonOwes_j20) seasonOwes_j21) seasonOwes_j22) seasonOwes_j23) sh_heard) sh_enter) seasonOwes_j26) seasonOwes_j27) seasonOwes_j28) seasonOwes_j29) seasonOwes_j30) seasonOwes_j31)
end Go.Proofs.YtcnpbcgkhhebaaaGreatDoor
namespace Go.Proofs.YtcnpbcgkhhebaaaGreatDoor
open Go.ChangeShapes Go.WideShapes Go.ChangeAt Go.RowKit
set_option maxRecDepth 100000
open Go.Deep Go.Joins
theorem seasonOwes_lifted (os : Os) (started : os.Started) (H : Type) (enc : TypeId × Value → H) :
    ReturnsInHanded {} Tryz.checked os 6 .any (fun w args => (Rows.seasonOwesSpec.pre enc Tryz.prog Tryz.f6 Rows.seasonOwesRow.domain false w args ∧ laidMetH Tryz.prog laidAllL w) ∧ sizedMet enc Tryz.prog Tryz.f6 (OpenSpec.ofChange Rows.seasonOwesSpec) false w args)
      (Rows.seasonOwesSpec.post enc Tryz.prog Tryz.f6 false true false false) := by
  refine handed_both (C := Tryz.checked) (X := fun w _ => laidMetH Tryz.prog laidAllL w) (fun _ _ _ hh h => h.of_heap hh) ownKn started (by kernel_rfl) Tryz.func6
    (ChangeSpec.witness_shaped (enc := enc) (C := Tryz.checked) (os := os) (X := fun w _ => laidMetH Tryz.prog laidAllL w) false (World.laidAll Tryz.prog os laidAllL) #[.agg #[.slice none 0 0, .slice none 0 0], .string ⟨#[]⟩, .int .i64 0] 8 (World.laidAll_os _ _ _)
      (World.shaped_of_ZipB (by kernel_rfl) (by kernel_rfl)) (by kernel_rfl) (by kernel_rfl) (by kernel_rfl) (laid_met os _)) ?_
  intro W base args ds gs before hval0 hW _ hwt hsh hL _
  have hW' := hW
  obtain ⟨p, q, hA0, hV, rfl, _, _⟩ := hW
  have hA : DataW.TrodAll enc Tryz.prog W 0 (fun _ => true) true Tryz.f6.params.toList args.toList ds p := hA0
  have hLW := laidW_of hsh hL
  rw [Tryz.params6] at hA
  have hval : ∀ (j : Nat) t v, Tryz.f6.params[j]? = some t → args[j]? = some v → Value.okWide Tryz.prog W .any base t v := hval0
  rw [Tryz.params6] at hval
  obtain ⟨v0, v1, v2, d0, d1, d2, p0, p1, p2, rfl, rfl, rfl, h0, h1, h2⟩ := trodAll_three hA
  obtain ⟨rfl, rfl⟩ := trodVars_none hV
  have h0k := h0
  have h1k := h1
  have h2k := h2
  obtain ⟨A, c, os, A2, c2, ls, rfl, r1, r2, k1, k2⟩ := open_season (hval 0 26 v0 rfl rfl) h0
  obtain ⟨seen, rfl, _, _, k3⟩ := Go.ChangeMaps.open_string Tryz.underlying9 (hval 1 9 v1 rfl rfl) h1
  obtain ⟨n, rfl, _, _, _⟩ := open_int Tryz.underlying2 (hval 2 2 v2 rfl rfl) h2
  simp only [List.append_nil, List.append_assoc] at hW'
  have hlt : ∀ x ∈ p0 ++ (p1 ++ p2), x.block < W.heap.size := fun x hx => by simpa using hW'.lt x hx
  refine (owes_any A c os A2 c2 ls seen n W r1 r2 (fun x hx => by have := k1 x hx; unfold maxLen at this; omega) (fun l hl => by have := k2 l hl; unfold maxLen at this; omega) (by unfold maxLen at k3; omega) hLW).mono fun e W' ⟨he, hb⟩ => ?_
  subst he
  exact ⟨_, rfl, _, _, _, [], p0 ++ (p1 ++ p2), [], hW', trodAll_mk1 (shut_bool Tryz.underlying4 true),
    trodAll_mk3 (Below.trod sh_laidOut (by kernel_rfl) (of_decide_eq_true (by kernel_rfl)) h0k hb (fun x hx => hlt x (by simp [hx]))) (Below.trod sh_laidOut (by kernel_rfl) (of_decide_eq_true (by kernel_rfl)) h1k hb (fun x hx => hlt x (by simp [hx]))) (Below.trod sh_laidOut (by kernel_rfl) (of_decide_eq_true (by kernel_rfl)) h2k hb (fun x hx => hlt x (by simp [hx]))), rfl, hb.frame _, fun h => by cases h⟩
theorem seasonOwes_named : Tryz.prog.funcNamed "peavey/peaveylaw12.SeasonOwes" = some 6 := by kernel_rfl
theorem seasonOwes_goes : false = Rows.seasonOwesRow.goesBy Tryz.prog := by kernel_rfl
theorem seasonOwes_wf : Rows.seasonOwesRow.wfByText (OpenSpec.ofChange Rows.seasonOwesSpec) = true := by kernel_rfl
theorem seasonOwes_row : Rows.SeasonOwesSaid :=
  OpenClaim.holds_of_wide 6 Tryz.f6 rfl rfl rfl rfl rfl rfl rfl ⟨rfl, rfl, rfl, rfl, rfl⟩ rfl rfl rfl rfl rfl seasonOwes_named Tryz.func6 seasonOwes_joined
    (of_decide_eq_true (by kernel_rfl)) (by unfold Func.isWrapper; rw [if_neg (of_decide_eq_false (by kernel_rfl))]; exact ⟨rfl, rfl⟩)
    (fun os started H enc _ => seasonOwes_lifted os started H enc)
theorem seasonOwes_card : Rows.SeasonOwesCardSaid :=
  Claim7.holds_tied_plain_at .later [] [.data, .data, .data, .data, .sentinel, .sentinel, .pinned] true (true, "bb3957611fb07b8f30c253038086df1c9e34512f5bd6bdaf1e554329739cb219") true seasonOwes_row (fun _ h => by cases h) seasonOwes_wf (fun _ h => by cases h) seasonOwes_row_tie rfl ⟨rfl, rfl⟩ sh_main rfl
    (fun f fn hf hfn => by
      obtain rfl : f = 6 := Option.some.inj (seasonOwes_named.symm.trans hf) |>.symm
      obtain rfl : fn = Tryz.f6 := (Option.some.inj (Tryz.func6.symm.trans hfn)).symm
      exact ⟨sh_looks, fun j t ht => by
        rw [Tryz.params6] at ht
        have hm : t ∈ [26, 9, 2] := by simpa using Array.mem_of_getElem? ht
        have hall : ([26, 9, 2].all fun u => !Tryz.prog.wantsStandIn u) = true := by kernel_rfl
        exact (show Tryz.prog.wantsStandIn t = false by simpa using List.all_eq_true.1 hall t hm)⟩)
    seasonOwes_goes
#print axioms seasonOwes_card
end Go.Proofs.YtcnpbcgkhhebaaaGreatDoor
