/- The document: what belongs to whom. -/
import Derived.Test.YtcnpbcgkhhebaaaGreatDoorMi2
import Derived.RangeFuncNested
import Derived.RangeFuncBound
import Derived.RangeFuncCalls
import Derived.RangeFuncLeaves
import Derived.RangeFuncBox
import Derived.Shelf.RegionOpen
import Derived.OwnWalkIn
import Derived.TacticsInMore
import Derived.LoopNIn
import Derived.LoopIn
import Derived.Lib.ItoaLen
import Derived.Laws.IdiomStrings
namespace Go.Proofs.YtcnpbcgkhhebaaaGreatDoor
open Go.RowKit

def ownedS (os : List Ow) (ls : List Lg) : Int := if ls.any (strangeB os) then 5 else if ls.any (wrongB os) then 16 else if paidB os ls then 0 else 14
theorem rise_lt {os : List Ow} (h : riseB os = true) : ∀ i j, (hj : j < os.length) → (hij : i < j) → (os[i]'(by omega)).num < os[j].num := by
 rw [riseB_iff] at h
 have key : ∀ (d i : Nat) (hj : i + d + 1 < os.length), (os[i]'(by omega)).num < (os[i + d + 1]'hj).num := by
  intro d
  induction d with
  | zero => intro i hj; exact h i hj
  | succ d ih =>
   intro i hj
   have h1 := ih i (by omega)
   have h2 := h (i + d + 1) (by omega)
   have e : i + (d + 1) + 1 = i + d + 1 + 1 := by omega
   simp only [e]
   omega
 intro i j hj hij
 have h1 := key (j - i - 1) i (by omega)
 have e : i + (j - i - 1) + 1 = j := by omega
 simp only [e] at h1
 exact h1
theorem fees_at {os : List Ow} (h : riseB os = true) (ls : List Lg) {i : Nat} (hi : i < os.length) : feesOf ls os[i].num = feeAt os ls i := by
 unfold feesOf feeAt
 congr 2
 refine List.filter_congr fun l _ => ?_
 rw [Bool.eq_iff_iff, beq_iff_eq, beq_iff_eq]
 constructor
 ·intro e
  obtain ⟨h0, h1⟩ := idxI_le (p := fun x : Ow => x.num == l.own) hi (by simp [e])
  obtain ⟨j, hj, hjl, hp⟩ := idxI_at h0
  rw [hj]
  rw [hj] at h1
  by_cases e2 : j = i
  ·rw [e2]
  ·have := rise_lt h j i hi (by omega)
   rw [beq_iff_eq] at hp
   omega
 ·intro e
  obtain ⟨j, hj, hjl, hp⟩ := idxI_at (p := fun x : Ow => x.num == l.own) (xs := os) (by omega)
  obtain rfl : j = i := by omega
  rw [beq_iff_eq] at hp
  exact hp.symm
theorem any_hit {α : Type} {p : α → Bool} {l : List α} {k : Nat} (hk : k < l.length) (h : p l[k] = true) : l.any p = true := List.any_eq_true.2 ⟨_, List.getElem_mem hk, h⟩
theorem any_miss {α : Type} {p : α → Bool} {l : List α} (h : ∀ j, (hj : j < l.length) → p l[j] = false) : l.any p = false := by
 simp only [List.any_eq_false, Bool.not_eq_true]
 intro x hx
 obtain ⟨j, hj, rfl⟩ := List.getElem_of_mem hx
 exact h j hj
theorem mk_at {os : List Ow} {j : Nat} (hj : j < os.length) : mkAt os (j : Int) = os[j].mark := by unfold mkAt; rw [Int.toNat_natCast, List.getElem?_eq_getElem hj]

set_option maxRecDepth 100000 in
set_option maxHeartbeats 8000000 in
theorem owned_any (A : Option Addr) (c : Nat) (os : List Ow) (A2 : Option Addr) (c2 : Nat) (ls : List Lg) (w : World) (hr : Rd eO 3 w A c os) (hr2 : Rd eL 5 w A2 c2 ls) (hri : riseB os = true) (hn2 : ls.length ≤ 1000000)
  (hm : ∀ x ∈ os, x.mark.size ≤ 9223372036854775807) (hs : ∀ l ∈ ls, l.seen.size ≤ 9223372036854775807) (hft : ∀ l ∈ ls, 1 ≤ l.feet ∧ l.feet ≤ 10000) :
  Calls Tryz.prog 85 #[.agg #[.slice A os.length c, .slice A2 ls.length c2]] w fun e w' => e = .returned (.int .i64 (ownedS os ls)) ∧ Below w.heap.size w w' := by
 have HR := Lib.hid (hr.below (below_a1 w (.cells #[.slice A os.length c, .slice A2 ls.length c2] 26)))
 have HR2 := Lib.hid (hr2.below (below_a1 w (.cells #[.slice A os.length c, .slice A2 ls.length c2] 26)))
 have HM := Lib.hid hm
 have HS := Lib.hid hs
 have HF := Lib.hid hft
 have HRI := Lib.hid hri
 have hlen := hr.len
 have hlen2 := hr2.len
 clear hr hr2 hm hs hft hri
 go_enter Tryz.func85, Tryz.ntmps85
 go_wp2
 go_loopg [3] ls.length (fun gg s3 wr => ∃ k : Nat, k ≤ ls.length ∧ ls.length - k ≤ gg ∧ s3 = .int .i64 k ∧ Hid (Below (w.alloc (.cells #[.slice A os.length c, .slice A2 ls.length c2] 26)).heap.size (w.alloc (.cells #[.slice A os.length c, .slice A2 ls.length c2] 26)) wr) ∧ Hid (∀ j, (hj : j < k) → (hx : j < ls.length) → strangeB os ls[j] = false))
 case atStart => exact ⟨0, Nat.zero_le _, by omega, rfl, Below.refl _ _, fun j hj => absurd hj (Nat.not_lt_zero _)⟩
 case round =>
  obtain ⟨k, hk, hg, rfl, BW, AA⟩ := hrel
  have k0 : wr.cell? ⟨w.heap.size, 0, none⟩ = some (.slice A os.length c) := cB BW.out (by go_simp)
  have k1 : wr.cell? ⟨w.heap.size, 1, none⟩ = some (.slice A2 ls.length c2) := cB BW.out (by go_simp)
  by_cases hlt : k < ls.length
  ·have hli : (k : Int) < (ls.length : Int) := by omega
   obtain ⟨b, off, x, hx, rfl, hb, -, -, -, x3, -⟩ := (HR2.out.below BW.out).atL hlt
   have HX := Lib.hid hx
   clear hx
   by_cases h : x.own = 0
   ·have hd : (x.own != 0) = false := by simp [h]
    have hno : strangeB os x = false := by unfold strangeB; rw [decide_eq_true h]; rfl
    have HNO := Lib.hid hno
    clear h hno
    go_wp2
    go_quiet (fail)
    go_wp2
    go_roundg (ls.length - (k + 1))
    case measure => omega
    case rel =>
     refine ⟨k + 1, by omega, by omega, by go_num, belowDN BW.out _, (show Hid _ from fun j hj hx => ?_)⟩
     by_cases e : j = k
     ·subst e
      rw [← HX.out]; exact HNO.out
     ·exact AA.out j (by omega) hx
   ·have hd : (x.own != 0) = true := by simp [h]
    have hst : strangeB os x = decide (ownIx os x.own < 0) := by unfold strangeB; rw [decide_eq_false h]; rfl
    have hcon : ∀ W, Below wr.heap.size wr W → Calls Tryz.prog 91 #[.agg #[.slice A os.length c, .slice (some ⟨b, off, none⟩) ls.length c2], .int .i64 x.own] W fun e w' => e = .returned (.int .i64 (ownIx os x.own)) ∧ Below W.heap.size W w' :=
     fun W hB => ownerAt_any A c os _ x.own W ((HR.out.below BW.out).below hB)
    obtain ⟨num, seen, feet, own, gone⟩ := x
    simp only at x3 hd hst hcon
    obtain ⟨r, hr⟩ : ∃ r, ownIx os own = r := ⟨_, rfl⟩
    rw [hr] at hcon hst
    have CON := Lib.hid hcon
    have HST := Lib.hid hst
    clear hcon hst hr h
    cases hrn : decide (r < 0) with
    | true =>
     have HRN := Lib.hid hrn
     go_wp2_with fail
     go_region_held3 (fun W => W.cell? ⟨w.heap.size, 0, none⟩ = some (.slice A os.length c) ∧ W.cell? ⟨w.heap.size, 1, none⟩ = some (.slice (some ⟨b, off, none⟩) ls.length c2) ∧ W.cell? ⟨b, off + k * 5 + 3, none⟩ = some (.int .i64 own)) (go_keep)
      ((go_at_call 91; refine (CON.out _ goB).mono ?_; rintro e wz ⟨rfl, hbz⟩; (have kz0 := cB hbz k0; have kz1 := cB hbz k1; have kz2 := cB hbz x3)))
     go_wp2
     go_ret
     exact ⟨by unfold ownedS; rw [any_hit hlt (by rw [← HX.out, HST.out, HRN.out])]; rfl, below2 (below_a1 _ _) (below2 BW.out goB)⟩
    | false =>
     have HRN := Lib.hid hrn
     go_wp2_with fail
     go_region_held3 (fun W => W.cell? ⟨w.heap.size, 0, none⟩ = some (.slice A os.length c) ∧ W.cell? ⟨w.heap.size, 1, none⟩ = some (.slice (some ⟨b, off, none⟩) ls.length c2) ∧ W.cell? ⟨b, off + k * 5 + 3, none⟩ = some (.int .i64 own)) (go_keep)
      ((go_at_call 91; refine (CON.out _ goB).mono ?_; rintro e wz ⟨rfl, hbz⟩; (have kz0 := cB hbz k0; have kz1 := cB hbz k1; have kz2 := cB hbz x3)))
     go_wp2
     go_roundg (ls.length - (k + 1))
     case measure => omega
     case rel =>
      refine ⟨k + 1, by omega, by omega, by go_num, below2 BW.out goB, (show Hid _ from fun j hj hx => ?_)⟩
      by_cases e : j = k
      ·subst e
       rw [← HX.out, HST.out, HRN.out]
      ·exact AA.out j (by omega) hx
  ·have hli : ¬ (k : Int) < (ls.length : Int) := by omega
   have hns : ls.any (strangeB os) = false := any_miss fun j hj => AA.out j (by omega) hj
   have HNS := Lib.hid hns
   have NST := Lib.hid (show ∀ j, (hj : j < ls.length) → strangeB os ls[j] = false from fun j hj => AA.out j (by omega) hj)
   clear hns AA
   obtain ⟨w1, rfl⟩ : ∃ w1 : World, w1 = wr := ⟨_, rfl⟩
   go_wp2
   go_loopg [4] ls.length (fun gg s4 wr => ∃ k : Nat, k ≤ ls.length ∧ ls.length - k ≤ gg ∧ s4 = .int .i64 k ∧ Hid (Below w1.heap.size w1 wr) ∧ Hid (∀ j, (hj : j < k) → (hx : j < ls.length) → wrongB os ls[j] = false))
   case atStart => exact ⟨0, Nat.zero_le _, by omega, rfl, Below.refl _ _, fun j hj => absurd hj (Nat.not_lt_zero _)⟩
   case round =>
    obtain ⟨k, hk, hg, rfl, BW2, AA⟩ := hrel
    have k02 := cB BW2.out k0
    have k12 := cB BW2.out k1
    by_cases hlt : k < ls.length
    ·have hli : (k : Int) < (ls.length : Int) := by omega
     obtain ⟨b, off, x, hx, rfl, hb, x0, x1, x2, x3, x4⟩ := (HR2.out.below (below2 BW.out BW2.out)).atL hlt
     have HX := Lib.hid hx
     have hst := NST.out k hlt
     rw [← hx] at hst
     have hsz := HS.out x (by rw [hx]; exact List.getElem_mem hlt)
     have hxs : wrongB os x = if x.own = 0 then x.gone else !wearsB (mkAt os (ownIx os x.own)) x.seen := rfl
     clear hx
     have hcon : ∀ W, Below wr.heap.size wr W → Calls Tryz.prog 91 #[.agg #[.slice A os.length c, .slice (some ⟨b, off, none⟩) ls.length c2], .int .i64 x.own] W fun e w' => e = .returned (.int .i64 (ownIx os x.own)) ∧ Below W.heap.size W w' :=
      fun W hB => ownerAt_any A c os _ x.own W ((HR.out.below (below2 BW.out BW2.out)).below hB)
     obtain ⟨num, seen, feet, own, gone⟩ := x
     simp only at x0 x1 x2 x3 x4 hst hsz hxs hcon
     by_cases h : own = 0
     ·have hd : (own != 0) = false := by simp [h]
      have hd2 : (own == 0) = true := by simp [h]
      rw [if_pos h] at hxs
      have HXS := Lib.hid hxs
      clear h hxs hst hcon
      cases gone with
      | true =>
       go_wp2
       go_quiet (fail)
       go_wp2
       go_ret
       exact ⟨by unfold ownedS; rw [HNS.out, any_hit hlt (by rw [← HX.out, HXS.out])]; rfl, below2 (below_a1 _ _) (below2 BW.out (below2 BW2.out goB))⟩
      | false =>
       go_wp2
       go_quiet (fail)
       go_wp2
       go_roundg (ls.length - (k + 1))
       case measure => omega
       case rel =>
        refine ⟨k + 1, by omega, by omega, by go_num, below2 BW2.out goB, (show Hid _ from fun j hj hx => ?_)⟩
        by_cases e : j = k
        ·subst e
         rw [← HX.out, HXS.out]
        ·exact AA.out j (by omega) hx
     ·have hd : (own != 0) = true := by simp [h]
      have hd2 : (own == 0) = false := by simp [h]
      rw [if_neg h] at hxs
      have hr0 : 0 ≤ ownIx os own := by
       unfold strangeB at hst
       rw [decide_eq_false h] at hst
       simpa using hst
      obtain ⟨i, hir, hil, -⟩ := idxI_at hr0
      have hir' : ownIx os own = i := hir
      rw [hir'] at hxs hcon
      rw [mk_at hil] at hxs
      obtain ⟨b', off', y, hy, rfl, hb', -, y1, -⟩ := (HR.out.below (below2 BW.out BW2.out)).atO hil
      rw [← hy] at hxs
      have hmz := HM.out y (by rw [hy]; exact List.getElem_mem hil)
      have hili : (i : Int) < (os.length : Int) := by omega
      have hi0 : (0 : Int) ≤ (i : Int) := by omega
      obtain ⟨onum, mark, paid⟩ := y
      simp only at y1 hxs hmz
      have hcw : ∀ W, Calls Tryz.prog 124 #[.string mark, .string seen] W fun e w' => e = .returned (.bool (wearsB mark seen)) ∧ Below W.heap.size W w' := fun W => wears2_any mark seen W hmz hsz
      obtain ⟨q, hq⟩ : ∃ q, wearsB mark seen = q := ⟨_, rfl⟩
      rw [hq] at hcw hxs
      have CON := Lib.hid hcon
      have CW := Lib.hid hcw
      have HXS := Lib.hid hxs
      clear hcon hcw hxs hst hr0 hir hir' hy h hq
      have X1 := Lib.hid x1
      go_wp2_with fail
      refine wp_region_held_drew (S := (fun W => W.cell? ⟨w.heap.size, 0, none⟩ = some (.slice (some ⟨b', off', none⟩) os.length c) ∧ W.cell? ⟨w.heap.size, 1, none⟩ = some (.slice (some ⟨b, off, none⟩) ls.length c2) ∧ W.cell? ⟨b', off' + i * 3 + 1, none⟩ = some (.string mark) ∧ W.cell? ⟨wr.heap.size, 1, none⟩ = some (.string seen) ∧ W.cell? ⟨wr.heap.size, 3, none⟩ = some (.int .i64 own))) (by kernel_rfl) ?hS0 (fun hHeld => ?_)
      case hS0 => exact ⟨cA k02 _, cA k12 _, cA y1 _, by go_simp, by go_simp⟩
      refine wpAnyH_take (i := 0) (v := ?v0) rfl (by kernel_rfl) (by kernel_rfl) (by kernel_rfl) (fun _ _ _ h => h) (Or.inl ⟨by rfl, ?h0⟩) hHeld ?r0
      case h0 => (intro w hSw; (try dsimp only at hSw); go_simp; try with_reducible rfl)
      try simp only [gA, Act.put]
      refine wpAnyH_take (i := 1) (v := ?v1) rfl (by kernel_rfl) (by kernel_rfl) (by kernel_rfl) (fun _ _ _ h => h) (Or.inl ⟨by rfl, ?h1⟩) hHeld ?r1
      case h1 => (intro w hSw; (try dsimp only at hSw); go_simp; try with_reducible rfl)
      try simp only [gA, Act.put]
      refine wpAnyH_take (i := 2) (v := ?v2) rfl (by kernel_rfl) (by kernel_rfl) (by kernel_rfl) (fun _ _ _ h => h) (Or.inl ⟨by rfl, ?h2⟩) hHeld ?r2
      case h2 => (intro w hSw; (try dsimp only at hSw); go_simp; try with_reducible rfl)
      try simp only [gA, Act.put]
      refine wpAnyH_take (i := 3) (v := ?v3) rfl (by kernel_rfl) (by kernel_rfl) (by kernel_rfl) (fun _ _ _ h => h) (Or.inl ⟨by rfl, ?h3⟩) hHeld ?r3
      case h3 => (intro w hSw; (try dsimp only at hSw); go_simp; try with_reducible rfl)
      try simp only [gA, Act.put]
      refine wpAnyH_take (i := 4) (v := undef) rfl (by kernel_rfl) (by kernel_rfl) (by kernel_rfl) (fun _ _ _ h => h) (Or.inr ⟨by go_simp, rfl⟩) hHeld ?_
      try simp only [gA, Act.put]
      refine wpAnyH_take (i := 5) (v := undef) rfl (by kernel_rfl) (by kernel_rfl) (by kernel_rfl) (fun _ _ _ h => h) (Or.inr ⟨by go_simp, rfl⟩) hHeld ?_
      try simp only [gA, Act.put]
      refine wpAnyH_take (i := 6) (v := ?v6) rfl (by kernel_rfl) (by kernel_rfl) (by kernel_rfl) (fun _ _ _ h => h) (Or.inl ⟨by rfl, ?h6⟩) hHeld ?r6
      case h6 => (intro w hSw; (try dsimp only at hSw); go_simp; try with_reducible rfl)
      try simp only [gA, Act.put]
      refine wpAnyH_take (i := 7) (v := ?v7) rfl (by kernel_rfl) (by kernel_rfl) (by kernel_rfl) (fun _ _ _ h => h) (Or.inl ⟨by rfl, ?h7⟩) hHeld ?r7
      case h7 => (intro w hSw; (try dsimp only at hSw); go_simp; try with_reducible rfl)
      try simp only [gA, Act.put]
      refine wpAnyH_take (i := 8) (v := ?v8) rfl (by kernel_rfl) (by kernel_rfl) (by kernel_rfl) (fun _ _ _ h => h) (Or.inl ⟨by rfl, ?h8⟩) hHeld ?r8
      case h8 => (intro w hSw; (try dsimp only at hSw); go_simp; try with_reducible rfl)
      try simp only [gA, Act.put]
      refine wpAnyH_take (i := 9) (v := ?v9) rfl (by kernel_rfl) (by kernel_rfl) (by kernel_rfl) (fun _ _ _ h => h) (Or.inl ⟨by rfl, ?h9⟩) hHeld ?r9
      case h9 => (intro w hSw; (try dsimp only at hSw); go_simp; try with_reducible rfl)
      try simp only [gA, Act.put]
      refine wpAnyH_take (i := 10) (v := ?v10) rfl (by kernel_rfl) (by kernel_rfl) (by kernel_rfl) (fun _ _ _ h => h) (Or.inl ⟨by rfl, ?h10⟩) hHeld ?r10
      case h10 => (intro w hSw; (try dsimp only at hSw); go_simp; try with_reducible rfl)
      try simp only [gA, Act.put]
      refine wpAnyH_take (i := 11) (v := ?v11) rfl (by kernel_rfl) (by kernel_rfl) (by kernel_rfl) (fun _ _ _ h => h) (Or.inl ⟨by rfl, ?h11⟩) hHeld ?r11
      case h11 => (intro w hSw; (try dsimp only at hSw); go_simp; try with_reducible rfl)
      try simp only [gA, Act.put]
      refine wpAnyH_take (i := 12) (v := ?v12) rfl (by kernel_rfl) (by kernel_rfl) (by kernel_rfl) (fun _ _ _ h => h) (Or.inl ⟨by rfl, ?h12⟩) hHeld ?r12
      case h12 => (intro w hSw; (try dsimp only at hSw); go_simp; try with_reducible rfl)
      try simp only [gA, Act.put]
      refine wpAnyH_take (i := 13) (v := ?v13) rfl (by kernel_rfl) (by kernel_rfl) (by kernel_rfl) (fun _ _ _ h => h) (Or.inl ⟨by rfl, ?h13⟩) hHeld ?r13
      case h13 => (intro w hSw; (try dsimp only at hSw); go_simp; try with_reducible rfl)
      try simp only [gA, Act.put]
      refine wpAnyH_take (i := 14) (v := ?v14) rfl (by kernel_rfl) (by kernel_rfl) (by kernel_rfl) (fun _ _ _ h => h) (Or.inl ⟨by rfl, ?h14⟩) hHeld ?r14
      case h14 => (intro w hSw; (try dsimp only at hSw); go_simp; try with_reducible rfl)
      try simp only [gA, Act.put]
      refine wpAnyH_take (i := 15) (v := ?v15) rfl (by kernel_rfl) (by kernel_rfl) (by kernel_rfl) (fun _ _ _ h => h) (Or.inl ⟨by rfl, ?h15⟩) hHeld ?r15
      case h15 => (intro w hSw; (try dsimp only at hSw); go_simp; try with_reducible rfl)
      try simp only [gA, Act.put]
      refine wpAnyH_take (i := 16) (v := ?v16) rfl (by kernel_rfl) (by kernel_rfl) (by kernel_rfl) (fun _ _ _ h => h) (Or.inl ⟨by rfl, ?h16⟩) hHeld ?r16
      case h16 => (intro w hSw; (try dsimp only at hSw); go_simp; try with_reducible rfl)
      try simp only [gA, Act.put]
      refine wpAnyH_take (i := 21) (v := ?v21) rfl (by kernel_rfl) (by kernel_rfl) (by kernel_rfl) (fun _ _ _ h => h) (Or.inl ⟨by rfl, ?h21⟩) hHeld ?r21
      case h21 => (intro w hSw; (try dsimp only at hSw); go_simp; try with_reducible rfl)
      try simp only [gA, Act.put]
      refine wpAnyH_take (i := 22) (v := ?v22) rfl (by kernel_rfl) (by kernel_rfl) (by kernel_rfl) (fun _ _ _ h => h) (Or.inl ⟨by rfl, ?h22⟩) hHeld ?r22
      case h22 => (intro w hSw; (try dsimp only at hSw); go_simp; try with_reducible rfl)
      try simp only [gA, Act.put]
      refine wpAnyH_ready (rs := [17]) (by kernel_rfl) (by simp) ?_
      refine AllReadyH.cons rfl (fun K hK => ?_) AllReadyH.nil
      go_simp
      go_at_call 91
      refine (CON.out _ goB).mono ?_
      rintro e wz ⟨rfl, hbz⟩
      go_wp2_with fail
      refine hK.out _ _ ?hS17 (fun hHeld => ?_)
      case hS17 => exact ⟨cB hbz hHeld.1, cB hbz hHeld.2.1, cB hbz hHeld.2.2.1, cB hbz hHeld.2.2.2.1, cB hbz hHeld.2.2.2.2⟩
      clear hK K
      try simp only [gA, Act.put]
      refine wpAnyH_take (i := 18) (v := ?v18) rfl (by kernel_rfl) (by kernel_rfl) (by kernel_rfl) (fun _ _ _ h => h) (Or.inl ⟨by rfl, ?h18⟩) hHeld ?r18
      case h18 => (intro w hSw; (try dsimp only at hSw); go_simp; try with_reducible rfl)
      try simp only [gA, Act.put]
      refine wpAnyH_take (i := 19) (v := ?v19) rfl (by kernel_rfl) (by kernel_rfl) (by kernel_rfl) (fun _ _ _ h => h) (Or.inl ⟨by rfl, ?h19⟩) hHeld ?r19
      case h19 => (intro w hSw; (try dsimp only at hSw); go_simp; try with_reducible rfl)
      try simp only [gA, Act.put]
      refine wpAnyH_take (i := 20) (v := ?v20) rfl (by kernel_rfl) (by kernel_rfl) (by kernel_rfl) (fun _ _ _ h => h) (Or.inl ⟨by rfl, ?h20⟩) hHeld ?r20
      case h20 => (intro w hSw; (try dsimp only at hSw); go_simp; try with_reducible rfl)
      try simp only [gA, Act.put]
      refine wpAnyH_ready (rs := [23]) (by kernel_rfl) (by simp) ?_
      refine AllReadyH.cons rfl (fun K hK => ?_) AllReadyH.nil
      go_simp
      go_at_call 124
      refine (CW.out _).mono ?_
      rintro e wy ⟨rfl, hby⟩
      go_wp2_with fail
      refine hK.out _ _ ?hS23 (fun hHeld => ?_)
      case hS23 => exact ⟨cB hby hHeld.1, cB hby hHeld.2.1, cB hby hHeld.2.2.1, cB hby hHeld.2.2.2.1, cB hby hHeld.2.2.2.2⟩
      clear hK K
      try simp only [gA, Act.put]
      refine wpAnyH_take (i := 24) (v := ?v24) rfl (by kernel_rfl) (by kernel_rfl) (by kernel_rfl) (fun _ _ _ h => h) (Or.inl ⟨by rfl, ?h24⟩) hHeld ?r24
      case h24 => (intro w hSw; (try dsimp only at hSw); go_simp; try with_reducible rfl)
      try simp only [gA, Act.put]
      refine wpAnyH_take (i := 25) (v := ?v25) rfl (by kernel_rfl) (by kernel_rfl) (by kernel_rfl) (fun _ _ _ h => h) (Or.inl ⟨by rfl, ?h25⟩) hHeld ?r25
      case h25 => (intro w hSw; (try dsimp only at hSw); go_simp; try with_reducible rfl)
      try simp only [gA, Act.put]
      refine wpAnyH_take (i := 26) (v := ?v26) rfl (by kernel_rfl) (by kernel_rfl) (by kernel_rfl) (fun _ _ _ h => h) (Or.inl ⟨by rfl, ?h26⟩) hHeld ?r26
      case h26 => (intro w hSw; (try dsimp only at hSw); go_simp; try with_reducible rfl)
      try simp only [gA, Act.put]
      refine wpAnyH_done (by kernel_rfl) ?_ _
      have HB3 := Lib.hid (show Below wr.heap.size wr wy from goB)
      clear hbz hby hHeld
      cases q with
      | true =>
       go_wp2
       go_roundg (ls.length - (k + 1))
       case measure => omega
       case rel =>
        refine ⟨k + 1, by omega, by omega, by go_num, below2 BW2.out HB3.out, (show Hid _ from fun j hj hx => ?_)⟩
        by_cases e : j = k
        ·subst e
         rw [← HX.out, HXS.out]
         rfl
        ·exact AA.out j (by omega) hx
      | false =>
       go_wp2
       go_ret
       exact ⟨by unfold ownedS; rw [HNS.out, any_hit hlt (by rw [← HX.out, HXS.out]; rfl)]; rfl, below2 (below_a1 _ _) (below2 BW.out (below2 BW2.out HB3.out))⟩
    ·have hli : ¬ (k : Int) < (ls.length : Int) := by omega
     have hnw : ls.any (wrongB os) = false := any_miss fun j hj => AA.out j (by omega) hj
     have HNW := Lib.hid hnw
     clear hnw AA
     obtain ⟨w2, rfl⟩ : ∃ w2 : World, w2 = wr := ⟨_, rfl⟩
     go_wp2
     go_loopg [6] os.length (fun gg s6 wr => ∃ k : Nat, k ≤ os.length ∧ os.length - k ≤ gg ∧ s6 = .int .i64 k ∧ Hid (Below w2.heap.size w2 wr) ∧ Hid (∀ j, (hj : j < k) → (hx : j < os.length) → (decide (0 ≤ os[j].paid) && decide (os[j].paid ≤ feeAt os ls j)) = true))
     case atStart => exact ⟨0, Nat.zero_le _, by omega, rfl, Below.refl _ _, fun j hj => absurd hj (Nat.not_lt_zero _)⟩
     case round =>
      obtain ⟨k, hk, hg, rfl, BW3, AA⟩ := hrel
      have k03 := cB BW3.out k02
      have k13 := cB BW3.out k12
      by_cases hlt : k < os.length
      ·have hli : (k : Int) < (os.length : Int) := by omega
       obtain ⟨b, off, y, hy, rfl, hb, y0, -, y2⟩ := (HR.out.below (below2 BW.out (below2 BW2.out BW3.out))).atO hlt
       have HY := Lib.hid hy
       have hfe := fees_at HRI.out ls hlt
       rw [← hy] at hfe
       clear hy
       have hcon : ∀ W, Below wr.heap.size wr W → Calls Tryz.prog 92 #[.agg #[.slice (some ⟨b, off, none⟩) os.length c, .slice A2 ls.length c2], .int .i64 y.num] W fun e w' => e = .returned (.int .i64 (feesOf ls y.num)) ∧ Below W.heap.size W w' :=
        fun W hB => feesOf_any _ A2 c2 ls y.num W ((HR2.out.below (below2 BW.out (below2 BW2.out BW3.out))).below hB) HF.out hn2
       rw [hfe] at hcon
       obtain ⟨num, mark, paid⟩ := y
       simp only at y0 y2 hcon
       obtain ⟨fe, hfe2⟩ : ∃ fe, feeAt os ls k = fe := ⟨_, rfl⟩
       rw [hfe2] at hcon
       have HFE := Lib.hid hfe2
       have CON := Lib.hid hcon
       clear hfe hfe2 hcon
       by_cases h1 : paid < 0
       ·have hd1 : decide (paid < 0) = true := decide_eq_true h1
        have hbad : paidB os ls = false := paidB_no hlt (by rw [← HY.out]; simp only; rw [decide_eq_false (by omega)]; rfl)
        have HB := Lib.hid hbad
        clear hbad
        go_wp2
        go_quiet (fail)
        go_wp2
        go_ret
        exact ⟨by unfold ownedS; rw [HNS.out, HNW.out, HB.out]; rfl, below2 (below_a1 _ _) (below2 BW.out (below2 BW2.out (below2 BW3.out goB)))⟩
       have hd1 : decide (paid < 0) = false := decide_eq_false h1
       by_cases h2 : fe < paid
       ·have hd2 : decide (fe < paid) = true := decide_eq_true h2
        have hbad : paidB os ls = false := paidB_no hlt (by rw [← HY.out, HFE.out]; simp only; rw [decide_eq_false (show ¬ paid ≤ fe by omega)]; simp)
        have HB := Lib.hid hbad
        clear hbad
        go_wp2_with fail
        go_region_held3 (fun W => W.cell? ⟨w.heap.size, 0, none⟩ = some (.slice (some ⟨b, off, none⟩) os.length c) ∧ W.cell? ⟨w.heap.size, 1, none⟩ = some (.slice A2 ls.length c2) ∧ W.cell? ⟨b, off + k * 3, none⟩ = some (.int .i64 num) ∧ W.cell? ⟨b, off + k * 3 + 2, none⟩ = some (.int .i64 paid)) (go_keep)
         ((go_at_call 92; refine (CON.out _ goB).mono ?_; rintro e wz ⟨rfl, hbz⟩; (have kz0 := cB hbz k03; have kz1 := cB hbz k13; have kz2 := cB hbz y0; have kz3 := cB hbz y2)))
        all_goals
         go_wp2
         go_ret
         exact ⟨by unfold ownedS; rw [HNS.out, HNW.out, HB.out]; rfl, below2 (below_a1 _ _) (below2 BW.out (below2 BW2.out (below2 BW3.out goB)))⟩
       ·have hd2 : decide (fe < paid) = false := decide_eq_false h2
        go_wp2_with fail
        go_region_held3 (fun W => W.cell? ⟨w.heap.size, 0, none⟩ = some (.slice (some ⟨b, off, none⟩) os.length c) ∧ W.cell? ⟨w.heap.size, 1, none⟩ = some (.slice A2 ls.length c2) ∧ W.cell? ⟨b, off + k * 3, none⟩ = some (.int .i64 num) ∧ W.cell? ⟨b, off + k * 3 + 2, none⟩ = some (.int .i64 paid)) (go_keep)
         ((go_at_call 92; refine (CON.out _ goB).mono ?_; rintro e wz ⟨rfl, hbz⟩; (have kz0 := cB hbz k03; have kz1 := cB hbz k13; have kz2 := cB hbz y0; have kz3 := cB hbz y2)))
        all_goals
         go_wp2
         go_roundg (os.length - (k + 1))
         case measure => omega
         case rel =>
          refine ⟨k + 1, by omega, by omega, by go_num, below2 BW3.out goB, (show Hid _ from fun j hj hx => ?_)⟩
          by_cases e : j = k
          ·subst e
           rw [← HY.out, HFE.out]
           simp only
           rw [decide_eq_true (show 0 ≤ paid by omega), decide_eq_true (show paid ≤ fe by omega)]
           rfl
          ·exact AA.out j (by omega) hx
      ·have hli : ¬ (k : Int) < (os.length : Int) := by omega
       have hok : paidB os ls = true := paidB_yes fun j hj => AA.out j (by omega) hj
       have HOK := Lib.hid hok
       clear hok
       go_wp2
       go_ret
       exact ⟨by unfold ownedS; rw [HNS.out, HNW.out, HOK.out]; rfl, below2 (below_a1 _ _) (below2 BW.out (below2 BW2.out BW3.out))⟩
end Go.Proofs.YtcnpbcgkhhebaaaGreatDoor
/- The document: a season is valid. -/
namespace Go.Proofs.YtcnpbcgkhhebaaaGreatDoor
open Go.RowKit

theorem odd_of {m : ByteArray} {num paid : Int} {a b : Bool} (h1 : isSeenB m = a) (h2 : m.toList.isEmpty = b) : oddB ⟨num, m, paid⟩ = (!a || b) := by
 unfold oddB
 have e : decide (m.size = 0) = m.toList.isEmpty := by
  rw [Bool.eq_iff_iff, decide_eq_true_eq, List.isEmpty_iff]
  exact (empty_iff m).symm
 rw [h1, e, h2]
 cases a <;> cases b <;> rfl
theorem stray_of {num feet own : Int} {seen : ByteArray} {gone : Bool} : strayB ⟨num, seen, feet, own, gone⟩ = (!numB num || decide (feet < 1) || decide (10000 < feet) || (!decide (own = 0) && !numB own)) := by
 unfold strayB numB
 rw [Bool.eq_iff_iff]
 simp only [Bool.or_eq_true, Bool.not_eq_true', Bool.and_eq_false_iff, decide_eq_false_iff_not, decide_eq_true_eq, Bool.and_eq_true]
 omega
theorem checkO_two (os : List Ow) (ls : List Lg) : checkO os ls = if twiceB os ls then 11 else ownedS os ls := rfl
/-- What loop after loop has shown. -/
theorem check_6 {os : List Ow} {ls : List Lg} (h : 20 < os.length ∨ 100 < ls.length) : checkS os ls = 6 := by
 unfold checkS
 rw [if_pos]
 rcases h with h | h <;> simp [h]
theorem check_more {os : List Ow} {ls : List Lg} (h1 : ¬ 20 < os.length) (h2 : ¬ 100 < ls.length) : checkS os ls = if os.any oddB || ls.any (fun x => !isSeenB x.seen) then 8 else if os.any numBad then 3 else if ls.any strayB then 3 else checkO os ls := by
 unfold checkS
 rw [decide_eq_false h1, decide_eq_false h2]
 rfl

set_option maxRecDepth 100000 in
set_option maxHeartbeats 8000000 in
theorem check2_any (A : Option Addr) (c : Nat) (os : List Ow) (A2 : Option Addr) (c2 : Nat) (ls : List Lg) (w : World) (hr : Rd eO 3 w A c os) (hr2 : Rd eL 5 w A2 c2 ls)
  (hm : ∀ x ∈ os, x.mark.size ≤ 9223372036854775807) (hs : ∀ l ∈ ls, l.seen.size ≤ 9223372036854775807) :
  Calls Tryz.prog 35 #[.agg #[.slice A os.length c, .slice A2 ls.length c2]] w fun e w' => e = .returned (.int .i64 (checkS os ls)) ∧ Below w.heap.size w w' := by
 have HR := Lib.hid (hr.below (below_a1 w (.cells #[.slice A os.length c, .slice A2 ls.length c2] 26)))
 have HR2 := Lib.hid (hr2.below (below_a1 w (.cells #[.slice A os.length c, .slice A2 ls.length c2] 26)))
 have HM := Lib.hid hm
 have HS := Lib.hid hs
 have hlen := hr.len
 have hlen2 := hr2.len
 clear hr hr2 hm hs
 by_cases h1 : 20 < os.length
 ·have hd1 : decide (20 < os.length) = true := decide_eq_true h1
  have hd1i : decide (20 < (os.length : Int)) = true := decide_eq_true (by omega)
  have hc := Lib.hid (check_6 (os := os) (ls := ls) (.inl h1))
  go_enter Tryz.func35, Tryz.ntmps35
  go_wp2
  go_ret
  exact ⟨by rw [hc.out]; rfl, below_a1 _ _⟩
 have hd1 : decide (20 < os.length) = false := decide_eq_false h1
 have hd1i : decide (20 < (os.length : Int)) = false := decide_eq_false (by omega)
 by_cases h2 : 100 < ls.length
 ·have hd2 : decide (100 < ls.length) = true := decide_eq_true h2
  have hd2i : decide (100 < (ls.length : Int)) = true := decide_eq_true (by omega)
  have hc := Lib.hid (check_6 (os := os) (ls := ls) (.inr h2))
  go_enter Tryz.func35, Tryz.ntmps35
  go_wp2
  go_ret
  exact ⟨by rw [hc.out]; rfl, below_a1 _ _⟩
 have hd2 : decide (100 < ls.length) = false := decide_eq_false h2
 have hd2i : decide (100 < (ls.length : Int)) = false := decide_eq_false (by omega)
 have HC := Lib.hid (check_more h1 h2)
 go_enter Tryz.func35, Tryz.ntmps35
 go_wp2
 clear hd1 hd1i hd2 hd2i
 go_loopg [3] os.length (fun gg s3 wr => ∃ k : Nat, k ≤ os.length ∧ os.length - k ≤ gg ∧ s3 = .int .i64 k ∧ Hid (Below (w.alloc (.cells #[.slice A os.length c, .slice A2 ls.length c2] 26)).heap.size (w.alloc (.cells #[.slice A os.length c, .slice A2 ls.length c2] 26)) wr) ∧ Hid (∀ j, (hj : j < k) → (hx : j < os.length) → oddB os[j] = false))
 case atStart => exact ⟨0, Nat.zero_le _, by omega, rfl, Below.refl _ _, fun j hj => absurd hj (Nat.not_lt_zero _)⟩
 case round =>
  obtain ⟨k, hk, hg, rfl, BW, AA⟩ := hrel
  have k0 : wr.cell? ⟨w.heap.size, 0, none⟩ = some (.slice A os.length c) := cB BW.out (by go_simp)
  have k1 : wr.cell? ⟨w.heap.size, 1, none⟩ = some (.slice A2 ls.length c2) := cB BW.out (by go_simp)
  by_cases hlt : k < os.length
  ·have hli : (k : Int) < (os.length : Int) := by omega
   obtain ⟨b, off, y, hy, rfl, hb, -, y1, -⟩ := (HR.out.below BW.out).atO hlt
   have HY := Lib.hid hy
   have hms := HM.out y (by rw [hy]; exact List.getElem_mem hlt)
   obtain ⟨num, mark, paid⟩ := y
   simp only at y1 hms
   have hcon := isSeen2_any mark wr hms
   have hod := fun a b => odd_of (m := mark) (num := num) (paid := paid) (a := a) (b := b)
   have HOD := Lib.hid hod
   clear hy hod
   obtain ⟨q, hq⟩ : ∃ q, isSeenB mark = q := ⟨_, rfl⟩
   rw [hq] at hcon
   have HQ := Lib.hid hq
   have CON := Lib.hid hcon
   clear hq hcon
   cases q with
   | false =>
    go_wp2_with fail
    refine CON.out.mono ?_
    rintro e w1 ⟨rfl, hb1⟩
    go_wp2
    go_ret
    have hoo := HOD.out _ _ HQ.out rfl
    exact ⟨by rw [HC.out, any_hit hlt (by rw [← HY.out, hoo]; rfl)]; rfl, below2 (below_a1 _ _) (below2 BW.out hb1)⟩
   | true =>
    cases he : mark.toList.isEmpty with
    | true =>
     have HE := Lib.hid he
     go_wp2_with fail
     refine CON.out.mono ?_
     rintro e w1 ⟨rfl, hb1⟩
     have k01 := cB hb1 k0
     have y11 := cB hb1 y1
     go_wp2
     go_ret
     have hoo := HOD.out _ _ HQ.out HE.out
     exact ⟨by rw [HC.out, any_hit hlt (by rw [← HY.out, hoo]; rfl)]; rfl, below2 (below_a1 _ _) (below2 BW.out hb1)⟩
    | false =>
     have HE := Lib.hid he
     go_wp2_with fail
     refine CON.out.mono ?_
     rintro e w1 ⟨rfl, hb1⟩
     have k01 := cB hb1 k0
     have y11 := cB hb1 y1
     go_wp2
     go_roundg (os.length - (k + 1))
     case measure => omega
     case rel =>
      refine ⟨k + 1, by omega, by omega, by go_num, below2 BW.out hb1, (show Hid _ from fun j hj hx => ?_)⟩
      by_cases e : j = k
      ·subst e
       rw [← HY.out, HOD.out _ _ HQ.out HE.out]
       rfl
      ·exact AA.out j (by omega) hx
  ·have hli : ¬ (k : Int) < (os.length : Int) := by omega
   have hno : os.any oddB = false := any_miss fun j hj => AA.out j (by omega) hj
   have HC1 := Lib.hid (HC.out.trans (by rw [hno, Bool.false_or]))
   have HNO := Lib.hid hno
   clear hno AA HC
   obtain ⟨w1, rfl⟩ : ∃ w1 : World, w1 = wr := ⟨_, rfl⟩
   go_wp2
   go_loopg [4] ls.length (fun gg s4 wr => ∃ k : Nat, k ≤ ls.length ∧ ls.length - k ≤ gg ∧ s4 = .int .i64 k ∧ Hid (Below w1.heap.size w1 wr) ∧ Hid (∀ j, (hj : j < k) → (hx : j < ls.length) → isSeenB ls[j].seen = true))
   case atStart => exact ⟨0, Nat.zero_le _, by omega, rfl, Below.refl _ _, fun j hj => absurd hj (Nat.not_lt_zero _)⟩
   case round =>
    obtain ⟨k, hk, hg, rfl, BW2, AA⟩ := hrel
    have k02 := cB BW2.out k0
    have k12 := cB BW2.out k1
    by_cases hlt : k < ls.length
    ·have hli : (k : Int) < (ls.length : Int) := by omega
     obtain ⟨b, off, x, hx, rfl, hb, -, x1, -, -, -⟩ := (HR2.out.below (below2 BW.out BW2.out)).atL hlt
     have HX := Lib.hid hx
     have hms := HS.out x (by rw [hx]; exact List.getElem_mem hlt)
     obtain ⟨num, seen, feet, own, gone⟩ := x
     simp only at x1 hms
     have hcon := isSeen2_any seen wr hms
     clear hx
     obtain ⟨q, hq⟩ : ∃ q, isSeenB seen = q := ⟨_, rfl⟩
     rw [hq] at hcon
     have HQ := Lib.hid hq
     have CON := Lib.hid hcon
     clear hq hcon
     cases q with
     | false =>
      go_wp2_with fail
      refine CON.out.mono ?_
      rintro e w3 ⟨rfl, hb1⟩
      go_wp2
      go_ret
      exact ⟨by rw [HC1.out, any_hit (p := fun x : Lg => !isSeenB x.seen) hlt (by rw [← HX.out]; simp only; rw [HQ.out]; rfl)]; rfl, below2 (below_a1 _ _) (below2 BW.out (below2 BW2.out hb1))⟩
     | true =>
      go_wp2_with fail
      refine CON.out.mono ?_
      rintro e w3 ⟨rfl, hb1⟩
      go_wp2
      go_roundg (ls.length - (k + 1))
      case measure => omega
      case rel =>
       refine ⟨k + 1, by omega, by omega, by go_num, below2 BW2.out hb1, (show Hid _ from fun j hj hx => ?_)⟩
       by_cases e : j = k
       ·subst e
        rw [← HX.out]; exact HQ.out
       ·exact AA.out j (by omega) hx
    ·have hli : ¬ (k : Int) < (ls.length : Int) := by omega
     have hno : ls.any (fun x => !isSeenB x.seen) = false := any_miss fun j hj => by show (!isSeenB ls[j].seen) = false; rw [AA.out j (by omega) hj]; rfl
     have HC2 := Lib.hid (HC1.out.trans (by rw [hno, if_neg Bool.false_ne_true]))
     clear hno AA HC1
     obtain ⟨w2, rfl⟩ : ∃ w2 : World, w2 = wr := ⟨_, rfl⟩
     go_wp2
     go_loopg [5] os.length (fun gg s5 wr => ∃ k : Nat, k ≤ os.length ∧ os.length - k ≤ gg ∧ s5 = .int .i64 k ∧ Hid (Below w2.heap.size w2 wr) ∧ Hid (∀ j, (hj : j < k) → (hx : j < os.length) → numBad os[j] = false))
     case atStart => exact ⟨0, Nat.zero_le _, by omega, rfl, Below.refl _ _, fun j hj => absurd hj (Nat.not_lt_zero _)⟩
     case round =>
      obtain ⟨k, hk, hg, rfl, BW3, AA⟩ := hrel
      have k03 := cB BW3.out k02
      have k13 := cB BW3.out k12
      by_cases hlt : k < os.length
      ·have hli : (k : Int) < (os.length : Int) := by omega
       obtain ⟨b, off, y, hy, rfl, hb, y0, -, -⟩ := (HR.out.below (below2 BW.out (below2 BW2.out BW3.out))).atO hlt
       have HY := Lib.hid hy
       obtain ⟨num, mark, paid⟩ := y
       simp only at y0
       have hcon := isNumber_any num wr
       clear hy
       have hnb : numBad ⟨num, mark, paid⟩ = !numB num := rfl
       obtain ⟨q, hq⟩ : ∃ q, numB num = q := ⟨_, rfl⟩
       rw [hq] at hcon hnb
       have HNB := Lib.hid hnb
       have CON := Lib.hid hcon
       clear hq hcon hnb
       cases q with
       | false =>
        go_wp2_with fail
        refine CON.out.mono ?_
        rintro e w4 ⟨rfl, rfl⟩
        go_wp2
        go_ret
        exact ⟨by rw [HC2.out, any_hit hlt (by rw [← HY.out, HNB.out]; rfl)]; rfl, below2 (below_a1 _ _) (below2 BW.out (below2 BW2.out BW3.out))⟩
       | true =>
        go_wp2_with fail
        refine CON.out.mono ?_
        rintro e w4 ⟨rfl, rfl⟩
        go_wp2
        go_roundg (os.length - (k + 1))
        case measure => omega
        case rel =>
         refine ⟨k + 1, by omega, by omega, by go_num, BW3.out, (show Hid _ from fun j hj hx => ?_)⟩
         by_cases e : j = k
         ·subst e
          rw [← HY.out, HNB.out]; rfl
         ·exact AA.out j (by omega) hx
      ·have hli : ¬ (k : Int) < (os.length : Int) := by omega
       have hno : os.any numBad = false := any_miss fun j hj => AA.out j (by omega) hj
       have HC3 := Lib.hid (HC2.out.trans (by rw [hno, if_neg Bool.false_ne_true]))
       clear hno AA HC2
       obtain ⟨w3, rfl⟩ : ∃ w3 : World, w3 = wr := ⟨_, rfl⟩
       go_wp2
       go_loopg [6] ls.length (fun gg s6 wr => ∃ k : Nat, k ≤ ls.length ∧ ls.length - k ≤ gg ∧ s6 = .int .i64 k ∧ Hid (Below w3.heap.size w3 wr) ∧ Hid (∀ j, (hj : j < k) → (hx : j < ls.length) → strayB ls[j] = false))
       case atStart => exact ⟨0, Nat.zero_le _, by omega, rfl, Below.refl _ _, fun j hj => absurd hj (Nat.not_lt_zero _)⟩
       case round =>
        obtain ⟨k, hk, hg, rfl, BW4, AA⟩ := hrel
        have k04 := cB BW4.out k03
        have k14 := cB BW4.out k13
        by_cases hlt : k < ls.length
        ·have hli : (k : Int) < (ls.length : Int) := by omega
         obtain ⟨b, off, x, hx, rfl, hb, x0, x1, x2, x3, x4⟩ := (HR2.out.below (below2 BW.out (below2 BW2.out (below2 BW3.out BW4.out)))).atL hlt
         have HX := Lib.hid hx
         obtain ⟨num, seen, feet, own, gone⟩ := x
         simp only at x0 x1 x2 x3 x4
         have hst := stray_of (num := num) (feet := feet) (own := own) (seen := seen) (gone := gone)
         obtain ⟨q, hq⟩ : ∃ q, numB num = q := ⟨_, rfl⟩
         obtain ⟨q2, hq2⟩ : ∃ q, numB own = q := ⟨_, rfl⟩
         have hcon : ∀ W, Calls Tryz.prog 83 #[.int .i64 num] W fun e w' => e = .returned (.bool q) ∧ w' = W := fun W => by rw [← hq]; exact isNumber_any num W
         have hcon2 : ∀ W, Calls Tryz.prog 83 #[.int .i64 own] W fun e w' => e = .returned (.bool q2) ∧ w' = W := fun W => by rw [← hq2]; exact isNumber_any own W
         rw [hq, hq2] at hst
         have CON := Lib.hid hcon
         have CON2 := Lib.hid hcon2
         clear hx hq hq2 hcon hcon2
         have fin1 : strayB ⟨num, seen, feet, own, gone⟩ = true → ∀ W, Below wr.heap.size wr W → (Ending.returned (Value.int .i64 3) = .returned (.int .i64 (checkS os ls)) ∧ Below w.heap.size w W) := fun h W hW =>
          ⟨by rw [HC3.out, any_hit hlt (by rw [← HX.out]; exact h)]; rfl, below2 (below_a1 _ _) (below2 BW.out (below2 BW2.out (below2 BW3.out (below2 BW4.out hW))))⟩
         have FIN := Lib.hid fin1
         clear fin1
         cases q with
         | false =>
          have HST := Lib.hid (hst.trans (show _ = true from rfl))
          clear hst
          go_wp2_with fail
          refine (CON.out _).mono ?_
          rintro e w5 ⟨rfl, rfl⟩
          go_wp2
          go_ret
          exact FIN.out HST.out _ goB
         | true =>
          by_cases f1 : feet < 1
          ·have hf1 : decide (feet < 1) = true := decide_eq_true f1
           rw [hf1] at hst
           have HST := Lib.hid (hst.trans (show _ = true from rfl))
           clear hst
           go_wp2_with fail
           refine (CON.out _).mono ?_
           rintro e w5 ⟨rfl, rfl⟩
           go_wp2
           go_ret
           exact FIN.out HST.out _ goB
          have hf1 : decide (feet < 1) = false := decide_eq_false f1
          by_cases f2 : 10000 < feet
          ·have hf2 : decide (10000 < feet) = true := decide_eq_true f2
           rw [hf1, hf2] at hst
           have HST := Lib.hid (hst.trans (show _ = true from rfl))
           clear hst
           go_wp2_with fail
           refine (CON.out _).mono ?_
           rintro e w5 ⟨rfl, rfl⟩
           go_wp2
           go_ret
           exact FIN.out HST.out _ goB
          have hf2 : decide (10000 < feet) = false := decide_eq_false f2
          rw [hf1, hf2] at hst
          by_cases f3 : own = 0
          ·have hd3 : (own != 0) = false := by simp [f3]
           rw [decide_eq_true f3] at hst
           have HST := Lib.hid (hst.trans (show _ = false from rfl))
           clear hst f3
           go_wp2_with fail
           refine (CON.out _).mono ?_
           rintro e w5 ⟨rfl, rfl⟩
           go_wp2
           go_roundg (ls.length - (k + 1))
           case measure => omega
           case rel =>
            refine ⟨k + 1, by omega, by omega, by go_num, below2 BW4.out goB, (show Hid _ from fun j hj hx => ?_)⟩
            by_cases e : j = k
            ·subst e
             rw [← HX.out]; exact HST.out
            ·exact AA.out j (by omega) hx
          have hd3 : (own != 0) = true := by simp [f3]
          rw [decide_eq_false f3] at hst
          cases q2 with
          | false =>
           have HST := Lib.hid (hst.trans (show _ = true from rfl))
           clear hst
           go_wp2_with fail
           refine (CON.out _).mono ?_
           rintro e w5 ⟨rfl, rfl⟩
           go_wp2_with fail
           refine (CON2.out _).mono ?_
           rintro e w5 ⟨rfl, rfl⟩
           go_wp2
           go_ret
           exact FIN.out HST.out _ goB
          | true =>
           have HST := Lib.hid (hst.trans (show _ = false from rfl))
           clear hst
           go_wp2_with fail
           refine (CON.out _).mono ?_
           rintro e w5 ⟨rfl, rfl⟩
           go_wp2_with fail
           refine (CON2.out _).mono ?_
           rintro e w5 ⟨rfl, rfl⟩
           go_wp2
           go_roundg (ls.length - (k + 1))
           case measure => omega
           case rel =>
            refine ⟨k + 1, by omega, by omega, by go_num, below2 BW4.out goB, (show Hid _ from fun j hj hx => ?_)⟩
            by_cases e : j = k
            ·subst e
             rw [← HX.out]; exact HST.out
            ·exact AA.out j (by omega) hx
        ·have hli : ¬ (k : Int) < (ls.length : Int) := by omega
         have hno : ls.any strayB = false := any_miss fun j hj => AA.out j (by omega) hj
         have HC4 := Lib.hid ((HC3.out.trans (by rw [hno, if_neg Bool.false_ne_true])).trans (checkO_two os ls))
         have hft : ∀ l ∈ ls, 1 ≤ l.feet ∧ l.feet ≤ 10000 := fun l hl => by
          have := List.any_eq_false.1 hno l hl
          unfold strayB at this
          simp only [Bool.or_eq_true, Bool.not_eq_true', Bool.and_eq_false_iff, decide_eq_false_iff_not, not_or, Decidable.not_not] at this
          omega
         have HFT := Lib.hid hft
         clear hno AA HC3 hft
         have hc1 := twice_any A c os A2 c2 ls wr (HR.out.below (below2 BW.out (below2 BW2.out (below2 BW3.out BW4.out)))) (HR2.out.below (below2 BW.out (below2 BW2.out (below2 BW3.out BW4.out)))) (by omega) (by omega)
         obtain ⟨q, hq⟩ : ∃ q, twiceB os ls = q := ⟨_, rfl⟩
         rw [hq] at hc1
         have C1 := Lib.hid hc1
         have HQ := Lib.hid hq
         clear hc1 hq
         cases q with
         | true =>
          go_wp2_with fail
          refine C1.out.mono ?_
          rintro e w5 ⟨rfl, hb5⟩
          go_wp2
          go_ret
          exact ⟨by rw [HC4.out, HQ.out]; rfl, below2 (below_a1 _ _) (below2 BW.out (below2 BW2.out (below2 BW3.out (below2 BW4.out hb5))))⟩
         | false =>
          have hri : riseB os = true := by
           have := HQ.out
           unfold twiceB at this
           simp only [Bool.or_eq_false_iff, Bool.not_eq_false'] at this
           exact this.1.1
          have HRI := Lib.hid hri
          clear hri
          go_wp2_with fail
          refine C1.out.mono ?_
          rintro e w5 ⟨rfl, hb5⟩
          have k05 := cB hb5 k04
          have k15 := cB hb5 k14
          have BW5 := Lib.hid (below2 BW.out (below2 BW2.out (below2 BW3.out (below2 BW4.out hb5))))
          clear hb5 k04 k14
          have hc2 := owned_any A c os A2 c2 ls w5 (HR.out.below BW5.out) (HR2.out.below BW5.out) HRI.out (by omega) HM.out HS.out HFT.out
          obtain ⟨r, hr⟩ : ∃ r, ownedS os ls = r := ⟨_, rfl⟩
          rw [hr] at hc2
          have HRr := Lib.hid hr
          have C2 := Lib.hid hc2
          clear hc2 hr
          go_wp2_with fail
          refine C2.out.mono ?_
          rintro e w6 ⟨rfl, hb6⟩
          go_wp2
          go_ret
          exact ⟨by rw [HC4.out, HQ.out, if_neg Bool.false_ne_true, HRr.out]; rfl, below2 (below_a1 _ _) (below2 BW5.out hb6)⟩
end Go.Proofs.YtcnpbcgkhhebaaaGreatDoor
/- The lines of a text. -/
namespace Go.Proofs.YtcnpbcgkhhebaaaGreatDoor
open Go.RowKit

/-- All parts but the last are lines, which are numbered; the last is empty. -/
def lineL : Nat → List (List UInt8) → Option (List Ln)
 | _, [] => none
 | _, [p] => if p = [] then some [] else none
 | n, p :: q :: r => match lineS ⟨p.toArray⟩ ((n : Int) + 1) with
  | none => none
  | some x => (lineL (n + 1) (q :: r)).map (x :: ·)
def parseS (text : ByteArray) : List Ln × Int :=
 if 8000 < text.size then ([], 7) else match lineL 0 (parts 10 text.data.toList) with
  | none => ([], 8)
  | some l => if 200 < l.length then ([], 6) else (l, 0)

theorem parts_cons (c : UInt8) (l : List UInt8) : ∃ p r, parts c l = p :: r := by
 cases h : parts c l with
 | nil => exact absurd h (parts_ne c l)
 | cons p r => exact ⟨p, r, rfl⟩
theorem lineL_hit {n : Nat} {l : List UInt8} {i : Nat} (h : l[i]? = some 10) (hk : ∀ k : Nat, k < i → l[k]? ≠ some 10) :
  lineL n (parts 10 l) = match lineS ⟨(l.take i).toArray⟩ ((n : Int) + 1) with
   | none => none
   | some x => (lineL (n + 1) (parts 10 (l.drop (i + 1)))).map (x :: ·) := by
 rw [parts_hit l i h hk]
 obtain ⟨p, r, hp⟩ := parts_cons 10 (l.drop (i + 1))
 rw [hp, lineL]
theorem lineL_miss {n : Nat} {l : List UInt8} (h0 : l ≠ []) (hk : ∀ k : Nat, l[k]? ≠ some 10) : lineL n (parts 10 l) = none := by
 rw [parts_none l hk, lineL, if_neg h0]
theorem lineL_nil (n : Nat) : lineL n (parts 10 []) = some [] := rfl
theorem first_nl (l : List UInt8) : (∃ i : Nat, l[i]? = some 10 ∧ ∀ k : Nat, k < i → l[k]? ≠ some 10) ∨ (∀ k : Nat, l[k]? ≠ some 10) := by
 by_cases h : ∃ i : Nat, l[i]? = some (10 : UInt8)
 ·refine .inl ?_
  obtain ⟨i, hi⟩ := h
  induction i using Nat.strongRecOn with
  | _ i ih =>
   by_cases h2 : ∃ k : Nat, k < i ∧ l[k]? = some (10 : UInt8)
   ·obtain ⟨k, hk, hk2⟩ := h2
    exact ih k hk hk2
   ·exact ⟨i, hi, fun k hk e => h2 ⟨k, hk, e⟩⟩
 ·exact .inr fun k e => h ⟨k, e⟩

theorem lineS_ok {s : ByteArray} {n : Int} {x : Ln} (h : lineS s n = some x) : LnOk x ∧ 1 ≤ x.one ∧ x.one ≤ 1099511627776 ∧ (x.word = wStrike → x.one ≤ 200) ∧ (x.word = wMark ∨ x.word = wLog ∨ x.word = wClaim ∨ x.word = wRaft ∨ x.word = wPay ∨ x.word = wStrike) := by
 unfold lineS at h
 simp only at h
 split at h
 ·cases h
 rename_i h3
 split at h
 ·cases h
 split at h
 ·cases h
 rename_i hl
 have hlen : (mostsL ((partsB s ⟨#[32]⟩)[1]?.getD ⟨#[]⟩)).length = ((partsB s ⟨#[32]⟩).drop 2).length := by
  rw [List.length_drop]
  exact Decidable.not_not.1 hl
 have hq3 : 1 ≤ ((partsB s ⟨#[32]⟩).drop 2).length := by rw [List.length_drop]; omega
 generalize (partsB s ⟨#[32]⟩)[1]?.getD ⟨#[]⟩ = word at h hlen
 generalize (partsB s ⟨#[32]⟩).drop 2 = Q at h hlen hq3
 generalize (⟨(Lib.join (((partsB s ⟨#[32]⟩).drop 1).map (·.data.toList)) [32]).toArray⟩ : ByteArray) = text at h
 split at h
 ·cases h
 rename_i all letters hrun
 cases h
 have key : isSeenB letters = true ∧ (1 ≤ (all[0]?).getD (0 : Int) ∧ (all[0]?).getD (0 : Int) ≤ 1099511627776) ∧ (0 ≤ (all[1]?).getD (0 : Int) ∧ (all[1]?).getD (0 : Int) ≤ 1099511627776) ∧ (word = wLog → 1 ≤ (all[1]?).getD (0 : Int) ∧ (all[1]?).getD (0 : Int) ≤ 10000) ∧ (word = wStrike → (all[0]?).getD (0 : Int) ≤ 200) ∧ (word = wMark ∨ word = wLog ∨ word = wClaim ∨ word = wRaft ∨ word = wPay ∨ word = wStrike) := by
  have hs0 : isSeenB ⟨#[]⟩ = true := by decide
  have two : ∀ {a b : Int} {all : List Int} {letters : ByteArray} {p q : ByteArray} {lg : Bool}, 0 < a → 0 < b → runL lg ([], ⟨#[]⟩) [(a, p), (b, q)] = some (all, letters) → ∃ u v, all = [u, v] ∧ letters = ⟨#[]⟩ ∧ 1 ≤ u ∧ u ≤ a ∧ 1 ≤ v ∧ v ≤ b := by
   intro a b all letters p q lg ha hb hr
   simp only [runL, stepL, ha, hb, if_true] at hr
   split at hr
   ·cases hr
   rename_i st1 h1
   split at h1
   ·rename_i c1
    cases h1
    split at hr
    ·cases hr
    rename_i st2 h2
    split at h2
    ·rename_i c2
     cases h2
     cases hr
     exact ⟨_, _, rfl, rfl, c1.2.1, c1.2.2, c2.2.1, c2.2.2⟩
    ·cases h2
   ·cases h1
  unfold mostsL at hrun hlen
  by_cases w1 : word = wMark
  ·rw [if_pos w1] at hrun hlen
   obtain ⟨p, q, rfl⟩ : ∃ p q, Q = [p, q] := by
    match Q, hlen with
    | [p, q], _ => exact ⟨p, q, rfl⟩
   have hx : word ≠ wLog := by rw [w1]; decide
   have hy : word ≠ wStrike := by rw [w1]; decide
   rw [decide_eq_false hx] at hrun
   simp only [List.zip_cons_cons, List.zip_nil_left, runL, stepL] at hrun
   split at hrun
   ·cases hrun
   rename_i st1 h1
   rw [if_pos (by omega)] at h1
   split at h1
   ·rename_i c1
    cases h1
    split at hrun
    ·cases hrun
    rename_i st2 h2
    rw [if_neg (by omega), if_neg (by simp)] at h2
    split at h2
    ·cases h2
    ·rename_i c2
     cases h2
     cases hrun
     rw [not_or] at c2
     exact ⟨by simpa using c2.2, ⟨c1.2.1, c1.2.2⟩, ⟨by simp, by simp⟩, fun e => absurd e hx, fun e => absurd e hy, .inl w1⟩
   ·cases h1
  rw [if_neg w1] at hrun hlen
  by_cases w2 : word = wLog
  ·rw [if_pos w2] at hrun hlen
   obtain ⟨p, q, r, rfl⟩ : ∃ p q r, Q = [p, q, r] := by
    match Q, hlen with
    | [p, q, r], _ => exact ⟨p, q, r, rfl⟩
   have hy : word ≠ wStrike := by rw [w2]; decide
   rw [decide_eq_true w2] at hrun
   simp only [List.zip_cons_cons, List.zip_nil_left, runL, stepL] at hrun
   split at hrun
   ·cases hrun
   rename_i st1 h1
   rw [if_pos (by omega)] at h1
   split at h1
   ·rename_i c1
    cases h1
    split at hrun
    ·cases hrun
    rename_i st2 h2
    rw [if_neg (by omega)] at h2
    have hst2 : st2.1 = [numV p] ∧ isSeenB st2.2 = true := by
     split at h2
     ·cases h2; exact ⟨rfl, hs0⟩
     ·split at h2
      ·cases h2
      ·rename_i c2
       cases h2
       rw [not_or] at c2
       exact ⟨rfl, by simpa using c2.2⟩
    split at hrun
    ·cases hrun
    rename_i st3 h3
    rw [if_pos (by omega)] at h3
    split at h3
    ·rename_i c3
     cases h3
     cases hrun
     rw [hst2.1]
     exact ⟨hst2.2, ⟨c1.2.1, c1.2.2⟩, ⟨by simp; omega, by simp; omega⟩, fun _ => ⟨c3.2.1, c3.2.2⟩, fun e => absurd e hy, .inr (.inl w2)⟩
    ·cases h3
   ·cases h1
  rw [if_neg w2] at hrun hlen
  by_cases w3 : word = wClaim
  ·rw [if_pos w3] at hrun hlen
   obtain ⟨p, q, rfl⟩ : ∃ p q, Q = [p, q] := by
    match Q, hlen with
    | [p, q], _ => exact ⟨p, q, rfl⟩
   obtain ⟨u, v, rfl, rfl, h1, h2, h3, h4⟩ := two (by omega) (by omega) hrun
   exact ⟨hs0, ⟨h1, h2⟩, ⟨by simp; omega, by simp; omega⟩, fun e => absurd e w2, fun e => by rw [w3] at e; exact absurd e (by decide), .inr (.inr (.inl w3))⟩
  rw [if_neg w3] at hrun hlen
  by_cases w4 : word = wRaft
  ·rw [if_pos w4] at hrun hlen
   obtain ⟨p, q, rfl⟩ : ∃ p q, Q = [p, q] := by
    match Q, hlen with
    | [p, q], _ => exact ⟨p, q, rfl⟩
   obtain ⟨u, v, rfl, rfl, h1, h2, h3, h4⟩ := two (by omega) (by omega) hrun
   exact ⟨hs0, ⟨h1, h2⟩, ⟨by simp; omega, by simp; omega⟩, fun e => absurd e w2, fun e => by rw [w4] at e; exact absurd e (by decide), .inr (.inr (.inr (.inl w4)))⟩
  rw [if_neg w4] at hrun hlen
  by_cases w5 : word = wPay
  ·rw [if_pos w5] at hrun hlen
   obtain ⟨p, q, rfl⟩ : ∃ p q, Q = [p, q] := by
    match Q, hlen with
    | [p, q], _ => exact ⟨p, q, rfl⟩
   obtain ⟨u, v, rfl, rfl, h1, h2, h3, h4⟩ := two (by omega) (by omega) hrun
   exact ⟨hs0, ⟨h1, h2⟩, ⟨by simp; omega, by simp; omega⟩, fun e => absurd e w2, fun e => by rw [w5] at e; exact absurd e (by decide), .inr (.inr (.inr (.inr (.inl w5))))⟩
  rw [if_neg w5] at hrun hlen
  by_cases w6 : word = wStrike
  ·rw [if_pos w6] at hrun hlen
   obtain ⟨p, rfl⟩ : ∃ p, Q = [p] := by
    match Q, hlen with
    | [p], _ => exact ⟨p, rfl⟩
   simp only [List.zip_cons_cons, List.zip_nil_left, runL, stepL] at hrun
   split at hrun
   ·cases hrun
   rename_i st1 h1
   rw [if_pos (by omega)] at h1
   split at h1
   ·rename_i c1
    cases h1
    cases hrun
    exact ⟨hs0, ⟨c1.2.1, by simp; omega⟩, ⟨by simp, by simp⟩, fun e => absurd e w2, fun _ => by simp; omega, .inr (.inr (.inr (.inr (.inr w6))))⟩
   ·cases h1
  rw [if_neg w6] at hlen
  simp at hlen
  omega
 obtain ⟨k1, k2, k3, k4, k5, k6⟩ := key
 exact ⟨⟨k1, k3, k4⟩, k2.1, k2.2, k5, k6⟩

/-- What a line keeps. -/
structure LnGood (x : Ln) : Prop where
 ok : LnOk x
 one : 1 ≤ x.one ∧ x.one ≤ 1099511627776
 strike : x.word = wStrike → x.one ≤ 200
theorem lineL_good : ∀ (ps : List (List UInt8)) (n : Nat) (l : List Ln), lineL n ps = some l → ∀ x ∈ l, LnGood x
 | [], n, l, h => by simp [lineL] at h
 | [p], n, l, h => by
  rw [lineL] at h
  split at h
  ·cases h; intro x hx; cases hx
  ·cases h
 | p :: q :: r, n, l, h => by
  rw [lineL] at h
  split at h
  ·cases h
  ·rename_i x hx
   obtain ⟨l', hl', rfl⟩ := Option.map_eq_some_iff.1 h
   intro y hy
   rcases List.mem_cons.1 hy with rfl | hy
   ·obtain ⟨h1, h2, h3, h4, _⟩ := lineS_ok hx
    exact ⟨h1, ⟨h2, h3⟩, h4⟩
   ·exact lineL_good (q :: r) (n + 1) l' hl' y hy
theorem parseS_good {text : ByteArray} : ∀ x ∈ (parseS text).1, LnGood x := by
 unfold parseS
 split
 ·intro x hx; cases hx
 ·split
  ·intro x hx; cases hx
  ·rename_i l hl
   split
   ·intro x hx; cases hx
   ·exact lineL_good _ _ _ hl
theorem parseS_len {text : ByteArray} : (parseS text).1.length ≤ 200 := by
 unfold parseS
 split
 ·simp
 ·split
  ·simp
  ·split
   ·simp
   ·simp only; omega
end Go.Proofs.YtcnpbcgkhhebaaaGreatDoor
/- A text is parsed. -/
namespace Go.Proofs.YtcnpbcgkhhebaaaGreatDoor
open Go.RowKit

theorem e108 : EInfo 83 108 (.agg #[.string ByteArray.empty, .int .i64 0, .int .i64 0, .string ByteArray.empty, .string ByteArray.empty]) 5 64 := ⟨Tryz.underlying83, by kernel_rfl, rfl, by omega⟩
theorem five_N {w : World} {b : Nat} {x : Ln} (h0 : w.cell? ⟨b, 0, none⟩ = some (.string x.word)) (h1 : w.cell? ⟨b, 1, none⟩ = some (.int .i64 x.one)) (h2 : w.cell? ⟨b, 2, none⟩ = some (.int .i64 x.two)) (h3 : w.cell? ⟨b, 3, none⟩ = some (.string x.letters)) (h4 : w.cell? ⟨b, 4, none⟩ = some (.string x.text)) :
  ∀ j u, (eN x)[j]? = some u → w.cell? ⟨b, j, none⟩ = some u := by
 intro j u hj
 match j with
 | 0 => simp [eN] at hj; subst hj; exact h0
 | 1 => simp [eN] at hj; subst hj; exact h1
 | 2 => simp [eN] at hj; subst hj; exact h2
 | 3 => simp [eN] at hj; subst hj; exact h3
 | 4 => simp [eN] at hj; subst hj; exact h4
 | j + 5 => simp [eN] at hj

/-- The lines and the error. -/
def ParseR (w : World) (r : List Ln × Int) (e : Ending) (w' : World) : Prop := OwnR2 eN 108 5 w.heap.size w' e r.1 r.2 ∧ Below w.heap.size w w'

set_option maxRecDepth 100000 in
set_option maxHeartbeats 4000000 in
theorem parse_any (text : ByteArray) (w : World) (hL : LaidW w) (hs : text.size ≤ 9223372036854775807) :
  Calls Tryz.prog 58 #[.string text] w (ParseR w (parseS text)) := by
 by_cases h8 : 8000 < text.size
 ·have hd8 : decide (8000 < text.size) = true := decide_eq_true h8
  have hd8i : decide (8000 < (text.size : Int)) = true := decide_eq_true (by omega)
  have hp : parseS text = ([], 7) := by unfold parseS; rw [if_pos h8]
  have HP := Lib.hid hp
  clear hp
  go_enter Tryz.func58, Tryz.ntmps58
  go_wp2
  go_ret2
  rw [HP.out]
  exact ⟨Own.ret2 (v := .slice none 0 0) (Own.nil_ _ _ _ _ _) rfl, Below.refl _ _⟩
 have hd8 : decide (8000 < text.size) = false := decide_eq_false h8
 have hd8i : decide (8000 < (text.size : Int)) = false := decide_eq_false (by omega)
 have hp : parseS text = match lineL 0 (parts 10 text.data.toList) with | none => ([], 8) | some l => if 200 < l.length then ([], 6) else (l, 0) := by unfold parseS; exact if_neg h8
 have HP := Lib.hid hp
 have HL := Lib.hid hL
 clear hp hL
 go_enter Tryz.func58, Tryz.ntmps58
 go_wp2
 clear hd8 hd8i hs
 go_loopg [4, 5] text.size (fun gg s4 s5 wr => ∃ (l : List Ln) (rs : ByteArray), s5 = .string rs ∧ rs.size ≤ gg ∧ l.length + rs.size ≤ text.size ∧ Hid (lineL 0 (parts 10 text.data.toList) = (lineL l.length (parts 10 rs.data.toList)).map (l ++ ·)) ∧ Hid (Below w.heap.size w wr) ∧ Hid (Own eN 108 5 w.heap.size wr s4 l))
 case atStart => exact ⟨[], text, rfl, by omega, by simp, (show lineL 0 (parts 10 text.data.toList) = (lineL 0 (parts 10 text.data.toList)).map ([] ++ ·) from by simp), Below.refl _ _, Own.nil_ _ _ _ _ _⟩
 case round =>
  obtain ⟨l, rs, rfl, hg, hsz, LL, BW, OW⟩ := hrel
  cases he : rs.toList.isEmpty with
  | true =>
   have hrs : rs.data.toList = [] := by rw [List.isEmpty_iff, ByteArray.toList_eq] at he; exact he
   have hll : lineL 0 (parts 10 text.data.toList) = some l := by rw [LL.out, hrs, lineL_nil]; simp
   have HLL := Lib.hid hll
   have hne : !rs.toList.isEmpty = false := by rw [he]; rfl
   clear hrs hll LL
   by_cases h2 : 200 < l.length
   ·have hd2 : decide (200 < l.length) = true := decide_eq_true h2
    have hd2i : decide (200 < (l.length : Int)) = true := decide_eq_true (by omega)
    obtain ⟨A, c, rfl⟩ := OW.out.sl
    have H2 := Lib.hid h2
    go_wp2
    go_ret2
    rw [HP.out, HLL.out]
    simp only
    rw [if_pos H2.out]
    exact ⟨Own.ret2 (v := .slice none 0 0) (Own.nil_ _ _ _ _ _) rfl, BW.out⟩
   ·have hd2 : decide (200 < l.length) = false := decide_eq_false h2
    have hd2i : decide (200 < (l.length : Int)) = false := decide_eq_false (by omega)
    obtain ⟨A, c, rfl⟩ := OW.out.sl
    have H2 := Lib.hid h2
    go_wp2
    go_ret2
    rw [HP.out, HLL.out]
    simp only
    rw [if_neg H2.out]
    exact ⟨Own.ret2 OW.out rfl, BW.out⟩
  | false =>
   have hne : !rs.toList.isEmpty = true := by rw [he]; rfl
   have hrs0 : rs.data.toList ≠ [] := by
    intro e
    rw [ByteArray.toList_eq, e] at he
    cases he
   have hlen : rs.data.toList.length = rs.size := by simp
   have hcut := cut_any rs ⟨#[10]⟩ wr (HL.out.below BW.out) (by omega)
   have e10 : (⟨#[10]⟩ : ByteArray).data.toList = [10] := rfl
   rw [e10] at hcut
   rcases first_nl rs.data.toList with ⟨i, hi, hk⟩ | hk
   ·rw [cut_at hi hk] at hcut
    have hil : i < rs.data.toList.length := (List.getElem?_eq_some_iff.1 hi).1
    have hlh := lineL_hit (n := l.length) hi hk
    obtain ⟨p, hpd⟩ : ∃ p : ByteArray, (⟨(rs.data.toList.take i).toArray⟩ : ByteArray) = p := ⟨_, rfl⟩
    obtain ⟨q, hqd⟩ : ∃ q : ByteArray, (⟨(rs.data.toList.drop (i + 1)).toArray⟩ : ByteArray) = q := ⟨_, rfl⟩
    have hq2 : q.data.toList = rs.data.toList.drop (i + 1) := by rw [← hqd]
    have hps : p.size ≤ rs.size := by rw [← hpd]; show (rs.data.toList.take i).toArray.size ≤ _; simp; omega
    have hqs : q.size + 1 ≤ rs.size := by rw [← hqd]; show (rs.data.toList.drop (i + 1)).toArray.size + 1 ≤ _; simp; omega
    simp only [hpd, hqd] at hcut
    rw [hpd, ← hq2] at hlh
    have LH := Lib.hid hlh
    have CUT := Lib.hid hcut
    clear hlh hcut hpd hqd hq2 hi hk hil hrs0 hlen
    have hpl : ∀ W, Below w.heap.size w W → Calls Tryz.prog 97 #[.string p, .int .i64 ((l.length : Int) + 1)] W fun e w' => e = .returned (.tuple #[.agg (eN ((lineS p ((l.length : Int) + 1)).getD ln0)).toArray, .bool (lineS p ((l.length : Int) + 1)).isSome]) ∧ Below W.heap.size W w' :=
     fun W hB => parseLine_any p _ W (HL.out.below hB) (by omega) ⟨by omega, by omega⟩
    obtain ⟨L, hLd⟩ : ∃ L, lineS p ((l.length : Int) + 1) = L := ⟨_, rfl⟩
    have LH2 := Lib.hid (show lineL l.length (parts 10 rs.data.toList) = _ from LH.out)
    rw [hLd] at LH2
    rw [hLd] at hpl
    have PL := Lib.hid hpl
    clear LH hpl hLd
    obtain ⟨A, c, rfl⟩ := OW.out.sl
    cases L with
    | none =>
     simp only [Option.getD_none, Option.isSome_none] at PL
     go_wp2_with fail
     refine CUT.out.mono ?_
     rintro e w1 ⟨rfl, hb1⟩
     have BW1 := Lib.hid (below2 BW.out hb1)
     clear hb1 CUT
     go_wp2_with fail
     refine (PL.out _ BW1.out).mono ?_
     rintro e w2 ⟨rfl, hb2⟩
     have BW2 := Lib.hid (below2 BW1.out hb2)
     simp only [eN, ln0]
     go_wp2
     go_ret2
     rw [HP.out, LL.out, LH2.out]
     exact ⟨Own.ret2 (v := .slice none 0 0) (Own.nil_ _ _ _ _ _) rfl, below2 BW2.out (below_a1 _ _)⟩
    | some x =>
     simp only [Option.getD_some, Option.isSome_some] at PL
     go_wp2_with fail
     refine CUT.out.mono ?_
     rintro e w1 ⟨rfl, hb1⟩
     have BW1 := Lib.hid (below2 BW.out hb1)
     have OW1 := Lib.hid (OW.out.below hb1)
     clear hb1 CUT OW
     go_wp2_with fail
     refine (PL.out _ BW1.out).mono ?_
     rintro e w2 ⟨rfl, hb2⟩
     have BW2 := Lib.hid (below2 BW1.out hb2)
     have OW2 := Lib.hid (OW1.out.below hb2)
     clear hb2 PL OW1
     obtain ⟨word, one, two, letters, tx⟩ := x
     simp only [eN]
     go_wp2_with (at_builtin; apply stop_)
     unfold Hid
     refine wpList_push e108 encN rfl _ _ rfl rfl (OW2.out.below (below_a2 w2 (.cells #[.string word, .int .i64 one, .int .i64 two, .string letters, .string tx] 108) (.cells #[.string word, .int .i64 one, .int .i64 two, .string letters, .string tx] 108))) (w2.heap.size + 1) 1 ⟨word, one, two, letters, tx⟩ rfl (five_N (by go_simp) (by go_simp) (by go_simp) (by go_simp) (by go_simp)) (by omega) (by omega) (by have := BW2.out.size; simp only [World.size_alloc] at this ⊢; omega) ?_
     intro v' w' hown' hgr hlk
     have HOWN := Lib.hid hown'
     have BW3 := Lib.hid ((belowA (belowA BW2.out (.cells #[.string word, .int .i64 one, .int .i64 two, .string letters, .string tx] 108)) (.cells #[.string word, .int .i64 one, .int .i64 two, .string letters, .string tx] 108)).grown hgr (by have := BW2.out.size; simp only [World.size_alloc] at this ⊢; omega) (fun q hq => (OW2.out.lt_ _ hq).1))
     clear hown' hgr hlk
     go_wp2
     go_roundg q.size
     case measure => omega
     case rel =>
      refine ⟨l ++ [⟨word, one, two, letters, tx⟩], q, rfl, by omega, by simp; omega, (show Hid _ from ?_), BW3, HOWN⟩
      rw [LL.out, LH2.out, List.length_append]
      simp only [Option.map_map, List.length_cons, List.length_nil, Nat.zero_add]
      congr 1
      funext z
      simp
   ·rw [cut_no hk] at hcut
    have hlm := lineL_miss (n := l.length) hrs0 hk
    obtain ⟨p, hpd⟩ : ∃ p : ByteArray, (⟨rs.data.toList.toArray⟩ : ByteArray) = p := ⟨_, rfl⟩
    have hps : p.size ≤ rs.size := by rw [← hpd]; show rs.data.toList.toArray.size ≤ _; simp
    simp only [hpd] at hcut
    have LM := Lib.hid hlm
    have CUT := Lib.hid hcut
    clear hlm hcut hpd hk hrs0 hlen
    have hpl : ∀ W, Below w.heap.size w W → Calls Tryz.prog 97 #[.string p, .int .i64 ((l.length : Int) + 1)] W fun e w' => e = .returned (.tuple #[.agg (eN ((lineS p ((l.length : Int) + 1)).getD ln0)).toArray, .bool (lineS p ((l.length : Int) + 1)).isSome]) ∧ Below W.heap.size W w' :=
     fun W hB => parseLine_any p _ W (HL.out.below hB) (by omega) ⟨by omega, by omega⟩
    generalize (lineS p ((l.length : Int) + 1)).getD ln0 = x at hpl
    generalize (lineS p ((l.length : Int) + 1)).isSome = good at hpl
    have PL := Lib.hid hpl
    clear hpl
    obtain ⟨A, c, rfl⟩ := OW.out.sl
    obtain ⟨word, one, two, letters, tx⟩ := x
    go_wp2_with fail
    refine CUT.out.mono ?_
    rintro e w1 ⟨rfl, hb1⟩
    have BW1 := Lib.hid (below2 BW.out hb1)
    clear hb1 CUT
    go_wp2_with fail
    refine (PL.out _ BW1.out).mono ?_
    rintro e w2 ⟨rfl, hb2⟩
    have BW2 := Lib.hid (below2 BW1.out hb2)
    simp only [eN]
    go_wp2
    go_ret2
    rw [HP.out, LL.out, LM.out]
    exact ⟨Own.ret2 (v := .slice none 0 0) (Own.nil_ _ _ _ _ _) rfl, below2 BW2.out (below_a1 _ _)⟩
end Go.Proofs.YtcnpbcgkhhebaaaGreatDoor
/- The lines in effect, one after another. -/
namespace Go.Proofs.YtcnpbcgkhhebaaaGreatDoor
open Go.RowKit

attribute [local go_sem] Oper.semAt_some

/-- The book in block ob, behind box Bb: its lines, and which are in effect; all of it lies in blocks of S but the box. -/
structure BkR (S : Nat → Prop) (Bb ob : Nat) (A : Option Addr) (c : Nat) (lines : List Ln) (A2 : Option Addr) (c2 : Nat) (inn : List Int) (W : World) : Prop where
 box : W.heap[Bb]? = some (.cells #[.pointer (some ⟨ob, 0, none⟩)] 86 (0, 0))
 q2 : W.cell? ⟨ob, 2, none⟩ = some (.slice A lines.length c)
 q3 : W.cell? ⟨ob, 3, none⟩ = some (.slice A2 lines.length c2)
 r2 : Rd eN 5 W A c lines
 r3 : Rd eI 1 W A2 c2 inn
 lob : S ob
 l2 : 0 < lines.length → ∀ b off, A = some ⟨b, off, none⟩ → S b
 l3 : 0 < lines.length → ∀ b off, A2 = some ⟨b, off, none⟩ → S b
 len : inn.length = lines.length
theorem Rd.atN {w : World} {A : Option Addr} {c : Nat} {xs : List Ln} (h : Rd eN 5 w A c xs) {i : Nat} (hi : i < xs.length) : ∃ b off y, y = xs[i] ∧ A = some ⟨b, off, none⟩ ∧ b < w.heap.size ∧
  w.cell? ⟨b, off + i * 5, none⟩ = some (.string y.word) ∧ w.cell? ⟨b, off + i * 5 + 1, none⟩ = some (.int .i64 y.one) ∧ w.cell? ⟨b, off + i * 5 + 2, none⟩ = some (.int .i64 y.two) ∧ w.cell? ⟨b, off + i * 5 + 3, none⟩ = some (.string y.letters) ∧ w.cell? ⟨b, off + i * 5 + 4, none⟩ = some (.string y.text) := by
 obtain ⟨b, off, e, hb, hc⟩ := h.at_ hi
 exact ⟨b, off, xs[i], rfl, e, hb, hc 0 _ rfl, hc 1 _ rfl, hc 2 _ rfl, hc 3 _ rfl, hc 4 _ rfl⟩
theorem Rd.upto {α : Type} {enc : α → List Value} {sz : Nat} {S : Nat → Prop} {w w' : World} {A : Option Addr} {c : Nat} {xs : List α} (h : Rd enc sz w A c xs) (hl : 0 < xs.length → ∀ b off, A = some ⟨b, off, none⟩ → S b) (hs : w.heap.size ≤ w'.heap.size) (hb : ∀ k, S k → w'.heap[k]? = w.heap[k]?) : Rd enc sz w' A c xs :=
 ⟨h.1, h.2.1, fun hn => by
  obtain ⟨b, off, e, hlt, hc⟩ := h.2.2 hn
  exact ⟨b, off, e, Nat.lt_of_lt_of_le hlt hs, fun i x hx j u hu => (World.cell?_of_block (a := ⟨b, off + i * sz + j, none⟩) (hb b (hl hn b off e))).trans (hc i x hx j u hu)⟩⟩
section
variable {S : Nat → Prop} {Bb ob : Nat} {A : Option Addr} {c : Nat} {lines : List Ln} {A2 : Option Addr} {c2 : Nat} {inn : List Int} {W W' : World}
theorem BkR.kept (h : BkR S Bb ob A c lines A2 c2 inn W) (hs : W.heap.size ≤ W'.heap.size) (hb : ∀ k, S k → W'.heap[k]? = W.heap[k]?) (hx : W'.heap[Bb]? = W.heap[Bb]?) : BkR S Bb ob A c lines A2 c2 inn W' :=
 ⟨hx.trans h.box, (World.cell?_of_block (a := ⟨ob, 2, none⟩) (hb ob h.lob)).trans h.q2, (World.cell?_of_block (a := ⟨ob, 3, none⟩) (hb ob h.lob)).trans h.q3, h.r2.upto h.l2 hs hb, h.r3.upto (by rw [h.len]; exact h.l3) hs hb, h.lob, h.l2, h.l3, h.len⟩
theorem BkR.b0 (h : BkR S Bb ob A c lines A2 c2 inn W) : W.cell? ⟨Bb, 0, none⟩ = some (.pointer (some ⟨ob, 0, none⟩)) := by rw [cell_of_row _ _ _ _ _ _ h.box]; rfl
theorem BkR.bl (h : BkR S Bb ob A c lines A2 c2 inn W) : Bb < W.heap.size := (Array.getElem?_eq_some_iff.1 h.box).1
theorem BkR.below (h : BkR S Bb ob A c lines A2 c2 inn W) (hn : ∀ k, S k → k < W.heap.size) (hb : Below W.heap.size W W') : BkR S Bb ob A c lines A2 c2 inn W' := h.kept hb.size (fun k hk => hb.block k (hn k hk)) (hb.block _ h.bl)
/-- What a round keeps. -/
def KpB (S : Nat → Prop) (Bb ob : Nat) (A : Option Addr) (c : Nat) (lines : List Ln) (A2 : Option Addr) (c2 : Nat) (inn : List Int) (W W' : World) : Prop := BkR S Bb ob A c lines A2 c2 inn W → BkR S Bb ob A c lines A2 c2 inn W'
theorem KpB.trans {X Y Z : World} (h : KpB S Bb ob A c lines A2 c2 inn X Y) (k : KpB S Bb ob A c lines A2 c2 inn Y Z) : KpB S Bb ob A c lines A2 c2 inn X Z := fun b => k (h b)
theorem below_put {n0 : Nat} {W : World} {l : Nat} {o' : Obj} (h : n0 ≤ l) : Below n0 W (W.putObj l o') := ⟨rfl, rfl, rfl, by simp, fun k hk => World.putObj_heap_other (by omega)⟩
theorem KpB.put {l : Nat} {o o' : Obj} (hn : ¬ S l) (hl : W.heap[l]? = some o) (ho : o.isCells = false) : KpB S Bb ob A c lines A2 c2 inn W (W.putObj l o') := fun h =>
 h.kept (by simp) (fun k hk => World.putObj_heap_other (fun e => hn (by rw [← e]; exact hk))) (World.putObj_heap_other (fun e => by
  have := h.box
  rw [e, hl] at this
  cases this
  cases ho))
end
theorem effK_prefix (lines : List Ln) (inn : List Int) : ∀ (d k : Nat), ∃ r, effK lines inn k ++ r = effK lines inn (k + d) := by
 intro d
 induction d with
 | zero => intro k; exact ⟨[], by simp⟩
 | succ d ih =>
  intro k
  obtain ⟨r, hr⟩ := ih k
  refine ⟨r ++ (if inn[k + d]? = some 1 then (lines[k + d]?).map fun x => (k + d, x) else none).toList, ?_⟩
  rw [← List.append_assoc, hr]
  unfold effK
  rw [← Nat.add_assoc, List.range_succ, List.filterMap_append]
  congr 1
theorem effK_pre {lines : List Ln} {inn : List Int} {k : Nat} (hk : k ≤ lines.length) : ∃ r, effK lines inn k ++ r = effL lines inn := by
 obtain ⟨r, hr⟩ := effK_prefix lines inn (lines.length - k) k
 refine ⟨r, ?_⟩
 rw [hr]
 unfold effL
 congr 1
 omega

set_option maxHeartbeats 400000 in
theorem effect_any (ob : Nat) (w : World) : Calls Tryz.prog 61 #[.pointer (some ⟨ob, 0, none⟩)] w fun e w' => e = .returned (.func (.func 102) #[] #[.pointer (some ⟨w.heap.size, 0, none⟩)]) ∧ w' = w.alloc (.cells #[.pointer (some ⟨ob, 0, none⟩)] 86) := by
 go_enter Tryz.func61, Tryz.ntmps61
 go_wp2
 go_ret
 exact ⟨rfl, rfl⟩

/-- A line with its place. -/
abbrev LnIn (lines : List Ln) : Type := { p : Nat × Ln // lines[p.1]? = some p.2 }

set_option maxRecDepth 100000 in
set_option maxHeartbeats 2000000 in
theorem effect_stops (F : Fence) (n : Nat) (h : F.fn 102) (hro : F.round = none) (hn : 1 ≤ n) (S : Nat → Prop) (Bb ob : Nat) (A : Option Addr) (c : Nat) (lines : List Ln) (A2 : Option Addr) (c2 : Nat) (inn : List Int) (w : World) (hn0 : ∀ k, S k → k < w.heap.size) (hB : BkR S Bb ob A c lines A2 c2 inn w) :
  SeqStopsK F n Tryz.prog 102 #[.pointer (some ⟨Bb, 0, none⟩)] (fun x : LnIn lines => #[.int .i64 x.1.1, .agg (eN x.1.2).toArray]) (KpB S Bb ob A c lines A2 c2 inn) (fun ys => ys.map (·.1) = effL lines inn) (fun pre => ∃ r, pre.map (·.1) ++ r = effL lines inn) lines.length w := fun l J Jx W hW _ _ hY h0 => by
 have hb := Lib.hid (hB.below hn0 hW)
 have HLEN := Lib.hid hB.len
 have hll := hB.r2.len
 clear hB
 have k0 := hb.out.b0
 have k3 := hb.out.q3
 refine callsIn_of_wp Tryz.func102 rfl h ?_ hro
 simp only [Tryz.ntmps102, List.size_toArray, List.length_cons, List.length_nil, Nat.reduceAdd, Nat.reduceSub, Array.replicate_succ, Array.replicate_zero, List.push_toArray, List.append_toArray, List.nil_append, List.cons_append]
 gi_wp2
 gi_loopw [10] (fun i wr => ∃ (k : Nat) (pre : List (LnIn lines)), k ≤ lines.length ∧ i = .int .i64 k ∧ Hid (pre.map (·.1) = effK lines inn k) ∧ Hid (J pre wr) ∧ Hid (BkR S Bb ob A c lines A2 c2 inn wr)) (fun i _ => lines.length - (intOf i).toNat)
 case atStart => exact ⟨0, [], Nat.zero_le _, rfl, rfl, h0, hb⟩
 case round =>
  obtain ⟨k, pre, hk, rfl, PE, hJ, hb1⟩ := hrel
  have k0 := hb1.out.b0
  have k2 := hb1.out.q2
  have k3 := hb1.out.q3
  by_cases hlt : k < lines.length
  ·have hli : (k : Int) < (lines.length : Int) := by omega
   obtain ⟨b, off, y, hy, rfl, hbl, y0, y1, y2, y3, y4⟩ := hb1.out.r2.atN hlt
   have hki : k < inn.length := by rw [HLEN.out]; exact hlt
   obtain ⟨b', off', m, hm, rfl, hbl', m0⟩ := hb1.out.r3.atI hki
   have HM := Lib.hid hm
   have HY := Lib.hid hy
   by_cases h1 : m = 1
   ·have hin : inn[k]? = some 1 := by rw [List.getElem?_eq_getElem hki, ← hm, h1]
    have hef := effK_yes hlt hin
    rw [← hy] at hef
    have HEF := Lib.hid hef
    obtain ⟨x, hxv⟩ : ∃ x : LnIn lines, x.1 = (k, y) := ⟨⟨(k, y), by rw [List.getElem?_eq_getElem hlt, hy]⟩, rfl⟩
    obtain ⟨fn, tmps, assign, body, hyl, hR⟩ := hY pre x wr hJ.out (by have := effK_len lines inn k; rw [← PE.out, List.length_map] at this; omega)
    subst h1
    rw [hxv] at hyl
    have HXV := Lib.hid hxv
    clear hef hin hm hy hxv
    obtain ⟨word, one, two, letters, tx⟩ := y
    simp only at y0 y1 y2 y3 y4
    dsimp only [eN] at hyl
    gi_wp2
    refine hR.mono ?_
    rintro e W3 (⟨rfl, hJ3, hk3⟩ | ⟨rfl, hJx3⟩)
    ·have hb3 := Lib.hid (hk3 hb1.out)
     have HJ3 := Lib.hid hJ3
     clear hk3 hJ3 hyl hR
     gi_wp2
     go_roundw
     case rel => exact ⟨k + 1, _, by omega, by simp, (show Hid _ from by rw [List.map_append, PE.out, HEF.out, List.map_cons, HXV.out]; rfl), HJ3, hb3⟩
     case measure => simp [intOf]; omega
    ·have HJx3 := Lib.hid hJx3
     clear hJx3 hyl hR
     gi_wp2
     refine bodyPost_ret (results_none rfl _ _ _) rfl ?_
     exact ⟨⟨_, rfl⟩, .inr ⟨_, by rw [List.map_append, PE.out, List.map_cons, HXV.out]; have := effK_pre (lines := lines) (inn := inn) (k := k + 1) (by omega); rw [HEF.out] at this; exact this, HJx3.out⟩⟩
   ·have hd : (m == 1) = false := beq_eq_false_iff_ne.2 h1
    have hef : effK lines inn (k + 1) = effK lines inn k := effK_no (by rw [List.getElem?_eq_getElem hki, ← hm]; intro e; exact h1 (Option.some.inj e))
    have HEF := Lib.hid hef
    clear hef h1 hm hy
    gi_wp2
    refine ⟨fun _ h => (by cases h), ?_⟩
    gi_wp2
    go_roundw
    case rel => exact ⟨k + 1, pre, by omega, by simp, (show Hid _ from by rw [PE.out, HEF.out]; rfl), hJ, hb1⟩
    case measure => simp [intOf]; omega
  ·have hke : k = lines.length := by omega
   subst hke
   gi_wp2
   go_end0
   exact ⟨⟨_, rfl⟩, .inl ⟨_, PE.out, hJ.out⟩⟩
end Go.Proofs.YtcnpbcgkhhebaaaGreatDoor
/- Frames for the book. -/
namespace Go.Proofs.YtcnpbcgkhhebaaaGreatDoor
open Go.RowKit

/-- What stands when the book in block ob is played on: all below base; above it all but block ob and the rows of owners, logs and numbers. -/
structure Ks (base ob : Nat) (w w' : World) : Prop where
 os : w'.os = w.os
 tape : w'.tape = w.tape
 output : w'.output = w.output
 size : w.heap.size ≤ w'.heap.size
 block : ∀ k o, w.heap[k]? = some o → (k < base ∨ (k ≠ ob ∧ ∀ cs e f, o = .cells cs e f → e ≠ 73 ∧ e ≠ 69 ∧ e ≠ 3)) → w'.heap[k]? = some o
theorem Ks.refl (base ob : Nat) (w : World) : Ks base ob w w := ⟨rfl, rfl, rfl, Nat.le_refl _, fun _ _ h _ => h⟩
theorem Ks.trans {base ob : Nat} {a b c : World} (h : Ks base ob a b) (k : Ks base ob b c) : Ks base ob a c :=
 ⟨k.os.trans h.os, k.tape.trans h.tape, k.output.trans h.output, Nat.le_trans h.size k.size, fun i o ho hc => k.block i o (h.block i o ho hc) hc⟩
theorem Kt.ks {base ob : Nat} {a b : World} (h : Kt base ob a b) : Ks base ob a b :=
 ⟨h.os, h.tape, h.output, h.size, fun k o ho hc => h.block k o ho (hc.imp id fun ⟨h1, h2⟩ => ⟨h1, fun cs e f he => ⟨(h2 cs e f he).1, (h2 cs e f he).2.1⟩⟩)⟩
theorem Ks.grown {base ob : Nat} {w0 w w' : World} {row : Option Nat} (h : Ks base ob w0 w) (hg : w.grownBy w' row) (hr : ∀ g, row = some g → base ≤ g ∧ (g = ob ∨ ∃ cs e f, w.heap[g]? = some (.cells cs e f) ∧ (e = 73 ∨ e = 69 ∨ e = 3))) : Ks base ob w0 w' := by
 refine h.trans ⟨hg.os, hg.tape, hg.output, hg.size, fun k o ho hc => ?_⟩
 rw [hg.block k (Array.getElem?_eq_some_iff.1 ho).1 ?_]
 ·exact ho
 ·intro e
  obtain ⟨h1, h2⟩ := hr k e.symm
  rcases hc with hc | ⟨hc1, hc2⟩
  ·omega
  ·rcases h2 with rfl | ⟨cs, e2, f, hk, he⟩
   ·exact hc1 rfl
   ·rw [ho] at hk
    cases hk
    have := hc2 cs e2 f rfl
    rcases he with rfl | rfl | rfl
    ·exact this.1 rfl
    ·exact this.2.1 rfl
    ·exact this.2.2 rfl
theorem Ks.below {base ob : Nat} {w0 w w' : World} (h : Ks base ob w0 w) (hb : Below w.heap.size w w') : Ks base ob w0 w' := h.grown (grown_of hb none) (by simp)
theorem Ks.toBelow {base ob : Nat} {w w' : World} (h : Ks base ob w w') (hb : base ≤ w.heap.size) : Below base w w' := ⟨h.os, h.tape, h.output, h.size, fun k hk => by
  have hlt : k < w.heap.size := by omega
  rw [h.block k _ (Array.getElem?_eq_getElem hlt) (.inl hk), Array.getElem?_eq_getElem hlt]⟩
/-- What the call owns of a kind that is not played with stands. -/
theorem Own.ks {α : Type} {enc : α → List Value} {e sz base base' ob t : Nat} {w w' : World} {v : Value} {xs : List α} {cs : Array Value} {f : Nat × Nat} (h : Own enc e sz base w v xs) (hk : Ks base' ob w w') (he : e ≠ 73 ∧ e ≠ 69 ∧ e ≠ 3) (ho : w.heap[ob]? = some (.cells cs t f)) (ht : t ≠ e) : Own enc e sz base w' v xs := by
 obtain ⟨hl, h⟩ := h
 rcases h with h | ⟨g, cap, cur, rfl, hb, hg, r⟩
 ·exact ⟨hl, .inl h⟩
 ·refine ⟨hl, .inr ⟨g, cap, cur, rfl, hb, hk.block g _ hg (.inr ⟨?_, ?_⟩), r⟩⟩
  ·intro e1
   subst e1
   rw [hg] at ho
   cases ho
   exact ht rfl
  ·intro cs' e' f' h1
   cases h1
   exact he

/-- A round of another office's play keeps whatever is no cells. -/
theorem Kt.keeps {base ob : Nat} {w w' : World} (h : Kt base ob w w') {cs : Array Value} {t : TypeId} {f : Nat × Nat} (ho : w.heap[ob]? = some (.cells cs t f)) (B : Nat) : KeepsFrom B w w' := by
 refine ⟨h.size, fun k o _ hk hc => h.block k o hk (.inr ⟨?_, ?_⟩)⟩
 ·intro e
  rw [e, ho] at hk
  cases hk
  cases hc
 ·intro cs e f he
  rw [he] at hc
  cases hc
theorem Kt.later {base ob : Nat} {w0 w w' : World} {row : Option Nat} (h : Kt base ob w0 w) (hg : w.grownBy w' row) (hr : ∀ r, row = some r → w0.heap.size ≤ r) : Kt base ob w0 w' :=
 ⟨hg.os.trans h.os, hg.tape.trans h.tape, hg.output.trans h.output, Nat.le_trans h.size hg.size, fun k o ho hc => by
  have h1 := h.block k o ho hc
  rw [hg.block k (Array.getElem?_eq_some_iff.1 h1).1 (fun e => by
   have h2 := hr k e.symm
   have h3 := (Array.getElem?_eq_some_iff.1 ho).1
   omega)]
  exact h1⟩
theorem Kt.row {base ob : Nat} {w w' : World} (h : Kt base ob w w') {b : Nat} {cs : Array Value} {t : TypeId} {f : Nat × Nat} (hb : w.heap[b]? = some (.cells cs t f)) (hne : b ≠ ob) (ht : t ≠ 73 ∧ t ≠ 69) : w'.heap[b]? = some (.cells cs t f) :=
 h.block b _ hb (.inr ⟨hne, fun cs' e f' he => by cases he; exact ht⟩)
section
variable {base ob : Nat} {w w' : World} {rest : List Value} {t : TypeId} {v1 v2 : Value} {os : List Ow} {ls : List Lg}
theorem Ks.later {base ob : Nat} {w0 w w' : World} {row : Option Nat} (h : Ks base ob w0 w) (hg : w.grownBy w' row) (hr : ∀ r, row = some r → w0.heap.size ≤ r) : Ks base ob w0 w' :=
 ⟨hg.os.trans h.os, hg.tape.trans h.tape, hg.output.trans h.output, Nat.le_trans h.size hg.size, fun k o ho hc => by
  have h1 := h.block k o ho hc
  rw [hg.block k (Array.getElem?_eq_some_iff.1 h1).1 (fun e => by
   have h2 := hr k e.symm
   have h3 := (Array.getElem?_eq_some_iff.1 ho).1
   omega)]
  exact h1⟩
/-- What the call owns abides the turn of a row of another kind. -/
theorem Own.other {α : Type} {enc : α → List Value} {e sz base : Nat} {v : Value} {xs : List α} (h : Own enc e sz base w v xs) {row : Option Nat} (hg : w.grownBy w' row) (hr : ∀ r, row = some r → ∃ cs t f, w.heap[r]? = some (.cells cs t f) ∧ t ≠ e) : Own enc e sz base w' v xs := by
 refine h.kept hg ?_
 cases hq : v.ownBlock with
 | none => exact .inl rfl
 | some g =>
  refine .inr fun e1 => ?_
  obtain ⟨cs, t, f, ho, hc⟩ := hr g e1.symm
  obtain ⟨_, cs2, h2⟩ := h.blk g hq
  rw [h2] at ho
  cases ho
  exact hc rfl
theorem Off0.other (h : Off0 base w ob rest t v1 v2 os ls) {row : Option Nat} (hg : w.grownBy w' row) (hr : ∀ r, row = some r → r ≠ ob ∧ ∃ cs t f, w.heap[r]? = some (.cells cs t f) ∧ t ≠ 73 ∧ t ≠ 69) : Off0 base w' ob rest t v1 v2 os ls :=
 ⟨(hg.block ob h.lt (fun e => (hr ob e.symm).1 rfl)).trans h.row, h.le,
  h.o1.other hg (fun r e => by obtain ⟨_, cs, t, f, h1, h2, h3⟩ := hr r e; exact ⟨cs, t, f, h1, h2⟩),
  h.o2.other hg (fun r e => by obtain ⟨_, cs, t, f, h1, h2, h3⟩ := hr r e; exact ⟨cs, t, f, h1, h3⟩), h.ty⟩
/-- What the call owns abides the turn of what is no cells. -/
theorem Own.own_ {α : Type} {enc : α → List Value} {e sz base : Nat} {v : Value} {xs : List α} (h : Own enc e sz base w v xs) {row : Option Nat} (hg : w.grownBy w' row) (hr : ∀ r, row = some r → ∃ o : Obj, w.heap[r]? = some o ∧ o.isCells = false) : Own enc e sz base w' v xs := by
 refine h.kept hg ?_
 cases hq : v.ownBlock with
 | none => exact .inl rfl
 | some g =>
  refine .inr fun e => ?_
  obtain ⟨o, ho, hc⟩ := hr g e.symm
  obtain ⟨_, cs, h2⟩ := h.blk g hq
  rw [h2] at ho
  cases ho
  cases hc
theorem row_own {w w' : World} {b : Nat} {cs : Array Value} {t : TypeId} {f : Nat × Nat} (hb : w.heap[b]? = some (.cells cs t f)) {row : Option Nat} (hg : w.grownBy w' row) (hr : ∀ r, row = some r → ∃ o : Obj, w.heap[r]? = some o ∧ o.isCells = false) : w'.heap[b]? = some (.cells cs t f) := by
 rw [hg.block b (Array.getElem?_eq_some_iff.1 hb).1 (fun e => by
  obtain ⟨o, ho, hc⟩ := hr b e.symm
  rw [hb] at ho
  cases ho
  cases hc)]
 exact hb
theorem Off0.own_ (h : Off0 base w ob rest t v1 v2 os ls) {row : Option Nat} (hg : w.grownBy w' row) (hr : ∀ r, row = some r → ∃ o : Obj, w.heap[r]? = some o ∧ o.isCells = false) : Off0 base w' ob rest t v1 v2 os ls :=
 ⟨row_own h.row hg hr, h.le, h.o1.own_ hg hr, h.o2.own_ hg hr, h.ty⟩
/-- Another office's slices are laid into this one. -/
theorem Off0.move {base2 ob2 : Nat} {rest2 : List Value} {t2 : TypeId} {u1 u2 : Value} {os2 : List Ow} {ls2 : List Lg} (h : Off0 base w ob rest t v1 v2 os ls) (h2 : Off0 base2 w ob2 rest2 t2 u1 u2 os2 ls2) (hb : base ≤ base2) :
  Off0 base ((w.setCell ⟨ob, 0, none⟩ u1).setCell ⟨ob, 1, none⟩ u2) ob rest t u1 u2 os2 ls2 := by
 have hn1 : u1.ownBlock ≠ some ob := fun e => by
  obtain ⟨_, cs, hc⟩ := h2.o1.blk _ e
  rw [h.row] at hc
  cases hc
  exact h.ty.1 rfl
 have hn2 : u2.ownBlock ≠ some ob := fun e => by
  obtain ⟨_, cs, hc⟩ := h2.o2.blk _ e
  rw [h.row] at hc
  cases hc
  exact h.ty.2.1 rfl
 have h1 := (h2.o2.mono hb).kept (grown_cell w ob 0 u1) (.inr hn2)
 have hrow : (w.setCell ⟨ob, 0, none⟩ u1).heap[ob]? = some (.cells (u1 :: v2 :: rest).toArray t (0, 0)) := by
  rw [heap_setCell_same w ob 0 _ t u1 h.row]; simp
 exact Off0.put2 hrow h.le h.ty ((h2.o1.mono hb).kept (grown_cell w ob 0 u1) (.inr hn1)) h1
end
end Go.Proofs.YtcnpbcgkhhebaaaGreatDoor
/- A line is struck. -/
namespace Go.Proofs.YtcnpbcgkhhebaaaGreatDoor
open Go.RowKit

attribute [local go_sem] Oper.semAt_some

theorem five_rows (w : World) (a b c d e : Obj) (W : World) (h : (((((w.alloc a).alloc b).alloc c).alloc d).alloc e).drew = W) : Below w.heap.size w W ∧ W.heap.size = w.heap.size + 1 + 1 + 1 + 1 + 1 ∧ W.heap[w.heap.size]? = some a ∧ W.heap[w.heap.size + 1]? = some b ∧ W.heap[w.heap.size + 1 + 1]? = some c ∧ W.heap[w.heap.size + 1 + 1 + 1]? = some d ∧ W.heap[w.heap.size + 1 + 1 + 1 + 1]? = some e := by
 subst h
 refine ⟨belowD (belowA (belowA (belowA (belowA (below_a1 _ _) _) _) _) _), by simp, ?_⟩
 have hh : (((((w.alloc a).alloc b).alloc c).alloc d).alloc e).drew.heap = ((((w.heap.push a).push b).push c).push d).push e := rfl
 rw [hh]
 simp only [Array.getElem?_push, Array.size_push]
 refine ⟨?_, ?_, ?_, ?_, ?_⟩
 all_goals
  repeat (first | rw [if_pos trivial] | rw [if_pos (by omega)] | rw [if_neg (by omega)])

/-- The lines but one. -/
def butK (k : Nat) (pre : List (Nat × Ln)) : List Ln := (pre.filter fun p => !decide ((p.1 : Int) = k)).map (·.2)
theorem butK_app (k : Nat) (p q : List (Nat × Ln)) : butK k (p ++ q) = butK k p ++ butK k q := by unfold butK; rw [List.filter_append, List.map_append]
theorem butK_hit {k : Nat} {x : Nat × Ln} (h : (x.1 : Int) = k) : butK k [x] = [] := by simp [butK, h]
theorem butK_miss {k : Nat} {x : Nat × Ln} (h : ¬ (x.1 : Int) = k) : butK k [x] = [x.2] := by simp [butK, h]
theorem again_stop {l r : List Ln} (h : againS [] [] l = none) : againS [] [] (l ++ r) = none := by rw [againS_app, h]
theorem again_one {l : List Ln} {os : List Ow} {ls : List Lg} {x : Ln} (h : againS [] [] l = some (os, ls)) : againS [] [] (l ++ [x]) = if (doS os ls x).2.2 = 0 then some ((doS os ls x).1, (doS os ls x).2.1) else none := by rw [againS_app, h]; rfl

def vs {lines : List Ln} (pre : List (LnIn lines)) : List (Nat × Ln) := pre.map (·.1)
theorem vs_snoc {lines : List Ln} (pre : List (LnIn lines)) (x : LnIn lines) : vs (pre ++ [x]) = vs pre ++ [x.1] := by simp [vs]

/-- What striking owes. -/
def StrikeR (base : Nat) (w : World) (ob : Nat) (rest : List Value) (A2 : Option Addr) (c2 n : Nat) (r : List Ow × List Lg × List Int × Int) (e : Ending) (w' : World) : Prop :=
 e = .returned (.int .i64 r.2.2.2) ∧ (∃ v1 v2, Off0 base w' ob rest 91 v1 v2 r.1 r.2.1) ∧ Own eI 3 1 base w' (.slice A2 n c2) r.2.2.1 ∧ Ks base ob w w'

theorem Own.rs0 {w : World} {base n : Nat} {A : Option Addr} {c : Nat} {xs : List Int} (h : Own eI 3 1 base w (.slice A n c) xs) (hn : xs.length = n) : Rd eI 1 w A c xs := by
 subst hn
 exact h.rs encI

set_option maxRecDepth 100000 in
set_option maxHeartbeats 4000000 in
theorem strike_any (base ob : Nat) (A : Option Addr) (c : Nat) (lines : List Ln) (A2 : Option Addr) (c2 : Nat) (inn : List Int) (ve v1 v2 : Value) (os : List Ow) (ls : List Lg) (k : Int) (n : Nat) (w : World)
  (h : Off0 base w ob [.slice A lines.length c, .slice A2 lines.length c2, ve] 91 v1 v2 os ls) (hl : Rd eN 5 w A c lines) (hA : 0 < lines.length → ∀ b off, A = some ⟨b, off, none⟩ → b < w.heap.size)
  (hi : Own eI 3 1 base w (.slice A2 lines.length c2) inn) (hlen : inn.length = lines.length) (h01 : ∀ x ∈ inn, x = 0 ∨ x = 1) (hx : ∀ x ∈ lines, LnOk x) (hk : 0 ≤ k) (hn : n < lines.length) (hk2 : k ≤ 1099511627776) :
  Calls Tryz.prog 98 #[.pointer (some ⟨ob, 0, none⟩), .int .i64 k, .int .i64 n] w (StrikeR base w ob [.slice A lines.length c, .slice A2 lines.length c2, ve] A2 c2 lines.length (strikeS lines inn os ls k n)) := by
 have hob := h.lt
 have q2 : w.cell? ⟨ob, 2, none⟩ = some (.slice A lines.length c) := by rw [cell_of_row _ _ _ _ _ _ h.row]; rfl
 have q3 : w.cell? ⟨ob, 3, none⟩ = some (.slice A2 lines.length c2) := by rw [cell_of_row _ _ _ _ _ _ h.row]; rfl
 have HO := Lib.hid h
 have HL := Lib.hid hl
 have HI := Lib.hid hi
 have HX := Lib.hid hx
 have HLEN := Lib.hid hlen
 have hll := hl.len
 clear h hl hi hx hlen
 by_cases hkn : (n : Int) ≤ k
 ·have hd : decide ((n : Int) ≤ k) = true := decide_eq_true hkn
  have hs : strikeS lines inn os ls k n = (os, ls, inn, 3) := by unfold strikeS; rw [if_pos hkn]
  rw [hs]
  clear hs hA h01
  refine (callsIn_wide (n := 3)).1 ?_
  refine callsIn_of_wp_marks Tryz.func98 rfl trivial ?_ rfl
  simp only [Tryz.ntmps98, List.size_toArray, List.length_cons, List.length_nil, Nat.reduceAdd, Nat.reduceSub, Array.replicate_succ, Array.replicate_zero, List.push_toArray, List.append_toArray, List.nil_append, List.cons_append]
  gi_wp2
  refine ⟨.int .i64 3, by simp [results, Tryz.f98, go_sem], rfl, ⟨v1, v2, HO.out.below (below_a2 _ _ _)⟩, HI.out.below (below_a2 _ _ _), (Ks.refl _ _ _).below (below_a2 _ _ _)⟩
 have hd : decide ((n : Int) ≤ k) = false := decide_eq_false hkn
 obtain ⟨kn, rfl⟩ : ∃ kn : Nat, k = kn := ⟨k.toNat, by omega⟩
 have hknl : kn < lines.length := by omega
 have hkin : kn < inn.length := by rw [HLEN.out]; exact hknl
 have hkni : (kn : Int) < (lines.length : Int) := by omega
 have hkn0 : (0 : Int) ≤ (kn : Int) := by omega
 obtain ⟨b, off, m, hm, rfl, hbl, m0⟩ := (HI.out.rs0 HLEN.out).atI hkin
 obtain rfl : off = 0 := by
  rcases HI.out.form with ⟨e, _⟩ | ⟨g, cap, e, _⟩
  ·cases e
  ·injection e with e
   injection e with e
   injection e
 rw [Nat.zero_add] at m0
 have hm01 := h01 m (by rw [hm]; exact List.getElem_mem hkin)
 have hget : (inn[kn]?).getD 0 = m := by rw [List.getElem?_eq_getElem hkin, ← hm]; rfl
 have hs : strikeS lines inn os ls kn n = if m = 0 then (os, ls, inn, (5 : Int)) else match againS [] [] (((effL lines inn).filter fun p => !decide ((p.1 : Int) = kn)).map (·.2)) with
  | none => (os, ls, inn, 13)
  | some r => (r.1, r.2, inn.set kn 0, 0) := by
  unfold strikeS
  rw [if_neg hkn, Int.toNat_natCast, hget]
  rfl
 have HS := Lib.hid hs
 have HM := Lib.hid hm
 clear hs hm hget h01
 rcases hm01 with rfl | rfl
 ·have hs0 : strikeS lines inn os ls kn n = (os, ls, inn, 5) := by rw [HS.out, if_pos rfl]
  rw [hs0]
  clear hs0 hA
  refine (callsIn_wide (n := 3)).1 ?_
  refine callsIn_of_wp_marks Tryz.func98 rfl trivial ?_ rfl
  simp only [Tryz.ntmps98, List.size_toArray, List.length_cons, List.length_nil, Nat.reduceAdd, Nat.reduceSub, Array.replicate_succ, Array.replicate_zero, List.push_toArray, List.append_toArray, List.nil_append, List.cons_append]
  gi_wp2
  gi_region
  all_goals
   gi_wp2
   refine ⟨.int .i64 5, by simp [results, Tryz.f98, go_sem], rfl, ⟨v1, v2, HO.out.below (belowD (below_a2 _ _ _))⟩, HI.out.below (belowD (below_a2 _ _ _)), (Ks.refl _ _ _).below (belowD (below_a2 _ _ _))⟩
 refine (callsIn_wide (n := 3)).1 ?_
 refine callsIn_of_wp_marks Tryz.func98 rfl trivial ?_ rfl
 simp only [Tryz.ntmps98, List.size_toArray, List.length_cons, List.length_nil, Nat.reduceAdd, Nat.reduceSub, Array.replicate_succ, Array.replicate_zero, List.push_toArray, List.append_toArray, List.nil_append, List.cons_append]
 gi_wp2
 gi_region
 all_goals
  gi_wp2_with (refine ⟨trivial, ?_⟩; gi_at_call 61; refine (callsIn_wide.2 (effect_any ob _)).mono ?_; rintro e w' ⟨rfl, rfl⟩)
 -- the world in which the loop begins
 obtain ⟨W0, hW0⟩ : ∃ W0, (((((w.alloc (.cells #[.int .i64 kn] 3)).alloc (.cells #[.int .i64 0] 28)).alloc (.cells #[.slice none 0 0, .slice none 0 0] 89)).alloc (.cells #[.pointer (some ⟨w.heap.size + 1 + 1, 0, none⟩)] 124)).alloc (.cells #[.pointer (some ⟨ob, 0, none⟩)] 86)).drew = W0 := ⟨_, rfl⟩
 obtain ⟨B0, Z0, R0, R1, R2, R3, R4⟩ := five_rows w _ _ _ _ _ W0 hW0
 rw [hW0]
 clear hW0
 clear m0 q2 q3
 have rows : ∀ W, Kt w.heap.size (w.heap.size + 1 + 1) W0 W → W.heap[w.heap.size]? = some (.cells #[.int .i64 kn] 3) ∧ W.heap[w.heap.size + 1]? = some (.cells #[.int .i64 0] 28) ∧ W.heap[w.heap.size + 1 + 1 + 1]? = some (.cells #[.pointer (some ⟨w.heap.size + 1 + 1, 0, none⟩)] 124) ∧ W.heap[w.heap.size + 1 + 1 + 1 + 1]? = some (.cells #[.pointer (some ⟨ob, 0, none⟩)] 86) ∧ Below w.heap.size w W :=
  fun W hK => ⟨hK.row R0 (by omega) (by decide), hK.row R1 (by omega) (by decide), hK.row R3 (by omega) (by decide), hK.row R4 (by omega) (by decide), B0.trans (hK.toBelow (by omega))⟩
 have ROWS := Lib.hid rows
 have bk0 : BkR (· < w.heap.size) (w.heap.size + 1 + 1 + 1 + 1) ob A c lines (some ⟨b, 0, none⟩) c2 inn W0 :=
  ⟨R4, (B0.cell (p := ⟨ob, 2, none⟩) hob).trans (by rw [cell_of_row _ _ _ _ _ _ HO.out.row]; rfl), (B0.cell (p := ⟨ob, 3, none⟩) hob).trans (by rw [cell_of_row _ _ _ _ _ _ HO.out.row]; rfl), HL.out.below B0, (HI.out.rs0 HLEN.out).below B0, hob, hA, fun _ b' off' e => by cases e; exact hbl, HLEN.out⟩
 have kpb : ∀ W W' : World, Kt w.heap.size (w.heap.size + 1 + 1) W0 W → Kt w.heap.size (w.heap.size + 1 + 1) W W' → KpB (· < w.heap.size) (w.heap.size + 1 + 1 + 1 + 1) ob A c lines (some ⟨b, 0, none⟩) c2 inn W W' := fun W W' h1 h2 hb =>
  hb.kept h2.size (h2.toBelow (by have := h1.size; omega)).block (by
   have e1 := h1.row R4 (by omega) (by decide)
   have e2 := (h1.trans h2).row R4 (by omega) (by decide)
   rw [e1, e2])
 have KPB := Lib.hid kpb
 have BK0 := Lib.hid bk0
 have RR2 := Lib.hid R2
 have BB0 := Lib.hid B0
 clear rows bk0 kpb R0 R1 R2 R3 R4 B0
 refine wpIn_rangeFunc_ownH (n := 3) rfl (by omega) (gf := 102) (lb := #[.pointer (some ⟨w.heap.size + 1 + 1 + 1 + 1, 0, none⟩)]) rfl trivial (enters_of Tryz.func102 (by kernel_rfl) rfl)
  (effect_stops Fence.wide (3 - 1) trivial rfl (by omega) (· < w.heap.size) (w.heap.size + 1 + 1 + 1 + 1) ob A c lines (some ⟨b, 0, none⟩) c2 inn W0 (fun k hk => by omega) BK0.out)
  KpB.trans (fun W l o o' hle hl ho _ => KpB.put (fun hk => by omega) hl ho) (Below.refl _ _) (fun _ => rfl)
  (fun pre W => (∃ os' ls' u1 u2, againS [] [] (butK kn (vs pre)) = some (os', ls') ∧ Off0 w.heap.size W (w.heap.size + 1 + 1) [] 89 u1 u2 os' ls') ∧ Kt w.heap.size (w.heap.size + 1 + 1) W0 W)
  (fun cd pre W => cd = .ret ∧ againS [] [] (butK kn (vs pre)) = none ∧ W.cell? ⟨w.heap.size + 1, 0, none⟩ = some (.int .i64 13) ∧ Below w.heap.size w W)
  (fun s X Y row hs hg hr => ⟨by
   obtain ⟨os', ls', u1, u2, e1, e2⟩ := hs.1
   exact ⟨os', ls', u1, u2, e1, e2.own_ hg (fun r e => (hr r e).2)⟩, hs.2.later hg (fun r e => (hr r e).1)⟩)
  (fun cd s X Y row hs hg hr => ⟨hs.1, hs.2.1, cell_kept hs.2.2.1 hg (fun r e => (hr r e).2), hs.2.2.2.grown hg (by have := World.block_lt_of_cell? _ _ hs.2.2.1; simp only at this; omega) (fun r e => by have := (hr r e).1; omega)⟩)
  ⟨⟨[], [], .slice none 0 0, .slice none 0 0, rfl, RR2.out, by omega, Own.nil_ _ _ _ _ _, Own.nil_ _ _ _ _ _, by decide⟩, Kt.refl _ _ _⟩
  (fun x a' W => ∃ Bx, W0.heap.size ≤ Bx ∧ W.heap[Bx]? = some (.cells (eN x.1.2).toArray 108 (0, 0)) ∧ a' = { tmps := #[.pointer (some ⟨ob, 0, none⟩), .int .i64 kn, .int .i64 n, undef, .pointer (some ⟨w.heap.size, 0, none⟩), undef, .pointer (some ⟨w.heap.size + 1, 0, none⟩), .pointer (some ⟨w.heap.size + 1 + 1 + 1, 0, none⟩), .int .i64 x.1.1, .pointer (some ⟨Bx, 0, none⟩), .bool false, .int .i64 kn, .int .i64 n, .bool false, .bool false, .pointer (some ⟨ob, 0, none⟩), .pointer (some ⟨ob, 0, none⟩), .pointer (some ⟨ob, 3, none⟩), .slice (some ⟨b, 0, none⟩) lines.length c2, .int .i64 kn, .pointer (some ⟨b, kn, none⟩), .int .i64 1, .bool false, .agg #[.slice none 0 0, .slice none 0 0], .pointer (some ⟨w.heap.size + 1 + 1, 0, none⟩), .pointer (some ⟨ob, 0, none⟩), .func (.func 102) #[] #[.pointer (some ⟨w.heap.size + 1 + 1 + 1 + 1, 0, none⟩)], .int .i64 x.1.1, .agg (eN x.1.2).toArray, undef, undef, undef, undef, undef, undef, undef, undef, undef, undef, undef, undef, undef, undef, undef, undef, undef, undef, undef, undef, undef], defers := [] })
  (fun x a' s X Y row hs hg hr => by
   obtain ⟨Bx, h1, h2, h3⟩ := hs
   exact ⟨Bx, h1, row_own h2 hg (fun r e => (hr r e).2), h3⟩) ?assign ?body ?done ?stop
 case assign =>
  rintro l pre ⟨⟨i, word, one, two, letters, tx⟩, hxi⟩ W K ⟨⟨os', ls', u1, u2, e1, e2⟩, hKt⟩ hK
  have hsz := hKt.size
  simp only [eN]
  have E2 := Lib.hid e2
  have E1 := Lib.hid e1
  have HKT := Lib.hid hKt
  clear e1 e2 hKt
  gi_wp2
  exact hK _ _ ((KeepsOthers.alloc _ _).from _) (fun hb => hb.below (fun k hk => by omega) (below_a1 _ _)) ⟨⟨os', ls', u1, u2, E1.out, E2.out.below (below_a1 _ _)⟩, HKT.out.below (below_a1 _ _)⟩ ⟨W.heap.size, hsz, heap_alloc_new _ _, rfl⟩
 case body =>
  rintro l pre ⟨⟨i, word, one, two, letters, tx⟩, hxi⟩ a' W hle - ⟨⟨os', ls', u1, u2, e1, e2⟩, hKt⟩ ⟨Bx, hBx, hxb, rfl⟩ hlt
  obtain ⟨r0, r1, r3, r4, hbw⟩ := ROWS.out W hKt
  have c0 : W.cell? ⟨w.heap.size, 0, none⟩ = some (.int .i64 kn) := by rw [cell_of_row _ _ _ _ _ _ r0]; rfl
  have c3 : W.cell? ⟨w.heap.size + 1 + 1 + 1, 0, none⟩ = some (.pointer (some ⟨w.heap.size + 1 + 1, 0, none⟩)) := by rw [cell_of_row _ _ _ _ _ _ r3]; rfl
  simp only [eN] at hxb ⊢
  have d0 : W.cell? ⟨Bx, 0, none⟩ = some (.string word) := by rw [cell_of_row _ _ _ _ _ _ hxb]; rfl
  have d1 : W.cell? ⟨Bx, 1, none⟩ = some (.int .i64 one) := by rw [cell_of_row _ _ _ _ _ _ hxb]; rfl
  have d2 : W.cell? ⟨Bx, 2, none⟩ = some (.int .i64 two) := by rw [cell_of_row _ _ _ _ _ _ hxb]; rfl
  have d3 : W.cell? ⟨Bx, 3, none⟩ = some (.string letters) := by rw [cell_of_row _ _ _ _ _ _ hxb]; rfl
  have d4 : W.cell? ⟨Bx, 4, none⟩ = some (.string tx) := by rw [cell_of_row _ _ _ _ _ _ hxb]; rfl
  have hxm : (⟨word, one, two, letters, tx⟩ : Ln) ∈ lines := List.mem_of_getElem? hxi
  have E2 := Lib.hid e2
  have HKT := Lib.hid hKt
  obtain ⟨x, hxv⟩ : ∃ x : LnIn lines, x = ⟨(i, ⟨word, one, two, letters, tx⟩), hxi⟩ := ⟨_, rfl⟩
  rw [← hxv]
  have hx1 : x.1 = (i, ⟨word, one, two, letters, tx⟩) := by rw [hxv]
  have HX1 := Lib.hid hx1
  clear hx1 hxv
  by_cases hik : (i : Int) = kn
  ·have hd1 : ((i : Int) != (kn : Int)) = false := by simp [hik]
   have hbk : butK kn (vs (pre ++ [x])) = butK kn (vs pre) := by rw [vs_snoc, butK_app, butK_hit (by rw [HX1.out]; exact hik), List.append_nil]
   have E1 := Lib.hid e1
   have HBK := Lib.hid hbk
   clear e1 e2 hKt hbk r0 r1 r3 r4 hxb hxm hik
   gi_wp2
   refine ⟨trivial, ?_⟩
   gi_wp2
   exact ⟨KeepsFrom.refl _ _, fun hb => hb, ⟨os', ls', u1, u2, by rw [HBK.out]; exact E1.out, E2.out⟩, HKT.out⟩
  ·have hd1 : ((i : Int) != (kn : Int)) = true := by simp [hik]
   have hbk := again_one (x := ⟨word, one, two, letters, tx⟩) e1
   have hsn : butK kn (vs (pre ++ [x])) = butK kn (vs pre) ++ [⟨word, one, two, letters, tx⟩] := by rw [vs_snoc, butK_app, butK_miss (by rw [HX1.out]; exact hik), HX1.out]
   rw [← hsn] at hbk
   have hgood : Good os' ls' := good_again _ _ _ good_nil (fun y hy => HX.out y (by
    obtain ⟨p, hp, rfl⟩ := List.mem_map.1 hy
    obtain ⟨q, hq, rfl⟩ := List.mem_map.1 (List.mem_filter.1 hp).1
    exact List.mem_of_getElem? q.2)) _ e1
   have hcon := do_any w.heap.size (w.heap.size + 1 + 1) [] 89 u1 u2 os' ls' ⟨word, one, two, letters, tx⟩ W e2 hgood (HX.out _ hxm)
   simp only [eN] at hcon
   obtain ⟨⟨os2, ls2, er⟩, hdo⟩ : ∃ r, doS os' ls' ⟨word, one, two, letters, tx⟩ = r := ⟨_, rfl⟩
   rw [hdo] at hcon hbk
   simp only at hbk
   have HBK := Lib.hid hbk
   have CON := Lib.hid hcon
   have ROW2 := Lib.hid e2.row
   clear e1 e2 hKt hbk r0 r1 r3 r4 hxb hxm hik hgood hcon hdo hsn
   by_cases her : er = 0
   ·subst her
    gi_wp2_with (refine ⟨trivial, ?_⟩; gi_at_call 99; refine (CallsIn.inRound l (callsIn_wide.2 CON.out)).mono ?_; rintro e w' ⟨rfl, ho, hk'⟩)
    exact ⟨hk'.keeps ROW2.out _, KPB.out _ _ HKT.out hk', by obtain ⟨v1', v2', ho⟩ := ho; exact ⟨os2, ls2, v1', v2', HBK.out.trans (if_pos trivial), ho⟩, HKT.out.trans hk'⟩
   ·have hd2 : (er != 0) = true := by simp [her]
    rw [if_neg her] at HBK
    gi_wp2_with (refine ⟨trivial, ?_⟩; gi_at_call 99; refine (CallsIn.inRound l (callsIn_wide.2 CON.out)).mono ?_; rintro e w' ⟨rfl, ho, hk'⟩; have HRW := Lib.hid (ROWS.out _ (HKT.out.trans hk')); have g1 : w'.cell? ⟨w.heap.size + 1, 0, none⟩ = some (.int .i64 0) := (by rw [cell_of_row _ _ _ _ _ _ HRW.out.2.1]; rfl); have f1 : w'.frozen? ⟨w.heap.size + 1, 0, none⟩ = false := (by simp [World.frozen?, HRW.out.2.1]))
    exact ⟨(hk'.keeps ROW2.out _).trans ((KeepsOthers.setCell _ _ _).from _), rfl, HBK.out, World.cell?_setCell_same' _ _ _ (by rw [g1]; rfl), HRW.out.2.2.2.2.setCell (p := ⟨w.heap.size + 1, 0, none⟩) (by simp) _⟩
 case done =>
  rintro D ys W hD hys ⟨⟨os', ls', u1, u2, e1, e2⟩, hKt⟩ hDD
  obtain ⟨r0, r1, r3, r4, hbw⟩ := ROWS.out W hKt
  have hfin : strikeS lines inn os ls kn n = (os', ls', inn.set kn 0, 0) := by
   rw [HS.out, if_neg (by decide)]
   have : ((effL lines inn).filter fun p => !decide ((p.1 : Int) = kn)).map (·.2) = butK kn (vs ys) := by unfold butK vs; rw [hys]
   rw [this, e1]
  have HFIN := Lib.hid hfin
  have c0 : W.cell? ⟨w.heap.size, 0, none⟩ = some (.int .i64 kn) := by rw [cell_of_row _ _ _ _ _ _ r0]; rfl
  have c3 : W.cell? ⟨w.heap.size + 1 + 1 + 1, 0, none⟩ = some (.pointer (some ⟨w.heap.size + 1 + 1, 0, none⟩)) := by rw [cell_of_row _ _ _ _ _ _ r3]; rfl
  obtain ⟨A', c', rfl⟩ := e2.o1.sl
  obtain ⟨A'', c'', rfl⟩ := e2.o2.sl
  have a0 := e2.q0
  have a1 := e2.q1
  have hO := HO.out.below hbw
  have o0 := hO.q0
  have o1 := hO.q1
  have of0 := hO.fz 0
  have of1 := hO.fz 1
  have E2 := Lib.hid e2
  have HO1 := Lib.hid hO
  have HBW := Lib.hid hbw
  have RR0 := Lib.hid r0
  have RR1 := Lib.hid r1
  have HDD := Lib.hid hDD
  clear e1 e2 hKt hfin r0 r1 r3 r4 hbw hO hys hDD
  gi_wp2
  obtain ⟨W2, hW2⟩ : ∃ W2, (W.setCell ⟨ob, 0, none⟩ (.slice A' os'.length c')).setCell ⟨ob, 1, none⟩ (.slice A'' ls'.length c'') = W2 := ⟨_, rfl⟩
  have hO2 := HO1.out.move E2.out (by have := HO.out.le; omega)
  have hg2 : W.grownBy W2 (some ob) := by
   rw [← hW2]
   exact ⟨rfl, rfl, rfl, by simp [World.setCell], fun q hq hne => by
    rw [heap_setCell_other _ _ q _ (fun e1 => hne (by rw [e1])), heap_setCell_other _ _ q _ (fun e1 => hne (by rw [e1]))]⟩
  rw [hW2] at hO2
  rw [hW2]
  clear hW2 a0 a1 o0 o1 of0 of1 c3
  have hrowb : ∃ cs t f, W.heap[ob]? = some (.cells cs t f) ∧ t ≠ 3 := ⟨_, 91, _, HO1.out.row, by decide⟩
  have hI2 : Own eI 3 1 base W2.drew (.slice (some ⟨b, 0, none⟩) lines.length c2) inn := (((HI.out.below HBW.out).other hg2 (fun r e => by cases e; exact hrowb)).below (belowD (Below.refl _ _)))
  have hsz := HBW.out.size
  have g0 : W2.cell? ⟨w.heap.size, 0, none⟩ = some (.int .i64 kn) := by
   rw [World.cell?_of_block (hg2.block w.heap.size (by have := (Array.getElem?_eq_some_iff.1 RR0.out).1; exact this) (by simp; omega))]; exact c0
  have g1 : W2.heap[w.heap.size + 1]? = some (.cells #[.int .i64 0] 28) := (hg2.block _ (Array.getElem?_eq_some_iff.1 RR1.out).1 (by simp; omega)).trans RR1.out
  have g1c : W2.cell? ⟨w.heap.size + 1, 0, none⟩ = some (.int .i64 0) := by rw [cell_of_row _ _ _ _ _ _ g1]; rfl
  have g1f : W2.frozen? ⟨w.heap.size + 1, 0, none⟩ = false := by simp [World.frozen?, g1]
  have o3 : W2.cell? ⟨ob, 3, none⟩ = some (.slice (some ⟨b, 0, none⟩) lines.length c2) := by rw [cell_of_row _ _ _ _ _ _ hO2.row]; rfl
  have hDW2 : W2.heap[D]? = some (.deferred (some [])) := (hg2.block D (Array.getElem?_eq_some_iff.1 HDD.out).1 (fun e => by
   have := HDD.out
   have e2 := HO1.out.row
   cases e
   rw [e2] at this
   cases this)).trans HDD.out
  obtain ⟨ib, off, m, hm, e1, hbl2, m0⟩ := (hI2.rs0 HLEN.out).atI hkin
  cases e1
  rw [Nat.zero_add] at m0
  obtain ⟨g, cap, hv, hbg, ⟨cs, hcs2⟩, hfz, ho, hg⟩ := (show Own eI 3 1 base W2.drew (.slice (some ⟨b, 0, none⟩) inn.length c2) inn from by rw [HLEN.out]; exact hI2).set_ encI (i := kn) (j := 0) (u := .int .i64 0) (x' := 0) hkin (by simp [eI]) (by omega)
  obtain rfl : b = g := by
   injection hv with ha
   injection ha with ha
   injection ha
  rw [Nat.mul_one, Nat.add_zero] at hfz ho hg
  have HO2 := Lib.hid (hO2.below (belowD (Below.refl _ _)))
  have HOI := Lib.hid ho
  have HGI := Lib.hid hg
  have HCS := Lib.hid hcs2
  have HG2 := Lib.hid hg2
  have HG1 := Lib.hid g1
  have HDW := Lib.hid hDW2
  have HM0 : (W2.cell? ⟨b, kn, none⟩).isSome = true := by
   have : W2.cell? ⟨b, kn, none⟩ = some (.int .i64 m) := m0
   rw [this]; rfl
  clear hO2 ho hg hcs2 hg2 g1 hDW2 hI2 hm hrowb hv
  gi_region
  all_goals
   gi_wp2
   have hW3 : ((W2.setCell ⟨b, kn, none⟩ (.int .i64 0)).setCell ⟨w.heap.size + 1, 0, none⟩ (.int .i64 0)).drew = (W2.drew.setCell ⟨b, kn, none⟩ (.int .i64 0)).setCell ⟨w.heap.size + 1, 0, none⟩ (.int .i64 0) := rfl
   rw [hW3]
   clear hW3
   obtain ⟨W3, hW3⟩ : ∃ W3, W2.drew.setCell ⟨b, kn, none⟩ (.int .i64 0) = W3 := ⟨_, rfl⟩
   rw [hW3] at HOI HGI
   rw [hW3]
   have n1 : w.heap.size + 1 ≠ b := fun e => by
    have e1 := HG1.out
    have e2 := HCS.out
    rw [e] at e1
    rw [show W2.drew.heap[b]? = W2.heap[b]? from rfl, e1] at e2
    cases e2
   have n2 : D ≠ b := fun e => by
    have e1 := HDW.out
    have e2 := HCS.out
    rw [e] at e1
    rw [show W2.drew.heap[b]? = W2.heap[b]? from rfl, e1] at e2
    cases e2
   have n3 : D ≠ w.heap.size + 1 := fun e => by
    have e1 := HDW.out
    have e2 := HG1.out
    rw [e, e2] at e1
    cases e1
   have n4 : b ≠ ob := fun e => by
    have e1 := HO2.out.row
    have e2 := HCS.out
    rw [e, e1] at e2
    cases e2
   have s1 : W3.heap[w.heap.size + 1]? = some (.cells #[.int .i64 0] 28) := (HGI.out.block _ (Array.getElem?_eq_some_iff.1 HG1.out).1 (by simp; exact n1)).trans HG1.out
   have d1 : W3.heap[D]? = some (.deferred (some [])) := (HGI.out.block _ (Array.getElem?_eq_some_iff.1 HDW.out).1 (by simp; exact n2)).trans HDW.out
   have s1c : W3.cell? ⟨w.heap.size + 1, 0, none⟩ = some (.int .i64 0) := by rw [cell_of_row _ _ _ _ _ _ s1]; rfl
   have hg4 := grown_cell W3 (w.heap.size + 1) 0 (.int .i64 0)
   obtain ⟨W4, hW4⟩ : ∃ W4, W3.setCell ⟨w.heap.size + 1, 0, none⟩ (.int .i64 0) = W4 := ⟨_, rfl⟩
   have s2c : W4.cell? ⟨w.heap.size + 1, 0, none⟩ = some (.int .i64 0) := by rw [← hW4]; exact World.cell?_setCell_same' _ _ _ (by rw [s1c]; rfl)
   rw [hW4] at hg4
   rw [hW4]
   have d2 : W4.heap[D]? = some (.deferred (some [])) := (hg4.block _ (Array.getElem?_eq_some_iff.1 d1).1 (by simp; exact n3)).trans d1
   have hg5 := grownBy_putObj' W4 D (.deferred none)
   have hc5 := cell_kept s2c hg5 (fun r e => by cases e; exact ⟨_, d2, rfl⟩)
   refine ⟨by simp, .inl ⟨_, _, rfl, run_takeDeferred d2, ?_⟩⟩
   refine ⟨.int .i64 0, by simp [results, Tryz.f98, go_sem, hc5], ?_⟩
   rw [HFIN.out]
   refine ⟨rfl, ⟨_, _, ((HO2.out.other HGI.out (fun r e => by cases e; exact ⟨n4, _, _, _, HCS.out, by decide, by decide⟩)).other hg4 (fun r e => by cases e; exact ⟨by omega, _, _, _, s1, by decide, by decide⟩)).own_ hg5 (fun r e => by cases e; exact ⟨_, d2, rfl⟩)⟩, ?_, ?_⟩
   ·have := HOI.out
    rw [HLEN.out] at this
    exact (this.other hg4 (fun r e => by cases e; exact ⟨_, _, _, s1, by decide⟩)).own_ hg5 (fun r e => by cases e; exact ⟨_, d2, rfl⟩)
   ·exact ((((((Ks.refl base ob w).below HBW.out).grown HG2.out (fun r e => by cases e; exact ⟨HO.out.le, .inl rfl⟩)).below (belowD (Below.refl _ _))).grown HGI.out (fun r e => by cases e; exact ⟨hbg, .inr ⟨_, _, _, HCS.out, .inr (.inr rfl)⟩⟩)).later hg4 (fun r e => by cases e; omega)).later hg5 (fun r e => by cases e; omega)
 case stop =>
  rintro D cd pre W hD ⟨r, hr⟩ ⟨rfl, hn1, hc, hbw⟩ hDD
  have hfin : strikeS lines inn os ls kn n = (os, ls, inn, 13) := by
   rw [HS.out, if_neg (by decide)]
   have : ((effL lines inn).filter fun p => !decide ((p.1 : Int) = kn)).map (·.2) = butK kn (vs pre) ++ butK kn r := by rw [← butK_app]; unfold butK vs; rw [hr]
   rw [this, again_stop hn1]
  rw [hfin]
  have hc5 := cell_kept hc (grownBy_putObj' _ D (.deferred none)) (fun r e => by cases e; exact ⟨_, hDD, rfl⟩)
  have B5 : Below w.heap.size w (W.putObj D (.deferred none)) := hbw.trans (below_put (by omega))
  gi_wp2
  refine ⟨by simp, .inl ⟨_, _, rfl, run_takeDeferred hDD, ?_⟩⟩
  exact ⟨.int .i64 13, by simp [results, Tryz.f98, go_sem, hc5], rfl, ⟨v1, v2, HO.out.below B5⟩, HI.out.below B5, (Ks.refl _ _ _).below B5⟩
end Go.Proofs.YtcnpbcgkhhebaaaGreatDoor
/- Lines are played. -/
namespace Go.Proofs.YtcnpbcgkhhebaaaGreatDoor
open Go.RowKit

/-- The book after some lines. -/
structure PlayI (base ob : Nat) (A : Option Addr) (c : Nat) (lines : List Ln) (A2 : Option Addr) (c2 : Nat) (w : World) (st : St) (wr : World) : Prop where
 off : ∃ v1 v2 ve, Off0 base wr ob [.slice A lines.length c, .slice A2 lines.length c2, ve] 91 v1 v2 st.os st.ls ∧ Own eI 28 1 base wr ve st.errs
 inn : Own eI 3 1 base wr (.slice A2 lines.length c2) st.inn
 bel : Below base w wr
theorem PlayI.below {base ob : Nat} {A : Option Addr} {c : Nat} {lines : List Ln} {A2 : Option Addr} {c2 : Nat} {w : World} {st : St} {wr wr' : World} (h : PlayI base ob A c lines A2 c2 w st wr) (hb : Below wr.heap.size wr wr') (hs : base ≤ wr.heap.size) : PlayI base ob A c lines A2 c2 w st wr' := by
 obtain ⟨⟨v1, v2, ve, h1, h2⟩, h3, h4⟩ := h
 exact ⟨⟨v1, v2, ve, h1.below hb, h2.below hb⟩, h3.below hb, h4.trans (hb.mono hs)⟩
theorem Off0.rest4 {base ob : Nat} {w : World} {a b c u : Value} {t : TypeId} {v1 v2 : Value} {os : List Ow} {ls : List Lg} (h : Off0 base w ob [a, b, c] t v1 v2 os ls) : Off0 base (w.setCell ⟨ob, 4, none⟩ u) ob [a, b, u] t v1 v2 os ls := by
 have hk : ∀ {α : Type} {enc : α → List Value} {e sz : Nat} {v : Value} {xs : List α}, Own enc e sz base w v xs → t ≠ e → Own enc e sz base (w.setCell ⟨ob, 4, none⟩ u) v xs := fun h1 hne => h1.other (grown_cell w ob 4 u) (fun r e => by cases e; exact ⟨_, _, _, h.row, hne⟩)
 refine ⟨?_, h.le, hk h.o1 h.ty.1, hk h.o2 h.ty.2.1, h.ty⟩
 rw [heap_setCell_same w ob 4 _ t u h.row]
 simp
/-- An error is laid behind the others. -/
theorem PlayI.push {base ob : Nat} {A : Option Addr} {c : Nat} {lines : List Ln} {A2 : Option Addr} {c2 : Nat} {w : World} {os : List Ow} {ls : List Lg} {inn errs : List Int} {wr w' : World} {v1 v2 ve ve' : Value} {er : Int}
  (h1 : Off0 base wr ob [.slice A lines.length c, .slice A2 lines.length c2, ve] 91 v1 v2 os ls) (h2 : Own eI 28 1 base wr ve errs) (h3 : Own eI 3 1 base wr (.slice A2 lines.length c2) inn) (h4 : Below base w wr) (hs : base ≤ wr.heap.size)
  (hg : wr.grownBy w' ve.ownBlock) (ho : Own eI 28 1 base w' ve' (errs ++ [er])) :
  w'.cell? ⟨ob, 4, none⟩ = some ve ∧ w'.frozen? ⟨ob, 4, none⟩ = false ∧ PlayI base ob A c lines A2 c2 w ⟨os, ls, inn, errs ++ [er]⟩ (w'.setCell ⟨ob, 4, none⟩ ve') := by
 have hrw : ∀ r, ve.ownBlock = some r → ∃ cs, wr.heap[r]? = some (.cells cs 28 (0, 0)) := fun r e => (h2.blk r e).2
 have g1 : Off0 base w' ob [.slice A lines.length c, .slice A2 lines.length c2, ve] 91 v1 v2 os ls := h1.other hg (fun r e => by
  obtain ⟨cs, hcs⟩ := hrw r e
  exact ⟨fun e2 => (by rw [e2, h1.row] at hcs; cases hcs), cs, _, _, hcs, by decide, by decide⟩)
 have g3 : Own eI 3 1 base w' (.slice A2 lines.length c2) inn := h3.other hg (fun r e => by obtain ⟨cs, hcs⟩ := hrw r e; exact ⟨cs, _, _, hcs, by decide⟩)
 have b1 : Below base w w' := h4.grown hg hs (fun r e => (h2.blk r e).1)
 refine ⟨by rw [cell_of_row _ _ _ _ _ _ g1.row]; rfl, g1.fz 4, ⟨⟨v1, v2, ve', g1.rest4, ho.other (grown_cell w' ob 4 ve') (fun r e => by cases e; exact ⟨_, _, _, g1.row, by decide⟩)⟩, g3.other (grown_cell w' ob 4 ve') (fun r e => by cases e; exact ⟨_, _, _, g1.row, by decide⟩), b1.grown (grown_cell w' ob 4 ve') (Nat.le_trans hs hg.size) (fun r e => by cases e; exact g1.le)⟩⟩
theorem dropW {w w' : World} {row : Option Nat} (h : w.grownBy w' row) : w.heap.size ≤ w'.heap.size := h.size

set_option maxRecDepth 100000 in
set_option maxHeartbeats 4000000 in
theorem play_any (A : Option Addr) (c : Nat) (lines : List Ln) (w : World) (hl : Rd eN 5 w A c lines) (hx : ∀ x ∈ lines, LnGood x) (hn : lines.length ≤ 100000) :
  Calls Tryz.prog 59 #[.slice A lines.length c] w fun e w' => e = .returned (.pointer (some ⟨w.heap.size + 1, 0, none⟩)) ∧ PlayI w.heap.size (w.heap.size + 1) A c lines (some ⟨w.heap.size, 0, none⟩) lines.length w (playS lines) w' := by
 have hll := hl.len
 have hA : 0 < lines.length → ∀ b off, A = some ⟨b, off, none⟩ → b < w.heap.size := fun h0 b off e => by
  obtain ⟨b', off', e', hb, _⟩ := hl.2.2 h0
  rw [e] at e'
  cases e'
  exact hb
 obtain ⟨w1, hmk, om, hb1, hs1⟩ := run_makeI e3 w lines.length (by omega) (by omega)
 have HL := Lib.hid hl
 have HX := Lib.hid hx
 have HA := Lib.hid hA
 have OM := Lib.hid om
 have HB1 := Lib.hid hb1
 have HS1 := Lib.hid hs1
 clear hl hx hA om hb1
 go_enter Tryz.func59, Tryz.ntmps59
 go_wp2
 -- ROUND
 clear hmk
 have I0 : PlayI w.heap.size (w.heap.size + 1) A c lines (some ⟨w.heap.size, 0, none⟩) lines.length w (playK lines 0) (w1.alloc (.cells #[.slice none 0 0, .slice none 0 0, .slice A lines.length c, .slice (some ⟨w.heap.size, 0, none⟩) lines.length lines.length, .slice none 0 0] 91)) := by
  refine ⟨⟨.slice none 0 0, .slice none 0 0, .slice none 0 0, ⟨?_, by omega, Own.nil_ _ _ _ _ _, Own.nil_ _ _ _ _ _, by decide⟩, Own.nil_ _ _ _ _ _⟩, ?_, ?_⟩
  ·have := heap_alloc_new w1 (.cells #[.slice none 0 0, .slice none 0 0, .slice A lines.length c, .slice (some ⟨w.heap.size, 0, none⟩) lines.length lines.length, .slice none 0 0] 91)
   rw [HS1.out] at this
   exact this
  ·exact OM.out.below (below_a1 _ _)
  ·exact below2 HB1.out (below_a1 _ _)
 have II0 := Lib.hid I0
 clear I0 hs1
 have hbase : True := trivial
 go_loopg [15] lines.length (fun gg s15 wr => ∃ k : Nat, k ≤ lines.length ∧ lines.length - k ≤ gg ∧ s15 = .int .i64 k ∧ Hid (PlayI w.heap.size (w.heap.size + 1) A c lines (some ⟨w.heap.size, 0, none⟩) lines.length w (playK lines k) wr))
 case atStart => exact ⟨0, Nat.zero_le _, by omega, rfl, II0⟩
 case round =>
  obtain ⟨k, hk, hg, rfl, PI⟩ := hrel
  by_cases hlt : k < lines.length
  ·have hli : (k : Int) < (lines.length : Int) := by omega
   obtain ⟨b, off, y, hy, rfl, hbl, y0, y1, y2, y3, y4⟩ := (HL.out.below PI.out.bel).atN hlt
   have hgx := HX.out y (by rw [hy]; exact List.getElem_mem hlt)
   have hpk := playK_succ hlt
   rw [← hy] at hpk
   have hgd := good_play (fun x hx => (HX.out x hx).ok) k (by omega)
   have h01 := inn01 (lines := lines) k (by omega)
   obtain ⟨hl1, hl2⟩ := playK_len lines k (by omega)
   obtain ⟨⟨os, ls, inn, errs⟩, hst⟩ : ∃ st, playK lines k = st := ⟨_, rfl⟩
   have PI2 := PI.out
   rw [hst] at hpk PI2 hgd h01 hl1 hl2
   simp only at hgd h01 hl1 hl2
   obtain ⟨⟨v1, v2, ve, h1, h2⟩, h3, h4⟩ := PI2
   simp only at h1 h2 h3
   have PK := Lib.hid hpk
   have HGD := Lib.hid hgd
   have H01 := Lib.hid h01
   have HL1 := Lib.hid hl1
   have hle : errs.length ≤ 100000 := by omega
   have hbs : w.heap.size ≤ wr.heap.size := h4.size
   clear hpk hgd h01 hl1 hl2 hst PI hy
   obtain ⟨word, one, two, letters, tx⟩ := y
   have HGX := Lib.hid hgx
   have hone := hgx.one
   simp only at y0 y1 y2 y3 y4 hone
   obtain ⟨w2, hw2⟩ : ∃ w2, w2 = wr.alloc (.cells #[.string word, .int .i64 one, .int .i64 two, .string letters, .string tx] 108) := ⟨_, rfl⟩
   have B2 : Below wr.heap.size wr w2 := by rw [hw2]; exact below_a1 _ _
   have g1 := h1.below B2
   have g2 := h2.below B2
   have g3 := h3.below B2
   have g4 : Below w.heap.size w w2 := h4.trans (B2.mono hbs)
   have G1 := Lib.hid g1
   have G2 := Lib.hid g2
   have G3 := Lib.hid g3
   have G4 := Lib.hid g4
   clear h1 h2 h3 h4 g1 g2 g3 g4
   cases hq : (word.toList == [115, 116, 114, 105, 107, 101]) with
   | true =>
    have hws : word = wStrike := by
     have := word_eq word wStrike
     rw [ByteArray.toList_eq wStrike] at this
     have h : (word.toList == wStrike.data.toList) = true := hq
     rw [h] at this
     exact of_decide_eq_true this.symm
    have hstep : stepS lines ⟨os, ls, inn, errs⟩ k ⟨word, one, two, letters, tx⟩ = ⟨(strikeS lines inn os ls (one - 1) k).1, (strikeS lines inn os ls (one - 1) k).2.1, (strikeS lines inn os ls (one - 1) k).2.2.1, errs ++ [(strikeS lines inn os ls (one - 1) k).2.2.2]⟩ := by
     unfold stepS
     rw [if_pos hws]
    have hcon := strike_any w.heap.size (w.heap.size + 1) (some ⟨b, off, none⟩) c lines (some ⟨w.heap.size, 0, none⟩) lines.length inn ve v1 v2 os ls (one - 1) k w2 G1.out (HL.out.below G4.out) (fun h0 b' off' e => by have := HA.out h0 b' off' e; have := G4.out.size; omega) G3.out HL1.out H01.out (fun x hx => (HX.out x hx).ok) (by omega) hlt (by omega)
    obtain ⟨⟨os', ls', inn', er⟩, hr⟩ : ∃ r, strikeS lines inn os ls (one - 1) k = r := ⟨_, rfl⟩
    rw [hr] at hcon hstep
    rw [hw2] at hcon
    have CON := Lib.hid hcon
    have STEP := Lib.hid hstep
    clear hcon hstep hr hws
    go_wp2_with fail
    refine CON.out.mono ?_
    rintro e w3 ⟨rfl, ⟨u1, u2, h1⟩, h3, hks⟩
    rw [← hw2] at hks
    have h2 := G2.out.ks hks (by decide) G1.out.row (by decide)
    have h4 : Below w.heap.size w w3 := G4.out.trans (hks.toBelow (by have := B2.size; omega))
    simp only at h1 h3 h4
    clear hks hw2 B2
    obtain ⟨A5, c5, rfl⟩ := h2.sl
    have q4 : w3.cell? ⟨w.heap.size + 1, 4, none⟩ = some (.slice A5 errs.length c5) := by rw [cell_of_row _ _ _ _ _ _ h1.row]; rfl
    have hs3 : w.heap.size ≤ w3.heap.size := h4.size
    have P1 := Lib.hid h1
    have P2 := Lib.hid h2
    have P3 := Lib.hid h3
    have P4 := Lib.hid h4
    clear h1 h2 h3 h4
    go_wp2_with (at_builtin; apply stop_)
    unfold Hid
    refine wpList_push e28 encI rfl _ _ rfl rfl (P2.out.below (below_a1 w3 (.cells #[.int .i64 er] 28))) w3.heap.size 1 er rfl (one_I (by go_simp)) (by omega) (by omega) (by simp only [World.size_alloc]; omega) ?_
    intro v' w' hown' hgr hlk
    obtain ⟨p1, p2, p3⟩ := PlayI.push (er := er) (P1.out.below (below_a1 w3 (.cells #[.int .i64 er] 28))) (P2.out.below (below_a1 _ _)) (P3.out.below (below_a1 _ _)) (P4.out.trans ((below_a1 _ _).mono hs3)) (by simp only [World.size_alloc]; omega) hgr hown'
    obtain ⟨A6, c6, rfl⟩ := hown'.sl
    rw [show (errs ++ [er]).length = errs.length + 1 by simp] at p3
    have P5 := Lib.hid p3
    clear hown' hgr hlk p3 q4
    go_wp2
    go_roundg (lines.length - (k + 1))
    case measure => omega
    case rel => exact ⟨k + 1, by omega, by omega, by go_num, by rw [PK.out, STEP.out]; exact P5.out⟩
   | false =>
    have hws : word ≠ wStrike := by
     intro e
     rw [e, ByteArray.toList_eq] at hq
     exact absurd hq (by decide)
    have hcon := do_any w.heap.size (w.heap.size + 1) _ 91 v1 v2 os ls ⟨word, one, two, letters, tx⟩ w2 G1.out HGD.out HGX.out.ok
    have hstep : stepS lines ⟨os, ls, inn, errs⟩ k ⟨word, one, two, letters, tx⟩ = ⟨(doS os ls ⟨word, one, two, letters, tx⟩).1, (doS os ls ⟨word, one, two, letters, tx⟩).2.1, if (doS os ls ⟨word, one, two, letters, tx⟩).2.2 = 0 then inn.set k 1 else inn, errs ++ [(doS os ls ⟨word, one, two, letters, tx⟩).2.2]⟩ := by
     unfold stepS
     rw [if_neg hws]
    obtain ⟨⟨os', ls', er⟩, hr⟩ : ∃ r, doS os ls ⟨word, one, two, letters, tx⟩ = r := ⟨_, rfl⟩
    rw [hr] at hcon hstep
    simp only at hstep
    have hcon2 : ∀ W, Below w2.heap.size w2 W → Calls Tryz.prog 99 #[.pointer (some ⟨w.heap.size + 1, 0, none⟩), .agg #[.string word, .int .i64 one, .int .i64 two, .string letters, .string tx]] W (DoR w.heap.size W (w.heap.size + 1) [.slice (some ⟨b, off, none⟩) lines.length c, .slice (some ⟨w.heap.size, 0, none⟩) lines.length lines.length, ve] 91 (os', ls', er)) := fun W hW => by
     have := do_any w.heap.size (w.heap.size + 1) _ 91 v1 v2 os ls ⟨word, one, two, letters, tx⟩ W (G1.out.below hW) HGD.out HGX.out.ok
     rw [hr] at this
     exact this
    have CON := Lib.hid hcon2
    have STEP := Lib.hid hstep
    clear hcon hcon2 hstep hr hws
    have x0 : w2.cell? ⟨wr.heap.size, 0, none⟩ = some (.string word) := by rw [hw2]; go_simp
    have x1 : w2.cell? ⟨wr.heap.size, 1, none⟩ = some (.int .i64 one) := by rw [hw2]; go_simp
    have x2 : w2.cell? ⟨wr.heap.size, 2, none⟩ = some (.int .i64 two) := by rw [hw2]; go_simp
    have x3 : w2.cell? ⟨wr.heap.size, 3, none⟩ = some (.string letters) := by rw [hw2]; go_simp
    have x4 : w2.cell? ⟨wr.heap.size, 4, none⟩ = some (.string tx) := by rw [hw2]; go_simp
    go_wp2_with fail
    rw [← hw2]
    have xr : w2.heap[wr.heap.size]? = some (.cells #[.string word, .int .i64 one, .int .i64 two, .string letters, .string tx] 108 (0, 0)) := by rw [hw2]; exact heap_alloc_new _ _
    have xne : wr.heap.size ≠ w.heap.size + 1 := fun e => by
     rw [e, G1.out.row] at xr
     cases xr
    have XR := Lib.hid xr
    clear xr hw2
    go_region_held3 (fun W => W.cell? ⟨wr.heap.size, 0, none⟩ = some (.string word) ∧ W.cell? ⟨wr.heap.size, 1, none⟩ = some (.int .i64 one) ∧ W.cell? ⟨wr.heap.size, 2, none⟩ = some (.int .i64 two) ∧ W.cell? ⟨wr.heap.size, 3, none⟩ = some (.string letters) ∧ W.cell? ⟨wr.heap.size, 4, none⟩ = some (.string tx)) (go_keep) ((go_at_call 99; refine (CON.out _ goB).mono ?_; rintro e w3 ⟨rfl, ho, hk3⟩; have HK3 := Lib.hid hk3; clear hk3; have xr3 := HK3.out.row (show w2.drew.heap[wr.heap.size]? = _ from XR.out) xne (by decide); have z0 : w3.cell? ⟨wr.heap.size, 0, none⟩ = some (.string word) := (by rw [cell_of_row _ _ _ _ _ _ xr3]; rfl); have z1 : w3.cell? ⟨wr.heap.size, 1, none⟩ = some (.int .i64 one) := (by rw [cell_of_row _ _ _ _ _ _ xr3]; rfl); have z2 : w3.cell? ⟨wr.heap.size, 2, none⟩ = some (.int .i64 two) := (by rw [cell_of_row _ _ _ _ _ _ xr3]; rfl); have z3 : w3.cell? ⟨wr.heap.size, 3, none⟩ = some (.string letters) := (by rw [cell_of_row _ _ _ _ _ _ xr3]; rfl); have z4 : w3.cell? ⟨wr.heap.size, 4, none⟩ = some (.string tx) := (by rw [cell_of_row _ _ _ _ _ _ xr3]; rfl)))
    obtain ⟨u1, u2, h1⟩ := ho
    have G1d := G1.out.below (belowD (Below.refl _ _))
    have h2 := ((G2.out.below (belowD (Below.refl _ _))).kt HK3.out (by decide) G1d.row (by decide))
    have h3 := ((G3.out.below (belowD (Below.refl _ _))).kt HK3.out (by decide) G1d.row (by decide))
    have h4 : Below w.heap.size w w3 := (belowD G4.out).trans (HK3.out.toBelow (by have := B2.size; show w.heap.size ≤ w2.heap.size; omega))
    clear z0 z1 z2 z3 z4 x0 x1 x2 x3 x4 xr3 B2 G1d xne
    by_cases her : er = 0
    ·subst her
     rw [if_pos rfl] at STEP
     have q3 : w3.cell? ⟨w.heap.size + 1, 3, none⟩ = some (.slice (some ⟨w.heap.size, 0, none⟩) lines.length lines.length) := by rw [cell_of_row _ _ _ _ _ _ h1.row]; rfl
     have hki : k < inn.length := by rw [HL1.out]; exact hlt
     obtain ⟨ib, off2, m, hm, e1, hbl2, m0⟩ := (h3.rs0 HL1.out).atI hki
     cases e1
     rw [Nat.zero_add] at m0
     obtain ⟨g, cap, hv, hbg, ⟨cs, hcs2⟩, hfz, ho, hgr⟩ := (show Own eI 3 1 w.heap.size w3 (.slice (some ⟨w.heap.size, 0, none⟩) inn.length lines.length) inn from by rw [HL1.out]; exact h3).set_ encI (i := k) (j := 0) (u := .int .i64 1) (x' := 1) hki (by simp [eI]) (by omega)
     obtain rfl : w.heap.size = g := by
      injection hv with ha
      injection ha with ha
      injection ha
     rw [Nat.mul_one, Nat.add_zero] at hfz ho hgr
     rw [HL1.out] at ho
     have hrw : ∀ r, some w.heap.size = some r → ∃ cs t f, w3.heap[r]? = some (.cells cs t f) ∧ t = 3 := fun r e => by cases e; exact ⟨_, _, _, hcs2, rfl⟩
     have i1 := h1.other hgr (fun r e => by obtain ⟨cs, t, f, h5, rfl⟩ := hrw r e; cases e; exact ⟨by omega, _, _, _, h5, by decide, by decide⟩)
     have i2 := h2.other hgr (fun r e => by obtain ⟨cs, t, f, h5, rfl⟩ := hrw r e; exact ⟨_, _, _, h5, by decide⟩)
     have i4 := h4.grown hgr h4.size (fun r e => by cases e; exact Nat.le_refl _)
     have I1 := Lib.hid i1
     have I2 := Lib.hid i2
     have I3 := Lib.hid ho
     have I4 := Lib.hid i4
     clear h1 h2 h3 h4 i1 i2 i4 ho hgr hcs2 hrw hm hv
     obtain ⟨w4, hw4⟩ : ∃ w4, w3.setCell ⟨w.heap.size, k, none⟩ (.int .i64 1) = w4 := ⟨_, rfl⟩
     have h1 := I1.out
     have h2 := I2.out
     have h3 := I3.out
     have h4 := I4.out
     rw [hw4] at h1 h2 h3 h4
     obtain ⟨A5, c5, rfl⟩ := h2.sl
     have q4 : w4.cell? ⟨w.heap.size + 1, 4, none⟩ = some (.slice A5 errs.length c5) := by rw [cell_of_row _ _ _ _ _ _ h1.row]; rfl
     have H1 := Lib.hid h1
     have H2 := Lib.hid h2
     have H3 := Lib.hid h3
     have H4 := Lib.hid h4
     clear h1 h2 h3 h4 I1 I2 I3 I4
     have q4' := q4
     rw [← hw4] at q4'
     go_wp2_with (at_builtin; apply stop_)
     unfold Hid
     try rw [hw4]
     clear q4' hw4 hfz m0 q3
     have h1 := H1.out
     have h2 := H2.out
     have h3 := H3.out
     have h4 := H4.out
     have hs3 : w.heap.size ≤ w4.heap.size := h4.size
     refine wpList_push e28 encI rfl _ _ rfl rfl (H2.out.below (below_a1 w4 (.cells #[.int .i64 0] 28))) w4.heap.size 1 0 rfl (one_I (by go_simp)) (by omega) (by omega) (by simp only [World.size_alloc]; omega) ?_
     intro v' w' hown' hgr hlk
     obtain ⟨p1, p2, p3⟩ := PlayI.push (er := 0) (H1.out.below (below_a1 w4 (.cells #[.int .i64 0] 28))) (H2.out.below (below_a1 _ _)) (H3.out.below (below_a1 _ _)) (H4.out.trans ((below_a1 _ _).mono hs3)) (by simp only [World.size_alloc]; omega) hgr hown'
     obtain ⟨A6, c6, rfl⟩ := hown'.sl
     rw [show (errs ++ [(0 : Int)]).length = errs.length + 1 by simp] at p3
     have P5 := Lib.hid p3
     clear hown' hgr hlk p3 q4 h1 h2 h3 h4
     go_wp2
     go_roundg (lines.length - (k + 1))
     case measure => omega
     case rel => exact ⟨k + 1, by omega, by omega, by go_num, by rw [PK.out, STEP.out]; exact P5.out⟩
    ·have hd2 : (er == 0) = false := beq_eq_false_iff_ne.2 her
     rw [if_neg her] at STEP
     obtain ⟨A5, c5, rfl⟩ := h2.sl
     have q4 : w3.cell? ⟨w.heap.size + 1, 4, none⟩ = some (.slice A5 errs.length c5) := by rw [cell_of_row _ _ _ _ _ _ h1.row]; rfl
     have hs3 : w.heap.size ≤ w3.heap.size := h4.size
     have P1 := Lib.hid h1
     have P2 := Lib.hid h2
     have P3 := Lib.hid h3
     have P4 := Lib.hid h4
     clear h1 h2 h3 h4
     go_wp2_with (at_builtin; apply stop_)
     unfold Hid
     refine wpList_push e28 encI rfl _ _ rfl rfl (P2.out.below (below_a1 w3 (.cells #[.int .i64 er] 28))) w3.heap.size 1 er rfl (one_I (by go_simp)) (by omega) (by omega) (by simp only [World.size_alloc]; omega) ?_
     intro v' w' hown' hgr hlk
     obtain ⟨p1, p2, p3⟩ := PlayI.push (er := er) (P1.out.below (below_a1 w3 (.cells #[.int .i64 er] 28))) (P2.out.below (below_a1 _ _)) (P3.out.below (below_a1 _ _)) (P4.out.trans ((below_a1 _ _).mono hs3)) (by simp only [World.size_alloc]; omega) hgr hown'
     obtain ⟨A6, c6, rfl⟩ := hown'.sl
     rw [show (errs ++ [er]).length = errs.length + 1 by simp] at p3
     have P5 := Lib.hid p3
     clear hown' hgr hlk p3 q4
     go_wp2
     go_roundg (lines.length - (k + 1))
     case measure => omega
     case rel => exact ⟨k + 1, by omega, by omega, by go_num, by rw [PK.out, STEP.out]; exact P5.out⟩
  ·have hli : ¬ (k : Int) < (lines.length : Int) := by omega
   have hke : k = lines.length := by omega
   subst hke
   go_wp2
   go_ret
   exact ⟨rfl, PI.out⟩
end Go.Proofs.YtcnpbcgkhhebaaaGreatDoor
/- A text is run; the board after some lines. -/
namespace Go.Proofs.YtcnpbcgkhhebaaaGreatDoor
open Go.RowKit

def runS (text : ByteArray) : St × Int := if (parseS text).2 ≠ 0 then (⟨[], [], [], []⟩, (parseS text).2) else (playS (parseS text).1, 0)
def boardS (text : ByteArray) (line : Int) : St × Int :=
 if (parseS text).2 ≠ 0 then (⟨[], [], [], []⟩, (parseS text).2) else if line < 0 ∨ ((parseS text).1.length : Int) < line then (⟨[], [], [], []⟩, 3) else (playS ((parseS text).1.take line.toNat), 0)

/-- A season of the call's own. -/
def SeaO (base : Nat) (w : World) (v : Value) (os : List Ow) (ls : List Lg) : Prop := ∃ A c A2 c2, v = .agg #[.slice A os.length c, .slice A2 ls.length c2] ∧ Own eO 73 3 base w (.slice A os.length c) os ∧ Own eL 69 5 base w (.slice A2 ls.length c2) ls
def RunR (w : World) (r : St × Int) (e : Ending) (w' : World) : Prop :=
 ∃ v A3 c3, e = .returned (.tuple #[v, .slice A3 r.1.errs.length c3, .int .i64 r.2]) ∧ SeaO w.heap.size w' v r.1.os r.1.ls ∧ Own eI 28 1 w.heap.size w' (.slice A3 r.1.errs.length c3) r.1.errs ∧ Below w.heap.size w w'
def BoardR (w : World) (r : St × Int) (e : Ending) (w' : World) : Prop :=
 ∃ v, e = .returned (.tuple #[v, .int .i64 r.2]) ∧ SeaO w.heap.size w' v r.1.os r.1.ls ∧ Below w.heap.size w w'
theorem SeaO.nil_ (base : Nat) (w : World) : SeaO base w (.agg #[.slice none 0 0, .slice none 0 0]) [] [] := ⟨none, 0, none, 0, rfl, Own.nil_ _ _ _ _ _, Own.nil_ _ _ _ _ _⟩

theorem two_cells {w W : World} {b : Nat} {u v a c : Value} {t : TypeId} (h : w.heap[b]? = some (.cells #[a, c] t (0, 0))) (hW : ((w.setCell ⟨b, 0, none⟩ u).setCell ⟨b, 1, none⟩ v).drew = W) :
  W.cell? ⟨b, 0, none⟩ = some u ∧ W.cell? ⟨b, 1, none⟩ = some v ∧ w.grownBy W (some b) := by
 subst hW
 have h1 : (w.setCell ⟨b, 0, none⟩ u).heap[b]? = some (.cells #[u, c] t (0, 0)) := by rw [heap_setCell_same w b 0 _ t u h]; simp
 have h2 : ((w.setCell ⟨b, 0, none⟩ u).setCell ⟨b, 1, none⟩ v).drew.heap[b]? = some (.cells #[u, v] t (0, 0)) := by
  show ((w.setCell ⟨b, 0, none⟩ u).setCell ⟨b, 1, none⟩ v).heap[b]? = _
  rw [heap_setCell_same _ b 1 _ t v h1]; simp
 refine ⟨by rw [cell_of_row _ _ _ _ _ _ h2]; rfl, by rw [cell_of_row _ _ _ _ _ _ h2]; rfl, rfl, rfl, rfl, by simp [World.setCell], fun q hq hne => ?_⟩
 show ((w.setCell ⟨b, 0, none⟩ u).setCell ⟨b, 1, none⟩ v).heap[q]? = _
 rw [heap_setCell_other _ _ q _ (fun e1 => hne (by rw [e1])), heap_setCell_other _ _ q _ (fun e1 => hne (by rw [e1]))]

set_option maxRecDepth 100000 in
set_option maxHeartbeats 2000000 in
theorem run_any (text : ByteArray) (w : World) (hL : LaidW w) (hs : text.size ≤ 9223372036854775807) :
  Calls Tryz.prog 18 #[.string text] w (RunR w (runS text)) := by
 have hcon := fun W hW => parse_any text W hW hs
 have hgood := parseS_good (text := text)
 have hpl := parseS_len (text := text)
 have hr : runS text = if (parseS text).2 ≠ 0 then (⟨[], [], [], []⟩, (parseS text).2) else (playS (parseS text).1, 0) := rfl
 obtain ⟨⟨lines, er⟩, hp⟩ : ∃ p, parseS text = p := ⟨_, rfl⟩
 rw [hp] at hcon hgood hpl hr
 simp only at hgood hpl hr
 have HR := Lib.hid hr
 have HG := Lib.hid hgood
 have CON := Lib.hid (hcon _ (hL.below (below_a1 w (.cells #[.slice none 0 0, .slice none 0 0] 26))))
 clear hcon hgood hr hp hL
 by_cases h0 : er = 0
 ·subst h0
  rw [if_neg (by simp)] at HR
  go_enter Tryz.func18, Tryz.ntmps18
  go_wp2_with fail
  refine CON.out.mono ?_
  rintro e w1 ⟨⟨A, c, rfl, o1⟩, hb1⟩
  simp only at o1
  have hplay := play_any A c lines w1 (o1.rs encN) HG.out (by omega)
  have s0 : w1.heap[w.heap.size]? = some (.cells #[.slice none 0 0, .slice none 0 0] 26 (0, 0)) := (hb1.block _ (by simp)).trans (heap_alloc_new w _)
  have B1 := Lib.hid (below2 (below_a1 _ _) hb1)
  have PL := Lib.hid hplay
  have S0 := Lib.hid s0
  clear hplay o1 hb1 s0
  go_wp2_with fail
  refine PL.out.mono ?_
  rintro e w2 ⟨rfl, hpi⟩
  have hlen := (playK_len lines lines.length (Nat.le_refl _)).2
  obtain ⟨⟨os, ls, inn, errs⟩, hst⟩ : ∃ st, playS lines = st := ⟨_, rfl⟩
  rw [hst] at hpi HR
  obtain ⟨⟨v1, v2, ve, h1, h2⟩, -, h4⟩ := hpi
  simp only at h1 h2
  obtain ⟨A1, c1, rfl⟩ := h1.o1.sl
  obtain ⟨A2, c2, rfl⟩ := h1.o2.sl
  obtain ⟨A3, c3, rfl⟩ := h2.sl
  have q0 := h1.q0
  have q1 := h1.q1
  have q4 : w2.cell? ⟨w1.heap.size + 1, 4, none⟩ = some (.slice A3 errs.length c3) := by rw [cell_of_row _ _ _ _ _ _ h1.row]; rfl
  have s1 : w2.heap[w.heap.size]? = some (.cells #[.slice none 0 0, .slice none 0 0] 26 (0, 0)) := (h4.block _ (Array.getElem?_eq_some_iff.1 S0.out).1).trans S0.out
  have c0 : w2.cell? ⟨w.heap.size, 0, none⟩ = some (.slice none 0 0) := by rw [cell_of_row _ _ _ _ _ _ s1]; rfl
  have c1' : w2.cell? ⟨w.heap.size, 1, none⟩ = some (.slice none 0 0) := by rw [cell_of_row _ _ _ _ _ _ s1]; rfl
  have f0 : w2.frozen? ⟨w.heap.size, 0, none⟩ = false := by simp [World.frozen?, s1]
  have f1 : w2.frozen? ⟨w.heap.size, 1, none⟩ = false := by simp [World.frozen?, s1]
  have hlt : w.heap.size < w1.heap.size := (Array.getElem?_eq_some_iff.1 S0.out).1
  have H1 := Lib.hid h1
  have H2 := Lib.hid h2
  have H4 := Lib.hid h4
  have S1 := Lib.hid s1
  clear h1 h2 h4 hst PL s1 hlen
  go_wp2_with fail
  go_region
  all_goals
   go_wp2
   obtain ⟨W5, hW5⟩ : ∃ W5, ((w2.setCell ⟨w.heap.size, 0, none⟩ (.slice A1 os.length c1)).setCell ⟨w.heap.size, 1, none⟩ (.slice A2 ls.length c2)).drew = W5 := ⟨_, rfl⟩
   obtain ⟨k0, k1, hg5⟩ := two_cells S1.out hW5
   rw [hW5]
   have hne : ∀ r, some w.heap.size = some r → ∃ cs t f, w2.heap[r]? = some (.cells cs t f) ∧ t = 26 := fun r e => by cases e; exact ⟨_, _, _, S1.out, rfl⟩
   have B2 : Below w.heap.size w w2 := Below.trans B1.out (H4.out.mono (by omega))
   refine bodyPost_ret (v := .tuple #[.agg #[.slice A1 os.length c1, .slice A2 ls.length c2], .slice A3 errs.length c3, .int .i64 0]) (by simp [results, Tryz.f18, go_sem, k0, k1]) rfl ?_
   rw [HR.out]
   exact ⟨_, A3, c3, rfl, ⟨A1, c1, A2, c2, rfl, (H1.out.o1.other hg5 (fun r e => by obtain ⟨cs, t, f, h, rfl⟩ := hne r e; exact ⟨_, _, _, h, by decide⟩)).mono (by omega), (H1.out.o2.other hg5 (fun r e => by obtain ⟨cs, t, f, h, rfl⟩ := hne r e; exact ⟨_, _, _, h, by decide⟩)).mono (by omega)⟩, (H2.out.other hg5 (fun r e => by obtain ⟨cs, t, f, h, rfl⟩ := hne r e; exact ⟨_, _, _, h, by decide⟩)).mono (by omega), B2.grown hg5 B2.size (fun r e => by cases e; exact Nat.le_refl _)⟩
 ·have hd : (er != 0) = true := by simp [h0]
  rw [if_pos h0] at HR
  have H0 := Lib.hid h0
  clear h0
  go_enter Tryz.func18, Tryz.ntmps18
  go_wp2_with fail
  refine CON.out.mono ?_
  rintro e w1 ⟨⟨A, c, rfl, o1⟩, hb1⟩
  have s0 : w1.heap[w.heap.size]? = some (.cells #[.slice none 0 0, .slice none 0 0] 26 (0, 0)) := (hb1.block _ (by simp)).trans (heap_alloc_new w _)
  have B1 := Lib.hid (below2 (below_a1 _ _) hb1)
  have S0 := Lib.hid s0
  have c0 : w1.cell? ⟨w.heap.size, 0, none⟩ = some (.slice none 0 0) := by rw [cell_of_row _ _ _ _ _ _ s0]; rfl
  have c1' : w1.cell? ⟨w.heap.size, 1, none⟩ = some (.slice none 0 0) := by rw [cell_of_row _ _ _ _ _ _ s0]; rfl
  have f0 : w1.frozen? ⟨w.heap.size, 0, none⟩ = false := by simp [World.frozen?, s0]
  have f1 : w1.frozen? ⟨w.heap.size, 1, none⟩ = false := by simp [World.frozen?, s0]
  clear o1 hb1 s0
  go_wp2
  rw [setCell_same S0.out rfl, setCell_same S0.out rfl]
  refine bodyPost_ret (v := .tuple #[.agg #[.slice none 0 0, .slice none 0 0], .slice none 0 0, .int .i64 er]) (by simp [results, Tryz.f18, go_sem, c0, c1']) rfl ?_
  rw [HR.out]
  exact ⟨_, none, 0, rfl, SeaO.nil_ _ _, Own.nil_ _ _ _ _ _, B1.out⟩
end Go.Proofs.YtcnpbcgkhhebaaaGreatDoor
/- The board after some lines. -/
namespace Go.Proofs.YtcnpbcgkhhebaaaGreatDoor
open Go.RowKit

theorem Rd.take {α : Type} {enc : α → List Value} {sz : Nat} {w : World} {A : Option Addr} {c : Nat} {xs : List α} (h : Rd enc sz w A c xs) (k : Nat) : Rd enc sz w A c (xs.take k) :=
 ⟨by rw [List.length_take]; have := h.1; omega, h.2.1, fun hn => by
  rw [List.length_take] at hn
  obtain ⟨b, off, e, hl, hc⟩ := h.2.2 (by omega)
  exact ⟨b, off, e, hl, fun i x hx j u hu => hc i x (by
   rw [List.getElem?_take] at hx
   split at hx
   ·exact hx
   ·cases hx) j u hu⟩⟩

set_option maxRecDepth 100000 in
set_option maxHeartbeats 2000000 in
theorem board_any (text : ByteArray) (line : Int) (w : World) (hL : LaidW w) (hs : text.size ≤ 9223372036854775807) :
  Calls Tryz.prog 26 #[.string text, .int .i64 line] w (BoardR w (boardS text line)) := by
 have hcon := fun W hW => parse_any text W hW hs
 have hgood := parseS_good (text := text)
 have hpl := parseS_len (text := text)
 have hr : boardS text line = if (parseS text).2 ≠ 0 then (⟨[], [], [], []⟩, (parseS text).2) else if line < 0 ∨ ((parseS text).1.length : Int) < line then (⟨[], [], [], []⟩, 3) else (playS ((parseS text).1.take line.toNat), 0) := rfl
 obtain ⟨⟨lines, er⟩, hp⟩ : ∃ p, parseS text = p := ⟨_, rfl⟩
 rw [hp] at hcon hgood hpl hr
 simp only at hgood hpl hr
 have HR := Lib.hid hr
 have HG := Lib.hid hgood
 have CON := Lib.hid (hcon _ (hL.below (below_a1 w (.cells #[.slice none 0 0, .slice none 0 0] 26))))
 clear hcon hgood hr hp hL
 by_cases h0 : er = 0
 ·subst h0
  rw [if_neg (by simp)] at HR
  go_enter Tryz.func26, Tryz.ntmps26
  go_wp2_with fail
  refine CON.out.mono ?_
  rintro e w1 ⟨⟨A, c, rfl, o1⟩, hb1⟩
  simp only at o1
  have s0 : w1.heap[w.heap.size]? = some (.cells #[.slice none 0 0, .slice none 0 0] 26 (0, 0)) := (hb1.block _ (by simp)).trans (heap_alloc_new w _)
  have B1 := Lib.hid (below2 (below_a1 _ _) hb1)
  have S0 := Lib.hid s0
  have RD := Lib.hid (o1.rs encN)
  have hcap := (o1.rs encN).1
  have hlen := (o1.rs encN).len
  have c0 : w1.cell? ⟨w.heap.size, 0, none⟩ = some (.slice none 0 0) := by rw [cell_of_row _ _ _ _ _ _ s0]; rfl
  have c1' : w1.cell? ⟨w.heap.size, 1, none⟩ = some (.slice none 0 0) := by rw [cell_of_row _ _ _ _ _ _ s0]; rfl
  have f0 : w1.frozen? ⟨w.heap.size, 0, none⟩ = false := by simp [World.frozen?, s0]
  have f1 : w1.frozen? ⟨w.heap.size, 1, none⟩ = false := by simp [World.frozen?, s0]
  clear o1 hb1 s0
  by_cases hl0 : line < 0
  ·have hd : decide (line < 0) = true := decide_eq_true hl0
   rw [if_pos (.inl hl0)] at HR
   go_wp2
   rw [setCell_same S0.out rfl, setCell_same S0.out rfl]
   refine bodyPost_ret (v := .tuple #[.agg #[.slice none 0 0, .slice none 0 0], .int .i64 3]) (by simp [results, Tryz.f26, go_sem, c0, c1']) rfl ?_
   rw [HR.out]
   exact ⟨_, rfl, SeaO.nil_ _ _, B1.out⟩
  have hd : decide (line < 0) = false := decide_eq_false hl0
  obtain ⟨k, rfl⟩ : ∃ k : Nat, line = k := ⟨line.toNat, by omega⟩
  by_cases hl1 : (lines.length : Int) < (k : Int)
  ·have hd1 : decide ((lines.length : Int) < (k : Int)) = true := decide_eq_true hl1
   have hd1n : decide (lines.length < k) = true := decide_eq_true (by omega)
   rw [if_pos (.inr hl1)] at HR
   go_wp2
   rw [setCell_same S0.out rfl, setCell_same S0.out rfl]
   refine bodyPost_ret (v := .tuple #[.agg #[.slice none 0 0, .slice none 0 0], .int .i64 3]) (by simp [results, Tryz.f26, go_sem, c0, c1']) rfl ?_
   rw [HR.out]
   exact ⟨_, rfl, SeaO.nil_ _ _, B1.out⟩
  have hd1 : decide ((lines.length : Int) < (k : Int)) = false := decide_eq_false hl1
  have hd1n : decide (lines.length < k) = false := decide_eq_false (by omega)
  rw [if_neg (by omega), Int.toNat_natCast] at HR
  have htl : (lines.take k).length = k := by rw [List.length_take]; omega
  have hplay := play_any A c (lines.take k) w1 (RD.out.take k) (fun x hx => HG.out x (List.mem_of_mem_take hx)) (by omega)
  rw [htl] at hplay
  have HTL := Lib.hid htl
  have PL := Lib.hid hplay
  have hk1 : (k : Int) ≤ (lines.length : Int) := by omega
  have hk2 : (k : Int) ≤ (c : Int) := by omega
  have hk3 : k ≤ c := by omega
  clear hplay htl
  go_wp2_with fail
  refine PL.out.mono ?_
  rintro e w2 ⟨rfl, hpi⟩
  obtain ⟨⟨os, ls, inn, errs⟩, hst⟩ : ∃ st, playS (lines.take k) = st := ⟨_, rfl⟩
  rw [hst] at hpi HR
  obtain ⟨⟨v1, v2, ve, h1, h2⟩, -, h4⟩ := hpi
  simp only at h1 h2
  obtain ⟨A1, c1, rfl⟩ := h1.o1.sl
  obtain ⟨A2, c2, rfl⟩ := h1.o2.sl
  have q0 := h1.q0
  have q1 := h1.q1
  have s1 : w2.heap[w.heap.size]? = some (.cells #[.slice none 0 0, .slice none 0 0] 26 (0, 0)) := (h4.block _ (Array.getElem?_eq_some_iff.1 S0.out).1).trans S0.out
  have c02 : w2.cell? ⟨w.heap.size, 0, none⟩ = some (.slice none 0 0) := by rw [cell_of_row _ _ _ _ _ _ s1]; rfl
  have c12 : w2.cell? ⟨w.heap.size, 1, none⟩ = some (.slice none 0 0) := by rw [cell_of_row _ _ _ _ _ _ s1]; rfl
  have f02 : w2.frozen? ⟨w.heap.size, 0, none⟩ = false := by simp [World.frozen?, s1]
  have f12 : w2.frozen? ⟨w.heap.size, 1, none⟩ = false := by simp [World.frozen?, s1]
  have hlt : w.heap.size < w1.heap.size := (Array.getElem?_eq_some_iff.1 S0.out).1
  have H1 := Lib.hid h1
  have H4 := Lib.hid h4
  have S1 := Lib.hid s1
  clear h1 h2 h4 hst PL s1 hlen
  go_wp2
  obtain ⟨W5, hW5⟩ : ∃ W5, (w2.setCell ⟨w.heap.size, 0, none⟩ (.slice A1 os.length c1)).setCell ⟨w.heap.size, 1, none⟩ (.slice A2 ls.length c2) = W5 := ⟨_, rfl⟩
  obtain ⟨k0, k1, hg5⟩ := two_cells (W := W5.drew) S1.out (by rw [← hW5])
  rw [hW5]
  have hne : ∀ r, some w.heap.size = some r → ∃ cs t f, w2.heap[r]? = some (.cells cs t f) ∧ t = 26 := fun r e => by cases e; exact ⟨_, _, _, S1.out, rfl⟩
  have B2 : Below w.heap.size w w2 := Below.trans B1.out (H4.out.mono (by omega))
  have hg6 : w2.grownBy W5 (some w.heap.size) := ⟨hg5.os, hg5.tape, hg5.output, hg5.size, hg5.block⟩
  have k0' : W5.cell? ⟨w.heap.size, 0, none⟩ = some (.slice A1 os.length c1) := k0
  have k1' : W5.cell? ⟨w.heap.size, 1, none⟩ = some (.slice A2 ls.length c2) := k1
  refine bodyPost_ret (v := .tuple #[.agg #[.slice A1 os.length c1, .slice A2 ls.length c2], .int .i64 0]) (by simp [results, Tryz.f26, go_sem, k0', k1']) rfl ?_
  rw [HR.out]
  exact ⟨_, rfl, ⟨A1, c1, A2, c2, rfl, (H1.out.o1.other hg6 (fun r e => by obtain ⟨cs, t, f, h, rfl⟩ := hne r e; exact ⟨_, _, _, h, by decide⟩)).mono (by omega), (H1.out.o2.other hg6 (fun r e => by obtain ⟨cs, t, f, h, rfl⟩ := hne r e; exact ⟨_, _, _, h, by decide⟩)).mono (by omega)⟩, B2.grown hg6 B2.size (fun r e => by cases e; exact Nat.le_refl _)⟩
 ·have hd : (er != 0) = true := by simp [h0]
  rw [if_pos h0] at HR
  have H0 := Lib.hid h0
  clear h0
  go_enter Tryz.func26, Tryz.ntmps26
  go_wp2_with fail
  refine CON.out.mono ?_
  rintro e w1 ⟨⟨A, c, rfl, o1⟩, hb1⟩
  have s0 : w1.heap[w.heap.size]? = some (.cells #[.slice none 0 0, .slice none 0 0] 26 (0, 0)) := (hb1.block _ (by simp)).trans (heap_alloc_new w _)
  have B1 := Lib.hid (below2 (below_a1 _ _) hb1)
  have S0 := Lib.hid s0
  have c0 : w1.cell? ⟨w.heap.size, 0, none⟩ = some (.slice none 0 0) := by rw [cell_of_row _ _ _ _ _ _ s0]; rfl
  have c1' : w1.cell? ⟨w.heap.size, 1, none⟩ = some (.slice none 0 0) := by rw [cell_of_row _ _ _ _ _ _ s0]; rfl
  have f0 : w1.frozen? ⟨w.heap.size, 0, none⟩ = false := by simp [World.frozen?, s0]
  have f1 : w1.frozen? ⟨w.heap.size, 1, none⟩ = false := by simp [World.frozen?, s0]
  clear o1 hb1 s0
  go_wp2
  rw [setCell_same S0.out rfl, setCell_same S0.out rfl]
  refine bodyPost_ret (v := .tuple #[.agg #[.slice none 0 0, .slice none 0 0], .int .i64 er]) (by simp [results, Tryz.f26, go_sem, c0, c1']) rfl ?_
  rw [HR.out]
  exact ⟨_, rfl, SeaO.nil_ _ _, B1.out⟩
end Go.Proofs.YtcnpbcgkhhebaaaGreatDoor
/- Which lines are in effect. -/
namespace Go.Proofs.YtcnpbcgkhhebaaaGreatDoor
open Go.RowKit

attribute [local go_sem] Oper.semAt_some

set_option maxRecDepth 100000 in
/-- append onto a slice that is cut to its length. -/
theorem run_push_full {α : Type} {enc : α → List Value} {T e sz bytes base : Nat} {z : Value} {w : World} {A : Option Addr} {c0 : Nat} {xs : List α} (hE : EInfo T e z sz bytes) (he : Enc enc sz) (ty : TypeId)
  (hown : Own enc e sz base w (.slice A xs.length c0) xs) (nb c : Nat) (y : α) (hc : ∀ j u, (enc y)[j]? = some u → w.cell? ⟨nb, j, none⟩ = some u)
  (hby : (xs.length + 1) * bytes ≤ 140737488355328) (hn : xs.length < 9223372036854775807) :
  ∃ v' w', (Builtin.append_ #[T, T] ty #[.slice A xs.length xs.length, .slice (some ⟨nb, 0, none⟩) 1 c]).run Tryz.prog w = .ok v' w' ∧ Own enc e sz w.heap.size w' v' (xs ++ [y]) ∧ Below w.heap.size w w' := by
 obtain ⟨i0, hi, h1, h2, h3⟩ := info_parts hE.inf
 have hf := hown.form
 have hcell : ∀ j u, (enc y)[j]? = some u → w.cell? ((⟨nb, 0, none⟩ : Addr).add j) = some u := fun j u hj => by rw [Addr.add_lit, Nat.zero_add]; exact hc j u hj
 have fin : ∀ v' w', w'.ownsRow w.heap.size e sz v' (xs.length + 1) (xs.flatMap enc ++ enc y) → Own enc e sz w.heap.size w' v' (xs ++ [y]) := fun v' w' hw => by
  unfold Own
  rw [List.flatMap_append, List.length_append, show [y].flatMap enc = enc y by simp]
  exact hw
 rcases hf with ⟨hA, hx⟩ | ⟨g, cap, hg, _⟩
 ·injection hA with hA
  subst hA hx
  obtain ⟨v', w', hrun, r1, r2, _⟩ := run_append_own (P := Tryz.prog) w w.heap.size T ty e i0 z sz bytes hE.ut hi h1 h2 h3 hE.zs hE.pos (.slice none 0 0) 0 [] (World.ownsRow_nil w _ e sz) ⟨nb, 0, none⟩ 1 c (enc y) (by rw [he.len]; omega) hcell (he.one y) (by unfold maxLen; omega) (by simpa using hby) (Nat.le_refl _)
  refine ⟨v', w', hrun, fin v' w' (by simpa using r1), ⟨r2.os, r2.tape, r2.output, r2.size, fun k hk => r2.block k hk (by simp [Value.ownBlock])⟩⟩
 ·injection hg with hA
  subst hA
  obtain ⟨v', w', hrun, r1, r2⟩ := run_append_arg_grows (P := Tryz.prog) w T ty e i0 z sz bytes hE.ut hi h1 h2 h3 hE.zs hE.pos ⟨g, 0, none⟩ xs.length xs.length (xs.flatMap enc) (flat_len he xs) (fun j u hu => by
   obtain ⟨hl, h⟩ := hown
   rcases h with ⟨hz, h0⟩ | ⟨g', cap', cur, hz, hb, hg', hn', hc', hs, ht⟩
   ·cases hz
   ·injection hz with hz
    injection hz with hz
    injection hz with hz
    subst hz
    have hlt : j < xs.length * sz := by have := (List.getElem?_eq_some_iff.1 hu).1; rw [flat_len he] at this; exact this
    rw [← ht, List.getElem?_take_of_lt hlt] at hu
    rw [Addr.add_lit, Nat.zero_add]
    show World.cell? w ⟨g, j, none⟩ = some u
    unfold World.cell?
    simp only [hg']
    simpa using hu) ⟨nb, 0, none⟩ 1 c (enc y) (by rw [he.len]; omega) hcell (by omega) (by unfold maxLen; omega) hby
  exact ⟨v', w', hrun, fin v' w' r1, ⟨r2.os, r2.tape, r2.output, r2.size, fun k hk => r2.block k hk (by simp)⟩⟩
set_option maxRecDepth 100000 in
theorem wpListIn_app {F : Fence} {n : Nat} {w w' : World} {ops : Array Oper} {rest : List Oper} {o : Oper} {a : Act} {Q : Exit → Act → World → Prop} {v v' u : Value} (hg : o.guard = none) (s x : Operand) (t : TypeId) (hop : o.op = Op.call { callee := Callee.builtin Builtin.append, args := #[s, x], argTypes := #[t, t] })
  (hs : a.eval s = v) (hx : a.eval x = u) (hrun : (Builtin.append_ #[t, t] o.type #[v, u]).run Tryz.prog w = .ok v' w') (hK : wpListIn F n Tryz.prog ops Q rest (a.put o.dst v') w') :
  wpListIn F n Tryz.prog ops Q (o :: rest) a w := by
 refine wpListIn_plain hg fun K hK' => ?_
 unfold Oper.wpIn
 refine ⟨?_, ?_⟩
 ·simp [Oper.about, hop, resolve, Target.leads, Sem.run_pure]
 ·rw [Oper.semAt_plain F _ _ (by rw [hop]; intro c hc'; cases hc')]
  simp [execOp, hop, resolve, invoke, builtin, hs, hx, hrun, Result.andThen]
  exact hK' _ _ hK
theorem grown_later {w0 w w' : World} {b : Nat} {row : Option Nat} (h : w0.grownBy w (some b)) (hg : w.grownBy w' row) (hr : ∀ r, row = some r → r = b ∨ w0.heap.size ≤ r) : w0.grownBy w' (some b) :=
 ⟨hg.os.trans h.os, hg.tape.trans h.tape, hg.output.trans h.output, Nat.le_trans h.size hg.size, fun k hk hne => by
  rw [hg.block k (Nat.lt_of_lt_of_le hk h.size) (fun e => by
   rcases hr k e.symm with rfl | h2
   ·exact hne rfl
   ·omega)]
  exact h.block k hk hne⟩
theorem grown_keeps {w w' : World} {b : Nat} (h : w.grownBy w' (some b)) {cs : Array Value} {t : TypeId} {f : Nat × Nat} (hb : w.heap[b]? = some (.cells cs t f)) (B : Nat) : KeepsFrom B w w' :=
 ⟨h.size, fun k o _ hk hc => (h.block k (Array.getElem?_eq_some_iff.1 hk).1 (fun e => by
  cases e
  rw [hb] at hk
  cases hk
  cases hc)).trans hk⟩

def plus1 (l : List (Nat × Ln)) : List Int := l.map fun p => (p.1 : Int) + 1
theorem plus1_snoc (l : List (Nat × Ln)) (p : Nat × Ln) : plus1 (l ++ [p]) = plus1 l ++ [(p.1 : Int) + 1] := by simp [plus1]
def effectS (text : ByteArray) : List Int × Int := if (parseS text).2 ≠ 0 then ([], (parseS text).2) else (plus1 (effL (parseS text).1 (playS (parseS text).1).inn), 0)
def EffectR (w : World) (r : List Int × Int) (e : Ending) (w' : World) : Prop := OwnR2 eI 3 1 w.heap.size w' e r.1 r.2 ∧ Below w.heap.size w w'

set_option maxRecDepth 100000 in
set_option maxHeartbeats 2000000 in
theorem effectS_any (text : ByteArray) (w : World) (hL : LaidW w) (hs : text.size ≤ 9223372036854775807) :
  Calls Tryz.prog 22 #[.string text] w (EffectR w (effectS text)) := by
 have hcon := parse_any text w hL hs
 have hgood := parseS_good (text := text)
 have hpl := parseS_len (text := text)
 have hr : effectS text = if (parseS text).2 ≠ 0 then ([], (parseS text).2) else (plus1 (effL (parseS text).1 (playS (parseS text).1).inn), 0) := rfl
 obtain ⟨⟨lines, er⟩, hp⟩ : ∃ p, parseS text = p := ⟨_, rfl⟩
 rw [hp] at hcon hgood hpl hr
 simp only at hgood hpl hr
 have HR := Lib.hid hr
 have HG := Lib.hid hgood
 have CON := Lib.hid hcon
 clear hcon hgood hr hp hL
 by_cases h0 : er = 0
 ·subst h0
  rw [if_neg (by simp)] at HR
  refine (callsIn_wide (n := 3)).1 ?_
  refine callsIn_of_wp_marks Tryz.func22 rfl trivial ?_ rfl
  simp only [Tryz.ntmps22, List.size_toArray, List.length_cons, List.length_nil, Nat.reduceAdd, Nat.reduceSub, Array.replicate_succ, Array.replicate_zero, List.push_toArray, List.append_toArray, List.nil_append, List.cons_append]
  gi_wp2_with (refine ⟨trivial, ?_⟩; gi_at_call 58; refine (callsIn_wide.2 CON.out).mono ?_; rintro e w1 ⟨⟨A, c, rfl, o1⟩, hb1⟩)
  have hwb := heap_alloc_new w1 (.cells #[.slice none 0 0] 34)
  have BX := below_a1 w1 (.cells #[.slice none 0 0] 34)
  have hRD := (o1.rs encN).below BX
  have hplay := play_any A c lines (w1.alloc (.cells #[.slice none 0 0] 34)) hRD HG.out (by omega)
  have hAlt : 0 < lines.length → ∀ b off, A = some ⟨b, off, none⟩ → b < w1.heap.size := fun h0 b off e => by
   obtain ⟨b', off', e', hb, _⟩ := (o1.rs encN).2.2 h0
   rw [e] at e'
   cases e'
   exact hb
  have HAL := Lib.hid hAlt
  have B1 := Lib.hid hb1
  have RD := Lib.hid hRD
  have HWB := Lib.hid hwb
  have PL := Lib.hid hplay
  have hz1 := hb1.size
  clear hplay hRD o1 hb1 BX hwb hAlt
  refine ⟨trivial, ?_⟩
  refine (callsIn_wide.2 PL.out).mono ?_
  rintro e w2 ⟨rfl, hpi⟩
  rw [World.size_alloc] at hpi
  simp only [World.size_alloc]
  obtain ⟨hl1, -⟩ := playK_len lines lines.length (Nat.le_refl _)
  have hpl1 : (playS lines).inn.length = lines.length := hl1
  obtain ⟨⟨os, ls, inn, errs⟩, hst⟩ : ∃ st, playS lines = st := ⟨_, rfl⟩
  rw [hst] at hpi HR hpl1
  obtain ⟨⟨v1, v2, ve, h1, -⟩, h3, h4⟩ := hpi
  simp only at h1 h3 hpl1
  have H1 := Lib.hid h1
  have H3 := Lib.hid h3
  have H4 := Lib.hid h4
  have HP1 := Lib.hid hpl1
  have hz2 := h4.size
  rw [World.size_alloc] at hz2
  clear h1 h3 h4 hst PL hl1 hpl1
  gi_wp2_with (refine ⟨trivial, ?_⟩; gi_at_call 61; refine (callsIn_wide.2 (effect_any _ _)).mono ?_; rintro e w3 ⟨rfl, rfl⟩)
  obtain ⟨W0, hW0⟩ : ∃ W0, w2.alloc (.cells #[.pointer (some ⟨w1.heap.size + 1 + 1, 0, none⟩)] 86) = W0 := ⟨_, rfl⟩
  have B20 : Below w2.heap.size w2 W0 := by rw [← hW0]; exact below_a1 _ _
  have Z0 : W0.heap.size = w2.heap.size + 1 := by rw [← hW0]; simp
  have RB : W0.heap[w2.heap.size]? = some (.cells #[.pointer (some ⟨w1.heap.size + 1 + 1, 0, none⟩)] 86 (0, 0)) := by rw [← hW0]; exact heap_alloc_new _ _
  have RO : W0.heap[w1.heap.size]? = some (.cells #[.slice none 0 0] 34 (0, 0)) := (B20.block _ (by omega)).trans ((H4.out.block _ (by omega)).trans HWB.out)
  have hobl := H1.out.lt
  have BK : BkR (fun k => k < w2.heap.size ∧ k ≠ w1.heap.size) w2.heap.size (w1.heap.size + 1 + 1) A c lines (some ⟨w1.heap.size + 1, 0, none⟩) lines.length inn W0 :=
   ⟨RB, (cB B20 (by rw [cell_of_row _ _ _ _ _ _ H1.out.row]; rfl)), (cB B20 (by rw [cell_of_row _ _ _ _ _ _ H1.out.row]; rfl)), ((RD.out.upto (S := fun k => k < w1.heap.size + 1) (fun h0 b off e => by have := HAL.out h0 b off e; omega) H4.out.size (fun k hk => H4.out.block k hk)).below B20), ((H3.out.rs0 HP1.out).below B20), ⟨hobl, by omega⟩, fun h0 b off e => by have := HAL.out h0 b off e; omega, fun h0 b off e => by cases e; omega, HP1.out⟩
  have BKH := Lib.hid BK
  have ROH := Lib.hid RO
  have BE := Lib.hid (show Below w.heap.size w w2 from B1.out.trans (((below_a1 w1 (.cells #[.slice none 0 0] 34)).trans (H4.out.mono (by omega))).mono hz1))
  rw [hW0]
  clear hW0 RB RO BK
  refine wpIn_rangeFunc_ownG (n := 3) rfl (by omega) (gf := 102) (lb := #[.pointer (some ⟨w2.heap.size, 0, none⟩)]) rfl trivial (enters_of Tryz.func102 (by kernel_rfl) rfl)
   (effect_stops Fence.wide (3 - 1) trivial rfl (by omega) (fun k => k < w2.heap.size ∧ k ≠ w1.heap.size) w2.heap.size (w1.heap.size + 1 + 1) A c lines (some ⟨w1.heap.size + 1, 0, none⟩) lines.length inn W0 (fun k hk => by omega) BKH.out)
   KpB.trans (fun W l o o' hle hl ho _ => KpB.put (fun hk => by omega) hl ho) (Below.refl _ _) (fun _ => rfl)
   (fun pre W => (∃ v, W.heap[w1.heap.size]? = some (.cells #[v] 34 (0, 0)) ∧ Own eI 3 1 w.heap.size W v (plus1 (vs pre))) ∧ W0.grownBy W (some w1.heap.size))
   (fun _ _ _ => False)
   (fun s X Y row hs hg hr => ⟨by
    obtain ⟨v, e1, e2⟩ := hs.1
    exact ⟨v, row_own e1 hg (fun r e => (hr r e).2), e2.own_ hg (fun r e => (hr r e).2)⟩, grown_later hs.2 hg (fun r e => .inr (hr r e).1)⟩)
   (fun _ _ _ _ _ hs _ _ => hs)
   ⟨⟨_, ROH.out, Own.nil_ _ _ _ _ _⟩, ⟨rfl, rfl, rfl, Nat.le_refl _, fun _ _ _ => rfl⟩⟩
   (fun x => { tmps := #[.string text, undef, .slice none 0 0, .int .i64 0, .slice A lines.length c, .int .i64 0, .pointer (some ⟨w1.heap.size, 0, none⟩), .int .i64 x.1.1, .tuple #[.slice A lines.length c, .int .i64 0], .string text, .tuple #[.slice A lines.length c, .int .i64 0], .slice A lines.length c, .int .i64 0, .int .i64 0, .bool false, undef, .slice A lines.length c, .pointer (some ⟨w1.heap.size + 1 + 1, 0, none⟩), .func (.func 102) #[] #[.pointer (some ⟨w2.heap.size, 0, none⟩)], .int .i64 x.1.1, .agg (eN x.1.2).toArray, undef, undef, undef, undef, undef, undef, undef, undef, undef, undef, undef], defers := [] }) ?assign ?body ?done ?stop
  case assign =>
   rintro l ⟨⟨i, word, one, two, letters, tx⟩, hxi⟩ W K hK
   gi_wp2
   exact hK
  case body =>
   rintro l pre ⟨⟨i, y⟩, hxi⟩ W ⟨⟨v, hv, hown⟩, hg⟩ hlt
   obtain ⟨x, hxv⟩ : ∃ x : LnIn lines, x = ⟨(i, y), hxi⟩ := ⟨_, rfl⟩
   rw [← hxv]
   have hx1 : x.1 = (i, y) := by rw [hxv]
   rw [hx1]
   have HX1 := Lib.hid hx1
   have hil : i < lines.length := (List.getElem?_eq_some_iff.1 hxi).1
   clear hx1 hxv
   obtain ⟨A5, c5, rfl⟩ := hown.sl
   have hfl : (plus1 (vs pre)).length ≤ lines.length := by rw [plus1, vs, List.length_map, List.length_map]; omega
   have v0 : W.cell? ⟨w1.heap.size, 0, none⟩ = some (.slice A5 (plus1 (vs pre)).length c5) := by rw [cell_of_row _ _ _ _ _ _ hv]; rfl
   have vf : W.frozen? ⟨w1.heap.size, 0, none⟩ = false := by simp [World.frozen?, hv]
   have hcap := (hown.rs encI).1
   have hcapi : ((plus1 (vs pre)).length : Int) ≤ (c5 : Int) := by omega
   have hxi2 : (i : Int) + 1 ≤ 9223372036854775807 := by omega
   have HOWN := Lib.hid hown
   have HV := Lib.hid hv
   have HG2 := Lib.hid hg
   clear hown hv hg
   gi_wp2_with (gi_at_builtin; apply stop_)
   unfold Hid
   obtain ⟨v', W2, hrun, ho2, hb2⟩ := run_push_full e3 encI 34 (HOWN.out.below (below_a1 W (.cells #[.int .i64 ((i : Int) + 1)] 3))) W.heap.size 1 ((i : Int) + 1) (one_I (by go_simp)) (by omega) (by omega)
   obtain ⟨A6, c6, rfl⟩ := ho2.sl
   refine wpListIn_app rfl _ _ 34 rfl rfl rfl hrun ?_
   have hbW : Below W.heap.size W W2 := below2 (below_a1 _ _) hb2
   have hv2 := (hbW.block _ (Array.getElem?_eq_some_iff.1 HV.out).1).trans HV.out
   have v02 : W2.cell? ⟨w1.heap.size, 0, none⟩ = some (.slice A5 (plus1 (vs pre)).length c5) := by rw [cell_of_row _ _ _ _ _ _ hv2]; rfl
   have vf2 : W2.frozen? ⟨w1.heap.size, 0, none⟩ = false := by simp [World.frozen?, hv2]
   have HBW := Lib.hid hbW
   have HV2 := Lib.hid hv2
   have HO2 := Lib.hid ho2
   clear hbW hv2 ho2 hb2 hrun v0 vf
   gi_wp2
   have hgW := grown_later (grown_of HBW.out (some w1.heap.size)) (grown_cell W2 w1.heap.size 0 (.slice A6 (plus1 (vs pre) ++ [(i : Int) + 1]).length c6)) (fun r e => .inl (by cases e; rfl))
   have hsz := HG2.out.size
   have hps : plus1 (vs (pre ++ [x])) = plus1 (vs pre) ++ [(i : Int) + 1] := by rw [vs_snoc, plus1_snoc, HX1.out]
   have hl6 : (plus1 (vs pre) ++ [(i : Int) + 1]).length = (plus1 (vs pre)).length + 1 := by simp
   rw [hl6] at hgW
   have HO3 := HO2.out
   rw [hl6] at HO3
   refine ⟨grown_keeps hgW HV.out _, fun hb => hb.kept hgW.size (fun k hk => hgW.block k (by omega) (by simp; omega)) (hgW.block _ (by omega) (by simp; omega)), ⟨_, heap_setCell_same W2 w1.heap.size 0 _ 34 _ HV2.out, ?_⟩, grown_later HG2.out hgW (fun r e => .inl (by cases e; rfl))⟩
   rw [hps]
   exact (HO3.mono (by have := HBW.out.size; simp only [World.size_alloc]; omega)).other (grown_cell W2 w1.heap.size 0 _) (fun r e => by cases e; exact ⟨_, _, _, HV2.out, by decide⟩)
  case done =>
   rintro D ys W hD hys ⟨⟨v, hv, hown⟩, hg⟩ hK
   obtain ⟨A5, c5, rfl⟩ := hown.sl
   have v0 : W.cell? ⟨w1.heap.size, 0, none⟩ = some (.slice A5 (plus1 (vs ys)).length c5) := by rw [cell_of_row _ _ _ _ _ _ hv]; rfl
   have HOWN := Lib.hid hown
   have HG2 := Lib.hid hg
   have HK := Lib.hid hK
   have HYS := Lib.hid (show vs ys = effL lines inn from hys)
   clear hown hg hK hv hys
   gi_wp2
   have hg5 := grownBy_putObj' W D (.deferred none)
   refine ⟨by simp, .inl ⟨_, _, rfl, run_takeDeferred HK.out, ?_⟩⟩
   refine ⟨.tuple #[.slice A5 (plus1 (vs ys)).length c5, .int .i64 0], by simp [results, Tryz.f22, go_sem], ?_⟩
   rw [HR.out]
   have ho5 := HOWN.out.own_ hg5 (fun r e => by cases e; exact ⟨_, HK.out, rfl⟩)
   have hbl : Below w.heap.size w W0 := BE.out.trans (B20.mono (by omega))
   refine ⟨Own.ret2 (v := .slice A5 (plus1 (vs ys)).length c5) (by rw [← HYS.out]; exact ho5) rfl, (hbl.grown HG2.out (by omega) (fun r e => by cases e; exact hz1)).grown hg5 (by have := HG2.out.size; omega) (fun r e => by cases e; omega)⟩
  case stop =>
   rintro D c pre W _ _ h _
   exact h.elim
 ·have hd : (er != 0) = true := by simp [h0]
  rw [if_pos h0] at HR
  have H0 := Lib.hid h0
  clear h0
  go_enter Tryz.func22, Tryz.ntmps22
  go_wp2_with fail
  refine CON.out.mono ?_
  rintro e w1 ⟨⟨A, c, rfl, o1⟩, hb1⟩
  go_wp2
  go_ret2
  rw [HR.out]
  exact ⟨Own.ret2 (v := .slice none 0 0) (Own.nil_ _ _ _ _ _) rfl, hb1⟩
end Go.Proofs.YtcnpbcgkhhebaaaGreatDoor
/- The plain book: words. -/
namespace Go.Proofs.YtcnpbcgkhhebaaaGreatDoor
open Go.RowKit

def plainL : Nat → List (Nat × Ln) → List UInt8
 | _, [] => []
 | m, p :: r => Lib.itoa ((m : Int) + 1) ++ [32] ++ p.2.text.data.toList ++ [10] ++ plainL (m + 1) r
theorem plainL_snoc (p : Nat × Ln) : ∀ (l : List (Nat × Ln)) (m : Nat), plainL m (l ++ [p]) = plainL m l ++ (Lib.itoa (((m + l.length : Nat) : Int) + 1) ++ [32] ++ p.2.text.data.toList ++ [10])
 | [], m => by simp [plainL]
 | q :: r, m => by
  rw [List.cons_append, plainL, plainL, plainL_snoc p r (m + 1), List.length_cons, show m + 1 + r.length = m + (r.length + 1) by omega]
  simp only [List.append_assoc]
theorem plainL_len : ∀ (l : List (Nat × Ln)) (m : Nat), m + l.length ≤ 1000 → (∀ p ∈ l, p.2.text.size ≤ 8001) → (plainL m l).length ≤ l.length * 9000
 | [], m, _, _ => by simp [plainL]
 | p :: r, m, hm, h => by
  rw [List.length_cons] at hm
  have ih := plainL_len r (m + 1) (by omega) (fun q hq => h q (List.mem_cons_of_mem _ hq))
  have h1 := h p List.mem_cons_self
  have h2 := Lib.itoa_length_le ((m : Int) + 1) (by omega) (by omega)
  have h3 : p.2.text.data.toList.length = p.2.text.size := by simp
  rw [plainL, List.length_append, List.length_append, List.length_append, List.length_append, List.length_cons, h3]
  simp only [List.length_cons, List.length_nil]
  omega
def plainS (text : ByteArray) : ByteArray × Int := if (parseS text).2 ≠ 0 then (⟨#[]⟩, (parseS text).2) else (⟨(plainL 0 (effL (parseS text).1 (playS (parseS text).1).inn)).toArray⟩, 0)

theorem lineS_text {s : ByteArray} {n : Int} {x : Ln} (h : lineS s n = some x) : x.text.size ≤ s.size + 1 := by
 unfold lineS at h
 simp only at h
 split at h
 ·cases h
 split at h
 ·cases h
 split at h
 ·cases h
 split at h
 ·cases h
 ·cases h
  have := text_len s 1
  show (List.toArray _).size ≤ _
  rw [List.size_toArray]
  exact this
theorem mem_part {x : List UInt8} : ∀ {l : List (List UInt8)}, x ∈ l → x.length + 1 ≤ (l.map (fun p => p.length + 1)).sum
 | y :: ys, hx => by
  rw [List.map_cons, List.sum_cons]
  rcases List.mem_cons.1 hx with rfl | hx
  ·omega
  ·have := mem_part hx; omega
theorem lineL_text : ∀ (ps : List (List UInt8)) (n : Nat) (l : List Ln), lineL n ps = some l → ∀ x ∈ l, ∃ p ∈ ps, x.text.size ≤ p.length + 1
 | [], n, l, h => by simp [lineL] at h
 | [p], n, l, h => by
  rw [lineL] at h
  split at h
  ·cases h; intro x hx; cases hx
  ·cases h
 | p :: q :: r, n, l, h => by
  rw [lineL] at h
  split at h
  ·cases h
  ·rename_i x hx
   obtain ⟨l', hl', rfl⟩ := Option.map_eq_some_iff.1 h
   intro y hy
   rcases List.mem_cons.1 hy with rfl | hy
   ·exact ⟨p, List.mem_cons_self, by have := lineS_text hx; have e : (⟨p.toArray⟩ : ByteArray).size = p.length := List.size_toArray; omega⟩
   ·obtain ⟨z, hz, hz2⟩ := lineL_text (q :: r) (n + 1) l' hl' y hy
    exact ⟨z, List.mem_cons_of_mem _ hz, hz2⟩
theorem parseS_text {text : ByteArray} : ∀ x ∈ (parseS text).1, x.text.size ≤ 8001 := by
 unfold parseS
 split
 ·intro x hx; cases hx
 ·rename_i h8
  split
  ·intro x hx; cases hx
  ·rename_i l hl
   split
   ·intro x hx; cases hx
   ·intro x hx
    obtain ⟨p, hp, h1⟩ := lineL_text _ _ _ hl x hx
    have h2 := mem_part hp
    rw [parts_sum] at h2
    have h3 : text.data.toList.length = text.size := by simp
    omega

/-- The builder lies on where its own block and the rows of bytes lie on. -/
theorem bf_kept {B b : Nat} {bs : List Value} {w w' : World} (h : Lib.IsBuilderF 101 5 B b bs w) (hk : ∀ k cs t f, w.heap[k]? = some (.cells cs t f) → k = b ∨ t = 5 → w'.heap[k]? = some (.cells cs t f)) : Lib.IsBuilderF 101 5 B b bs w' := by
 refine h.imp ?_ ?_
 all_goals
  rintro ⟨hB, v, hb, ⟨hl, hown⟩, hne⟩
  refine ⟨hB, v, hk _ _ _ _ hb (.inl rfl), ⟨hl, ?_⟩, hne⟩
  rcases hown with hown | ⟨g, cap, cur, fz, hv, h1, h2, h3⟩
  ·exact .inl hown
  ·exact .inr ⟨g, cap, cur, fz, hv, h1, hk _ _ _ _ h2 (.inr rfl), h3⟩
theorem bf_below {B b : Nat} {bs : List Value} {w w' : World} (h : Lib.IsBuilderF 101 5 B b bs w) (hb : Below w.heap.size w w') : Lib.IsBuilderF 101 5 B b bs w' :=
 bf_kept h fun k _cs _t _f hk _ => (hb.block k (Array.getElem?_eq_some_iff.1 hk).1).trans hk
theorem bf_own {B b : Nat} {bs : List Value} {w w' : World} (h : Lib.IsBuilderF 101 5 B b bs w) {row : Option Nat} (hg : w.grownBy w' row) (hr : ∀ r, row = some r → ∃ o : Obj, w.heap[r]? = some o ∧ o.isCells = false) : Lib.IsBuilderF 101 5 B b bs w' :=
 bf_kept h fun _k _cs _t _f hk _ => row_own hk hg hr
theorem bf_other {B b : Nat} {bs : List Value} {w w' : World} (h : Lib.IsBuilderF 101 5 B b bs w) {r : Nat} (hg : w.grownBy w' (some r)) {cs : Array Value} {t : TypeId} {f : Nat × Nat} (hr : w.heap[r]? = some (.cells cs t f)) (hne : r ≠ b) (ht : t ≠ 5) : Lib.IsBuilderF 101 5 B b bs w' :=
 bf_kept h fun k cs' t' f' hk hc => (hg.block k (Array.getElem?_eq_some_iff.1 hk).1 (fun e => by
  cases e
  rcases hc with rfl | rfl
  ·exact hne rfl
  ·rw [hr] at hk
   cases hk
   exact ht rfl)).trans hk
theorem write_any (B b : Nat) (bs : List Value) (s : ByteArray) (w : World) (h : Lib.IsBuilderF 101 5 B b bs w) (hlen : bs.length + s.size ≤ 140737488355328) (hBw : B ≤ w.heap.size) :
  Calls Tryz.prog 62 #[.pointer (some ⟨b, 0, none⟩), .string s] w fun e w' => e = .returned (.tuple #[.int .i64 s.size, .nilIface]) ∧ (Lib.IsBuilderF 101 5 B b (bs ++ Lib.strCells s) w' ∧ Below B w w' ∧ Lib.OthersKept 5 (some b) w w') := by
 have := Any.Builder_WriteString_k (ρ := Tryz.lays156_ren) { Tryz.lays156 with } Tryz.Builder_Extra_156 B b bs s w h hlen hBw
 refine this.mono ?_
 rintro e w' ⟨rfl, h1, h2, h3⟩
 exact ⟨rfl, .inr h1, h2, h3⟩
end Go.Proofs.YtcnpbcgkhhebaaaGreatDoor
/- A region within a round, walked at the fence around it. -/
namespace Go.Proofs.YtcnpbcgkhhebaaaGreatDoor
open Go.RowKit

theorem op_round {n l : Nat} {P : Program} {ops : Array Oper} {Q : Exit → Act → World → Prop} {i : Nat} {K K' : Act → World → Prop} {a : Act} {w : World} (hnd : ∀ o, ops[i]? = some o → ∀ c, o.op ≠ .defer c) (hK : ∀ a w, K a w → K' a w)
  (h : wpOpIn Fence.wide n P ops Q i K a w) : wpOpIn (Fence.wide.inRound l) n P ops Q i K' a w := by
 unfold wpOpIn at *
 cases ho : ops[i]? with
 | none => simp only [ho] at h ⊢; exact hK _ _ h
 | some o =>
  simp only [ho] at h ⊢
  by_cases hw : Region.wanted o (yielded ops a.tmps) = true
  ·rw [if_pos hw] at h ⊢
   unfold Oper.wpIn at *
   refine ⟨h.1, ?_⟩
   have h2 := h.2
   rw [Fence.inRound_round, Oper.semAt_some l _ _ (hnd o ho)]
   rw [Fence.wide_round, Oper.semAt_none] at h2
   generalize (execOp a.eval o).run P w = r at h2 ⊢
   cases r with
   | ok x w' =>
    cases x <;> simp only [Oper.uponIn] at h2 ⊢
    case value u => exact hK _ _ h2
    case skip => exact hK _ _ h2
    case defer d => exact hK _ _ h2
    case enter f args =>
     refine ⟨h2.1, CallsIn.mono (CallsIn.inRound l h2.2) fun e w'' he => ?_⟩
     cases e with
     | returned u => exact hK _ _ he
     | panicked c => exact he
     | outgrown => exact he
    case row row args => exact ⟨h2.1, RowsIn.mono (show RowsIn (Fence.wide.inRound l) _ _ _ _ _ _ from h2.2) fun u w'' he => hK _ _ he⟩
    case round l' f tmps assign body =>
     refine ⟨h2.1, RoundIn.mono (show RoundIn (Fence.wide.inRound l) _ _ _ _ _ _ _ _ _ from h2.2) fun e w'' he => ?_⟩
     cases e with
     | returned u => exact hK _ _ he
     | panicked c => exact he
     | outgrown => exact he
   | halt x w' =>
    cases x <;> simp only [Oper.uponIn] at h2 ⊢
    case panic u => exact h2
  ·rw [if_neg hw] at h ⊢
   exact ⟨h.1, hK _ _ h.2⟩
theorem any_round {n l : Nat} {P : Program} {md : Region.Mode} {ops : Array Oper} {Q : Exit → Act → World → Prop} (hnd : ∀ (i : Nat) (o : Oper), ops[i]? = some o → ∀ c, o.op ≠ .defer c) :
  ∀ (fuel : Nat) (listed : Array Bool) (a : Act) (w : World), wpAnyIn Fence.wide n P md ops Q fuel listed a w → wpAnyIn (Fence.wide.inRound l) n P md ops Q fuel listed a w
 | 0, _, _, _, h => h
 | fuel + 1, _listed, _a, _w, h => ⟨h.1, fun i hi => op_round (hnd i) (fun a w h => any_round hnd fuel _ a w h) (h.2 i hi)⟩
def noDefer (ops : Array Oper) : Bool := ops.all fun o => match o.op with | .defer _ => false | _ => true
theorem noDefer_spec {ops : Array Oper} (h : noDefer ops = true) : ∀ (i : Nat) (o : Oper), ops[i]? = some o → ∀ c, o.op ≠ .defer c := by
 intro i o ho c hc
 have := Array.all_eq_true.1 h i (Array.getElem?_eq_some_iff.1 ho).1
 rw [(Array.getElem?_eq_some_iff.1 ho).2, hc] at this
 cases this
theorem region_round {n l id : Nat} {ops : Array Oper} {Q : Exit → Act → World → Prop} {a : Act} {w : World} (hnd : noDefer ops = true)
  (h : wpAnyIn Fence.wide n Tryz.prog .any ops Q ops.size (Array.replicate ops.size false) a w.drew) : (Code.region id ops true).wpIn (Fence.wide.inRound l) n Tryz.prog Q a w :=
 wpIn_region_any (by kernel_rfl) (any_round (noDefer_spec hnd) _ _ _ _ h)
end Go.Proofs.YtcnpbcgkhhebaaaGreatDoor
/- The plain book. -/
namespace Go.Proofs.YtcnpbcgkhhebaaaGreatDoor
open Go.RowKit

attribute [local go_sem] Oper.semAt_some

def PlainR (w : World) (r : ByteArray × Int) (e : Ending) (w' : World) : Prop := e = .returned (.tuple #[.string r.1, .int .i64 r.2]) ∧ Below w.heap.size w w'

set_option maxRecDepth 100000 in
set_option maxHeartbeats 4000000 in
theorem plain_any (text : ByteArray) (w : World) (hL : LaidW w) (hs : text.size ≤ 9223372036854775807) :
  Calls Tryz.prog 24 #[.string text] w (PlainR w (plainS text)) := by
 have hcon := parse_any text w hL hs
 have hgood := parseS_good (text := text)
 have htx := parseS_text (text := text)
 have hpl := parseS_len (text := text)
 have hr : plainS text = if (parseS text).2 ≠ 0 then (⟨#[]⟩, (parseS text).2) else (⟨(plainL 0 (effL (parseS text).1 (playS (parseS text).1).inn)).toArray⟩, 0) := rfl
 obtain ⟨⟨lines, er⟩, hp⟩ : ∃ p, parseS text = p := ⟨_, rfl⟩
 rw [hp] at hcon hgood hpl hr htx
 simp only at hgood hpl hr htx
 have HR := Lib.hid hr
 have HG := Lib.hid hgood
 have HT := Lib.hid htx
 have CON := Lib.hid hcon
 have HL := Lib.hid hL
 clear hcon hgood hr hp hL htx
 by_cases h0 : er = 0
 ·subst h0
  rw [if_neg (by simp)] at HR
  refine (callsIn_wide (n := 3)).1 ?_
  refine callsIn_of_wp_marks Tryz.func24 rfl trivial ?_ rfl
  simp only [Tryz.ntmps24, List.size_toArray, List.length_cons, List.length_nil, Nat.reduceAdd, Nat.reduceSub, Array.replicate_succ, Array.replicate_zero, List.push_toArray, List.append_toArray, List.nil_append, List.cons_append]
  gi_wp2_with (refine ⟨trivial, ?_⟩; gi_at_call 58; refine (callsIn_wide.2 CON.out).mono ?_; rintro e w1 ⟨⟨A, c, rfl, o1⟩, hb1⟩)
  obtain ⟨wA, hwA⟩ : ∃ wA, ((w1.alloc (.cells #[.slice A lines.length c] 83)).alloc (.cells #[.pointer none, .slice none 0 0] 101)).alloc (.cells #[.int .i64 0] 3) = wA := ⟨_, rfl⟩
  have BA : Below w1.heap.size w1 wA := by rw [← hwA]; exact belowA (belowA (below_a1 _ _) _) _
  have ZA : wA.heap.size = w1.heap.size + 1 + 1 + 1 := by rw [← hwA]; simp
  have A0 : wA.heap[w1.heap.size]? = some (.cells #[.slice A lines.length c] 83 (0, 0)) := by rw [← hwA, heap_alloc_old _ _ (by simp; omega), heap_alloc_old _ _ (by simp)]; exact heap_alloc_new _ _
  have A1 : wA.heap[w1.heap.size + 1]? = some (.cells #[.pointer none, .slice none 0 0] 101 (0, 0)) := by rw [← hwA, heap_alloc_old _ _ (by simp)]; have := heap_alloc_new (w1.alloc (.cells #[.slice A lines.length c] 83)) (.cells #[.pointer none, .slice none 0 0] 101); rw [World.size_alloc] at this; exact this
  have A2 : wA.heap[w1.heap.size + 1 + 1]? = some (.cells #[.int .i64 0] 3 (0, 0)) := by rw [← hwA]; have := heap_alloc_new ((w1.alloc (.cells #[.slice A lines.length c] 83)).alloc (.cells #[.pointer none, .slice none 0 0] 101)) (.cells #[.int .i64 0] 3); simp only [World.size_alloc] at this; exact this
  have hRD := o1.rs encN
  have hplay := play_any A c lines wA (hRD.below BA) HG.out (by omega)
  have hAlt : 0 < lines.length → ∀ b off, A = some ⟨b, off, none⟩ → b < w1.heap.size := fun h0 b off e => by
   obtain ⟨b', off', e', hb, _⟩ := hRD.2.2 h0
   rw [e] at e'
   cases e'
   exact hb
  have HAL := Lib.hid hAlt
  have B1 := Lib.hid hb1
  have RD := Lib.hid hRD
  have AA0 := Lib.hid A0
  have AA1 := Lib.hid A1
  have AA2 := Lib.hid A2
  have BBA := Lib.hid BA
  rw [ZA] at hplay
  have PL := Lib.hid hplay
  have hz1 := hb1.size
  have HZA := Lib.hid ZA
  rw [hwA]
  clear hplay hRD o1 hb1 hAlt A0 A1 A2 hwA BA ZA
  refine ⟨trivial, ?_⟩
  refine (callsIn_wide.2 PL.out).mono ?_
  rintro e w2 ⟨rfl, hpi⟩
  obtain ⟨hl1, -⟩ := playK_len lines lines.length (Nat.le_refl _)
  have hpl1 : (playS lines).inn.length = lines.length := hl1
  obtain ⟨⟨os, ls, inn, errs⟩, hst⟩ : ∃ st, playS lines = st := ⟨_, rfl⟩
  rw [hst] at hpi HR hpl1
  obtain ⟨⟨v1, v2, ve, h1, -⟩, h3, h4⟩ := hpi
  simp only at h1 h3 hpl1
  have H1 := Lib.hid h1
  have H3 := Lib.hid h3
  have H4 := Lib.hid h4
  have HP1 := Lib.hid hpl1
  have hz2 := h4.size
  rw [HZA.out] at hz2
  clear h1 h3 h4 hst PL hl1 hpl1
  gi_wp2_with (refine ⟨trivial, ?_⟩; gi_at_call 61; refine (callsIn_wide.2 (effect_any _ _)).mono ?_; rintro e w3 ⟨rfl, rfl⟩)
  obtain ⟨W0, hW0⟩ : ∃ W0, w2.alloc (.cells #[.pointer (some ⟨w1.heap.size + 1 + 1 + 1 + 1, 0, none⟩)] 86) = W0 := ⟨_, rfl⟩
  have B20 : Below w2.heap.size w2 W0 := by rw [← hW0]; exact below_a1 _ _
  have Z0 : W0.heap.size = w2.heap.size + 1 := by rw [← hW0]; simp
  have RB : W0.heap[w2.heap.size]? = some (.cells #[.pointer (some ⟨w1.heap.size + 1 + 1 + 1 + 1, 0, none⟩)] 86 (0, 0)) := by rw [← hW0]; exact heap_alloc_new _ _
  have BM : Below (w1.heap.size + 1 + 1 + 1) wA W0 := H4.out.trans (B20.mono hz2)
  have R0 : W0.heap[w1.heap.size]? = some (.cells #[.slice A lines.length c] 83 (0, 0)) := (BM.block _ (by omega)).trans AA0.out
  have R1 : W0.heap[w1.heap.size + 1]? = some (.cells #[.pointer none, .slice none 0 0] 101 (0, 0)) := (BM.block _ (by omega)).trans AA1.out
  have R2 : W0.heap[w1.heap.size + 1 + 1]? = some (.cells #[.int .i64 0] 3 (0, 0)) := (BM.block _ (by omega)).trans AA2.out
  have BM1 : Below w1.heap.size w1 W0 := BBA.out.trans (BM.mono (by omega))
  have hob := (H1.out.below B20).row
  have hor := (H3.out.below B20).blk _ rfl
  have BK : BkR (fun k => k < w1.heap.size ∨ (∃ o, W0.heap[k]? = some o ∧ (∀ cs f, o ≠ .cells cs 5 f) ∧ k ≠ w1.heap.size + 1 ∧ k ≠ w1.heap.size + 1 + 1)) w2.heap.size (w1.heap.size + 1 + 1 + 1 + 1) A c lines (some ⟨w1.heap.size + 1 + 1 + 1, 0, none⟩) lines.length inn W0 :=
   ⟨RB, by rw [cell_of_row _ _ _ _ _ _ hob]; rfl, by rw [cell_of_row _ _ _ _ _ _ hob]; rfl, RD.out.below BM1, (H3.out.rs0 HP1.out).below B20, .inr ⟨_, hob, fun cs f e => (by cases e), by omega, by omega⟩, fun h0 b off e => .inl (HAL.out h0 b off e), fun h0 b off e => (by
    cases e
    obtain ⟨-, cs, hcs⟩ := hor
    exact .inr ⟨_, hcs, fun cs f e => (by cases e), by omega, by omega⟩), HP1.out⟩
  have BKH := Lib.hid BK
  have HR0 := Lib.hid R0
  have HR1 := Lib.hid R1
  have HR2 := Lib.hid R2
  have HBM := Lib.hid BM1
  have BE := Lib.hid (show Below w.heap.size w W0 from B1.out.trans (BM1.mono hz1))
  rw [hW0]
  clear hW0 RB R0 R1 R2 BK BM BM1 hob hor
  refine wpIn_rangeFunc_ownG (n := 3) rfl (by omega) (gf := 102) (lb := #[.pointer (some ⟨w2.heap.size, 0, none⟩)]) rfl trivial (enters_of Tryz.func102 (by kernel_rfl) rfl)
   (effect_stops Fence.wide (3 - 1) trivial rfl (by omega) (fun k => k < w1.heap.size ∨ (∃ o, W0.heap[k]? = some o ∧ (∀ cs f, o ≠ .cells cs 5 f) ∧ k ≠ w1.heap.size + 1 ∧ k ≠ w1.heap.size + 1 + 1)) w2.heap.size (w1.heap.size + 1 + 1 + 1 + 1) A c lines (some ⟨w1.heap.size + 1 + 1 + 1, 0, none⟩) lines.length inn W0 (fun k hk => by
    rcases hk with hk | ⟨o, ho, _⟩
    ·omega
    ·exact (Array.getElem?_eq_some_iff.1 ho).1) BKH.out)
   KpB.trans (fun W l o o' hle hl ho _ => KpB.put (fun hk => by
    rcases hk with hk | ⟨o2, ho2, _⟩
    ·omega
    ·have := (Array.getElem?_eq_some_iff.1 ho2).1; omega) hl ho) (Below.refl _ _) (fun _ => rfl)
   (fun pre W => W.heap[w1.heap.size + 1 + 1]? = some (.cells #[.int .i64 pre.length] 3 (0, 0)) ∧ Lib.IsBuilderF 101 5 w1.heap.size (w1.heap.size + 1) (Lib.byteCells (plainL 0 (vs pre))) W ∧ Below w1.heap.size W0 W ∧ (∀ k o, W0.heap[k]? = some o → (∀ cs f, o ≠ .cells cs 5 f) → k ≠ w1.heap.size + 1 → k ≠ w1.heap.size + 1 + 1 → W.heap[k]? = some o))
   (fun _ _ _ => False)
   (fun s X Y row hs hg hr => ⟨row_own hs.1 hg (fun r e => (hr r e).2), bf_own hs.2.1 hg (fun r e => (hr r e).2), hs.2.2.1.grown hg (by have := hs.2.2.1.size; omega) (fun r e => by have := (hr r e).1; omega), fun k o h1 (h2 : ∀ cs f, o ≠ .cells cs 5 f) h3 h4 => (hg.block k (by have := (Array.getElem?_eq_some_iff.1 (hs.2.2.2 k o h1 h2 h3 h4)).1; exact this) (fun e => by have := (hr k e.symm).1; have := (Array.getElem?_eq_some_iff.1 h1).1; omega)).trans (hs.2.2.2 k o h1 h2 h3 h4)⟩)
   (fun _ _ _ _ _ hs _ _ => hs)
   ⟨HR2.out, .inl ⟨by omega, _, HR1.out, World.ownsRowF_nil _ _ _ _, by simp [Value.ownBlock]⟩, Below.refl _ _, fun k o h _ _ _ => h⟩
   (fun x => { tmps := #[.string text, undef, .string ⟨#[]⟩, .int .i64 0, .pointer (some ⟨w1.heap.size, 0, none⟩), .int .i64 0, .pointer (some ⟨w1.heap.size + 1, 0, none⟩), .pointer (some ⟨w1.heap.size + 1 + 1, 0, none⟩), .int .i64 x.1.1, .tuple #[.slice A lines.length c, .int .i64 0], .string text, .tuple #[.slice A lines.length c, .int .i64 0], .slice A lines.length c, .int .i64 0, .int .i64 0, .bool false, undef, .slice A lines.length c, .pointer (some ⟨w1.heap.size + 1 + 1 + 1 + 1, 0, none⟩), .func (.func 102) #[] #[.pointer (some ⟨w2.heap.size, 0, none⟩)], .int .i64 x.1.1, .agg (eN x.1.2).toArray, undef, undef, undef, undef, undef, undef, undef, undef, undef, undef, undef, undef, undef, undef], defers := [] }) ?assign ?body ?done ?stop
  case assign =>
   rintro l ⟨⟨i, word, one, two, letters, tx⟩, hxi⟩ W K hK
   gi_wp2
   exact hK
  case body =>
   rintro l pre ⟨⟨i, y⟩, hxi⟩ W ⟨hn, hbf, hbel, hkeep⟩ hlt
   obtain ⟨x, hxv⟩ : ∃ x : LnIn lines, x = ⟨(i, y), hxi⟩ := ⟨_, rfl⟩
   rw [← hxv]
   have hx1 : x.1 = (i, y) := by rw [hxv]
   rw [hx1]
   have HX1 := Lib.hid hx1
   have hil : i < lines.length := (List.getElem?_eq_some_iff.1 hxi).1
   have hili : (i : Int) < (lines.length : Int) := by omega
   have hi0 : (0 : Int) ≤ (i : Int) := by omega
   have hbx := hkeep _ _ HR0.out (fun cs f e => by cases e) (by omega) (by omega)
   have hrd := (RD.out.below HBM.out).upto HAL.out hbel.size hbel.block
   obtain ⟨b, off, y', hy', rfl, hbl, -, -, -, -, y4⟩ := hrd.atN hil
   obtain rfl : y' = y := by
    rw [hy']
    exact (List.getElem?_eq_some_iff.1 hxi).2
   have n0 : W.cell? ⟨w1.heap.size + 1 + 1, 0, none⟩ = some (.int .i64 pre.length) := by rw [cell_of_row _ _ _ _ _ _ hn]; rfl
   have nf : W.frozen? ⟨w1.heap.size + 1 + 1, 0, none⟩ = false := by simp [World.frozen?, hn]
   have l0 : W.cell? ⟨w1.heap.size, 0, none⟩ = some (.slice (some ⟨b, off, none⟩) lines.length c) := by rw [cell_of_row _ _ _ _ _ _ hbx]; rfl
   have hn1 : (pre.length : Int) + 1 ≤ 1000 := by omega
   have htz := HT.out y' (by rw [hy']; exact List.getElem_mem hil)
   have HN := Lib.hid hn
   have HBF := Lib.hid hbf
   have HBEL := Lib.hid hbel
   have HKP := Lib.hid hkeep
   clear hx1 hxv hn hbf hbel hkeep hbx hrd hy'
   obtain ⟨word, one, two, letters, tx⟩ := y'
   simp only at y4 htz
   gi_wp2
   obtain ⟨W1, hW1⟩ : ∃ W1, W.setCell ⟨w1.heap.size + 1 + 1, 0, none⟩ (.int .i64 ((pre.length : Int) + 1)) = W1 := ⟨_, rfl⟩
   have hg1 : W.grownBy W1 (some (w1.heap.size + 1 + 1)) := by rw [← hW1]; exact grown_cell _ _ _ _
   have hn1r : W1.heap[w1.heap.size + 1 + 1]? = some (.cells #[.int .i64 ((pre.length : Int) + 1)] 3 (0, 0)) := by rw [← hW1]; exact heap_setCell_same W _ 0 _ 3 _ HN.out
   have hbf1 := bf_other HBF.out hg1 HN.out (by omega) (by decide)
   have hbel1 : Below w1.heap.size W0 W1 := HBEL.out.grown hg1 (by have := HBEL.out.size; omega) (fun r e => by cases e; omega)
   have n1 : W1.cell? ⟨w1.heap.size + 1 + 1, 0, none⟩ = some (.int .i64 ((pre.length : Int) + 1)) := by rw [cell_of_row _ _ _ _ _ _ hn1r]; rfl
   have hyb := HAL.out (by omega) b off rfl
   have l1 : W1.cell? ⟨w1.heap.size, 0, none⟩ = some (.slice (some ⟨b, off, none⟩) lines.length c) := (World.cell?_of_block (hg1.block _ (World.block_lt_of_cell? W _ l0) (by simp; omega))).trans l0
   have y41 : W1.cell? ⟨b, off + i * 5 + 4, none⟩ = some (.string tx) := (World.cell?_of_block (hg1.block _ (World.block_lt_of_cell? W _ y4) (by simp; omega))).trans y4
   have hlaid : LaidW W1 := HL.out.below_ (BE.out.trans (hbel1.mono hz1)) HL.out.size
   have hit : ∀ Y, Below W1.heap.size W1 Y → Calls Tryz.prog 63 #[.int .i64 ((pre.length : Int) + 1)] Y fun e w' => e = .returned (.string ⟨(Lib.itoa ((pre.length : Int) + 1)).toArray⟩) ∧ Below Y.heap.size Y w' := fun Y hY => itoa_any _ Y (hlaid.below hY) (by omega) (by omega)
   have hil2 := Lib.itoa_length_le ((pre.length : Int) + 1) (by omega) (by omega)
   obtain ⟨ib, hib⟩ : ∃ ib : ByteArray, (⟨(Lib.itoa ((pre.length : Int) + 1)).toArray⟩ : ByteArray) = ib := ⟨_, rfl⟩
   rw [hib] at hit
   have hibs : ib.size ≤ 21 := by rw [← hib]; show (List.toArray _).size ≤ _; rw [List.size_toArray]; exact hil2
   have HIB := Lib.hid hib
   have hs1 : ¬ 9223372036854775807 < ib.size + 1 := by omega
   have hs2 : ¬ 9223372036854775807 < ib.size + 1 + tx.size := by omega
   have hs3 : ¬ 9223372036854775807 < ib.size + 1 + tx.size + 1 := by omega
   clear hil2
   have HIT := Lib.hid hit
   have HBF1 := Lib.hid hbf1
   have HBEL1 := Lib.hid hbel1
   have HG1 := Lib.hid hg1
   have HN1 := Lib.hid hn1r
   rw [hW1]
   clear hW1 hit hib hbf1 hbel1 hg1 hn1r hlaid n0 nf l0 y4
   have hwr : ∀ Y, Below W1.heap.size W1 Y → Calls Tryz.prog 62 #[.pointer (some ⟨w1.heap.size + 1, 0, none⟩), .string (ib ++ ⟨#[32]⟩ ++ tx ++ ⟨#[10]⟩)] Y fun e w' => e = .returned (.tuple #[.int .i64 (ib ++ ⟨#[32]⟩ ++ tx ++ ⟨#[10]⟩).size, .nilIface]) ∧ (Lib.IsBuilderF 101 5 w1.heap.size (w1.heap.size + 1) (Lib.byteCells (plainL 0 (vs pre)) ++ Lib.strCells (ib ++ ⟨#[32]⟩ ++ tx ++ ⟨#[10]⟩)) w' ∧ Below w1.heap.size Y w' ∧ Lib.OthersKept 5 (some (w1.heap.size + 1)) Y w') := fun Y hY =>
    write_any w1.heap.size (w1.heap.size + 1) _ _ Y (bf_below HBF1.out hY) (by
     have h1 := plainL_len (vs pre) 0 (by rw [vs, List.length_map]; omega) (fun p hp => by
      obtain ⟨q, hq, rfl⟩ := List.mem_map.1 hp
      exact HT.out _ (List.mem_of_getElem? q.2))
     rw [vs, List.length_map] at h1
     rw [Lib.byteCells_length]
     simp only [ByteArray.size_append]
     have e1 : (⟨#[32]⟩ : ByteArray).size = 1 := rfl
     have e2 : (⟨#[10]⟩ : ByteArray).size = 1 := rfl
     rw [e1, e2]
     have : (plainL 0 (vs pre)).length ≤ pre.length * 9000 := h1
     omega) (by have := HBEL1.out.size; have := hY.size; omega)
   have HWR := Lib.hid hwr
   clear hwr
   refine region_round (by kernel_rfl) ?_
   refine wpAnyIn_take (i := 4) (v := ?v1) rfl rfl (by kernel_rfl) (by kernel_rfl) (by kernel_rfl) (fun _ _ _ h => h) ⟨Or.inl ⟨by rfl, ?h1⟩, fun _ => rfl⟩ ?r1
   case h1 => (intro w; go_simp; try (first | with_reducible rfl | (rw [if_neg hs1]; done) | (rw [if_neg hs1]; with_reducible rfl) | (rw [if_neg hs2]; done) | (rw [if_neg hs2]; with_reducible rfl) | (rw [if_neg hs3]; done) | (rw [if_neg hs3]; with_reducible rfl)))
   try simp only [gA, Act.put]
   refine wpAnyIn_ready (rs := [0, 3]) (by kernel_rfl) (by simp) ?_
   refine AllReadyIn.cons rfl (fun K hK => ?_) ?m2
   have HK := Lib.hid hK
   clear hK
   go_simp
   refine HK.out _ _ ?_
   clear HK K
   try simp only [gA, Act.put]
   refine wpAnyIn_ready (rs := [1, 3]) (by kernel_rfl) (by simp) ?_
   refine AllReadyIn.cons rfl (fun K hK => ?_) ?m3
   have HK := Lib.hid hK
   clear hK
   go_simp
   refine ⟨trivial, ?_⟩
   refine (callsIn_wide.2 (HIT.out _ goB)).mono ?_
   rintro e wz ⟨rfl, hbz⟩
   have l2 := cB hbz l1
   have y42 := cB hbz y41
   try dsimp only
   refine HK.out _ _ ?_
   clear HK K
   try simp only [gA, Act.put]
   refine wpAnyIn_take (i := 2) (v := ?v4) rfl rfl (by kernel_rfl) (by kernel_rfl) (by kernel_rfl) (fun _ _ _ h => h) ⟨Or.inl ⟨by rfl, ?h4⟩, fun _ => rfl⟩ ?r4
   case h4 => (intro w; go_simp; try (first | with_reducible rfl | (rw [if_neg hs1]; done) | (rw [if_neg hs1]; with_reducible rfl) | (rw [if_neg hs2]; done) | (rw [if_neg hs2]; with_reducible rfl) | (rw [if_neg hs3]; done) | (rw [if_neg hs3]; with_reducible rfl)))
   try simp only [gA, Act.put]
   refine wpAnyIn_ready (rs := [3]) (by kernel_rfl) (by simp) ?_
   refine AllReadyIn.cons rfl (fun K hK => ?_) AllReadyIn.nil
   have HK := Lib.hid hK
   clear hK
   go_simp
   refine HK.out _ _ ?_
   clear HK K
   try simp only [gA, Act.put]
   refine wpAnyIn_take (i := 5) (v := ?v6) rfl rfl (by kernel_rfl) (by kernel_rfl) (by kernel_rfl) (fun _ _ _ h => h) ⟨Or.inl ⟨by rfl, ?h6⟩, fun _ => rfl⟩ ?r6
   case h6 => (intro w; go_simp; try (first | with_reducible rfl | (rw [if_neg hs1]; done) | (rw [if_neg hs1]; with_reducible rfl) | (rw [if_neg hs2]; done) | (rw [if_neg hs2]; with_reducible rfl) | (rw [if_neg hs3]; done) | (rw [if_neg hs3]; with_reducible rfl)))
   try simp only [gA, Act.put]
   refine wpAnyIn_take (i := 6) (v := ?v7) rfl rfl (by kernel_rfl) (by kernel_rfl) (by kernel_rfl) (fun _ _ _ h => h) ⟨Or.inl ⟨by rfl, ?h7⟩, fun _ => rfl⟩ ?r7
   case h7 => (intro w; go_simp; try (first | with_reducible rfl | (rw [if_neg hs1]; done) | (rw [if_neg hs1]; with_reducible rfl) | (rw [if_neg hs2]; done) | (rw [if_neg hs2]; with_reducible rfl) | (rw [if_neg hs3]; done) | (rw [if_neg hs3]; with_reducible rfl)))
   try simp only [gA, Act.put]
   refine wpAnyIn_ready (rs := [7]) (by kernel_rfl) (by simp) ?_
   refine AllReadyIn.cons rfl (fun K hK => ?_) AllReadyIn.nil
   have HK := Lib.hid hK
   clear hK
   go_simp
   refine HK.out _ _ ?_
   clear HK K
   try simp only [gA, Act.put]
   refine wpAnyIn_take (i := 8) (v := ?v9) rfl rfl (by kernel_rfl) (by kernel_rfl) (by kernel_rfl) (fun _ _ _ h => h) ⟨Or.inl ⟨by rfl, ?h9⟩, fun _ => rfl⟩ ?r9
   case h9 => (intro w; go_simp; try (first | with_reducible rfl | (rw [if_neg hs1]; done) | (rw [if_neg hs1]; with_reducible rfl) | (rw [if_neg hs2]; done) | (rw [if_neg hs2]; with_reducible rfl) | (rw [if_neg hs3]; done) | (rw [if_neg hs3]; with_reducible rfl)))
   try simp only [gA, Act.put]
   refine wpAnyIn_take (i := 9) (v := ?v10) rfl rfl (by kernel_rfl) (by kernel_rfl) (by kernel_rfl) (fun _ _ _ h => h) ⟨Or.inl ⟨by rfl, ?h10⟩, fun _ => rfl⟩ ?r10
   case h10 => (intro w; go_simp; try (first | with_reducible rfl | (rw [if_neg hs1]; done) | (rw [if_neg hs1]; with_reducible rfl) | (rw [if_neg hs2]; done) | (rw [if_neg hs2]; with_reducible rfl) | (rw [if_neg hs3]; done) | (rw [if_neg hs3]; with_reducible rfl)))
   try simp only [gA, Act.put]
   refine wpAnyIn_ready (rs := [10]) (by kernel_rfl) (by simp) ?_
   refine AllReadyIn.cons rfl (fun K hK => ?_) AllReadyIn.nil
   have HK := Lib.hid hK
   clear hK
   go_simp
   refine ⟨trivial, ?_⟩
   refine (callsIn_wide.2 (HWR.out _ goB)).mono ?_
   rintro e wq ⟨rfl, hbq, hbm, hok⟩
   try dsimp only
   refine HK.out _ _ ?_
   clear HK K
   try simp only [gA, Act.put]
   refine wpAnyIn_done (by kernel_rfl) ?_ _
   case' m3 => skip
   refine AllReadyIn.cons rfl (fun K hK => ?_) AllReadyIn.nil
   have HK := Lib.hid hK
   clear hK
   go_simp
   refine HK.out _ _ ?_
   clear HK K
   try simp only [gA, Act.put]
   refine wpAnyIn_take (i := 5) (v := ?v13) rfl rfl (by kernel_rfl) (by kernel_rfl) (by kernel_rfl) (fun _ _ _ h => h) ⟨Or.inl ⟨by rfl, ?h13⟩, fun _ => rfl⟩ ?r13
   case h13 => (intro w; go_simp; try (first | with_reducible rfl | (rw [if_neg hs1]; done) | (rw [if_neg hs1]; with_reducible rfl) | (rw [if_neg hs2]; done) | (rw [if_neg hs2]; with_reducible rfl) | (rw [if_neg hs3]; done) | (rw [if_neg hs3]; with_reducible rfl)))
   try simp only [gA, Act.put]
   refine wpAnyIn_take (i := 6) (v := ?v14) rfl rfl (by kernel_rfl) (by kernel_rfl) (by kernel_rfl) (fun _ _ _ h => h) ⟨Or.inl ⟨by rfl, ?h14⟩, fun _ => rfl⟩ ?r14
   case h14 => (intro w; go_simp; try (first | with_reducible rfl | (rw [if_neg hs1]; done) | (rw [if_neg hs1]; with_reducible rfl) | (rw [if_neg hs2]; done) | (rw [if_neg hs2]; with_reducible rfl) | (rw [if_neg hs3]; done) | (rw [if_neg hs3]; with_reducible rfl)))
   try simp only [gA, Act.put]
   refine wpAnyIn_ready (rs := [1, 7]) (by kernel_rfl) (by simp) ?_
   refine AllReadyIn.cons rfl (fun K hK => ?_) ?m15
   have HK := Lib.hid hK
   clear hK
   go_simp
   refine ⟨trivial, ?_⟩
   refine (callsIn_wide.2 (HIT.out _ goB)).mono ?_
   rintro e wz ⟨rfl, hbz⟩
   have l2 := cB hbz l1
   have y42 := cB hbz y41
   try dsimp only
   refine HK.out _ _ ?_
   clear HK K
   try simp only [gA, Act.put]
   refine wpAnyIn_take (i := 2) (v := ?v16) rfl rfl (by kernel_rfl) (by kernel_rfl) (by kernel_rfl) (fun _ _ _ h => h) ⟨Or.inl ⟨by rfl, ?h16⟩, fun _ => rfl⟩ ?r16
   case h16 => (intro w; go_simp; try (first | with_reducible rfl | (rw [if_neg hs1]; done) | (rw [if_neg hs1]; with_reducible rfl) | (rw [if_neg hs2]; done) | (rw [if_neg hs2]; with_reducible rfl) | (rw [if_neg hs3]; done) | (rw [if_neg hs3]; with_reducible rfl)))
   try simp only [gA, Act.put]
   refine wpAnyIn_ready (rs := [7]) (by kernel_rfl) (by simp) ?_
   refine AllReadyIn.cons rfl (fun K hK => ?_) AllReadyIn.nil
   have HK := Lib.hid hK
   clear hK
   go_simp
   refine HK.out _ _ ?_
   clear HK K
   try simp only [gA, Act.put]
   refine wpAnyIn_take (i := 8) (v := ?v18) rfl rfl (by kernel_rfl) (by kernel_rfl) (by kernel_rfl) (fun _ _ _ h => h) ⟨Or.inl ⟨by rfl, ?h18⟩, fun _ => rfl⟩ ?r18
   case h18 => (intro w; go_simp; try (first | with_reducible rfl | (rw [if_neg hs1]; done) | (rw [if_neg hs1]; with_reducible rfl) | (rw [if_neg hs2]; done) | (rw [if_neg hs2]; with_reducible rfl) | (rw [if_neg hs3]; done) | (rw [if_neg hs3]; with_reducible rfl)))
   try simp only [gA, Act.put]
   refine wpAnyIn_take (i := 9) (v := ?v19) rfl rfl (by kernel_rfl) (by kernel_rfl) (by kernel_rfl) (fun _ _ _ h => h) ⟨Or.inl ⟨by rfl, ?h19⟩, fun _ => rfl⟩ ?r19
   case h19 => (intro w; go_simp; try (first | with_reducible rfl | (rw [if_neg hs1]; done) | (rw [if_neg hs1]; with_reducible rfl) | (rw [if_neg hs2]; done) | (rw [if_neg hs2]; with_reducible rfl) | (rw [if_neg hs3]; done) | (rw [if_neg hs3]; with_reducible rfl)))
   try simp only [gA, Act.put]
   refine wpAnyIn_ready (rs := [10]) (by kernel_rfl) (by simp) ?_
   refine AllReadyIn.cons rfl (fun K hK => ?_) AllReadyIn.nil
   have HK := Lib.hid hK
   clear hK
   go_simp
   refine ⟨trivial, ?_⟩
   refine (callsIn_wide.2 (HWR.out _ goB)).mono ?_
   rintro e wq ⟨rfl, hbq, hbm, hok⟩
   try dsimp only
   refine HK.out _ _ ?_
   clear HK K
   try simp only [gA, Act.put]
   refine wpAnyIn_done (by kernel_rfl) ?_ _
   case' m15 => skip
   refine AllReadyIn.cons rfl (fun K hK => ?_) AllReadyIn.nil
   have HK := Lib.hid hK
   clear hK
   go_simp
   refine HK.out _ _ ?_
   clear HK K
   try simp only [gA, Act.put]
   refine wpAnyIn_ready (rs := [1]) (by kernel_rfl) (by simp) ?_
   refine AllReadyIn.cons rfl (fun K hK => ?_) AllReadyIn.nil
   have HK := Lib.hid hK
   clear hK
   go_simp
   refine ⟨trivial, ?_⟩
   refine (callsIn_wide.2 (HIT.out _ goB)).mono ?_
   rintro e wz ⟨rfl, hbz⟩
   have l2 := cB hbz l1
   have y42 := cB hbz y41
   try dsimp only
   refine HK.out _ _ ?_
   clear HK K
   try simp only [gA, Act.put]
   refine wpAnyIn_take (i := 2) (v := ?v23) rfl rfl (by kernel_rfl) (by kernel_rfl) (by kernel_rfl) (fun _ _ _ h => h) ⟨Or.inl ⟨by rfl, ?h23⟩, fun _ => rfl⟩ ?r23
   case h23 => (intro w; go_simp; try (first | with_reducible rfl | (rw [if_neg hs1]; done) | (rw [if_neg hs1]; with_reducible rfl) | (rw [if_neg hs2]; done) | (rw [if_neg hs2]; with_reducible rfl) | (rw [if_neg hs3]; done) | (rw [if_neg hs3]; with_reducible rfl)))
   try simp only [gA, Act.put]
   refine wpAnyIn_take (i := 8) (v := ?v24) rfl rfl (by kernel_rfl) (by kernel_rfl) (by kernel_rfl) (fun _ _ _ h => h) ⟨Or.inl ⟨by rfl, ?h24⟩, fun _ => rfl⟩ ?r24
   case h24 => (intro w; go_simp; try (first | with_reducible rfl | (rw [if_neg hs1]; done) | (rw [if_neg hs1]; with_reducible rfl) | (rw [if_neg hs2]; done) | (rw [if_neg hs2]; with_reducible rfl) | (rw [if_neg hs3]; done) | (rw [if_neg hs3]; with_reducible rfl)))
   try simp only [gA, Act.put]
   refine wpAnyIn_take (i := 9) (v := ?v25) rfl rfl (by kernel_rfl) (by kernel_rfl) (by kernel_rfl) (fun _ _ _ h => h) ⟨Or.inl ⟨by rfl, ?h25⟩, fun _ => rfl⟩ ?r25
   case h25 => (intro w; go_simp; try (first | with_reducible rfl | (rw [if_neg hs1]; done) | (rw [if_neg hs1]; with_reducible rfl) | (rw [if_neg hs2]; done) | (rw [if_neg hs2]; with_reducible rfl) | (rw [if_neg hs3]; done) | (rw [if_neg hs3]; with_reducible rfl)))
   try simp only [gA, Act.put]
   refine wpAnyIn_ready (rs := [10]) (by kernel_rfl) (by simp) ?_
   refine AllReadyIn.cons rfl (fun K hK => ?_) AllReadyIn.nil
   have HK := Lib.hid hK
   clear hK
   go_simp
   refine ⟨trivial, ?_⟩
   refine (callsIn_wide.2 (HWR.out _ goB)).mono ?_
   rintro e wq ⟨rfl, hbq, hbm, hok⟩
   try dsimp only
   refine HK.out _ _ ?_
   clear HK K
   try simp only [gA, Act.put]
   refine wpAnyIn_done (by kernel_rfl) ?_ _
   case' m2 => skip
   refine AllReadyIn.cons rfl (fun K hK => ?_) AllReadyIn.nil
   have HK := Lib.hid hK
   clear hK
   go_simp
   refine HK.out _ _ ?_
   clear HK K
   try simp only [gA, Act.put]
   refine wpAnyIn_take (i := 5) (v := ?v28) rfl rfl (by kernel_rfl) (by kernel_rfl) (by kernel_rfl) (fun _ _ _ h => h) ⟨Or.inl ⟨by rfl, ?h28⟩, fun _ => rfl⟩ ?r28
   case h28 => (intro w; go_simp; try (first | with_reducible rfl | (rw [if_neg hs1]; done) | (rw [if_neg hs1]; with_reducible rfl) | (rw [if_neg hs2]; done) | (rw [if_neg hs2]; with_reducible rfl) | (rw [if_neg hs3]; done) | (rw [if_neg hs3]; with_reducible rfl)))
   try simp only [gA, Act.put]
   refine wpAnyIn_take (i := 6) (v := ?v29) rfl rfl (by kernel_rfl) (by kernel_rfl) (by kernel_rfl) (fun _ _ _ h => h) ⟨Or.inl ⟨by rfl, ?h29⟩, fun _ => rfl⟩ ?r29
   case h29 => (intro w; go_simp; try (first | with_reducible rfl | (rw [if_neg hs1]; done) | (rw [if_neg hs1]; with_reducible rfl) | (rw [if_neg hs2]; done) | (rw [if_neg hs2]; with_reducible rfl) | (rw [if_neg hs3]; done) | (rw [if_neg hs3]; with_reducible rfl)))
   try simp only [gA, Act.put]
   refine wpAnyIn_ready (rs := [0, 7]) (by kernel_rfl) (by simp) ?_
   refine AllReadyIn.cons rfl (fun K hK => ?_) ?m30
   have HK := Lib.hid hK
   clear hK
   go_simp
   refine HK.out _ _ ?_
   clear HK K
   try simp only [gA, Act.put]
   refine wpAnyIn_ready (rs := [1, 7]) (by kernel_rfl) (by simp) ?_
   refine AllReadyIn.cons rfl (fun K hK => ?_) ?m31
   have HK := Lib.hid hK
   clear hK
   go_simp
   refine ⟨trivial, ?_⟩
   refine (callsIn_wide.2 (HIT.out _ goB)).mono ?_
   rintro e wz ⟨rfl, hbz⟩
   have l2 := cB hbz l1
   have y42 := cB hbz y41
   try dsimp only
   refine HK.out _ _ ?_
   clear HK K
   try simp only [gA, Act.put]
   refine wpAnyIn_take (i := 2) (v := ?v32) rfl rfl (by kernel_rfl) (by kernel_rfl) (by kernel_rfl) (fun _ _ _ h => h) ⟨Or.inl ⟨by rfl, ?h32⟩, fun _ => rfl⟩ ?r32
   case h32 => (intro w; go_simp; try (first | with_reducible rfl | (rw [if_neg hs1]; done) | (rw [if_neg hs1]; with_reducible rfl) | (rw [if_neg hs2]; done) | (rw [if_neg hs2]; with_reducible rfl) | (rw [if_neg hs3]; done) | (rw [if_neg hs3]; with_reducible rfl)))
   try simp only [gA, Act.put]
   refine wpAnyIn_ready (rs := [7]) (by kernel_rfl) (by simp) ?_
   refine AllReadyIn.cons rfl (fun K hK => ?_) AllReadyIn.nil
   have HK := Lib.hid hK
   clear hK
   go_simp
   refine HK.out _ _ ?_
   clear HK K
   try simp only [gA, Act.put]
   refine wpAnyIn_take (i := 8) (v := ?v34) rfl rfl (by kernel_rfl) (by kernel_rfl) (by kernel_rfl) (fun _ _ _ h => h) ⟨Or.inl ⟨by rfl, ?h34⟩, fun _ => rfl⟩ ?r34
   case h34 => (intro w; go_simp; try (first | with_reducible rfl | (rw [if_neg hs1]; done) | (rw [if_neg hs1]; with_reducible rfl) | (rw [if_neg hs2]; done) | (rw [if_neg hs2]; with_reducible rfl) | (rw [if_neg hs3]; done) | (rw [if_neg hs3]; with_reducible rfl)))
   try simp only [gA, Act.put]
   refine wpAnyIn_take (i := 9) (v := ?v35) rfl rfl (by kernel_rfl) (by kernel_rfl) (by kernel_rfl) (fun _ _ _ h => h) ⟨Or.inl ⟨by rfl, ?h35⟩, fun _ => rfl⟩ ?r35
   case h35 => (intro w; go_simp; try (first | with_reducible rfl | (rw [if_neg hs1]; done) | (rw [if_neg hs1]; with_reducible rfl) | (rw [if_neg hs2]; done) | (rw [if_neg hs2]; with_reducible rfl) | (rw [if_neg hs3]; done) | (rw [if_neg hs3]; with_reducible rfl)))
   try simp only [gA, Act.put]
   refine wpAnyIn_ready (rs := [10]) (by kernel_rfl) (by simp) ?_
   refine AllReadyIn.cons rfl (fun K hK => ?_) AllReadyIn.nil
   have HK := Lib.hid hK
   clear hK
   go_simp
   refine ⟨trivial, ?_⟩
   refine (callsIn_wide.2 (HWR.out _ goB)).mono ?_
   rintro e wq ⟨rfl, hbq, hbm, hok⟩
   try dsimp only
   refine HK.out _ _ ?_
   clear HK K
   try simp only [gA, Act.put]
   refine wpAnyIn_done (by kernel_rfl) ?_ _
   case' m31 => skip
   refine AllReadyIn.cons rfl (fun K hK => ?_) AllReadyIn.nil
   have HK := Lib.hid hK
   clear hK
   go_simp
   refine HK.out _ _ ?_
   clear HK K
   try simp only [gA, Act.put]
   refine wpAnyIn_ready (rs := [1]) (by kernel_rfl) (by simp) ?_
   refine AllReadyIn.cons rfl (fun K hK => ?_) AllReadyIn.nil
   have HK := Lib.hid hK
   clear hK
   go_simp
   refine ⟨trivial, ?_⟩
   refine (callsIn_wide.2 (HIT.out _ goB)).mono ?_
   rintro e wz ⟨rfl, hbz⟩
   have l2 := cB hbz l1
   have y42 := cB hbz y41
   try dsimp only
   refine HK.out _ _ ?_
   clear HK K
   try simp only [gA, Act.put]
   refine wpAnyIn_take (i := 2) (v := ?v39) rfl rfl (by kernel_rfl) (by kernel_rfl) (by kernel_rfl) (fun _ _ _ h => h) ⟨Or.inl ⟨by rfl, ?h39⟩, fun _ => rfl⟩ ?r39
   case h39 => (intro w; go_simp; try (first | with_reducible rfl | (rw [if_neg hs1]; done) | (rw [if_neg hs1]; with_reducible rfl) | (rw [if_neg hs2]; done) | (rw [if_neg hs2]; with_reducible rfl) | (rw [if_neg hs3]; done) | (rw [if_neg hs3]; with_reducible rfl)))
   try simp only [gA, Act.put]
   refine wpAnyIn_take (i := 8) (v := ?v40) rfl rfl (by kernel_rfl) (by kernel_rfl) (by kernel_rfl) (fun _ _ _ h => h) ⟨Or.inl ⟨by rfl, ?h40⟩, fun _ => rfl⟩ ?r40
   case h40 => (intro w; go_simp; try (first | with_reducible rfl | (rw [if_neg hs1]; done) | (rw [if_neg hs1]; with_reducible rfl) | (rw [if_neg hs2]; done) | (rw [if_neg hs2]; with_reducible rfl) | (rw [if_neg hs3]; done) | (rw [if_neg hs3]; with_reducible rfl)))
   try simp only [gA, Act.put]
   refine wpAnyIn_take (i := 9) (v := ?v41) rfl rfl (by kernel_rfl) (by kernel_rfl) (by kernel_rfl) (fun _ _ _ h => h) ⟨Or.inl ⟨by rfl, ?h41⟩, fun _ => rfl⟩ ?r41
   case h41 => (intro w; go_simp; try (first | with_reducible rfl | (rw [if_neg hs1]; done) | (rw [if_neg hs1]; with_reducible rfl) | (rw [if_neg hs2]; done) | (rw [if_neg hs2]; with_reducible rfl) | (rw [if_neg hs3]; done) | (rw [if_neg hs3]; with_reducible rfl)))
   try simp only [gA, Act.put]
   refine wpAnyIn_ready (rs := [10]) (by kernel_rfl) (by simp) ?_
   refine AllReadyIn.cons rfl (fun K hK => ?_) AllReadyIn.nil
   have HK := Lib.hid hK
   clear hK
   go_simp
   refine ⟨trivial, ?_⟩
   refine (callsIn_wide.2 (HWR.out _ goB)).mono ?_
   rintro e wq ⟨rfl, hbq, hbm, hok⟩
   try dsimp only
   refine HK.out _ _ ?_
   clear HK K
   try simp only [gA, Act.put]
   refine wpAnyIn_done (by kernel_rfl) ?_ _
   case' m30 => skip
   refine AllReadyIn.cons rfl (fun K hK => ?_) AllReadyIn.nil
   have HK := Lib.hid hK
   clear hK
   go_simp
   refine HK.out _ _ ?_
   clear HK K
   try simp only [gA, Act.put]
   refine wpAnyIn_ready (rs := [0]) (by kernel_rfl) (by simp) ?_
   refine AllReadyIn.cons rfl (fun K hK => ?_) AllReadyIn.nil
   have HK := Lib.hid hK
   clear hK
   go_simp
   refine HK.out _ _ ?_
   clear HK K
   try simp only [gA, Act.put]
   refine wpAnyIn_ready (rs := [1]) (by kernel_rfl) (by simp) ?_
   refine AllReadyIn.cons rfl (fun K hK => ?_) AllReadyIn.nil
   have HK := Lib.hid hK
   clear hK
   go_simp
   refine ⟨trivial, ?_⟩
   refine (callsIn_wide.2 (HIT.out _ goB)).mono ?_
   rintro e wz ⟨rfl, hbz⟩
   have l2 := cB hbz l1
   have y42 := cB hbz y41
   try dsimp only
   refine HK.out _ _ ?_
   clear HK K
   try simp only [gA, Act.put]
   refine wpAnyIn_take (i := 2) (v := ?v46) rfl rfl (by kernel_rfl) (by kernel_rfl) (by kernel_rfl) (fun _ _ _ h => h) ⟨Or.inl ⟨by rfl, ?h46⟩, fun _ => rfl⟩ ?r46
   case h46 => (intro w; go_simp; try (first | with_reducible rfl | (rw [if_neg hs1]; done) | (rw [if_neg hs1]; with_reducible rfl) | (rw [if_neg hs2]; done) | (rw [if_neg hs2]; with_reducible rfl) | (rw [if_neg hs3]; done) | (rw [if_neg hs3]; with_reducible rfl)))
   try simp only [gA, Act.put]
   refine wpAnyIn_take (i := 8) (v := ?v47) rfl rfl (by kernel_rfl) (by kernel_rfl) (by kernel_rfl) (fun _ _ _ h => h) ⟨Or.inl ⟨by rfl, ?h47⟩, fun _ => rfl⟩ ?r47
   case h47 => (intro w; go_simp; try (first | with_reducible rfl | (rw [if_neg hs1]; done) | (rw [if_neg hs1]; with_reducible rfl) | (rw [if_neg hs2]; done) | (rw [if_neg hs2]; with_reducible rfl) | (rw [if_neg hs3]; done) | (rw [if_neg hs3]; with_reducible rfl)))
   try simp only [gA, Act.put]
   refine wpAnyIn_take (i := 9) (v := ?v48) rfl rfl (by kernel_rfl) (by kernel_rfl) (by kernel_rfl) (fun _ _ _ h => h) ⟨Or.inl ⟨by rfl, ?h48⟩, fun _ => rfl⟩ ?r48
   case h48 => (intro w; go_simp; try (first | with_reducible rfl | (rw [if_neg hs1]; done) | (rw [if_neg hs1]; with_reducible rfl) | (rw [if_neg hs2]; done) | (rw [if_neg hs2]; with_reducible rfl) | (rw [if_neg hs3]; done) | (rw [if_neg hs3]; with_reducible rfl)))
   try simp only [gA, Act.put]
   refine wpAnyIn_ready (rs := [10]) (by kernel_rfl) (by simp) ?_
   refine AllReadyIn.cons rfl (fun K hK => ?_) AllReadyIn.nil
   have HK := Lib.hid hK
   clear hK
   go_simp
   refine ⟨trivial, ?_⟩
   refine (callsIn_wide.2 (HWR.out _ goB)).mono ?_
   rintro e wq ⟨rfl, hbq, hbm, hok⟩
   try dsimp only
   refine HK.out _ _ ?_
   clear HK K
   try simp only [gA, Act.put]
   refine wpAnyIn_done (by kernel_rfl) ?_ _
   all_goals
    gi_wp2
    have hbw : Below W1.heap.size W1 wz := goB
    have hzw : W0.heap.size ≤ W.heap.size := HBEL.out.size
    have keepAll : ∀ k o, W.heap[k]? = some o → (∀ cs f, o ≠ .cells cs 5 f) → k ≠ w1.heap.size + 1 → k ≠ w1.heap.size + 1 + 1 → wq.heap[k]? = some o := fun k o h1 h2 h3 h4 => by
     have g1 := (HG1.out.block k (Array.getElem?_eq_some_iff.1 h1).1 (by simp; omega)).trans h1
     have g2 := (hbw.block k (Array.getElem?_eq_some_iff.1 g1).1).trans g1
     exact hok k o g2 (by simp; omega) h2
    have hrow : wq.heap[w1.heap.size + 1 + 1]? = some (.cells #[.int .i64 ((pre.length : Int) + 1)] 3 (0, 0)) :=
     hok _ _ ((hbw.block _ (Array.getElem?_eq_some_iff.1 HN1.out).1).trans HN1.out) (by simp) (fun cs f e => by cases e)
    have hsz : W.heap.size ≤ wq.heap.size := by have := HG1.out.size; have := hbw.size; have := hbm.size; omega
    have hbmW : Below w1.heap.size W wq := ((Below.refl _ W).grown HG1.out (by omega) (fun r e => by cases e; omega)).trans ((hbw.mono (by have := HG1.out.size; omega)).trans hbm)
    have hkeep : ∀ k o, W0.heap[k]? = some o → (∀ cs f, o ≠ .cells cs 5 f) → k ≠ w1.heap.size + 1 → k ≠ w1.heap.size + 1 + 1 → wq.heap[k]? = some o := fun k o h1 h2 h3 h4 => keepAll k o (HKP.out k o h1 h2 h3 h4) h2 h3 h4
    refine ⟨⟨hsz, fun k o hB hk ho => keepAll k o hk (fun cs f e => by rw [e] at ho; cases ho) (by omega) (by omega)⟩, fun hb => hb.kept hsz (fun k hk => ?_) ?_, ?_, ?_, HBEL.out.trans hbmW, hkeep⟩
    ·rcases hk with hk | ⟨o, h1, h2, h3, h4⟩
     ·exact hbmW.block k hk
     ·rw [hkeep k o h1 h2 h3 h4, HKP.out k o h1 h2 h3 h4]
    ·rw [hkeep _ _ BKH.out.box (fun cs f e => by cases e) (by omega) (by omega), HKP.out _ _ BKH.out.box (fun cs f e => by cases e) (by omega) (by omega)]
    ·rw [hrow]
     simp
    ·have hpe : Lib.byteCells (plainL 0 (vs pre)) ++ Lib.strCells (ib ++ ⟨#[32]⟩ ++ tx ++ ⟨#[10]⟩) = Lib.byteCells (plainL 0 (vs (pre ++ [x]))) := by
      rw [vs_snoc, plainL_snoc, Lib.byteCells_append, Lib.strCells_eq, HX1.out, ← HIB.out]
      simp [vs]
     rw [← hpe]
     exact hbq
  case done =>
   rintro D ys W hD hys ⟨hn, hbf, hbel, hkeep⟩ hK
   have hstr := Tryz.Builder_String_any_k w1.heap.size (w1.heap.size + 1) (plainL 0 (vs ys)) W hbf (by have := hbel.size; omega)
   have HBEL := Lib.hid hbel
   have HK := Lib.hid hK
   have HYS := Lib.hid (show vs ys = effL lines inn from hys)
   have STR := Lib.hid hstr
   clear hn hbf hbel hkeep hK hys hstr
   gi_wp2_with (refine ⟨trivial, ?_⟩; gi_at_call 64; refine (callsIn_wide.2 STR.out).mono ?_; rintro e wq ⟨rfl, hbq, hbm, hok⟩)
   have hK2 := hok D _ HK.out (by simp; omega) (fun cs f e => by cases e)
   have hg5 := grownBy_putObj' wq D (.deferred none)
   refine ⟨by simp, .inl ⟨_, _, rfl, run_takeDeferred hK2, ?_⟩⟩
   refine ⟨.tuple #[.string ⟨(plainL 0 (vs ys)).toArray⟩, .int .i64 0], by simp [results, Tryz.f24, go_sem], ?_⟩
   rw [HR.out]
   have hbl : Below w.heap.size w wq := BE.out.trans ((HBEL.out.trans hbm).mono hz1)
   refine ⟨by rw [← HYS.out], hbl.grown hg5 (by have := hbl.size; omega) (fun r e => by cases e; omega)⟩
  case stop =>
   rintro D c pre W _ _ h _
   exact h.elim
 ·have hd : (er != 0) = true := by simp [h0]
  rw [if_pos h0] at HR
  have H0 := Lib.hid h0
  clear h0
  go_enter Tryz.func24, Tryz.ntmps24
  go_wp2_with fail
  refine CON.out.mono ?_
  rintro e w1 ⟨⟨A, c, rfl, o1⟩, hb1⟩
  go_wp2
  go_ret2
  rw [HR.out]
  exact ⟨rfl, below2 hb1 (below_a1 _ _)⟩
end Go.Proofs.YtcnpbcgkhhebaaaGreatDoor
/- The file of a season, as plain data; its small function. -/
namespace Go.Proofs.YtcnpbcgkhhebaaaGreatDoor
open Go.RowKit

def bOwner : ByteArray := ⟨#[111, 119, 110, 101, 114]⟩
def bLog : ByteArray := ⟨#[108, 111, 103]⟩
def bHere : ByteArray := ⟨#[104, 101, 114, 101]⟩
def bGone : ByteArray := ⟨#[103, 111, 110, 101]⟩
def bDash : ByteArray := ⟨#[45]⟩
def bSp : ByteArray := ⟨#[32]⟩
def bNl : ByteArray := ⟨#[10]⟩
def decB (n : Int) : ByteArray := ⟨(Lib.itoa n).toArray⟩
def joinB (xs : List ByteArray) (sep : ByteArray) : ByteArray := ⟨(Lib.join (xs.map (·.data.toList)) sep.data.toList).toArray⟩
def dashB (s : ByteArray) : ByteArray := if s.size = 0 then bDash else s
def whereB (g : Bool) : ByteArray := if g then bGone else bHere
def ownP (x : Ow) : List ByteArray := [bOwner, decB x.num, x.mark, decB x.paid]
def logP (x : Lg) : List ByteArray := [bLog, decB x.num, dashB x.seen, decB x.feet, decB x.own, whereB x.gone]
def ownLine (x : Ow) : ByteArray := joinB (ownP x) bSp
def logLine (x : Lg) : ByteArray := joinB (logP x) bSp
def fileL (os : List Ow) (ls : List Lg) : List ByteArray := os.map ownLine ++ ls.map logLine
def fileS (os : List Ow) (ls : List Lg) : ByteArray × Int :=
 if checkS os ls ≠ 0 then (⟨#[]⟩, checkS os ls) else if (fileL os ls).length = 0 then (⟨#[]⟩, 0) else (joinB (fileL os ls) bNl ++ bNl, 0)

theorem lens_le (m : Nat) : ∀ xs : List (List UInt8), (∀ x ∈ xs, x.length ≤ m) → Lib.lens xs ≤ m * xs.length
 | [], _ => by simp [Lib.lens]
 | x :: xs, h => by
  have ih := lens_le m xs (fun y hy => h y (List.mem_cons_of_mem _ hy))
  have := h x List.mem_cons_self
  simp only [Lib.lens, List.map_cons, List.sum_cons, List.length_cons, Nat.mul_add, Nat.mul_one] at ih ⊢
  omega
theorem join_le (m : Nat) (sep : List UInt8) (xs : List (List UInt8)) (h : ∀ x ∈ xs, x.length ≤ m) : (Lib.join xs sep).length ≤ sep.length * xs.length + m * xs.length := by
 cases xs with
 | nil => simp [Lib.join_nil]
 | cons x r =>
  rw [Lib.join_length]
  have := lens_le m (x :: r) h
  have h2 : sep.length * r.length ≤ sep.length * (x :: r).length := Nat.mul_le_mul (Nat.le_refl _) (by simp)
  omega
theorem decB_size (n : Int) (h0 : -9223372036854775808 ≤ n) (h1 : n ≤ 9223372036854775807) : (decB n).data.toList.length ≤ 21 := by
 show (List.toArray _).toList.length ≤ _
 exact Lib.itoa_length_le n h0 h1
theorem ownP_len (x : Ow) (h1 : -9223372036854775808 ≤ x.num ∧ x.num ≤ 9223372036854775807) (h2 : -9223372036854775808 ≤ x.paid ∧ x.paid ≤ 9223372036854775807) (h3 : x.mark.size ≤ 30) : (Lib.join ((ownP x).map (·.data.toList)) bSp.data.toList).length ≤ 200 := by
 have := join_le 30 bSp.data.toList ((ownP x).map (·.data.toList)) (by
  intro y hy
  simp only [ownP, List.map_cons, List.map_nil, List.mem_cons, List.not_mem_nil, or_false] at hy
  rcases hy with rfl | rfl | rfl | rfl
  ·decide
  ·exact Nat.le_trans (decB_size _ h1.1 h1.2) (by decide)
  ·exact h3
  ·exact Nat.le_trans (decB_size _ h2.1 h2.2) (by decide))
 have e : bSp.data.toList.length = 1 := rfl
 rw [List.length_map, e] at this
 have e2 : (ownP x).length = 4 := rfl
 rw [e2] at this
 omega
theorem logP_len (x : Lg) (h1 : -9223372036854775808 ≤ x.num ∧ x.num ≤ 9223372036854775807) (h2 : -9223372036854775808 ≤ x.feet ∧ x.feet ≤ 9223372036854775807) (h4 : -9223372036854775808 ≤ x.own ∧ x.own ≤ 9223372036854775807) (h3 : x.seen.size ≤ 30) : (Lib.join ((logP x).map (·.data.toList)) bSp.data.toList).length ≤ 200 := by
 have := join_le 30 bSp.data.toList ((logP x).map (·.data.toList)) (by
  intro y hy
  simp only [logP, List.map_cons, List.map_nil, List.mem_cons, List.not_mem_nil, or_false] at hy
  rcases hy with rfl | rfl | rfl | rfl | rfl | rfl
  ·decide
  ·exact Nat.le_trans (decB_size _ h1.1 h1.2) (by decide)
  ·unfold dashB
   split
   ·decide
   ·exact h3
  ·exact Nat.le_trans (decB_size _ h2.1 h2.2) (by decide)
  ·exact Nat.le_trans (decB_size _ h4.1 h4.2) (by decide)
  ·unfold whereB
   split <;> decide)
 have e : bSp.data.toList.length = 1 := rfl
 rw [List.length_map, e] at this
 have e2 : (logP x).length = 6 := rfl
 rw [e2] at this
 omega
/-- The numbers of a season can be written. -/
structure FileOk (os : List Ow) (ls : List Lg) : Prop where
 n1 : os.length ≤ 20
 n2 : ls.length ≤ 100
 o : ∀ x ∈ os, (1 ≤ x.num ∧ x.num ≤ 1099511627776) ∧ (0 ≤ x.paid ∧ x.paid ≤ 1000000000) ∧ x.mark.size ≤ 8
 l : ∀ x ∈ ls, (1 ≤ x.num ∧ x.num ≤ 1099511627776) ∧ (1 ≤ x.feet ∧ x.feet ≤ 10000) ∧ (0 ≤ x.own ∧ x.own ≤ 1099511627776) ∧ x.seen.size ≤ 8
theorem feeAt_le {os : List Ow} {ls : List Lg} (h : checkS os ls = 0) (i : Nat) : feeAt os ls i ≤ 1000000000 := by
 have hf := feet_ok h
 have hl := (checkS_len h).2
 unfold feeAt
 have hle : (ls.filter fun l => idxI (fun x => x.num == l.own) os == (i : Int)).length ≤ ls.length := List.length_filter_le _ _
 have key : ∀ l : List Lg, (∀ x ∈ l, x.feet ≤ 10000) → (l.map fee).sum ≤ 1003 * (l.length : Int) := by
  intro l
  induction l with
  | nil => intro _; simp
  | cons x l ih =>
   intro hx
   have h1 := ih fun y hy => hx y (List.mem_cons_of_mem _ hy)
   have h2 := hx x List.mem_cons_self
   simp only [List.map_cons, List.sum_cons, List.length_cons, fee]
   omega
 have := key (ls.filter fun l => idxI (fun x => x.num == l.own) os == (i : Int)) fun x hx => (hf x (List.mem_filter.1 hx).1).2
 omega
theorem fileOk {os : List Ow} {ls : List Lg} (h : checkS os ls = 0) : FileOk os ls := by
 obtain ⟨h1, h2, h3, h4, h5, h6, h7⟩ := checkS_ok h
 refine ⟨h1, h2, fun x hx => ?_, fun x hx => ?_⟩
 ·have q3 := List.any_eq_false.1 h3 x hx
  have q5 := List.any_eq_false.1 h5 x hx
  obtain ⟨i, hi, rfl⟩ := List.getElem_of_mem hx
  have q := paid_ok h hi
  have q7 := feeAt_le h i
  simp only [oddB, numBad, isSeenB, Bool.or_eq_true, not_or, Bool.not_eq_true', Bool.not_eq_false, Bool.and_eq_true, decide_eq_true_eq] at q3 q5
  exact ⟨⟨q5.1, q5.2⟩, ⟨q.1, by omega⟩, q3.2.2⟩
 ·have q4 := List.any_eq_false.1 h4 x hx
  have q6 := List.any_eq_false.1 h6 x hx
  simp only [isSeenB, strayB, Bool.or_eq_true, not_or, Bool.not_eq_true', Bool.not_eq_false, Bool.and_eq_true, decide_eq_true_eq] at q4 q6
  exact ⟨⟨q6.1.1.1, q6.1.1.2⟩, ⟨q6.2.1, q6.2.2⟩, ⟨q6.1.2.1, q6.1.2.2⟩, q4.2⟩

theorem number_any (n : Int) (w : World) (hL : LaidW w) (h0 : -9223372036854775808 ≤ n) (h1 : n ≤ 9223372036854775807) : Calls Tryz.prog 65 #[.int .i64 n] w fun e w' => e = .returned (.string (decB n)) ∧ Below w.heap.size w w' := by
 have hc := fmt_any n w hL h0 h1
 go_enter Tryz.func65, Tryz.ntmps65
 go_wp2_with fail
 refine hc.mono ?_
 rintro e w1 ⟨rfl, hb⟩
 go_wp2
 go_ret
 exact ⟨rfl, hb⟩
theorem joinO_any (x : Ow) (w : World) (h1 : -9223372036854775808 ≤ x.num ∧ x.num ≤ 9223372036854775807) (h2 : -9223372036854775808 ≤ x.paid ∧ x.paid ≤ 9223372036854775807) (h3 : x.mark.size ≤ 30) :
  Calls Tryz.prog 67 #[.slice (some ⟨w.heap.size, 0, none⟩) 4 4, .string ⟨#[32]⟩] (w.alloc (.cells #[.string ⟨#[111, 119, 110, 101, 114]⟩, .string (decB x.num), .string x.mark, .string (decB x.paid)] 9)) fun e w' => e = .returned (.string (ownLine x)) ∧ Below (w.heap.size + 1) (w.alloc (.cells #[.string ⟨#[111, 119, 110, 101, 114]⟩, .string (decB x.num), .string x.mark, .string (decB x.paid)] 9)) w' := by
 have ho := Own.lit encS w 9 (ownP x) #[.string ⟨#[111, 119, 110, 101, 114]⟩, .string (decB x.num), .string x.mark, .string (decB x.paid)] rfl (by show 4 ≤ _; omega)
 have hj := join_any _ 4 (ownP x) bSp _ (ho.rs encS) (by show 4 ≤ _; omega) (by have := ownP_len x h1 h2 h3; omega)
 rw [World.size_alloc] at hj
 exact hj
theorem joinL_any (x : Lg) (sn wh : ByteArray) (hs : dashB x.seen = sn) (hw : whereB x.gone = wh) (w : World) (h1 : -9223372036854775808 ≤ x.num ∧ x.num ≤ 9223372036854775807) (h2 : -9223372036854775808 ≤ x.feet ∧ x.feet ≤ 9223372036854775807) (h4 : -9223372036854775808 ≤ x.own ∧ x.own ≤ 9223372036854775807) (h3 : x.seen.size ≤ 30) :
  Calls Tryz.prog 67 #[.slice (some ⟨w.heap.size, 0, none⟩) 6 6, .string ⟨#[32]⟩] (w.alloc (.cells #[.string ⟨#[108, 111, 103]⟩, .string (decB x.num), .string sn, .string (decB x.feet), .string (decB x.own), .string wh] 9)) fun e w' => e = .returned (.string (logLine x)) ∧ Below (w.heap.size + 1) (w.alloc (.cells #[.string ⟨#[108, 111, 103]⟩, .string (decB x.num), .string sn, .string (decB x.feet), .string (decB x.own), .string wh] 9)) w' := by
 subst hs hw
 have ho := Own.lit encS w 9 (logP x) #[.string ⟨#[108, 111, 103]⟩, .string (decB x.num), .string (dashB x.seen), .string (decB x.feet), .string (decB x.own), .string (whereB x.gone)] rfl (by show 6 ≤ _; omega)
 have hj := join_any _ 6 (logP x) bSp _ (ho.rs encS) (by show 6 ≤ _; omega) (by have := logP_len x h1 h2 h4 h3; omega)
 rw [World.size_alloc] at hj
 exact hj
theorem one_S {W : World} {nb : Nat} {s : ByteArray} (h : W.cell? ⟨nb, 0, none⟩ = some (.string s)) : ∀ j u, (eS s)[j]? = some u → W.cell? ⟨nb, j, none⟩ = some u
 | 0, u, e => by cases e; exact h
theorem map_take {α β : Type} (f : α → β) (xs : List α) {k : Nat} (hk : k < xs.length) : (xs.take (k + 1)).map f = (xs.take k).map f ++ [f xs[k]] := by
 rw [List.take_add_one, List.getElem?_eq_getElem hk, List.map_append]; rfl
theorem wp_app {o : Oper} {a : Act} {w w' : World} {K : Act → World → Prop} {Q : Exit → Act → World → Prop} {v v' u : Value} (s x : Operand) (t : TypeId)
  (ho : o.op = .call { callee := .builtin .append, args := #[s, x], argTypes := #[t, t] }) (hs : a.eval s = v) (hx : a.eval x = u)
  (hrun : (Builtin.append_ #[t, t] o.type #[v, u]).run Tryz.prog w = .ok v' w') (h : K (a.put o.dst v') w') : Oper.wp Tryz.prog o a w K Q := by
 unfold Oper.wp execOp
 simp only [ho, resolve, invoke, builtin, Sem.run_bind, Sem.run_pure, Result.andThen_ok, List.map_toArray, List.map_cons, List.map_nil, hs, hx, hrun]
 exact h
theorem dash_yes {s : ByteArray} (h : s.toList.isEmpty = true) : dashB s = ⟨#[45]⟩ := by
 unfold dashB
 rw [if_pos ((empty_iff s).1 (List.isEmpty_iff.1 h))]
 rfl
theorem dash_no {s : ByteArray} (h : s.toList.isEmpty = false) : dashB s = s := by
 unfold dashB
 rw [if_neg]
 intro h0
 rw [List.isEmpty_iff.2 ((empty_iff s).2 h0)] at h
 cases h
theorem below_al {w w' : World} {o : Obj} (h : Below (w.heap.size + 1) (w.alloc o) w') : Below (w.alloc o).heap.size (w.alloc o) w' := by
 rw [World.size_alloc]
 exact h
theorem undrew {w w' : World} (h : Below w.drew.heap.size w.drew w') : Below w.heap.size w w' := below2 (below_drewN w 1) h
theorem fileL_line {os : List Ow} {ls : List Lg} (h : FileOk os ls) : ∀ x ∈ fileL os ls, x.data.toList.length ≤ 200 := by
 intro x hx
 rcases List.mem_append.1 hx with hx | hx
 ·obtain ⟨y, hy, rfl⟩ := List.mem_map.1 hx
  obtain ⟨h1, h2, h3⟩ := h.o y hy
  exact ownP_len y ⟨by omega, by omega⟩ ⟨by omega, by omega⟩ (by omega)
 ·obtain ⟨y, hy, rfl⟩ := List.mem_map.1 hx
  obtain ⟨h1, h2, h4, h3⟩ := h.l y hy
  exact logP_len y ⟨by omega, by omega⟩ ⟨by omega, by omega⟩ ⟨by omega, by omega⟩ (by omega)
theorem fileL_n {os : List Ow} {ls : List Lg} (h : FileOk os ls) : (fileL os ls).length ≤ 120 := by
 have h1 := h.n1
 have h2 := h.n2
 simp only [fileL, List.length_append, List.length_map]
 omega
theorem fileL_len {os : List Ow} {ls : List Lg} (h : FileOk os ls) : (Lib.join ((fileL os ls).map (·.data.toList)) bNl.data.toList).length ≤ 30000 := by
 have h1 := join_le 200 bNl.data.toList ((fileL os ls).map (·.data.toList)) (fun x hx => by
  obtain ⟨y, hy, rfl⟩ := List.mem_map.1 hx
  exact fileL_line h y hy)
 have h2 := fileL_n h
 have e : bNl.data.toList.length = 1 := rfl
 rw [List.length_map, e] at h1
 omega
end Go.Proofs.YtcnpbcgkhhebaaaGreatDoor
/- Digits. -/
namespace Go.Proofs.YtcnpbcgkhhebaaaGreatDoor
open Go.RowKit

theorem conv1 (w : World) (m : Nat) (hm : m ≤ 9) : (convert 99 9 (.slice (some ⟨w.heap.size, 0, none⟩) 1 1)).run Tryz.prog (w.alloc (.cells #[.int .u8 (48 + (m : Int))] 5)) = .ok (.string ⟨#[UInt8.ofNat (48 + m)]⟩) (w.alloc (.cells #[.int .u8 (48 + (m : Int))] 5)) := by
 refine run_convert_bytes_back (P := Tryz.prog) _ 99 9 5 ⟨w.heap.size, 0, none⟩ 1 [UInt8.ofNat (48 + m)] Tryz.underlying99 Tryz.underlying5 Tryz.underlying9 fun j hj => ?_
 obtain rfl : j = 0 := by simpa using hj
 have e : ((UInt8.ofNat (48 + m)).toNat : Int) = 48 + (m : Int) := by
  rw [show (UInt8.ofNat (48 + m)).toNat = (48 + m) % 256 from rfl]
  omega
 rw [List.getElem_cons_zero, e]
 go_simp
set_option maxRecDepth 100000 in
set_option maxHeartbeats 2000000 in
theorem digits2_any (n : Nat) (w : World) (hn : n ≤ 9223372036854775807) :
  Calls Tryz.prog 46 #[.int .i64 n] w fun e w' => e = .returned (.string (decB n)) ∧ Below w.heap.size w w' := by
 go_enter Tryz.func46, Tryz.ntmps46
 go_wp2
 go_loopg [0, 3] n (fun gg s0 s3 wr => ∃ (m : Nat) (t : ByteArray), s0 = .int .i64 m ∧ s3 = .string t ∧ m ≤ gg ∧ m ≤ n ∧ t.size + m ≤ n ∧ (m = 0 → t.size = 0) ∧ Hid (Lib.decDigits n = Lib.decDigits m ++ t.data.toList) ∧ Hid (Below w.heap.size w wr))
 case atStart => exact ⟨n, ⟨#[]⟩, rfl, rfl, Nat.le_refl _, Nat.le_refl _, (by show 0 + n ≤ _; omega), (fun _ => rfl), (show Lib.decDigits n = Lib.decDigits n ++ [] from (List.append_nil _).symm), Below.refl _ _⟩
 case round =>
  obtain ⟨m, t, rfl, rfl, hg, hm, ht, ht0, DD, BW⟩ := hrel
  by_cases h9 : 9 < m
  ·have hd : decide ((9 : Int) < (m : Int)) = true := decide_eq_true (by omega)
   have hd2 : decide (9 < m) = true := decide_eq_true h9
   have hcv := conv1 wr (m % 10) (by omega)
   rw [show ((m % 10 : Nat) : Int) = (m : Int) % 10 from rfl] at hcv
   have hb1 : ¬ 9223372036854775807 < 1 + t.size := by omega
   go_wp2
   go_roundg (m / 10)
   case measure => omega
   case rel =>
    refine ⟨m / 10, ⟨#[UInt8.ofNat (48 + m % 10)]⟩ ++ t, by go_num, by simp, Nat.le_refl _, by omega, ?_, fun h => by omega, (show Lib.decDigits n = _ from ?_), belowA BW.out _⟩
    ·rw [ByteArray.size_append]
     have : (⟨#[UInt8.ofNat (48 + m % 10)]⟩ : ByteArray).size = 1 := rfl
     omega
    ·rw [DD.out, Lib.decDigits, dif_neg (by omega)]
     simp
  ·have hd : decide ((9 : Int) < (m : Int)) = false := decide_eq_false (by omega)
   have hd2 : decide (9 < m) = false := decide_eq_false h9
   have hcv := conv1 wr m (by omega)
   have hb1 : ¬ 9223372036854775807 < 1 + t.size := by omega
   go_wp2
   go_ret
   refine ⟨ret_str ?_, below2 BW.out (below_a1 _ _)⟩
   apply ByteArray.ext
   apply Array.ext'
   show _ = (Lib.itoa (n : Int)).toArray.toList
   rw [Lib.itoa_nonneg, DD.out, Lib.decDigits, dif_pos (by omega)]
   simp
end Go.Proofs.YtcnpbcgkhhebaaaGreatDoor
/- A text of lines, which are numbered: plain data. -/
namespace Go.Proofs.YtcnpbcgkhhebaaaGreatDoor
open Go.RowKit

def textL : Nat → List ByteArray → List UInt8
 | _, [] => []
 | m, x :: r => Lib.itoa ((m : Int) + 1) ++ [32] ++ x.data.toList ++ [10] ++ textL (m + 1) r
theorem textL_snoc (p : ByteArray) : ∀ (l : List ByteArray) (m : Nat), textL m (l ++ [p]) = textL m l ++ (Lib.itoa (((m + l.length : Nat) : Int) + 1) ++ [32] ++ p.data.toList ++ [10])
 | [], m => by simp [textL]
 | q :: r, m => by
  rw [List.cons_append, textL, textL, textL_snoc p r (m + 1), List.length_cons, show m + 1 + r.length = m + (r.length + 1) by omega]
  simp only [List.append_assoc]
def textB (l : List ByteArray) : ByteArray := ⟨(textL 0 l).toArray⟩
theorem plainL_text : ∀ (l : List (Nat × Ln)) (m : Nat), plainL m l = textL m (l.map (·.2.text))
 | [], m => rfl
 | p :: r, m => by rw [plainL, List.map_cons, textL, plainL_text r (m + 1)]
end Go.Proofs.YtcnpbcgkhhebaaaGreatDoor
/- A text of lines, which are numbered. -/
namespace Go.Proofs.YtcnpbcgkhhebaaaGreatDoor
open Go.RowKit

set_option maxRecDepth 100000 in
set_option maxHeartbeats 2000000 in
theorem text_any (A : Option Addr) (c : Nat) (l : List ByteArray) (w : World) (hr : Rd eS 1 w A c l) (hn : l.length ≤ 1000) (hz : ∀ x ∈ l, x.size ≤ 9000) :
  Calls Tryz.prog 52 #[.slice A l.length c] w fun e w' => e = .returned (.string (textB l)) ∧ Below w.heap.size w w' := by
 have HR := Lib.hid hr
 have HZ := Lib.hid hz
 clear hr hz
 go_enter Tryz.func52, Tryz.ntmps52
 go_wp2
 go_loopg [3, 4] l.length (fun gg s3 s4 wr => ∃ (k : Nat) (t : ByteArray), k ≤ l.length ∧ l.length - k ≤ gg ∧ s4 = .int .i64 k ∧ s3 = .string t ∧ t.size ≤ k * 9100 ∧ Hid (textL 0 (l.take k) = t.data.toList) ∧ Hid (Below w.heap.size w wr))
 case atStart => exact ⟨0, ⟨#[]⟩, Nat.zero_le _, by omega, rfl, rfl, by decide, (show textL 0 (l.take 0) = [] from rfl), Below.refl _ _⟩
 case round =>
  obtain ⟨k, t, hk, hg, rfl, rfl, ht, TT, BW⟩ := hrel
  by_cases hlt : k < l.length
  ·have hli : (k : Int) < (l.length : Int) := by omega
   have hk0 : (0 : Int) ≤ (k : Int) := by omega
   obtain ⟨b, off, y, hy, rfl, hb, d0⟩ := (HR.out.below BW.out).atS hlt
   have hys := HZ.out y (by rw [hy]; exact List.getElem_mem hlt)
   have HY := Lib.hid hy
   have hdg := fun W => digits2_any (k + 1) W (by omega)
   have hib : (decB ((k + 1 : Nat) : Int)).size ≤ 21 := by
    have := Lib.itoa_length_le ((k + 1 : Nat) : Int) (by omega) (by omega)
    show (List.toArray _).size ≤ _
    rw [List.size_toArray]
    exact this
   obtain ⟨ib, hibd⟩ : ∃ ib, decB ((k + 1 : Nat) : Int) = ib := ⟨_, rfl⟩
   rw [hibd] at hib
   simp only [hibd] at hdg
   rw [Int.natCast_add, show ((1 : Nat) : Int) = 1 from rfl] at hdg
   have DG := Lib.hid hdg
   have HIB := Lib.hid hibd
   have hs1 : ¬ 9223372036854775807 < t.size + ib.size := by omega
   have hs2 : ¬ 9223372036854775807 < t.size + ib.size + 1 := by omega
   have hs3 : ¬ 9223372036854775807 < t.size + ib.size + 1 + y.size := by omega
   have hs4 : ¬ 9223372036854775807 < t.size + ib.size + 1 + y.size + 1 := by omega
   have hkw : IntKind.i64.wrap ((k : Int) + 1) = (k : Int) + 1 := by rw [IntKind.wrap_i64]; omega
   clear hy hdg hibd
   go_wp2
   refine wp_region_held_drew (S := fun W => W.cell? ⟨b, off + k, none⟩ = some (.string y)) (by kernel_rfl) ?_ (fun hHeld => ?_)
   ·exact d0
   refine tk (i := 0) (v := ?_) rfl (Or.inl ⟨by rfl, ?_⟩) hHeld ?_
   rotate_left 1
   ·(intro w hSw; (try dsimp only at hSw); go_simp; try with_reducible rfl)
   try simp only [gA, Act.put]
   refine tk (i := 1) (v := ?_) rfl (Or.inl ⟨by rfl, ?_⟩) hHeld ?_
   rotate_left 1
   ·(intro w hSw; (try dsimp only at hSw); go_simp; try with_reducible rfl)
   try simp only [gA, Act.put]
   refine tk (i := 2) (v := ?_) rfl (Or.inl ⟨by rfl, ?_⟩) hHeld ?_
   rotate_left 1
   ·(intro w hSw; (try dsimp only at hSw); go_simp; try with_reducible rfl)
   try simp only [gA, Act.put]
   refine tk (i := 6) (v := ?_) rfl (Or.inl ⟨by rfl, ?_⟩) hHeld ?_
   rotate_left 1
   ·(intro w hSw; (try dsimp only at hSw); go_simp; try with_reducible rfl)
   try simp only [gA, Act.put]
   refine tk (i := 7) (v := ?_) rfl (Or.inl ⟨by rfl, ?_⟩) hHeld ?_
   rotate_left 1
   ·(intro w hSw; (try dsimp only at hSw); go_simp; try with_reducible rfl)
   try simp only [gA, Act.put]
   refine tk (i := 8) (v := ?_) rfl (Or.inl ⟨by rfl, ?_⟩) hHeld ?_
   rotate_left 1
   ·(intro w hSw; (try dsimp only at hSw); go_simp; try with_reducible rfl)
   try simp only [gA, Act.put]
   refine tk (i := 9) (v := ?_) rfl (Or.inl ⟨by rfl, ?_⟩) hHeld ?_
   rotate_left 1
   ·(intro w hSw; (try dsimp only at hSw); go_simp; try with_reducible rfl)
   try simp only [gA, Act.put]
   refine wpAnyH_ready (rs := [3]) (by kernel_rfl) (by simp) ?_
   refine AllReadyH.cons rfl (fun K hK => ?_) AllReadyH.nil
   go_simp
   go_at_call 46
   refine (DG.out _).mono ?_
   rintro e wq ⟨rfl, hbq⟩
   go_wp2_with fail
   refine hK.out _ _ ?_ (fun hHeld => ?_)
   ·exact cB hbq hHeld
   clear hK K
   try simp only [gA, Act.put]
   refine tk (i := 4) (v := ?_) rfl (Or.inl ⟨by rfl, ?_⟩) hHeld ?_
   rotate_left 1
   ·(intro w hSw; (try dsimp only at hSw); go_simp; try with_reducible rfl)
   try simp only [gA, Act.put]
   refine tk (i := 5) (v := ?_) rfl (Or.inl ⟨by rfl, ?_⟩) hHeld ?_
   rotate_left 1
   ·(intro w hSw; (try dsimp only at hSw); go_simp; try with_reducible rfl)
   try simp only [gA, Act.put]
   refine tk (i := 10) (v := ?_) rfl (Or.inl ⟨by rfl, ?_⟩) hHeld ?_
   rotate_left 1
   ·(intro w hSw; (try dsimp only at hSw); go_simp; try with_reducible rfl)
   try simp only [gA, Act.put]
   refine tk (i := 11) (v := ?_) rfl (Or.inl ⟨by rfl, ?_⟩) hHeld ?_
   rotate_left 1
   ·(intro w hSw; (try dsimp only at hSw); go_simp; try with_reducible rfl)
   try simp only [gA, Act.put]
   refine tk (i := 12) (v := ?_) rfl (Or.inl ⟨by rfl, ?_⟩) hHeld ?_
   rotate_left 1
   ·(intro w hSw; (try dsimp only at hSw); go_simp; try with_reducible rfl)
   try simp only [gA, Act.put]
   refine wpAnyH_done (by kernel_rfl) ?_ _
   rotate_left 1
   all_goals
    go_wp2
    go_roundg (l.length - (k + 1))
    case measure => omega
    case rel =>
     refine ⟨k + 1, t ++ ib ++ ⟨#[32]⟩ ++ y ++ ⟨#[10]⟩, by omega, by omega, by go_num, by rfl, ?_, (show textL 0 (l.take (k + 1)) = _ from ?_), (show Below w.heap.size w wq from below2 (belowD BW.out) hbq)⟩
     ·simp only [ByteArray.size_append]
      have e1 : (⟨#[32]⟩ : ByteArray).size = 1 := rfl
      have e2 : (⟨#[10]⟩ : ByteArray).size = 1 := rfl
      omega
     ·rw [List.take_succ_eq_append_getElem hlt, textL_snoc, TT.out, ← HY.out, List.length_take, Nat.min_eq_left hk, Nat.zero_add]
      have e3 : ib.data.toList = Lib.itoa ((k : Int) + 1) := by rw [← HIB.out]; rfl
      simp [e3]
  ·have hli : ¬ (k : Int) < (l.length : Int) := by omega
   have hke : l.take k = l := List.take_of_length_le (by omega)
   have TT2 := Lib.hid (show textL 0 l = t.data.toList from by have := TT.out; rwa [hke] at this)
   clear hke
   go_wp2
   go_ret
   exact ⟨ret_str (by unfold textB; rw [TT2.out]), BW.out⟩
end Go.Proofs.YtcnpbcgkhhebaaaGreatDoor
/- The examples' text and seasons, as the law makes them. -/
namespace Go.Proofs.YtcnpbcgkhhebaaaGreatDoor
open Go.RowKit

def exTs : List ByteArray := [⟨#[109, 97, 114, 107, 32, 55, 32, 97, 98, 101]⟩, ⟨#[109, 97, 114, 107, 32, 53, 32, 98, 99, 100]⟩, ⟨#[108, 111, 103, 32, 49, 32, 97, 101, 32, 49, 50, 48]⟩, ⟨#[108, 111, 103, 32, 50, 32, 98, 32, 52, 53]⟩, ⟨#[108, 111, 103, 32, 51, 32, 45, 32, 57]⟩, ⟨#[99, 108, 97, 105, 109, 32, 50, 32, 53]⟩, ⟨#[114, 97, 102, 116, 32, 55, 32, 50]⟩, ⟨#[112, 97, 121, 32, 55, 32, 49, 48]⟩, ⟨#[115, 116, 114, 105, 107, 101, 32, 50]⟩, ⟨#[109, 97, 114, 107, 32, 53, 32, 98, 101]⟩, ⟨#[99, 108, 97, 105, 109, 32, 51, 32, 55]⟩, ⟨#[115, 116, 114, 105, 107, 101, 32, 49, 49]⟩, ⟨#[108, 111, 103, 32, 52, 32, 98, 101, 32, 51, 48, 48]⟩, ⟨#[115, 116, 114, 105, 107, 101, 32, 54]⟩]
def exUs : List ByteArray := [⟨#[109, 97, 114, 107, 32, 51, 32, 97]⟩, ⟨#[109, 97, 114, 107, 32, 52, 32, 97]⟩, ⟨#[108, 111, 103, 32, 57, 32, 97, 32, 56]⟩, ⟨#[115, 116, 114, 105, 107, 101, 32, 49]⟩]
theorem lit_T (w : World) : Rd eS 1 (w.alloc (.cells #[.string ⟨#[109, 97, 114, 107, 32, 55, 32, 97, 98, 101]⟩, .string ⟨#[109, 97, 114, 107, 32, 53, 32, 98, 99, 100]⟩, .string ⟨#[108, 111, 103, 32, 49, 32, 97, 101, 32, 49, 50, 48]⟩, .string ⟨#[108, 111, 103, 32, 50, 32, 98, 32, 52, 53]⟩, .string ⟨#[108, 111, 103, 32, 51, 32, 45, 32, 57]⟩, .string ⟨#[99, 108, 97, 105, 109, 32, 50, 32, 53]⟩, .string ⟨#[114, 97, 102, 116, 32, 55, 32, 50]⟩, .string ⟨#[112, 97, 121, 32, 55, 32, 49, 48]⟩, .string ⟨#[115, 116, 114, 105, 107, 101, 32, 50]⟩, .string ⟨#[109, 97, 114, 107, 32, 53, 32, 98, 101]⟩, .string ⟨#[99, 108, 97, 105, 109, 32, 51, 32, 55]⟩, .string ⟨#[115, 116, 114, 105, 107, 101, 32, 49, 49]⟩, .string ⟨#[108, 111, 103, 32, 52, 32, 98, 101, 32, 51, 48, 48]⟩, .string ⟨#[115, 116, 114, 105, 107, 101, 32, 54]⟩] 9)) (some ⟨w.heap.size, 0, none⟩) 14 exTs := (Own.lit encS w 9 exTs #[.string ⟨#[109, 97, 114, 107, 32, 55, 32, 97, 98, 101]⟩, .string ⟨#[109, 97, 114, 107, 32, 53, 32, 98, 99, 100]⟩, .string ⟨#[108, 111, 103, 32, 49, 32, 97, 101, 32, 49, 50, 48]⟩, .string ⟨#[108, 111, 103, 32, 50, 32, 98, 32, 52, 53]⟩, .string ⟨#[108, 111, 103, 32, 51, 32, 45, 32, 57]⟩, .string ⟨#[99, 108, 97, 105, 109, 32, 50, 32, 53]⟩, .string ⟨#[114, 97, 102, 116, 32, 55, 32, 50]⟩, .string ⟨#[112, 97, 121, 32, 55, 32, 49, 48]⟩, .string ⟨#[115, 116, 114, 105, 107, 101, 32, 50]⟩, .string ⟨#[109, 97, 114, 107, 32, 53, 32, 98, 101]⟩, .string ⟨#[99, 108, 97, 105, 109, 32, 51, 32, 55]⟩, .string ⟨#[115, 116, 114, 105, 107, 101, 32, 49, 49]⟩, .string ⟨#[108, 111, 103, 32, 52, 32, 98, 101, 32, 51, 48, 48]⟩, .string ⟨#[115, 116, 114, 105, 107, 101, 32, 54]⟩] rfl (by decide)).rs encS
theorem lit_U (w : World) : Rd eS 1 (w.alloc (.cells #[.string ⟨#[109, 97, 114, 107, 32, 51, 32, 97]⟩, .string ⟨#[109, 97, 114, 107, 32, 52, 32, 97]⟩, .string ⟨#[108, 111, 103, 32, 57, 32, 97, 32, 56]⟩, .string ⟨#[115, 116, 114, 105, 107, 101, 32, 49]⟩] 9)) (some ⟨w.heap.size, 0, none⟩) 4 exUs := (Own.lit encS w 9 exUs #[.string ⟨#[109, 97, 114, 107, 32, 51, 32, 97]⟩, .string ⟨#[109, 97, 114, 107, 32, 52, 32, 97]⟩, .string ⟨#[108, 111, 103, 32, 57, 32, 97, 32, 56]⟩, .string ⟨#[115, 116, 114, 105, 107, 101, 32, 49]⟩] rfl (by decide)).rs encS
set_option maxRecDepth 100000 in
set_option maxHeartbeats 1000000 in
theorem text53_any (w : World) : Calls Tryz.prog 53 #[] w fun e w' => e = .returned (.string (textB exTs)) ∧ Below w.heap.size w w' := by
 have hc := Lib.hid (text_any _ _ exTs _ (lit_T w) (by decide) (by decide))
 go_enter Tryz.func53, Tryz.ntmps53
 go_wp2_with fail
 refine hc.out.mono ?_
 rintro e w1 ⟨rfl, hb⟩
 have HB := Lib.hid (below2 (below_a1 _ _) hb)
 clear hb hc
 obtain ⟨t, ht⟩ : ∃ t, textB exTs = t := ⟨_, rfl⟩
 rw [ht]
 have HT := Lib.hid ht
 clear ht
 go_wp2
 go_ret
 exact ⟨by rw [HT.out]; rfl, HB.out⟩
theorem textU_any (w : World) (n : Nat) (hn : n = w.heap.size) : Calls Tryz.prog 52 #[.slice (some ⟨n, 0, none⟩) 4 4] (w.alloc (.cells #[.string ⟨#[109, 97, 114, 107, 32, 51, 32, 97]⟩, .string ⟨#[109, 97, 114, 107, 32, 52, 32, 97]⟩, .string ⟨#[108, 111, 103, 32, 57, 32, 97, 32, 56]⟩, .string ⟨#[115, 116, 114, 105, 107, 101, 32, 49]⟩] 9)) fun e w' => e = .returned (.string (textB exUs)) ∧ Below (w.alloc (.cells #[.string ⟨#[109, 97, 114, 107, 32, 51, 32, 97]⟩, .string ⟨#[109, 97, 114, 107, 32, 52, 32, 97]⟩, .string ⟨#[108, 111, 103, 32, 57, 32, 97, 32, 56]⟩, .string ⟨#[115, 116, 114, 105, 107, 101, 32, 49]⟩] 9)).heap.size (w.alloc (.cells #[.string ⟨#[109, 97, 114, 107, 32, 51, 32, 97]⟩, .string ⟨#[109, 97, 114, 107, 32, 52, 32, 97]⟩, .string ⟨#[108, 111, 103, 32, 57, 32, 97, 32, 56]⟩, .string ⟨#[115, 116, 114, 105, 107, 101, 32, 49]⟩] 9)) w' := by
 subst hn
 exact text_any _ _ exUs _ (lit_U w) (by decide) (by decide)
set_option maxHeartbeats 1000000 in
theorem owner55_any (n p : Int) (m : ByteArray) (w : World) : Calls Tryz.prog 55 #[.int .i64 n, .string m, .int .i64 p] w fun e w' => e = .returned (.agg (eO ⟨n, m, p⟩).toArray) ∧ Below w.heap.size w w' := by
 go_enter Tryz.func55, Tryz.ntmps55
 go_wp2
 refine bodyPost_ret (v := .agg (eO ⟨n, m, p⟩).toArray) (by simp [results, Tryz.f55, go_sem, eO]) rfl ?_
 exact ⟨rfl, below_a1 _ _⟩
set_option maxHeartbeats 1000000 in
theorem log56_any (n f o : Int) (s : ByteArray) (g : Bool) (w : World) : Calls Tryz.prog 56 #[.int .i64 n, .string s, .int .i64 f, .int .i64 o, .bool g] w fun e w' => e = .returned (.agg (eL ⟨n, s, f, o, g⟩).toArray) ∧ Below w.heap.size w w' := by
 go_enter Tryz.func56, Tryz.ntmps56
 go_wp2
 refine bodyPost_ret (v := .agg (eL ⟨n, s, f, o, g⟩).toArray) (by simp [results, Tryz.f56, go_sem, eL]) rfl ?_
 exact ⟨rfl, below_a1 _ _⟩

set_option maxRecDepth 100000 in
set_option maxHeartbeats 4000000 in
theorem end54_any (w : World) : Calls Tryz.prog 54 #[] w fun e w' => (∃ v, e = .returned v ∧ SeaO w.heap.size w' v [⟨5, ⟨#[98, 99, 100]⟩, 0⟩, ⟨7, ⟨#[97, 98, 101]⟩, 10⟩] [⟨1, ⟨#[97, 101]⟩, 120, 7, false⟩, ⟨2, ⟨#[98]⟩, 45, 0, false⟩, ⟨3, ⟨#[]⟩, 9, 0, false⟩, ⟨4, ⟨#[98, 101]⟩, 300, 7, false⟩]) ∧ Below w.heap.size w w' := by
 go_enter Tryz.func54, Tryz.ntmps54
 have B0 := Lib.hid (Below.refl (w.alloc (.cells #[.slice none 0 0, .slice none 0 0] 26)).heap.size (w.alloc (.cells #[.slice none 0 0, .slice none 0 0] 26)))
 go_wp2_with fail
 refine (owner55_any 5 0 ⟨#[98, 99, 100]⟩ _).mono ?_
 rintro e w1 ⟨rfl, hb1⟩
 have B1 := Lib.hid (below2 B0.out hb1)
 clear hb1
 simp only [eO]
 go_wp2_with fail
 refine (owner55_any 7 10 ⟨#[97, 98, 101]⟩ _).mono ?_
 rintro e w2 ⟨rfl, hb2⟩
 have B2 := Lib.hid (below2 B1.out hb2)
 clear hb2
 simp only [eO]
 have O1 := Lib.hid (Own.lit encO w2 73 [⟨5, ⟨#[98, 99, 100]⟩, 0⟩, ⟨7, ⟨#[97, 98, 101]⟩, 10⟩] #[.int .i64 5, .string ⟨#[98, 99, 100]⟩, .int .i64 0, .int .i64 7, .string ⟨#[97, 98, 101]⟩, .int .i64 10] rfl (by simp))
 have hz1 := B2.out.size
 have BA := Lib.hid (belowA B2.out (.cells #[.int .i64 5, .string ⟨#[98, 99, 100]⟩, .int .i64 0, .int .i64 7, .string ⟨#[97, 98, 101]⟩, .int .i64 10] 73))
 go_wp2_with fail
 refine (log56_any 1 120 7 ⟨#[97, 101]⟩ false _).mono ?_
 rintro e w3 ⟨rfl, hb3⟩
 have B3 := Lib.hid (below2 BA.out hb3)
 have O2 := Lib.hid (O1.out.below hb3)
 clear hb3
 simp only [eL]
 go_wp2_with fail
 refine (log56_any 2 45 0 ⟨#[98]⟩ false _).mono ?_
 rintro e w4 ⟨rfl, hb4⟩
 have B4 := Lib.hid (below2 B3.out hb4)
 have O3 := Lib.hid (O2.out.below hb4)
 clear hb4
 simp only [eL]
 go_wp2_with fail
 refine (log56_any 3 9 0 ⟨#[]⟩ false _).mono ?_
 rintro e w5 ⟨rfl, hb5⟩
 have B5 := Lib.hid (below2 B4.out hb5)
 have O4 := Lib.hid (O3.out.below hb5)
 clear hb5
 simp only [eL]
 go_wp2_with fail
 refine (log56_any 4 300 7 ⟨#[98, 101]⟩ false _).mono ?_
 rintro e w6 ⟨rfl, hb6⟩
 have B6 := Lib.hid (below2 B5.out hb6)
 have O5 := Lib.hid (O4.out.below hb6)
 clear hb6
 simp only [eL]
 have S0 := Lib.hid ((B6.out.block _ (by simp)).trans (heap_alloc_new w (.cells #[.slice none 0 0, .slice none 0 0] 26)))
 have hz2 := B6.out.size
 have c0 : w6.cell? ⟨w.heap.size, 0, none⟩ = some (.slice none 0 0) := by rw [cell_of_row _ _ _ _ _ _ S0.out]; rfl
 have c1 : w6.cell? ⟨w.heap.size, 1, none⟩ = some (.slice none 0 0) := by rw [cell_of_row _ _ _ _ _ _ S0.out]; rfl
 have f0 : w6.frozen? ⟨w.heap.size, 0, none⟩ = false := by simp [World.frozen?, S0.out]
 have f1 : w6.frozen? ⟨w.heap.size, 1, none⟩ = false := by simp [World.frozen?, S0.out]
 have hlt : w.heap.size < w6.heap.size := (Array.getElem?_eq_some_iff.1 S0.out).1
 rw [World.size_alloc] at hz1 hz2
 go_wp2
 obtain ⟨W5, hW5⟩ : ∃ W5, (w6.setCell ⟨w.heap.size, 0, none⟩ (.slice (some ⟨w2.heap.size, 0, none⟩) 2 2)).setCell ⟨w.heap.size, 1, none⟩ (.slice (some ⟨w6.heap.size, 0, none⟩) 4 4) = W5 := ⟨_, rfl⟩
 rw [hW5]
 obtain ⟨k0, k1, hg5⟩ := two_cells (W := W5.drew) S0.out (by rw [← hW5])
 have hg6 : w6.grownBy W5 (some w.heap.size) := ⟨hg5.os, hg5.tape, hg5.output, hg5.size, hg5.block⟩
 have hzz : W5.heap.size = w6.heap.size := by rw [← hW5]; simp [World.setCell]
 have k0' : W5.cell? ⟨w.heap.size, 0, none⟩ = some (.slice (some ⟨w2.heap.size, 0, none⟩) 2 2) := k0
 have k1' : W5.cell? ⟨w.heap.size, 1, none⟩ = some (.slice (some ⟨w6.heap.size, 0, none⟩) 4 4) := k1
 have hne : ∀ r, some w.heap.size = some r → ∃ cs t f, w6.heap[r]? = some (.cells cs t f) ∧ t = 26 := fun r e => by cases e; exact ⟨_, _, _, S0.out, rfl⟩
 have B2 : Below w.heap.size w w6 := below2 (below_a1 w (.cells #[.slice none 0 0, .slice none 0 0] 26)) B6.out
 have P1 := Own.lit encL W5 69 [⟨1, ⟨#[97, 101]⟩, 120, 7, false⟩, ⟨2, ⟨#[98]⟩, 45, 0, false⟩, ⟨3, ⟨#[]⟩, 9, 0, false⟩, ⟨4, ⟨#[98, 101]⟩, 300, 7, false⟩] #[.int .i64 1, .string ⟨#[97, 101]⟩, .int .i64 120, .int .i64 7, .bool false, .int .i64 2, .string ⟨#[98]⟩, .int .i64 45, .int .i64 0, .bool false, .int .i64 3, .string ⟨#[]⟩, .int .i64 9, .int .i64 0, .bool false, .int .i64 4, .string ⟨#[98, 101]⟩, .int .i64 300, .int .i64 7, .bool false] rfl (by simp)
 have Q1 := (O5.out.other hg6 (fun r e => by obtain ⟨cs, t, f, h, rfl⟩ := hne r e; exact ⟨_, _, _, h, by decide⟩)).below (below_a1 W5 (.cells #[.int .i64 1, .string ⟨#[97, 101]⟩, .int .i64 120, .int .i64 7, .bool false, .int .i64 2, .string ⟨#[98]⟩, .int .i64 45, .int .i64 0, .bool false, .int .i64 3, .string ⟨#[]⟩, .int .i64 9, .int .i64 0, .bool false, .int .i64 4, .string ⟨#[98, 101]⟩, .int .i64 300, .int .i64 7, .bool false] 69))
 rw [hzz] at P1
 have k2 := cA k0' (.cells #[.int .i64 1, .string ⟨#[97, 101]⟩, .int .i64 120, .int .i64 7, .bool false, .int .i64 2, .string ⟨#[98]⟩, .int .i64 45, .int .i64 0, .bool false, .int .i64 3, .string ⟨#[]⟩, .int .i64 9, .int .i64 0, .bool false, .int .i64 4, .string ⟨#[98, 101]⟩, .int .i64 300, .int .i64 7, .bool false] 69)
 have k3 := cA k1' (.cells #[.int .i64 1, .string ⟨#[97, 101]⟩, .int .i64 120, .int .i64 7, .bool false, .int .i64 2, .string ⟨#[98]⟩, .int .i64 45, .int .i64 0, .bool false, .int .i64 3, .string ⟨#[]⟩, .int .i64 9, .int .i64 0, .bool false, .int .i64 4, .string ⟨#[98, 101]⟩, .int .i64 300, .int .i64 7, .bool false] 69)
 clear k0 k1 k0' k1' hW5 hg5
 refine bodyPost_ret (v := .agg #[.slice (some ⟨w2.heap.size, 0, none⟩) 2 2, .slice (some ⟨w6.heap.size, 0, none⟩) 4 4]) (by simp [results, Tryz.f54, go_sem, k2, k3]) rfl ?_
 exact ⟨⟨_, rfl, ⟨_, _, _, _, rfl, Q1.mono (by omega), P1.mono (by omega)⟩⟩, (B2.grown hg6 B2.size (fun r e => by cases e; exact Nat.le_refl _)).alloc (by rw [hzz]; exact B2.size) _⟩

set_option maxRecDepth 100000 in
set_option maxHeartbeats 4000000 in
theorem small57_any (p : Int) (w : World) : Calls Tryz.prog 57 #[.int .i64 p] w fun e w' => (∃ v, e = .returned v ∧ SeaO w.heap.size w' v [⟨3, ⟨#[97]⟩, p⟩] [⟨9, ⟨#[97]⟩, 8, 3, true⟩]) ∧ Below w.heap.size w w' := by
 go_enter Tryz.func57, Tryz.ntmps57
 have B0 := Lib.hid (Below.refl (w.alloc (.cells #[.slice none 0 0, .slice none 0 0] 26)).heap.size (w.alloc (.cells #[.slice none 0 0, .slice none 0 0] 26)))
 go_wp2_with fail
 refine (owner55_any 3 p ⟨#[97]⟩ _).mono ?_
 rintro e w1 ⟨rfl, hb1⟩
 have B1 := Lib.hid (below2 B0.out hb1)
 clear hb1
 simp only [eO]
 have O1 := Lib.hid (Own.lit encO w1 73 [⟨3, ⟨#[97]⟩, p⟩] #[.int .i64 3, .string ⟨#[97]⟩, .int .i64 p] rfl (by simp))
 have hz1 := B1.out.size
 have BA := Lib.hid (belowA B1.out (.cells #[.int .i64 3, .string ⟨#[97]⟩, .int .i64 p] 73))
 go_wp2_with fail
 refine (log56_any 9 8 3 ⟨#[97]⟩ true _).mono ?_
 rintro e w2 ⟨rfl, hb2⟩
 have B2 := Lib.hid (below2 BA.out hb2)
 have O2 := Lib.hid (O1.out.below hb2)
 clear hb2
 simp only [eL]
 have S0 := Lib.hid ((B2.out.block _ (by simp)).trans (heap_alloc_new w (.cells #[.slice none 0 0, .slice none 0 0] 26)))
 have hz2 := B2.out.size
 have c0 : w2.cell? ⟨w.heap.size, 0, none⟩ = some (.slice none 0 0) := by rw [cell_of_row _ _ _ _ _ _ S0.out]; rfl
 have c1 : w2.cell? ⟨w.heap.size, 1, none⟩ = some (.slice none 0 0) := by rw [cell_of_row _ _ _ _ _ _ S0.out]; rfl
 have f0 : w2.frozen? ⟨w.heap.size, 0, none⟩ = false := by simp [World.frozen?, S0.out]
 have f1 : w2.frozen? ⟨w.heap.size, 1, none⟩ = false := by simp [World.frozen?, S0.out]
 have hlt : w.heap.size < w2.heap.size := (Array.getElem?_eq_some_iff.1 S0.out).1
 rw [World.size_alloc] at hz1 hz2
 go_wp2
 obtain ⟨W5, hW5⟩ : ∃ W5, (w2.setCell ⟨w.heap.size, 0, none⟩ (.slice (some ⟨w1.heap.size, 0, none⟩) 1 1)).setCell ⟨w.heap.size, 1, none⟩ (.slice (some ⟨w2.heap.size, 0, none⟩) 1 1) = W5 := ⟨_, rfl⟩
 rw [hW5]
 obtain ⟨k0, k1, hg5⟩ := two_cells (W := W5.drew) S0.out (by rw [← hW5])
 have hg6 : w2.grownBy W5 (some w.heap.size) := ⟨hg5.os, hg5.tape, hg5.output, hg5.size, hg5.block⟩
 have hzz : W5.heap.size = w2.heap.size := by rw [← hW5]; simp [World.setCell]
 have k0' : W5.cell? ⟨w.heap.size, 0, none⟩ = some (.slice (some ⟨w1.heap.size, 0, none⟩) 1 1) := k0
 have k1' : W5.cell? ⟨w.heap.size, 1, none⟩ = some (.slice (some ⟨w2.heap.size, 0, none⟩) 1 1) := k1
 have hne : ∀ r, some w.heap.size = some r → ∃ cs t f, w2.heap[r]? = some (.cells cs t f) ∧ t = 26 := fun r e => by cases e; exact ⟨_, _, _, S0.out, rfl⟩
 have B2 : Below w.heap.size w w2 := below2 (below_a1 w (.cells #[.slice none 0 0, .slice none 0 0] 26)) B2.out
 have P1 := Own.lit encL W5 69 [⟨9, ⟨#[97]⟩, 8, 3, true⟩] #[.int .i64 9, .string ⟨#[97]⟩, .int .i64 8, .int .i64 3, .bool true] rfl (by simp)
 have Q1 := (O2.out.other hg6 (fun r e => by obtain ⟨cs, t, f, h, rfl⟩ := hne r e; exact ⟨_, _, _, h, by decide⟩)).below (below_a1 W5 (.cells #[.int .i64 9, .string ⟨#[97]⟩, .int .i64 8, .int .i64 3, .bool true] 69))
 rw [hzz] at P1
 have k2 := cA k0' (.cells #[.int .i64 9, .string ⟨#[97]⟩, .int .i64 8, .int .i64 3, .bool true] 69)
 have k3 := cA k1' (.cells #[.int .i64 9, .string ⟨#[97]⟩, .int .i64 8, .int .i64 3, .bool true] 69)
 clear k0 k1 k0' k1' hW5 hg5
 refine bodyPost_ret (v := .agg #[.slice (some ⟨w1.heap.size, 0, none⟩) 1 1, .slice (some ⟨w2.heap.size, 0, none⟩) 1 1]) (by simp [results, Tryz.f57, go_sem, k2, k3]) rfl ?_
 exact ⟨⟨_, rfl, ⟨_, _, _, _, rfl, Q1.mono (by omega), P1.mono (by omega)⟩⟩, (B2.grown hg6 B2.size (fun r e => by cases e; exact Nat.le_refl _)).alloc (by rw [hzz]; exact B2.size) _⟩
end Go.Proofs.YtcnpbcgkhhebaaaGreatDoor
