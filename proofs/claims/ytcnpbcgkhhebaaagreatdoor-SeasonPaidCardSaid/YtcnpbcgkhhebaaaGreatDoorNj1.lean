/- What the laws over owners, logs and files lean on. -/
import Derived.Test.YtcnpbcgkhhebaaaGreatDoorMi6
import Derived.Lib.MinMax
/- Is a season great? -/
namespace Go.Proofs.YtcnpbcgkhhebaaaGreatDoor
open Go.RowKit

def mxN (l : List Nat) (n : Nat) : Nat := l.foldl max n
theorem mxN_ge (l : List Nat) (n : Nat) : n ≤ mxN l n ∧ ∀ x ∈ l, x ≤ mxN l n := by
 induction l generalizing n with
 | nil => exact ⟨Nat.le_refl _, fun x hx => by cases hx⟩
 | cons a l ih =>
  obtain ⟨h1, h2⟩ := ih (max n a)
  have e : mxN (a :: l) n = mxN l (max n a) := rfl
  rw [e]
  refine ⟨by omega, fun x hx => ?_⟩
  rcases List.mem_cons.1 hx with rfl | hx
  ·omega
  ·exact h2 x hx
theorem mxN_snoc {l : List Nat} {k : Nat} (hk : k < l.length) (n : Nat) : mxN (l.take (k + 1)) n = max (mxN (l.take k) n) l[k] := by
 unfold mxN
 rw [List.take_succ_eq_append_getElem hk, List.foldl_append]
 rfl
def markN (os : List Ow) : List Nat := os.map (·.mark.size)
def seenN (ls : List Lg) : List Nat := ls.map (·.seen.size)
def topN (os : List Ow) (ls : List Lg) : Nat := mxN ((seenN ls).take 110) (mxN ((markN os).take 30) 0)
def greatS (os : List Ow) (ls : List Lg) : Bool := decide (os.length > 30) || decide (ls.length > 110) || decide (topN os ls > 20)
theorem not_great {os : List Ow} {ls : List Lg} (h : greatS os ls = false) : os.length ≤ 30 ∧ ls.length ≤ 110 ∧ (∀ x ∈ os, x.mark.size ≤ 20) ∧ ∀ l ∈ ls, l.seen.size ≤ 20 := by
 unfold greatS topN at h
 simp only [Bool.or_eq_false_iff, decide_eq_false_iff_not] at h
 obtain ⟨⟨h1, h2⟩, h3⟩ := h
 rw [List.take_of_length_le (by unfold seenN; rw [List.length_map]; omega), List.take_of_length_le (by unfold markN; rw [List.length_map]; omega)] at h3
 have a := mxN_ge (markN os) 0
 have b := mxN_ge (seenN ls) (mxN (markN os) 0)
 refine ⟨by omega, by omega, fun x hx => ?_, fun l hl => ?_⟩
 ·have := a.2 x.mark.size (List.mem_map_of_mem hx)
  omega
 ·have := b.2 l.seen.size (List.mem_map_of_mem hl)
  omega
theorem g_t {a b c : Nat} (h : a > 30 ∨ b > 110 ∨ c > 20) : Ending.returned (.bool true) = Ending.returned (.bool (decide (a > 30) || decide (b > 110) || decide (c > 20))) := by
 congr 2
 rw [eq_comm, Bool.or_eq_true, Bool.or_eq_true, decide_eq_true_eq, decide_eq_true_eq, decide_eq_true_eq]
 omega
theorem g_d {a b c : Nat} (h : ¬ a > 30) (h2 : ¬ b > 110) : Ending.returned (.bool (decide ((c : Int) > 20))) = Ending.returned (.bool (decide (a > 30) || decide (b > 110) || decide (c > 20))) := by
 rw [decide_eq_false h, decide_eq_false h2]
 congr 2
 exact decide_eq_decide.2 (by omega)
theorem g_e (a b c : Nat) : Ending.returned (.bool (decide (30 < (a : Int)) || decide (110 < (b : Int)) || decide (20 < (c : Int)))) = Ending.returned (.bool (decide (a > 30) || decide (b > 110) || decide (c > 20))) := by
 congr 2
 congr 1
 ·congr 1
  ·exact decide_eq_decide.2 (by omega)
  ·exact decide_eq_decide.2 (by omega)
 ·exact decide_eq_decide.2 (by omega)
set_option maxRecDepth 100000 in
set_option maxHeartbeats 4000000 in
theorem great_any (A : Option Addr) (c : Nat) (os : List Ow) (A2 : Option Addr) (c2 : Nat) (ls : List Lg) (w : World) (hr : Rd eO 3 w A c os) (hr2 : Rd eL 5 w A2 c2 ls)
  (hm : ∀ x ∈ os, x.mark.size ≤ 9223372036854775807) (hs : ∀ l ∈ ls, l.seen.size ≤ 9223372036854775807) :
  Calls Tryz.prog 29 #[.agg #[.slice A os.length c, .slice A2 ls.length c2]] w fun e w' => e = .returned (.bool (greatS os ls)) ∧ Below w.heap.size w w' := by
 have HR := Lib.hid (hr.below (below_a1 w (.cells #[.slice A os.length c, .slice A2 ls.length c2] 26)))
 have HR2 := Lib.hid (hr2.below (below_a1 w (.cells #[.slice A os.length c, .slice A2 ls.length c2] 26)))
 have HM := Lib.hid hm
 have HS := Lib.hid hs
 have hlen := hr.len
 have hlen2 := hr2.len
 clear hr hr2 hm hs
 go_enter Tryz.func29, Tryz.ntmps29
 go_wp2
 go_loopg [3, 4] 30 (fun gg s3 s4 wr => ∃ k n : Nat, k ≤ os.length ∧ k ≤ 30 ∧ 30 - k ≤ gg ∧ s4 = .int .i64 k ∧ s3 = .int .i64 n ∧ n ≤ 9223372036854775807 ∧ Hid (Below (w.alloc (.cells #[.slice A os.length c, .slice A2 ls.length c2] 26)).heap.size (w.alloc (.cells #[.slice A os.length c, .slice A2 ls.length c2] 26)) wr) ∧ Hid (n = mxN ((markN os).take k) 0))
 case atStart => exact ⟨0, 0, Nat.zero_le _, by omega, by omega, rfl, rfl, by omega, Below.refl _ _, rfl⟩
 case round =>
  obtain ⟨k, n, hk, hk30, hg, rfl, rfl, hn, BW, NN⟩ := hrel
  have k0 : wr.cell? ⟨w.heap.size, 0, none⟩ = some (.slice A os.length c) := cB BW.out (by go_simp)
  have k1 : wr.cell? ⟨w.heap.size, 1, none⟩ = some (.slice A2 ls.length c2) := cB BW.out (by go_simp)
  by_cases hlt : k < os.length
  ·have hli : (k : Int) < (os.length : Int) := by omega
   by_cases h30 : k < 30
   ·have h30i : (k : Int) < 30 := by omega
    obtain ⟨b, off, x, hx, rfl, hb, -, x1, -⟩ := (HR.out.below BW.out).atO hlt
    have hxs := HM.out x (by rw [hx]; exact List.getElem_mem hlt)
    have hnn : max n x.mark.size = mxN ((markN os).take (k + 1)) 0 := by
     rw [mxN_snoc (by unfold markN; rw [List.length_map]; exact hlt), ← NN.out]
     unfold markN
     rw [List.getElem_map, hx]
    have HNN := Lib.hid hnn
    clear hnn hx
    go_wp2
    go_roundg (30 - (k + 1))
    case measure => omega
    case rel => exact ⟨k + 1, max n x.mark.size, by omega, by omega, by omega, by go_num, by congr 1; omega, by omega, BW.out, HNN.out⟩
   ·have h30i : ¬ (k : Int) < 30 := by omega
    have NF := Lib.hid (show n = mxN ((markN os).take 30) 0 by rw [NN.out, show k = 30 by omega])
    go_wp2
    go_loopg [3, 5] 110 (fun gg s3 s5 wr => ∃ j m : Nat, j ≤ ls.length ∧ j ≤ 110 ∧ 110 - j ≤ gg ∧ s5 = .int .i64 j ∧ s3 = .int .i64 m ∧ m ≤ 9223372036854775807 ∧ Hid (Below (w.alloc (.cells #[.slice A os.length c, .slice A2 ls.length c2] 26)).heap.size (w.alloc (.cells #[.slice A os.length c, .slice A2 ls.length c2] 26)) wr) ∧ Hid (m = mxN ((seenN ls).take j) (mxN ((markN os).take 30) 0)))
    case atStart => exact ⟨0, n, Nat.zero_le _, by omega, by omega, rfl, rfl, hn, BW.out, NF.out⟩
    case round =>
     obtain ⟨j, m, hj, hj110, hg2, rfl, rfl, hm, BV, MM⟩ := hrel
     have q0 : wr.cell? ⟨w.heap.size, 0, none⟩ = some (.slice A os.length c) := cB BV.out (by go_simp)
     have q1 : wr.cell? ⟨w.heap.size, 1, none⟩ = some (.slice A2 ls.length c2) := cB BV.out (by go_simp)
     have HFIN : ∀ (r : Nat), j = r → (r = ls.length ∨ 110 ≤ r) → Hid (greatS os ls = (decide (os.length > 30) || decide (ls.length > 110) || decide (m > 20))) := by
      intro r hr0 hr1
      subst hr0
      refine Lib.hid ?_
      have : m = topN os ls := by
       rw [MM.out]
       unfold topN
       congr 1
       rcases hr1 with h | h
       ·rw [List.take_of_length_le (by unfold seenN; rw [List.length_map]; omega), List.take_of_length_le (by unfold seenN; rw [List.length_map]; omega)]
       ·rw [show j = 110 by omega]
      rw [this]
      rfl
     by_cases hjl : j < ls.length
     ·have hjli : (j : Int) < (ls.length : Int) := by omega
      by_cases h110 : j < 110
      ·have h110i : (j : Int) < 110 := by omega
       clear HFIN
       obtain ⟨b, off, y, hy, rfl, hb, -, y1, -⟩ := (HR2.out.below BV.out).atL hjl
       have hys := HS.out y (by rw [hy]; exact List.getElem_mem hjl)
       have hmm : max m y.seen.size = mxN ((seenN ls).take (j + 1)) (mxN ((markN os).take 30) 0) := by
        rw [mxN_snoc (by unfold seenN; rw [List.length_map]; exact hjl), ← MM.out]
        unfold seenN
        rw [List.getElem_map, hy]
       have HMM := Lib.hid hmm
       clear hmm hy
       go_wp2
       go_roundg (110 - (j + 1))
       case measure => omega
       case rel => exact ⟨j + 1, max m y.seen.size, by omega, by omega, by omega, by go_num, by congr 1; omega, by omega, BV.out, HMM.out⟩
      ·have h110i : ¬ (j : Int) < 110 := by omega
       have HG := HFIN j rfl (Or.inr (by omega))
       clear HFIN
       go_wp2
       all_goals
        go_ret
        refine ⟨?_, below2 (below_a1 _ _) BV.out⟩
        rw [HG.out]
        first
        | exact g_e _ _ _
        | (refine g_t ?_; omega)
        | (refine g_d ?_ ?_ <;> omega)
     ·have hjli : ¬ (j : Int) < (ls.length : Int) := by omega
      have HG := HFIN j rfl (Or.inl (by omega))
      clear HFIN
      go_wp2
      all_goals
       go_ret
       refine ⟨?_, below2 (below_a1 _ _) BV.out⟩
       rw [HG.out]
       first
       | exact g_e _ _ _
       | (refine g_t ?_; omega)
       | (refine g_d ?_ ?_ <;> omega)
  ·have hli : ¬ (k : Int) < (os.length : Int) := by omega
   have NF := Lib.hid (show n = mxN ((markN os).take 30) 0 by rw [NN.out, List.take_of_length_le (by unfold markN; rw [List.length_map]; omega), List.take_of_length_le (by unfold markN; rw [List.length_map]; omega)])
   go_wp2
   go_loopg [3, 5] 110 (fun gg s3 s5 wr => ∃ j m : Nat, j ≤ ls.length ∧ j ≤ 110 ∧ 110 - j ≤ gg ∧ s5 = .int .i64 j ∧ s3 = .int .i64 m ∧ m ≤ 9223372036854775807 ∧ Hid (Below (w.alloc (.cells #[.slice A os.length c, .slice A2 ls.length c2] 26)).heap.size (w.alloc (.cells #[.slice A os.length c, .slice A2 ls.length c2] 26)) wr) ∧ Hid (m = mxN ((seenN ls).take j) (mxN ((markN os).take 30) 0)))
   case atStart => exact ⟨0, n, Nat.zero_le _, by omega, by omega, rfl, rfl, hn, BW.out, NF.out⟩
   case round =>
    obtain ⟨j, m, hj, hj110, hg2, rfl, rfl, hm, BV, MM⟩ := hrel
    have q0 : wr.cell? ⟨w.heap.size, 0, none⟩ = some (.slice A os.length c) := cB BV.out (by go_simp)
    have q1 : wr.cell? ⟨w.heap.size, 1, none⟩ = some (.slice A2 ls.length c2) := cB BV.out (by go_simp)
    have HFIN : ∀ (r : Nat), j = r → (r = ls.length ∨ 110 ≤ r) → Hid (greatS os ls = (decide (os.length > 30) || decide (ls.length > 110) || decide (m > 20))) := by
     intro r hr0 hr1
     subst hr0
     refine Lib.hid ?_
     have : m = topN os ls := by
      rw [MM.out]
      unfold topN
      congr 1
      rcases hr1 with h | h
      ·rw [List.take_of_length_le (by unfold seenN; rw [List.length_map]; omega), List.take_of_length_le (by unfold seenN; rw [List.length_map]; omega)]
      ·rw [show j = 110 by omega]
     rw [this]
     rfl
    by_cases hjl : j < ls.length
    ·have hjli : (j : Int) < (ls.length : Int) := by omega
     by_cases h110 : j < 110
     ·have h110i : (j : Int) < 110 := by omega
      clear HFIN
      obtain ⟨b, off, y, hy, rfl, hb, -, y1, -⟩ := (HR2.out.below BV.out).atL hjl
      have hys := HS.out y (by rw [hy]; exact List.getElem_mem hjl)
      have hmm : max m y.seen.size = mxN ((seenN ls).take (j + 1)) (mxN ((markN os).take 30) 0) := by
       rw [mxN_snoc (by unfold seenN; rw [List.length_map]; exact hjl), ← MM.out]
       unfold seenN
       rw [List.getElem_map, hy]
      have HMM := Lib.hid hmm
      clear hmm hy
      go_wp2
      go_roundg (110 - (j + 1))
      case measure => omega
      case rel => exact ⟨j + 1, max m y.seen.size, by omega, by omega, by omega, by go_num, by congr 1; omega, by omega, BV.out, HMM.out⟩
     ·have h110i : ¬ (j : Int) < 110 := by omega
      have HG := HFIN j rfl (Or.inr (by omega))
      clear HFIN
      go_wp2
      all_goals
       go_ret
       refine ⟨?_, below2 (below_a1 _ _) BV.out⟩
       rw [HG.out]
       first
       | exact g_e _ _ _
       | (refine g_t ?_; omega)
       | (refine g_d ?_ ?_ <;> omega)
    ·have hjli : ¬ (j : Int) < (ls.length : Int) := by omega
     have HG := HFIN j rfl (Or.inl (by omega))
     clear HFIN
     go_wp2
     all_goals
      go_ret
      refine ⟨?_, below2 (below_a1 _ _) BV.out⟩
      rw [HG.out]
      first
      | exact g_e _ _ _
      | (refine g_t ?_; omega)
      | (refine g_d ?_ ?_ <;> omega)
end Go.Proofs.YtcnpbcgkhhebaaaGreatDoor
/- The document: whose marks can be worn, what is owed, which logs are here. -/
namespace Go.Proofs.YtcnpbcgkhhebaaaGreatDoor
open Go.RowKit

/-- A season's marks, and what is seen of its logs, are strings. -/
structure Szs (os : List Ow) (ls : List Lg) : Prop where
 m : ∀ x ∈ os, x.mark.size ≤ 9223372036854775807
 s : ∀ l ∈ ls, l.seen.size ≤ 9223372036854775807
theorem ret2_nil {α : Type} {enc : α → List Value} {e sz base : Nat} {w : World} {n : Int} : OwnR2 enc e sz base w (.returned (.tuple #[.slice none 0 0, .int .i64 n])) [] n := ⟨none, 0, rfl, Own.nil_ _ _ _ _ _⟩

set_option maxRecDepth 100000 in
set_option maxHeartbeats 4000000 in
theorem worn2E_any (A : Option Addr) (c : Nat) (os : List Ow) (A2 : Option Addr) (c2 : Nat) (ls : List Lg) (seen : ByteArray) (w : World) (hr : Rd eO 3 w A c os) (hr2 : Rd eL 5 w A2 c2 ls) (hz : Szs os ls) (hs : seen.size ≤ 9223372036854775807) :
  Calls Tryz.prog 37 #[.agg #[.slice A os.length c, .slice A2 ls.length c2], .string seen] w fun e w' => OwnR2 eI 2 1 w.heap.size w' e (wornE os ls seen).1 (wornE os ls seen).2 ∧ Below w.heap.size w w' := by
 have B0 := below_a1 w (.cells #[.slice A os.length c, .slice A2 ls.length c2] 26)
 have CK := Lib.hid (fun W (hB : Below (w.alloc (.cells #[.slice A os.length c, .slice A2 ls.length c2] 26)).heap.size (w.alloc (.cells #[.slice A os.length c, .slice A2 ls.length c2] 26)) W) => check2_any A c os A2 c2 ls W (hr.below (below2 B0 hB)) (hr2.below (below2 B0 hB)) hz.m hz.s)
 have CS := Lib.hid (fun W (hB : Below (w.alloc (.cells #[.slice A os.length c, .slice A2 ls.length c2] 26)).heap.size (w.alloc (.cells #[.slice A os.length c, .slice A2 ls.length c2] 26)) W) => (⟨cB hB (by go_simp), cB hB (by go_simp), below2 B0 hB⟩ : W.cell? ⟨w.heap.size, 0, none⟩ = some (.slice A os.length c) ∧ W.cell? ⟨w.heap.size, 1, none⟩ = some (.slice A2 ls.length c2) ∧ Below w.heap.size w W))
 by_cases h0 : checkS os ls = 0
 ·have h20 := checkS_len h0
  have WO := Lib.hid (fun W (hB : Below (w.alloc (.cells #[.slice A os.length c, .slice A2 ls.length c2] 26)).heap.size (w.alloc (.cells #[.slice A os.length c, .slice A2 ls.length c2] 26)) W) => wornOf_any A c os (.slice A2 ls.length c2) seen W (hr.below (below2 B0 hB)) (by omega) hz.m hs)
  rw [h0] at CK
  obtain ⟨L, hL⟩ : ∃ L, (os.filter fun x => wearsB x.mark seen).map (·.num) = L := ⟨_, rfl⟩
  rw [hL] at WO
  have HL := Lib.hid (show wornS os seen = L from hL)
  clear hL
  have SE := Lib.hid (fun W => isSeen2_any seen W hs)
  have H0 := Lib.hid h0
  clear h0 h20 hr hr2 hz hs B0
  go_enter Tryz.func37, Tryz.ntmps37
  go_wp2_with fail
  refine (CK.out _ (Below.refl _ _)).mono ?_
  rintro e w1 ⟨rfl, hb1⟩
  obtain ⟨k0, k1, -⟩ := CS.out _ hb1
  have HB1 := Lib.hid hb1
  clear hb1
  go_wp2_with fail
  refine (SE.out _).mono ?_
  cases hq : isSeenB seen with
  | true =>
   have HQ := Lib.hid hq
   clear hq
   rintro e w2 ⟨rfl, hb2⟩
   have HB2 := Lib.hid (below2 HB1.out hb2)
   obtain ⟨k0, k1, -⟩ := CS.out _ HB2.out
   clear hb2
   go_wp2_with fail
   refine (WO.out _ HB2.out).mono ?_
   rintro e w3 ⟨⟨A3, c3, rfl, ho⟩, hb3⟩
   have HO := Lib.hid ho
   obtain ⟨-, -, hbw⟩ := CS.out _ (below2 HB2.out hb3)
   have HBW := Lib.hid hbw
   have hle := HB2.out.size
   clear ho hb3 hbw
   go_wp2
   go_ret2
   have e1 : wornE os ls seen = (L, 0) := by unfold wornE; rw [if_neg (fun h => h H0.out), HQ.out, HL.out]; rfl
   rw [e1]
   exact ⟨⟨A3, c3, rfl, HO.out.mono (by simp only [World.size_alloc] at hle; omega)⟩, HBW.out⟩
  | false =>
   have HQ := Lib.hid hq
   clear hq
   rintro e w2 ⟨rfl, hb2⟩
   obtain ⟨-, -, hbw⟩ := CS.out _ (below2 HB1.out hb2)
   have HBW := Lib.hid hbw
   clear hb2 hbw
   go_wp2
   go_ret2
   have e1 : wornE os ls seen = ([], 8) := by unfold wornE; rw [if_neg (fun h => h H0.out), HQ.out]; rfl
   rw [e1]
   exact ⟨ret2_nil, HBW.out⟩
 ·have hd : (checkS os ls != 0) = true := by simp [h0]
  have e1 : wornE os ls seen = ([], checkS os ls) := by unfold wornE; rw [if_pos h0]
  have E1 := Lib.hid e1
  obtain ⟨r, hrr⟩ : ∃ r, checkS os ls = r := ⟨_, rfl⟩
  rw [hrr] at CK hd E1
  clear h0 hrr hr hr2 hz hs B0 e1
  go_enter Tryz.func37, Tryz.ntmps37
  go_wp2_with fail
  refine (CK.out _ (Below.refl _ _)).mono ?_
  rintro e w1 ⟨rfl, hb1⟩
  obtain ⟨k0, k1, -⟩ := CS.out _ hb1
  have HB1 := Lib.hid hb1
  clear hb1
  go_wp2_with fail
  refine (CK.out _ HB1.out).mono ?_
  rintro e w2 ⟨rfl, hb2⟩
  obtain ⟨-, -, hbw⟩ := CS.out _ (below2 HB1.out hb2)
  have HBW := Lib.hid hbw
  clear hb2 hbw
  go_wp2
  go_ret2
  rw [E1.out]
  exact ⟨ret2_nil, HBW.out⟩
set_option maxRecDepth 100000 in
set_option maxHeartbeats 4000000 in
theorem here2_any (A : Option Addr) (c : Nat) (os : List Ow) (A2 : Option Addr) (c2 : Nat) (ls : List Lg) (n : Int) (w : World) (hr : Rd eO 3 w A c os) (hr2 : Rd eL 5 w A2 c2 ls) (hz : Szs os ls) :
  Calls Tryz.prog 41 #[.agg #[.slice A os.length c, .slice A2 ls.length c2], .int .i64 n] w fun e w' => OwnR2 eI 2 1 w.heap.size w' e (hereS os ls n).1 (hereS os ls n).2 ∧ Below w.heap.size w w' := by
 have B0 := below_a1 w (.cells #[.slice A os.length c, .slice A2 ls.length c2] 26)
 have CK := Lib.hid (fun W (hB : Below (w.alloc (.cells #[.slice A os.length c, .slice A2 ls.length c2] 26)).heap.size (w.alloc (.cells #[.slice A os.length c, .slice A2 ls.length c2] 26)) W) => check2_any A c os A2 c2 ls W (hr.below (below2 B0 hB)) (hr2.below (below2 B0 hB)) hz.m hz.s)
 have CS := Lib.hid (fun W (hB : Below (w.alloc (.cells #[.slice A os.length c, .slice A2 ls.length c2] 26)).heap.size (w.alloc (.cells #[.slice A os.length c, .slice A2 ls.length c2] 26)) W) => (⟨cB hB (by go_simp), cB hB (by go_simp), below2 B0 hB⟩ : W.cell? ⟨w.heap.size, 0, none⟩ = some (.slice A os.length c) ∧ W.cell? ⟨w.heap.size, 1, none⟩ = some (.slice A2 ls.length c2) ∧ Below w.heap.size w W))
 by_cases h0 : checkS os ls = 0
 ·have h20 := checkS_len h0
  have OA := Lib.hid (fun W (hB : Below (w.alloc (.cells #[.slice A os.length c, .slice A2 ls.length c2] 26)).heap.size (w.alloc (.cells #[.slice A os.length c, .slice A2 ls.length c2] 26)) W) => ownerAt_any A c os (.slice A2 ls.length c2) n W (hr.below (below2 B0 hB)))
  have HE := Lib.hid (fun W (hB : Below (w.alloc (.cells #[.slice A os.length c, .slice A2 ls.length c2] 26)).heap.size (w.alloc (.cells #[.slice A os.length c, .slice A2 ls.length c2] 26)) W) => hereOf_any (.slice A os.length c) A2 c2 ls n W (hr2.below (below2 B0 hB)) (by omega))
  rw [h0] at CK
  have H0 := Lib.hid h0
  obtain ⟨i, hi⟩ : ∃ i, ownIx os n = i := ⟨_, rfl⟩
  rw [hi] at OA
  have HI := Lib.hid hi
  clear h0 h20 hr hr2 hz B0 hi
  go_enter Tryz.func41, Tryz.ntmps41
  go_wp2_with fail
  refine (CK.out _ (Below.refl _ _)).mono ?_
  rintro e w1 ⟨rfl, hb1⟩
  obtain ⟨k0, k1, -⟩ := CS.out _ hb1
  have HB1 := Lib.hid hb1
  clear hb1
  go_wp2_with fail
  refine (OA.out _ HB1.out).mono ?_
  rintro e w2 ⟨rfl, hb2⟩
  have HB2 := Lib.hid (below2 HB1.out hb2)
  obtain ⟨k0, k1, hbw⟩ := CS.out _ HB2.out
  have HBW2 := Lib.hid hbw
  clear hb2 hbw
  by_cases hneg : i < 0
  ·have hd : decide (i < 0) = true := decide_eq_true hneg
   have HN := Lib.hid hneg
   go_wp2
   go_ret2
   have e1 : hereS os ls n = ([], 5) := by unfold hereS; rw [if_neg (fun h => h H0.out), HI.out, if_pos HN.out]
   rw [e1]
   exact ⟨ret2_nil, HBW2.out⟩
  ·have hd : decide (i < 0) = false := decide_eq_false hneg
   have HN := Lib.hid hneg
   go_wp2_with fail
   refine (HE.out _ HB2.out).mono ?_
   rintro e w3 ⟨⟨A3, c3, rfl, ho⟩, hb3⟩
   have HO := Lib.hid ho
   obtain ⟨-, -, hbw⟩ := CS.out _ (below2 HB2.out hb3)
   have HBW := Lib.hid hbw
   have hle := HB2.out.size
   clear ho hb3 hbw
   go_wp2
   go_ret2
   have e1 : hereS os ls n = (hereN n ls, 0) := by unfold hereS; rw [if_neg (fun h => h H0.out), HI.out, if_neg (by have := HN.out; omega)]
   rw [e1]
   exact ⟨⟨A3, c3, rfl, HO.out.mono (by simp only [World.size_alloc] at hle; omega)⟩, HBW.out⟩
 ·have hd : (checkS os ls != 0) = true := by simp [h0]
  have e1 : hereS os ls n = ([], checkS os ls) := by unfold hereS; rw [if_pos h0]
  have E1 := Lib.hid e1
  obtain ⟨r, hrr⟩ : ∃ r, checkS os ls = r := ⟨_, rfl⟩
  rw [hrr] at CK hd E1
  clear h0 hrr hr hr2 hz B0 e1
  go_enter Tryz.func41, Tryz.ntmps41
  go_wp2_with fail
  refine (CK.out _ (Below.refl _ _)).mono ?_
  rintro e w1 ⟨rfl, hb1⟩
  obtain ⟨k0, k1, -⟩ := CS.out _ hb1
  have HB1 := Lib.hid hb1
  clear hb1
  go_wp2_with fail
  refine (CK.out _ HB1.out).mono ?_
  rintro e w2 ⟨rfl, hb2⟩
  obtain ⟨-, -, hbw⟩ := CS.out _ (below2 HB1.out hb2)
  have HBW := Lib.hid hbw
  clear hb2 hbw
  go_wp2
  go_ret2
  rw [E1.out]
  exact ⟨ret2_nil, HBW.out⟩
set_option maxRecDepth 100000 in
set_option maxHeartbeats 4000000 in
theorem owed2_any (A : Option Addr) (c : Nat) (os : List Ow) (A2 : Option Addr) (c2 : Nat) (ls : List Lg) (n : Int) (w : World) (hr : Rd eO 3 w A c os) (hr2 : Rd eL 5 w A2 c2 ls) (hz : Szs os ls) :
  Calls Tryz.prog 39 #[.agg #[.slice A os.length c, .slice A2 ls.length c2], .int .i64 n] w fun e w' => e = .returned (.tuple #[.int .i64 (owedS os ls n).1, .int .i64 (owedS os ls n).2]) ∧ Below w.heap.size w w' := by
 have B0 := below_a1 w (.cells #[.slice A os.length c, .slice A2 ls.length c2] 26)
 have CK := Lib.hid (fun W (hB : Below (w.alloc (.cells #[.slice A os.length c, .slice A2 ls.length c2] 26)).heap.size (w.alloc (.cells #[.slice A os.length c, .slice A2 ls.length c2] 26)) W) => check2_any A c os A2 c2 ls W (hr.below (below2 B0 hB)) (hr2.below (below2 B0 hB)) hz.m hz.s)
 have CS := Lib.hid (fun W (hB : Below (w.alloc (.cells #[.slice A os.length c, .slice A2 ls.length c2] 26)).heap.size (w.alloc (.cells #[.slice A os.length c, .slice A2 ls.length c2] 26)) W) => (⟨cB hB (by go_simp), cB hB (by go_simp), below2 B0 hB⟩ : W.cell? ⟨w.heap.size, 0, none⟩ = some (.slice A os.length c) ∧ W.cell? ⟨w.heap.size, 1, none⟩ = some (.slice A2 ls.length c2) ∧ Below w.heap.size w W))
 by_cases h0 : checkS os ls = 0
 ·have h20 := checkS_len h0
  have OA := Lib.hid (fun W (hB : Below (w.alloc (.cells #[.slice A os.length c, .slice A2 ls.length c2] 26)).heap.size (w.alloc (.cells #[.slice A os.length c, .slice A2 ls.length c2] 26)) W) => ownerAt_any A c os (.slice A2 ls.length c2) n W (hr.below (below2 B0 hB)))
  have FE := Lib.hid (fun W (hB : Below (w.alloc (.cells #[.slice A os.length c, .slice A2 ls.length c2] 26)).heap.size (w.alloc (.cells #[.slice A os.length c, .slice A2 ls.length c2] 26)) W) => feesOf_any (.slice A os.length c) A2 c2 ls n W (hr2.below (below2 B0 hB)) (feet_ok h0) (by omega))
  have RO := Lib.hid (fun W (hB : Below (w.alloc (.cells #[.slice A os.length c, .slice A2 ls.length c2] 26)).heap.size (w.alloc (.cells #[.slice A os.length c, .slice A2 ls.length c2] 26)) W) => hr.below (below2 B0 hB))
  rw [h0] at CK
  have H0 := Lib.hid h0
  have hri := (checkO_ok (checkS_ok h0).2.2.2.2.2.2).1
  by_cases hneg : ownIx os n < 0
  ·obtain ⟨i, hi⟩ : ∃ i, ownIx os n = i := ⟨_, rfl⟩
   rw [hi] at OA hneg
   have HI := Lib.hid hi
   clear h0 h20 hr hr2 hz B0 hi hri
   go_enter Tryz.func39, Tryz.ntmps39
   go_wp2_with fail
   refine (CK.out _ (Below.refl _ _)).mono ?_
   rintro e w1 ⟨rfl, hb1⟩
   obtain ⟨k0, k1, -⟩ := CS.out _ hb1
   have HB1 := Lib.hid hb1
   clear hb1
   go_wp2_with fail
   refine (OA.out _ HB1.out).mono ?_
   rintro e w2 ⟨rfl, hb2⟩
   have HB2 := Lib.hid (below2 HB1.out hb2)
   obtain ⟨k0, k1, hbw⟩ := CS.out _ HB2.out
   have HBW2 := Lib.hid hbw
   clear hb2 hbw
   have hd : decide (i < 0) = true := decide_eq_true hneg
   have HN := Lib.hid hneg
   go_wp2
   go_ret2
   have e1 : owedS os ls n = (0, 5) := by unfold owedS; rw [if_neg (fun h => h H0.out), HI.out, if_pos HN.out]
   rw [e1]
   exact ⟨rfl, HBW2.out⟩
  obtain ⟨i, hi, hil, hin⟩ := idxI_at (p := fun x : Ow => x.num == n) (xs := os) (show 0 ≤ ownIx os n from Int.not_lt.1 hneg)
  have hin' : os[i].num = n := by simpa using hin
  have hff := fees_at hri ls hil
  rw [hin'] at hff
  have hpd := paid_ok h0 hil
  have hfb := feeAt_bd (os := os) (feet_ok h0) (i : Int)
  have e1 : owedS os ls n = (feeAt os ls i - os[i].paid, 0) := by
   unfold owedS
   rw [if_neg (fun h => h h0), if_neg hneg, show ownIx os n = (i : Int) from hi]
   unfold paidAt
   rw [Int.toNat_natCast, List.getElem?_eq_getElem hil]
  obtain ⟨f, hf⟩ : ∃ f, feeAt os ls i = f := ⟨_, rfl⟩
  have hi2 : ownIx os n = (i : Int) := hi
  rw [hff, hf] at FE
  rw [hf] at hfb hpd e1
  rw [hi2] at OA
  have E1 := Lib.hid e1
  have hsub : IntKind.i64.wrap (f - os[i].paid) = f - os[i].paid := IntWalk.i64_in _ (by omega)
  have HSUB := Lib.hid hsub
  clear hneg hi hin hin' hff h0 hr hr2 hz B0 hri hf hi2 e1 hpd hfb hsub
  go_enter Tryz.func39, Tryz.ntmps39
  go_wp2_with fail
  refine (CK.out _ (Below.refl _ _)).mono ?_
  rintro e w1 ⟨rfl, hb1⟩
  obtain ⟨k0, k1, -⟩ := CS.out _ hb1
  have HB1 := Lib.hid hb1
  clear hb1
  go_wp2_with fail
  refine (OA.out _ HB1.out).mono ?_
  rintro e w3 ⟨rfl, hb2⟩
  have HB2 := Lib.hid (below2 HB1.out hb2)
  obtain ⟨k03, k13, -⟩ := CS.out _ HB2.out
  obtain ⟨b, off, y, hy, rfl, hb, d0, d1, k23⟩ := (RO.out _ HB2.out).atO hil
  rw [← hy] at E1 HSUB
  have OW := Lib.hid (fun W (hB : Below w3.heap.size w3 W) => OA.out W (below2 HB2.out hB))
  have FE2 := FE
  clear FE
  have FE := Lib.hid (fun W (hB : Below w3.heap.size w3 W) => FE2.out W (below2 HB2.out hB))
  have hsub := HSUB.out
  clear hb2 d0 d1 hy OA FE2
  obtain ⟨num, mark, paid⟩ := y
  simp only at k23 E1 hsub
  have hii : (i : Int) < (os.length : Int) := by omega
  have hi0 : ¬ (i : Int) < 0 := by omega
  have hd : decide ((i : Int) < 0) = false := decide_eq_false hi0
  go_wp2_with fail
  refine wp_region_held_drew (S := fun W => Below w3.heap.size w3 W) (by kernel_rfl) ?_ (fun hHeld => ?_)
  ·exact belowD (Below.refl _ _)
  refine tk (i := 0) (v := ?_) rfl (Or.inl ⟨by rfl, ?_⟩) hHeld ?_
  rotate_left 1
  ·(intro w hSw; (try dsimp only at hSw); have u0 := cB hSw k03; have u1 := cB hSw k13; have u2 := cB hSw k23; go_simp; try with_reducible rfl)
  try simp only [gA, Act.put]
  refine tk (i := 1) (v := ?_) rfl (Or.inl ⟨by rfl, ?_⟩) hHeld ?_
  rotate_left 1
  ·(intro w hSw; (try dsimp only at hSw); have u0 := cB hSw k03; have u1 := cB hSw k13; have u2 := cB hSw k23; go_simp; try with_reducible rfl)
  try simp only [gA, Act.put]
  refine tk (i := 3) (v := ?_) rfl (Or.inl ⟨by rfl, ?_⟩) hHeld ?_
  rotate_left 1
  ·(intro w hSw; (try dsimp only at hSw); have u0 := cB hSw k03; have u1 := cB hSw k13; have u2 := cB hSw k23; go_simp; try with_reducible rfl)
  try simp only [gA, Act.put]
  refine tk (i := 4) (v := ?_) rfl (Or.inl ⟨by rfl, ?_⟩) hHeld ?_
  rotate_left 1
  ·(intro w hSw; (try dsimp only at hSw); have u0 := cB hSw k03; have u1 := cB hSw k13; have u2 := cB hSw k23; go_simp; try with_reducible rfl)
  try simp only [gA, Act.put]
  refine tk (i := 5) (v := ?_) rfl (Or.inl ⟨by rfl, ?_⟩) hHeld ?_
  rotate_left 1
  ·(intro w hSw; (try dsimp only at hSw); have u0 := cB hSw k03; have u1 := cB hSw k13; have u2 := cB hSw k23; go_simp; try with_reducible rfl)
  try simp only [gA, Act.put]
  refine tk (i := 6) (v := ?_) rfl (Or.inl ⟨by rfl, ?_⟩) hHeld ?_
  rotate_left 1
  ·(intro w hSw; (try dsimp only at hSw); have u0 := cB hSw k03; have u1 := cB hSw k13; have u2 := cB hSw k23; go_simp; try with_reducible rfl)
  try simp only [gA, Act.put]
  refine wpAnyH_ready (rs := [2]) (by kernel_rfl) (by simp) ?_
  refine AllReadyH.cons rfl (fun K hK => ?_) AllReadyH.nil
  go_simp
  go_at_call 92
  refine (FE.out _ hHeld).mono ?_
  rintro e wq ⟨rfl, hbq⟩
  go_wp2_with fail
  refine hK.out _ _ ?_ (fun hHeld => ?_)
  ·exact below2 hHeld hbq
  clear hK K
  try simp only [gA, Act.put]
  refine wpAnyH_ready (rs := [7]) (by kernel_rfl) (by simp) ?_
  refine AllReadyH.cons rfl (fun K hK => ?_) AllReadyH.nil
  go_simp
  go_at_call 91
  refine (OW.out _ hHeld).mono ?_
  rintro e wq ⟨rfl, hbq⟩
  go_wp2_with fail
  refine hK.out _ _ ?_ (fun hHeld => ?_)
  ·exact below2 hHeld hbq
  clear hK K
  try simp only [gA, Act.put]
  refine tk (i := 8) (v := ?_) rfl (Or.inl ⟨by rfl, ?_⟩) hHeld ?_
  rotate_left 1
  ·(intro w hSw; (try dsimp only at hSw); have u0 := cB hSw k03; have u1 := cB hSw k13; have u2 := cB hSw k23; go_simp; try with_reducible rfl)
  try simp only [gA, Act.put]
  refine tk (i := 9) (v := ?_) rfl (Or.inl ⟨by rfl, ?_⟩) hHeld ?_
  rotate_left 1
  ·(intro w hSw; (try dsimp only at hSw); have u0 := cB hSw k03; have u1 := cB hSw k13; have u2 := cB hSw k23; go_simp; try with_reducible rfl)
  try simp only [gA, Act.put]
  refine tk (i := 10) (v := ?_) rfl (Or.inl ⟨by rfl, ?_⟩) hHeld ?_
  rotate_left 1
  ·(intro w hSw; (try dsimp only at hSw); have u0 := cB hSw k03; have u1 := cB hSw k13; have u2 := cB hSw k23; go_simp; try with_reducible rfl)
  try simp only [gA, Act.put]
  refine tk (i := 11) (v := ?_) rfl (Or.inl ⟨by rfl, ?_⟩) hHeld ?_
  rotate_left 1
  ·(intro w hSw; (try dsimp only at hSw); have u0 := cB hSw k03; have u1 := cB hSw k13; have u2 := cB hSw k23; go_simp; try with_reducible rfl)
  try simp only [gA, Act.put]
  refine tk (i := 12) (v := ?_) rfl (Or.inl ⟨by rfl, ?_⟩) hHeld ?_
  rotate_left 1
  ·(intro w hSw; (try dsimp only at hSw); have u0 := cB hSw k03; have u1 := cB hSw k13; have u2 := cB hSw k23; go_simp; try with_reducible rfl)
  try simp only [gA, Act.put]
  refine tk (i := 13) (v := ?_) rfl (Or.inl ⟨by rfl, ?_⟩) hHeld ?_
  rotate_left 1
  ·(intro w hSw; (try dsimp only at hSw); have u0 := cB hSw k03; have u1 := cB hSw k13; have u2 := cB hSw k23; go_simp; try with_reducible rfl)
  try simp only [gA, Act.put]
  refine wpAnyH_done (by kernel_rfl) ?_ _
  rotate_left 1
  all_goals
   have BX := (CS.out _ (below2 HB2.out (by assumption))).2.2
   go_wp2
   go_ret2
   rw [E1.out]
   exact ⟨rfl, BX⟩
 ·have hd : (checkS os ls != 0) = true := by simp [h0]
  have e1 : owedS os ls n = (0, checkS os ls) := by unfold owedS; rw [if_pos h0]
  have E1 := Lib.hid e1
  obtain ⟨r, hrr⟩ : ∃ r, checkS os ls = r := ⟨_, rfl⟩
  rw [hrr] at CK hd E1
  clear h0 hrr hr hr2 hz B0 e1
  go_enter Tryz.func39, Tryz.ntmps39
  go_wp2_with fail
  refine (CK.out _ (Below.refl _ _)).mono ?_
  rintro e w1 ⟨rfl, hb1⟩
  obtain ⟨k0, k1, -⟩ := CS.out _ hb1
  have HB1 := Lib.hid hb1
  clear hb1
  go_wp2_with fail
  refine (CK.out _ HB1.out).mono ?_
  rintro e w2 ⟨rfl, hb2⟩
  obtain ⟨-, -, hbw⟩ := CS.out _ (below2 HB1.out hb2)
  have HBW := Lib.hid hbw
  clear hb2 hbw
  go_wp2
  go_ret2
  rw [E1.out]
  exact ⟨rfl, HBW.out⟩
end Go.Proofs.YtcnpbcgkhhebaaaGreatDoor
/- What all owners have paid, and owe, is the fees of all their logs. -/
namespace Go.Proofs.YtcnpbcgkhhebaaaGreatDoor
open Go.RowKit

set_option maxRecDepth 100000 in
set_option maxHeartbeats 4000000 in
theorem ow_any (A : Option Addr) (c : Nat) (os : List Ow) (A2 : Option Addr) (c2 : Nat) (ls : List Lg) (w : World) (hr : Rd eO 3 w A c os) (hr2 : Rd eL 5 w A2 c2 ls) (hv : Valid os ls) :
  Calls Tryz.prog 48 #[.agg #[.slice A os.length c, .slice A2 ls.length c2]] w fun e w' => e = .returned (.bool true) ∧ Below w.heap.size w w' := by
 have B0 := below_a1 w (.cells #[.slice A os.length c, .slice A2 ls.length c2] 26)
 have HB0 := Lib.hid B0
 have HR := Lib.hid (hr.below B0)
 have HR2 := Lib.hid (hr2.below B0)
 have HV := Lib.hid hv
 have hlen := hr.len
 have hlen2 := hr2.len
 have ho20 := hv.os20
 have hl100 := hv.ls100
 have OWC := Lib.hid (fun W (hB : Below (w.alloc (.cells #[.slice A os.length c, .slice A2 ls.length c2] 26)).heap.size (w.alloc (.cells #[.slice A os.length c, .slice A2 ls.length c2] 26)) W) n => owed_any A c os A2 c2 ls n W ((hr.below B0).below hB) ((hr2.below B0).below hB))
 clear hr hr2 hv B0
 go_enter Tryz.func48, Tryz.ntmps48
 go_wp2
 go_loopg [3, 4] os.length (fun gg s3 s4 wr => ∃ (k : Nat) (t : Int), k ≤ os.length ∧ os.length - k ≤ gg ∧ s4 = .int .i64 k ∧ s3 = .int .i64 t ∧ (0 ≤ t ∧ t ≤ 10000000) ∧ Hid (t = oweN os ls k) ∧ Hid (Below (w.alloc (.cells #[.slice A os.length c, .slice A2 ls.length c2] 26)).heap.size (w.alloc (.cells #[.slice A os.length c, .slice A2 ls.length c2] 26)) wr))
 case atStart => exact ⟨0, 0, Nat.zero_le _, by omega, rfl, rfl, by omega, (show (0 : Int) = oweN os ls 0 from rfl), Below.refl _ _⟩
 case round =>
  obtain ⟨k, t, hk, hg, rfl, rfl, ht, TT, BW⟩ := hrel
  have k0 : wr.cell? ⟨w.heap.size, 0, none⟩ = some (.slice A os.length c) := cB BW.out (by go_simp)
  have k1 : wr.cell? ⟨w.heap.size, 1, none⟩ = some (.slice A2 ls.length c2) := cB BW.out (by go_simp)
  by_cases hlt : k < os.length
  ·have hli : (k : Int) < (os.length : Int) := by omega
   have hk0 : (0 : Int) ≤ (k : Int) := by omega
   have hbd := owed_bd HV.out hlt
   have hpd := HV.out.paid _ (List.getElem_mem hlt)
   have how := owed_at HV.out hlt
   have hst := oweN_succ (ls := ls) hlt
   obtain ⟨b, off, x, hx, rfl, hb, x0, x1, x2⟩ := (HR.out.below BW.out).atO hlt
   rw [← hx] at hbd hpd how hst
   have OW := Lib.hid (fun W hB => OWC.out W hB x.num)
   rw [how] at OW
   obtain ⟨f, hf⟩ : ∃ f, feesOf ls x.num = f := ⟨_, rfl⟩
   rw [hf] at hbd hpd OW hst
   obtain ⟨num, mark, paid⟩ := x
   simp only at *
   have HST := Lib.hid hst
   have hn1 : ¬ f - paid < 0 := by omega
   have hn2 : ¬ (1099511627776 : Int) < f - paid := by omega
   have hw1 : IntKind.i64.wrap (f - paid + paid) = f := by rw [IntKind.wrap_i64]; omega
   have hw2 : IntKind.i64.wrap (t + f) = t + f := by rw [IntKind.wrap_i64]; omega
   clear how hst hf hx hb
   go_wp2
   refine wp_region_held_drew (S := fun W => Below wr.heap.size wr W ∧ W.cell? ⟨w.heap.size, 0, none⟩ = some (.slice (some ⟨b, off, none⟩) os.length c) ∧ W.cell? ⟨w.heap.size, 1, none⟩ = some (.slice A2 ls.length c2) ∧ W.cell? ⟨b, off + k * 3, none⟩ = some (.int .i64 num)) (by kernel_rfl) ?_ (fun hHeld => ?_)
   ·first | exact ⟨Below.refl _ _, k0, k1, x0⟩ | exact ⟨belowD (Below.refl _ _), k0, k1, x0⟩
   refine tk (i := 0) (v := ?_) rfl (Or.inl ⟨by rfl, ?_⟩) hHeld ?_
   rotate_left 1
   ·(intro w hSw; (try dsimp only at hSw); go_simp; try with_reducible rfl)
   try simp only [gA, Act.put]
   refine tk (i := 1) (v := ?_) rfl (Or.inl ⟨by rfl, ?_⟩) hHeld ?_
   rotate_left 1
   ·(intro w hSw; (try dsimp only at hSw); go_simp; try with_reducible rfl)
   try simp only [gA, Act.put]
   refine tk (i := 2) (v := ?_) rfl (Or.inl ⟨by rfl, ?_⟩) hHeld ?_
   rotate_left 1
   ·(intro w hSw; (try dsimp only at hSw); go_simp; try with_reducible rfl)
   try simp only [gA, Act.put]
   refine tk (i := 3) (v := ?_) rfl (Or.inl ⟨by rfl, ?_⟩) hHeld ?_
   rotate_left 1
   ·(intro w hSw; (try dsimp only at hSw); go_simp; try with_reducible rfl)
   try simp only [gA, Act.put]
   refine tk (i := 4) (v := ?_) rfl (Or.inl ⟨by rfl, ?_⟩) hHeld ?_
   rotate_left 1
   ·(intro w hSw; (try dsimp only at hSw); go_simp; try with_reducible rfl)
   try simp only [gA, Act.put]
   refine tk (i := 5) (v := ?_) rfl (Or.inl ⟨by rfl, ?_⟩) hHeld ?_
   rotate_left 1
   ·(intro w hSw; (try dsimp only at hSw); go_simp; try with_reducible rfl)
   try simp only [gA, Act.put]
   refine tk (i := 6) (v := ?_) rfl (Or.inl ⟨by rfl, ?_⟩) hHeld ?_
   rotate_left 1
   ·(intro w hSw; (try dsimp only at hSw); go_simp; try with_reducible rfl)
   try simp only [gA, Act.put]
   refine wpAnyH_ready (rs := [7]) (by kernel_rfl) (by simp) ?_
   refine AllReadyH.cons rfl (fun K hK => ?_) AllReadyH.nil
   go_simp
   go_at_call 38
   refine (OW.out _ (below2 BW.out hHeld.1)).mono ?_
   rintro e wq ⟨rfl, hbq⟩
   go_wp2_with fail
   refine hK.out _ _ ?_ (fun hHeld => ?_)
   ·exact ⟨below2 hHeld.1 hbq, cB hbq hHeld.2.1, cB hbq hHeld.2.2.1, cB hbq hHeld.2.2.2⟩
   clear hK K
   try simp only [gA, Act.put]
   refine tk (i := 8) (v := ?_) rfl (Or.inl ⟨by rfl, ?_⟩) hHeld ?_
   rotate_left 1
   ·(intro w hSw; (try dsimp only at hSw); go_simp; try with_reducible rfl)
   try simp only [gA, Act.put]
   refine tk (i := 9) (v := ?_) rfl (Or.inl ⟨by rfl, ?_⟩) hHeld ?_
   rotate_left 1
   ·(intro w hSw; (try dsimp only at hSw); go_simp; try with_reducible rfl)
   try simp only [gA, Act.put]
   refine tk (i := 10) (v := ?_) rfl (Or.inl ⟨by rfl, ?_⟩) hHeld ?_
   rotate_left 1
   ·(intro w hSw; (try dsimp only at hSw); go_simp; try with_reducible rfl)
   try simp only [gA, Act.put]
   refine tk (i := 11) (v := ?_) rfl (Or.inl ⟨by rfl, ?_⟩) hHeld ?_
   rotate_left 1
   ·(intro w hSw; (try dsimp only at hSw); go_simp; try with_reducible rfl)
   try simp only [gA, Act.put]
   refine tk (i := 12) (v := ?_) rfl (Or.inl ⟨by rfl, ?_⟩) hHeld ?_
   rotate_left 1
   ·(intro w hSw; (try dsimp only at hSw); go_simp; try with_reducible rfl)
   try simp only [gA, Act.put]
   refine wpAnyH_done (by kernel_rfl) ?_ _
   rotate_left 1
   all_goals
    have k0 := hHeld.2.1
    have k1 := hHeld.2.2.1
    have x2 := cB hHeld.1 x2
    have BW2 := Lib.hid (below2 BW.out hHeld.1)
    clear hHeld
    go_wp2
    go_roundg (os.length - (k + 1))
    case measure => omega
    case rel => exact ⟨k + 1, t + f, by omega, by omega, by go_num, by first | rfl | (congr 1; omega), by have := oweN_bd HV.out (k + 1) (by omega); have h2 := HST.out; have h3 := TT.out; omega, (show t + f = oweN os ls (k + 1) from by rw [HST.out, ← TT.out]), BW2.out⟩
  ·have hli : ¬ (k : Int) < (os.length : Int) := by omega
   have HT := Lib.hid (show t = feeN ls ls.length from by rw [TT.out, show k = os.length by omega, owed_sum HV.out])
   clear TT
   go_wp2
   go_loopg [3, 7] ls.length (fun gg s3 s7 wr2 => ∃ (j : Nat) (u : Int), j ≤ ls.length ∧ ls.length - j ≤ gg ∧ s7 = .int .i64 j ∧ s3 = .int .i64 u ∧ (-10000000 ≤ u ∧ u ≤ 10000000) ∧ Hid (u = t - feeN ls j) ∧ Hid (Below (w.alloc (.cells #[.slice A os.length c, .slice A2 ls.length c2] 26)).heap.size (w.alloc (.cells #[.slice A os.length c, .slice A2 ls.length c2] 26)) wr2))
   case atStart => exact ⟨0, t, Nat.zero_le _, by omega, rfl, rfl, by omega, (show t = t - feeN ls 0 from by simp [feeN]), BW.out⟩
   case round =>
    obtain ⟨j, u, hj, hg2, rfl, rfl, hu, UU, BV⟩ := hrel
    have q0 : wr.cell? ⟨w.heap.size, 0, none⟩ = some (.slice A os.length c) := cB BV.out (by go_simp)
    have q1 : wr.cell? ⟨w.heap.size, 1, none⟩ = some (.slice A2 ls.length c2) := cB BV.out (by go_simp)
    by_cases hjl : j < ls.length
    ·have hjli : (j : Int) < (ls.length : Int) := by omega
     have hj0 : (0 : Int) ≤ (j : Int) := by omega
     have hfe := HV.out.feet _ (List.getElem_mem hjl)
     have hst := feeN_succ hjl
     have hbd := feeN_bd HV.out.feet (j + 1) (by omega)
     have hbt := feeN_bd HV.out.feet ls.length (Nat.le_refl _)
     obtain ⟨b, off, y, hy, rfl, hb, y0, y1, y2, y3, y4⟩ := (HR2.out.below BV.out).atL hjl
     rw [← hy] at hfe hst
     by_cases h0 : y.own = 0
     ·rw [if_pos h0, Int.add_zero] at hst
      have hd0 : (y.own == 0) = true := by rw [h0]; rfl
      have HST := Lib.hid hst
      clear hst hy hb
      rw [h0] at y3
      go_wp2
      go_roundg (ls.length - (j + 1))
      case measure => omega
      case rel => exact ⟨j + 1, u, by omega, by omega, by go_num, rfl, hu, (show u = t - feeN ls (j + 1) from by rw [HST.out, UU.out]), BV.out⟩
     ·rw [if_neg h0] at hst
      have FE := Lib.hid (fun W => fee_any y hfe W)
      have hfb : 0 ≤ fee y ∧ fee y ≤ 1003 := by unfold fee; omega
      obtain ⟨f, hf⟩ : ∃ f, fee y = f := ⟨_, rfl⟩
      rw [hf] at FE hst hfb
      obtain ⟨num, seen, feet, own, gone⟩ := y
      simp only at *
      have hd0 : (own == 0) = false := by rw [beq_eq_false_iff_ne]; exact h0
      have HST := Lib.hid hst
      have hub := And.intro UU.out HT.out
      have hwr : IntKind.i64.wrap (u - f) = u - f := by rw [IntKind.wrap_i64]; omega
      have hub2 : -10000000 ≤ u - f ∧ u - f ≤ 10000000 := by have h2 := HST.out; have h3 := UU.out; have h4 := HT.out; omega
      simp only [eL] at FE
      clear hst hf hy hb hub
      go_wp2_with fail
      refine (FE.out _).mono ?_
      rintro e w1 ⟨rfl, hb1⟩
      have BV2 := Lib.hid (below2 BV.out hb1)
      clear hb1
      go_wp2
      go_roundg (ls.length - (j + 1))
      case measure => omega
      case rel => exact ⟨j + 1, u - f, by omega, by omega, by go_num, by first | rfl | (congr 1; omega), hub2, (show u - f = t - feeN ls (j + 1) from by rw [HST.out, UU.out]; omega), BV2.out⟩
    ·have hjli : ¬ (j : Int) < (ls.length : Int) := by omega
     have hz : u = 0 := by rw [UU.out, HT.out, show j = ls.length by omega]; omega
     subst hz
     go_wp2
     go_ret
     exact ⟨rfl, below2 HB0.out BV.out⟩
end Go.Proofs.YtcnpbcgkhhebaaaGreatDoor
/- A season's file and the season of a file, in plain data. -/
namespace Go.Proofs.YtcnpbcgkhhebaaaGreatDoor
open Go.RowKit

theorem parts_acc : ∀ (xs : List ByteArray), (∀ x ∈ xs, (10 : UInt8) ∉ x.data.toList) → parts 10 (accB xs).data.toList = xs.map (·.data.toList) ++ [[]]
 | [], _ => rfl
 | x :: r, h => by
  have ih := parts_acc r fun y hy => h y (List.mem_cons_of_mem _ hy)
  rw [accB_l] at ih ⊢
  rw [List.flatMap_cons, List.append_assoc, List.singleton_append, parts_app _ _ (h x List.mem_cons_self), ih]
  rfl
theorem loadL_cons (os : List Ow) (ls : List Lg) (p : List UInt8) (r : List (List UInt8)) (hr : r ≠ []) : loadL os ls (p :: r) = match loadS os ls (partsB (mkB p) ⟨#[32]⟩) with
  | none => none
  | some x => loadL x.1 x.2 r := by
 cases r with
 | nil => exact absurd rfl hr
 | cons q r => rw [loadL]; rfl
theorem partsB_join {P : List ByteArray} (hne : P ≠ []) (h : ∀ p ∈ P, (32 : UInt8) ∉ p.data.toList) : partsB (joinB P bSp) ⟨#[32]⟩ = P := by
 have hd : (joinB P bSp).data.toList = Lib.join (P.map (·.data.toList)) [32] := rfl
 rw [partsB_map, hd, parts_join 32 _ (by simpa using hne) (fun p hp => by
  obtain ⟨b, hb, rfl⟩ := List.mem_map.1 hp
  exact h b hb), List.map_map]
 conv => rhs; rw [← List.map_id P]
 exact List.map_congr_left fun p _ => mkB_of p
theorem dec_ok {n : Int} (h0 : 0 ≤ n) (h1 : n < 1000000000000000000) : numOk (decB n) = true ∧ numV (decB n) = n := by
 obtain ⟨k, rfl⟩ : ∃ k : Nat, n = k := ⟨n.toNat, by omega⟩
 rw [decB_nat]
 exact ⟨numOk_dec (by omega), numV_dec (by omega)⟩
theorem word_seen {s : ByteArray} (h : isSeenB s = true) (h0 : s.size ≠ 0) : wordB s = true := by
 have key : ∀ (l : List UInt8) (a : Int), 96 ≤ a → incr a l = true → l.all isLow = true := by
  intro l
  induction l with
  | nil => intro a _ _; rfl
  | cons c r ih =>
   intro a ha h
   unfold incr at h
   simp only [Bool.and_eq_true, decide_eq_true_eq] at h
   rw [List.all_cons, Bool.and_eq_true]
   refine ⟨?_, ih _ (by omega) h.2⟩
   unfold isLow
   simp only [Bool.and_eq_true, decide_eq_true_eq]
   omega
 unfold isSeenB at h
 rw [Bool.and_eq_true] at h
 unfold wordB
 rw [key _ _ (by omega) h.1, Bool.and_true, Bool.not_eq_true', List.isEmpty_eq_false_iff]
 intro e
 apply h0
 have : s.data.toList.length = s.size := by simp
 rw [← this, ← ByteArray.toList_eq, e]
 rfl
theorem low_no {s : ByteArray} (h : wordB s = true) (c : UInt8) (hc : isLow c = false) : c ∉ s.data.toList := by
 unfold wordB at h
 rw [Bool.and_eq_true, List.all_eq_true] at h
 intro hm
 have := h.2 c hm
 rw [hc] at this
 cases this
theorem load_own_line {os : List Ow} {x : Ow} (h1 : 0 ≤ x.num ∧ x.num < 1000000000000000000) (h2 : 0 ≤ x.paid ∧ x.paid < 1000000000000000000) (hw : wordB x.mark = true) :
  loadS os [] (partsB (ownLine x) ⟨#[32]⟩) = some (os ++ [x], []) ∧ (10 : UInt8) ∉ (ownLine x).data.toList := by
 obtain ⟨a1, a2⟩ := dec_ok h1.1 h1.2
 obtain ⟨b1, b2⟩ := dec_ok h2.1 h2.2
 constructor
 ·unfold ownLine
  rw [partsB_join (by simp [ownP]) (fun p hp => by
   simp only [ownP, List.mem_cons, List.not_mem_nil, or_false] at hp
   rcases hp with rfl | rfl | rfl | rfl
   ·decide
   ·exact (decB_no h1.1).1
   ·exact low_no hw 32 (by decide)
   ·exact (decB_no h2.1).1)]
  unfold ownP loadS
  simp only
  rw [if_pos ⟨by rw [ByteArray.toList_eq]; rfl, rfl⟩, a1, b1, hw, a2, b2]
  rfl
 ·intro hm
  have e : (ownLine x).data.toList = bOwner.data.toList ++ 32 :: ((decB x.num).data.toList ++ 32 :: (x.mark.data.toList ++ 32 :: (decB x.paid).data.toList)) := by
   show Lib.join ((ownP x).map (·.data.toList)) [32] = _
   simp [ownP, Lib.join]
  rw [e] at hm
  simp only [List.mem_append, List.mem_cons] at hm
  rcases hm with hm | hm | hm | hm | hm | hm | hm
  ·exact absurd hm (by decide)
  ·exact absurd hm (by decide)
  ·exact (decB_no h1.1).2 hm
  ·exact absurd hm (by decide)
  ·exact low_no hw 10 (by decide) hm
  ·exact absurd hm (by decide)
  ·exact (decB_no h2.1).2 hm
theorem dash_fit {s : ByteArray} (h : isSeenB s = true) : (32 : UInt8) ∉ (dashB s).data.toList ∧ (10 : UInt8) ∉ (dashB s).data.toList ∧ (decide ((dashB s).toList = [45]) || wordB (dashB s)) = true ∧ undash (dashB s) = s := by
 unfold dashB
 by_cases h0 : s.size = 0
 ·rw [if_pos h0]
  have hs : s = ⟨#[]⟩ := bx (by
   have : s.data.toList.length = s.size := by simp
   rw [h0] at this
   rw [List.eq_nil_of_length_eq_zero this])
  refine ⟨by decide, by decide, ?_, ?_⟩
  ·rw [ByteArray.toList_eq]
   rfl
  ·rw [hs]
   rfl
 ·rw [if_neg h0]
  have hw := word_seen h h0
  refine ⟨low_no hw 32 (by decide), low_no hw 10 (by decide), by rw [hw, Bool.or_true], ?_⟩
  have h45 := low_no hw 45 (by decide)
  unfold undash
  apply bx
  show Lib.trimPrefix s.data.toList [45] = s.data.toList
  cases hl : s.data.toList with
  | nil => rfl
  | cons c r =>
   have hc : ¬ 45 = c := fun e => h45 (by rw [hl, ← e]; exact List.mem_cons_self)
   simp [Lib.trimPrefix, Lib.hasPrefix, hc]
theorem load_log_line {os : List Ow} {ls : List Lg} {x : Lg} (h1 : 0 ≤ x.num ∧ x.num < 1000000000000000000) (h2 : 0 ≤ x.feet ∧ x.feet < 1000000000000000000) (h3 : 0 ≤ x.own ∧ x.own < 1000000000000000000) (hw : isSeenB x.seen = true) :
  loadS os ls (partsB (logLine x) ⟨#[32]⟩) = some (os, ls ++ [x]) ∧ (10 : UInt8) ∉ (logLine x).data.toList := by
 obtain ⟨a1, a2⟩ := dec_ok h1.1 h1.2
 obtain ⟨b1, b2⟩ := dec_ok h2.1 h2.2
 obtain ⟨c1, c2⟩ := dec_ok h3.1 h3.2
 obtain ⟨d1, d2, d3, d4⟩ := dash_fit hw
 have w1 : (32 : UInt8) ∉ (whereB x.gone).data.toList ∧ (10 : UInt8) ∉ (whereB x.gone).data.toList := by cases x.gone <;> decide
 have w2 : (decide ((whereB x.gone).toList = wHere) || decide ((whereB x.gone).toList = wGone)) = true ∧ decide ((whereB x.gone).toList = wGone) = x.gone := by rw [ByteArray.toList_eq]; cases x.gone <;> decide
 constructor
 ·unfold logLine
  rw [partsB_join (by simp [logP]) (fun p hp => by
   simp only [logP, List.mem_cons, List.not_mem_nil, or_false] at hp
   rcases hp with rfl | rfl | rfl | rfl | rfl | rfl
   ·decide
   ·exact (decB_no h1.1).1
   ·exact d1
   ·exact (decB_no h2.1).1
   ·exact (decB_no h3.1).1
   ·exact w1.1)]
  unfold logP loadS
  simp only
  rw [if_pos (by rw [ByteArray.toList_eq]; rfl), d3, w2.1, a1, b1, c1, a2, b2, c2, d4, w2.2]
  rfl
 ·intro hm
  have e : (logLine x).data.toList = bLog.data.toList ++ 32 :: ((decB x.num).data.toList ++ 32 :: ((dashB x.seen).data.toList ++ 32 :: ((decB x.feet).data.toList ++ 32 :: ((decB x.own).data.toList ++ 32 :: (whereB x.gone).data.toList)))) := by
   show Lib.join ((logP x).map (·.data.toList)) [32] = _
   simp [logP, Lib.join]
  rw [e] at hm
  simp only [List.mem_append, List.mem_cons] at hm
  rcases hm with hm | hm | hm | hm | hm | hm | hm | hm | hm | hm | hm
  ·exact absurd hm (by decide)
  ·exact absurd hm (by decide)
  ·exact (decB_no h1.1).2 hm
  ·exact absurd hm (by decide)
  ·exact d2 hm
  ·exact absurd hm (by decide)
  ·exact (decB_no h2.1).2 hm
  ·exact absurd hm (by decide)
  ·exact (decB_no h3.1).2 hm
  ·exact absurd hm (by decide)
  ·exact w1.2 hm
/-- What a line of a file may bear. -/
def OwFit (x : Ow) : Prop := (0 ≤ x.num ∧ x.num < 1000000000000000000) ∧ (0 ≤ x.paid ∧ x.paid < 1000000000000000000) ∧ wordB x.mark = true
def LgFit (x : Lg) : Prop := (0 ≤ x.num ∧ x.num < 1000000000000000000) ∧ (0 ≤ x.feet ∧ x.feet < 1000000000000000000) ∧ (0 ≤ x.own ∧ x.own < 1000000000000000000) ∧ isSeenB x.seen = true
theorem loadL_logs : ∀ (ls2 : List Lg) (os : List Ow) (ls : List Lg), (∀ x ∈ ls2, LgFit x) → loadL os ls (ls2.map (fun x => (logLine x).data.toList) ++ [[]]) = some (os, ls ++ ls2)
 | [], os, ls, _ => by rw [List.map_nil, List.nil_append, loadL, if_pos rfl, List.append_nil]
 | x :: r, os, ls, h => by
  have hx := h x List.mem_cons_self
  rw [List.map_cons, List.cons_append, loadL_cons _ _ _ _ (by simp), mkB_of, (load_log_line hx.1 hx.2.1 hx.2.2.1 hx.2.2.2).1]
  simp only
  rw [loadL_logs r os (ls ++ [x]) fun y hy => h y (List.mem_cons_of_mem _ hy), List.append_assoc]
  rfl
theorem loadL_owns : ∀ (os2 : List Ow) (os : List Ow) (ls2 : List Lg), (∀ x ∈ os2, OwFit x) → (∀ x ∈ ls2, LgFit x) → loadL os [] (os2.map (fun x => (ownLine x).data.toList) ++ (ls2.map (fun x => (logLine x).data.toList) ++ [[]])) = some (os ++ os2, ls2)
 | [], os, ls2, _, h => by rw [List.map_nil, List.nil_append, loadL_logs ls2 os [] h, List.append_nil, List.nil_append]
 | x :: r, os, ls2, h, h2 => by
  have hx := h x List.mem_cons_self
  rw [List.map_cons, List.cons_append, loadL_cons _ _ _ _ (by simp), mkB_of, (load_own_line hx.1 hx.2.1 hx.2.2).1]
  simp only
  rw [loadL_owns r (os ++ [x]) ls2 (fun y hy => h y (List.mem_cons_of_mem _ hy)) h2, List.append_assoc]
  rfl
theorem valid_fit {os : List Ow} {ls : List Lg} (h : Valid os ls) : (∀ x ∈ os, OwFit x) ∧ ∀ x ∈ ls, LgFit x := by
 refine ⟨fun x hx => ?_, fun x hx => ?_⟩
 ·have h1 := h.onum x hx
  have h2 := h.paid x hx
  have h3 := (feesOf_bd h.feet x.num).2
  have h4 := h.ls100
  have h5 := h.mark x hx
  exact ⟨by omega, by omega, word_seen h5.2 h5.1⟩
 ·have h1 := h.lnum x hx
  have h2 := h.feet x hx
  have h3 := h.lown x hx
  exact ⟨by omega, by omega, by omega, h.seen x hx⟩
theorem fileL_nl {os : List Ow} {ls : List Lg} (h1 : ∀ x ∈ os, OwFit x) (h2 : ∀ x ∈ ls, LgFit x) : ∀ t ∈ fileL os ls, (10 : UInt8) ∉ t.data.toList := by
 intro t ht
 unfold fileL at ht
 rcases List.mem_append.1 ht with ht | ht
 ·obtain ⟨x, hx, rfl⟩ := List.mem_map.1 ht
  have := h1 x hx
  exact (load_own_line (os := []) this.1 this.2.1 this.2.2).2
 ·obtain ⟨x, hx, rfl⟩ := List.mem_map.1 ht
  have := h2 x hx
  exact (load_log_line (os := []) (ls := []) this.1 this.2.1 this.2.2.1 this.2.2.2).2
theorem dec_small {n : Int} {k : Nat} (hk : 1 ≤ k) (h0 : 0 ≤ n) (h : n < (10 : Int) ^ k) : (decB n).data.toList.length ≤ k := by
 obtain ⟨m, rfl⟩ : ∃ m : Nat, n = m := ⟨n.toNat, by omega⟩
 show (Lib.itoa (m : Int)).length ≤ k
 refine itoa_small hk ?_
 exact_mod_cast h
theorem seen_size {s : ByteArray} (h : isSeenB s = true) : s.data.toList.length ≤ 8 := by
 unfold isSeenB at h
 rw [Bool.and_eq_true] at h
 have : s.data.toList.length = s.size := by simp
 rw [this]
 simpa using h.2
theorem file_len {os : List Ow} {ls : List Lg} (h : Valid os ls) : (accB (fileL os ls)).size ≤ 16000 := by
 have hx : ∀ t ∈ fileL os ls, t.data.toList.length ≤ 60 := by
  intro t ht
  unfold fileL at ht
  rcases List.mem_append.1 ht with ht | ht
  ·obtain ⟨x, hx, rfl⟩ := List.mem_map.1 ht
   have h1 := h.onum x hx
   have h2 := h.paid x hx
   have h3 := (feesOf_bd h.feet x.num).2
   have h4 := h.ls100
   have a1 := dec_small (n := x.num) (k := 13) (by omega) (by omega) (by omega)
   have a2 := dec_small (n := x.paid) (k := 6) (by omega) (by omega) (by omega)
   have a3 := seen_size (h.mark x hx).2
   have e : (ownLine x).data.toList = bOwner.data.toList ++ 32 :: ((decB x.num).data.toList ++ 32 :: (x.mark.data.toList ++ 32 :: (decB x.paid).data.toList)) := by
    show Lib.join ((ownP x).map (·.data.toList)) [32] = _
    simp [ownP, Lib.join]
   rw [e]
   simp only [List.length_append, List.length_cons]
   have : bOwner.data.toList.length = 5 := rfl
   omega
  ·obtain ⟨x, hx, rfl⟩ := List.mem_map.1 ht
   have h1 := h.lnum x hx
   have h2 := h.feet x hx
   have h3 := h.lown x hx
   have a1 := dec_small (n := x.num) (k := 13) (by omega) (by omega) (by omega)
   have a2 := dec_small (n := x.feet) (k := 5) (by omega) (by omega) (by omega)
   have a4 := dec_small (n := x.own) (k := 13) (by omega) (by omega) (by omega)
   have a3 : (dashB x.seen).data.toList.length ≤ 8 := by
    unfold dashB
    split
    ·decide
    ·exact seen_size (h.seen x hx)
   have a5 : (whereB x.gone).data.toList.length = 4 := by cases x.gone <;> rfl
   have e : (logLine x).data.toList = bLog.data.toList ++ 32 :: ((decB x.num).data.toList ++ 32 :: ((dashB x.seen).data.toList ++ 32 :: ((decB x.feet).data.toList ++ 32 :: ((decB x.own).data.toList ++ 32 :: (whereB x.gone).data.toList)))) := by
    show Lib.join ((logP x).map (·.data.toList)) [32] = _
    simp [logP, Lib.join]
   rw [e]
   simp only [List.length_append, List.length_cons]
   have : bLog.data.toList.length = 3 := rfl
   omega
 have h1 := accB_size (fileL os ls) 60 hx
 have h2 : (fileL os ls).length ≤ 120 := by
  unfold fileL
  have := h.os20
  have := h.ls100
  rw [List.length_append, List.length_map, List.length_map]
  omega
 omega
/-- The file of a valid season is loaded as this season. -/
theorem file_load {os : List Ow} {ls : List Lg} (h : checkS os ls = 0) : fileS os ls = (accB (fileL os ls), 0) ∧ (accB (fileL os ls)).size ≤ 16000 ∧ loadF (accB (fileL os ls)) = ((os, ls), 0) := by
 have hv := valid_of h
 obtain ⟨f1, f2⟩ := valid_fit hv
 have hlen := file_len hv
 refine ⟨fileS_acc h, hlen, ?_⟩
 unfold loadF
 rw [if_neg (by omega), parts_acc _ (fileL_nl f1 f2)]
 have e : (fileL os ls).map (·.data.toList) ++ [[]] = os.map (fun x => (ownLine x).data.toList) ++ (ls.map (fun x => (logLine x).data.toList) ++ [[]]) := by
  unfold fileL
  rw [List.map_append, List.map_map, List.map_map, List.append_assoc]
  rfl
 rw [e, loadL_owns os [] ls f1 f2]
 simp only [List.nil_append]
 rw [if_neg (by simp [h])]

theorem dash_undash {s : ByteArray} (h : (decide (s.toList = [45]) || wordB s) = true) : dashB (undash s) = s := by
 rw [Bool.or_eq_true] at h
 rcases h with h | h
 ·have hs : s = bDash := bx (by rw [← ByteArray.toList_eq, of_decide_eq_true h]; rfl)
  rw [hs]
  rfl
 ·have h45 := low_no h 45 (by decide)
  have hne : s.data.toList ≠ [] := fun e => by
   unfold wordB at h
   rw [ByteArray.toList_eq, e] at h
   cases h
  have e : undash s = s := by
   unfold undash
   apply bx
   show Lib.trimPrefix s.data.toList [45] = s.data.toList
   cases hl : s.data.toList with
   | nil => rfl
   | cons c r =>
    have hc : ¬ 45 = c := fun e => h45 (by rw [hl, ← e]; exact List.mem_cons_self)
    simp [Lib.trimPrefix, Lib.hasPrefix, hc]
  rw [e]
  unfold dashB
  rw [if_neg]
  intro h0
  have : s.data.toList.length = s.size := by simp
  rw [h0] at this
  exact hne (List.eq_nil_of_length_eq_zero this)
theorem loadS_line {os : List Ow} {ls : List Lg} {p : List UInt8} {r : List Ow × List Lg} (h : loadS os ls (partsB (mkB p) ⟨#[32]⟩) = some r) : fileL r.1 r.2 = fileL os ls ++ [mkB p] := by
 have hj : p = Lib.join (parts 32 p) [32] := (join_parts 32 p).symm
 rw [partsB_map, mkB_data] at h
 obtain ⟨P, hP⟩ : ∃ P, parts 32 p = P := ⟨_, rfl⟩
 rw [hP] at h hj
 have num : ∀ {q : List UInt8}, numOk (mkB q) = true → (decB (numV (mkB q))).data.toList = q := fun {q} hq => by rw [(decB_numV hq).1, mkB_data]
 unfold loadS at h
 split at h
 ·rename_i p0 p1 p2 p3 hm
  obtain ⟨a0, a1, a2, a3, rfl, rfl, rfl, rfl, rfl⟩ : ∃ a0 a1 a2 a3, P = [a0, a1, a2, a3] ∧ mkB a0 = p0 ∧ mkB a1 = p1 ∧ mkB a2 = p2 ∧ mkB a3 = p3 := by
   match P, hm with
   | [a0, a1, a2, a3], hm => simp only [List.map_cons, List.map_nil, List.cons.injEq, and_true] at hm; exact ⟨a0, a1, a2, a3, rfl, hm.1, hm.2.1, hm.2.2.1, hm.2.2.2⟩
  split at h
  ·rename_i c
   split at h
   ·rename_i c2
    cases h
    obtain rfl : ls = [] := List.eq_nil_of_length_eq_zero c.2
    simp only [Bool.and_eq_true] at c2
    have e : ownLine ⟨numV (mkB a1), mkB a2, numV (mkB a3)⟩ = mkB p := by
     apply bx
     show Lib.join ((ownP _).map (·.data.toList)) [32] = _
     rw [mkB_data, hj]
     have c1 := c.1
     rw [mkB_toList] at c1
     simp only [ownP, List.map_cons, List.map_nil, num c2.1.1, num c2.1.2, mkB_data]
     rw [c1]
     rfl
    unfold fileL
    rw [List.map_append, List.map_cons, List.map_nil, List.map_nil, List.append_nil, List.append_nil, e]
   ·cases h
  ·cases h
 ·rename_i p0 p1 p2 p3 p4 p5 hm
  obtain ⟨a0, a1, a2, a3, a4, a5, rfl, rfl, rfl, rfl, rfl, rfl, rfl⟩ : ∃ a0 a1 a2 a3 a4 a5, P = [a0, a1, a2, a3, a4, a5] ∧ mkB a0 = p0 ∧ mkB a1 = p1 ∧ mkB a2 = p2 ∧ mkB a3 = p3 ∧ mkB a4 = p4 ∧ mkB a5 = p5 := by
   match P, hm with
   | [a0, a1, a2, a3, a4, a5], hm => simp only [List.map_cons, List.map_nil, List.cons.injEq, and_true] at hm; exact ⟨a0, a1, a2, a3, a4, a5, rfl, hm.1, hm.2.1, hm.2.2.1, hm.2.2.2.1, hm.2.2.2.2.1, hm.2.2.2.2.2⟩
  split at h
  ·rename_i c
   split at h
   ·rename_i c2
    split at h
    ·rename_i c3
     cases h
     rw [Bool.and_eq_true] at c2
     simp only [Bool.and_eq_true] at c3
     have hwh : (whereB (decide ((mkB a5).toList = wGone))).data.toList = a5 := by
      rw [mkB_toList] at c2 ⊢
      have c22 := c2.2
      rw [mkB_toList, Bool.or_eq_true] at c22
      rcases c22 with e | e
      ·rw [of_decide_eq_true e]; decide
      ·rw [of_decide_eq_true e]; decide
     have e : logLine ⟨numV (mkB a1), undash (mkB a2), numV (mkB a3), numV (mkB a4), decide ((mkB a5).toList = wGone)⟩ = mkB p := by
      apply bx
      show Lib.join ((logP _).map (·.data.toList)) [32] = _
      rw [mkB_data, hj]
      have c1 := c
      rw [mkB_toList] at c1
      simp only [logP, List.map_cons, List.map_nil, num c3.1.1, num c3.1.2, num c3.2, dash_undash c2.1, mkB_data, hwh]
      rw [c1]
      rfl
     unfold fileL
     rw [List.map_append, List.map_cons, List.map_nil, e, List.append_assoc]
    ·cases h
   ·cases h
  ·cases h
 ·cases h
theorem loadL_file : ∀ (ps : List (List UInt8)) (os : List Ow) (ls : List Lg) (r : List Ow × List Lg), loadL os ls ps = some r → (accB (fileL r.1 r.2)).data.toList = (accB (fileL os ls)).data.toList ++ Lib.join ps [10]
 | [], os, ls, r, h => by cases h
 | [p], os, ls, r, h => by
  rw [loadL] at h
  split at h
  ·rename_i hp
   cases h
   rw [hp, join_one, List.append_nil]
  ·cases h
 | p :: q :: t, os, ls, r, h => by
  rw [loadL] at h
  split at h
  ·cases h
  ·rename_i x hx
   have h1 := loadS_line (p := p) hx
   have h2 := loadL_file (q :: t) x.1 x.2 r h
   rw [h2, h1, accB_snoc, join_two]
   simp only [ByteArray.data_append, Array.toList_append, mkB_data]
   show _ ++ p ++ [10] ++ _ = _
   simp
/-- A file that is loaded is the file of what is loaded. -/
theorem load_file {file : ByteArray} {x : List Ow × List Lg} (h : loadF file = (x, 0)) : checkS x.1 x.2 = 0 ∧ fileS x.1 x.2 = (file, 0) := by
 unfold loadF at h
 split at h
 ·cases h
 ·split at h
  ·cases h
  ·rename_i r hr
   split at h
   ·rename_i hc
    have := (Prod.mk.inj h).2
    exact absurd this hc
   ·rename_i hc
    have hxr : r = x := (Prod.mk.inj h).1
    subst hxr
    have h0 : checkS r.1 r.2 = 0 := Decidable.not_not.1 hc
    refine ⟨h0, ?_⟩
    rw [fileS_acc h0]
    congr 1
    apply bx
    rw [loadL_file _ _ _ _ hr, join_parts]
    rfl
end Go.Proofs.YtcnpbcgkhhebaaaGreatDoor
/- A line in effect is struck, in plain data. -/
namespace Go.Proofs.YtcnpbcgkhhebaaaGreatDoor
open Go.RowKit

def allZ (l : List Int) : Bool := l.all (· == 0)
theorem step_plain {p : Pl} {x : Ln} (hx : x.word ≠ wStrike) : (stepE p x).errs = p.errs ++ [(doS p.os p.ls x).2.2] ∧ (stepE p x).os = (doS p.os p.ls x).1 ∧ (stepE p x).ls = (doS p.os p.ls x).2.1 := by
 unfold stepE
 rw [if_neg hx]
 exact ⟨rfl, rfl, rfl⟩
theorem fold_more : ∀ (L : List Ln) (p : Pl), ∃ r, (L.foldl stepE p).errs = p.errs ++ r ∧ r.length = L.length
 | [], p => ⟨[], by simp, rfl⟩
 | x :: L, p => by
  obtain ⟨e, he⟩ := stepE_errs p x
  obtain ⟨r, hr, hl⟩ := fold_more L (stepE p x)
  exact ⟨e :: r, by rw [List.foldl_cons, hr, he]; simp, by simp [hl]⟩
theorem again_none : ∀ (L : List Ln) (p : Pl), (∀ x ∈ L, x.word ≠ wStrike) → againS p.os p.ls L = none → allZ (L.foldl stepE p).errs = false
 | [], p, _, h => by cases h
 | x :: L, p, hs, h => by
  obtain ⟨e1, e2, e3⟩ := step_plain (p := p) (hs x List.mem_cons_self)
  rw [againS] at h
  by_cases h0 : (doS p.os p.ls x).2.2 = 0
  ·rw [if_pos h0, ← e2, ← e3] at h
   rw [List.foldl_cons]
   exact again_none L (stepE p x) (fun y hy => hs y (List.mem_cons_of_mem _ hy)) h
  ·obtain ⟨r, hr, _⟩ := fold_more L (stepE p x)
   rw [List.foldl_cons, hr, e1]
   unfold allZ
   rw [List.all_append, List.all_append]
   simp [h0]
theorem erase_but : ∀ (E : List (Nat × Ln)) (k : Nat) (hk : k < E.length), (E.map (·.1)).Pairwise (· < ·) → butE E (E[k].1 : Int) = E.eraseIdx k
 | [], k, hk, _ => by simp at hk
 | q :: E, 0, _, h => by
  rw [List.map_cons, List.pairwise_cons] at h
  unfold butE
  rw [List.getElem_cons_zero, List.eraseIdx_cons_zero, List.filter_cons, if_neg (by simp), List.filter_eq_self]
  intro z hz
  have := h.1 z.1 (List.mem_map_of_mem hz)
  simp
  omega
 | q :: E, k + 1, hk, h => by
  rw [List.map_cons, List.pairwise_cons] at h
  have hk2 : k < E.length := by simpa using hk
  have ih := erase_but E k hk2 h.2
  have hlt := h.1 _ (List.mem_map_of_mem (f := (·.1)) (List.getElem_mem hk2))
  unfold butE at ih ⊢
  rw [List.getElem_cons_succ, List.eraseIdx_cons_succ, List.filter_cons, if_pos, ih]
  simp
  omega
theorem again_prefix {L1 L2 : List Ln} {r : List Ow × List Lg} (h : againS [] [] (L1 ++ L2) = some r) : ∃ s, againS [] [] L1 = some s := by
 rw [againS_app] at h
 cases hq : againS [] [] L1 with
 | none => rw [hq] at h; cases h
 | some s => exact ⟨s, rfl⟩
theorem erase_last {α : Type} : ∀ (l : List α), l ≠ [] → l.eraseIdx (l.length - 1) = l.dropLast
 | [], h => absurd rfl h
 | [a], _ => rfl
 | a :: b :: r, _ => by
  have ih := erase_last (b :: r) (by simp)
  rw [show (a :: b :: r).length - 1 = ((b :: r).length - 1) + 1 by simp, List.eraseIdx_cons_succ, ih]
  rfl
structure Struck (l L : List Ln) (x : Ln) (last : Bool) : Prop where
 last_ : last = true → allZ (playE L).errs = true
 good : allZ (playE L).errs = true → (playE (l ++ [x])).os = (playE L).os ∧ (playE (l ++ [x])).ls = (playE L).ls ∧ (playE (l ++ [x])).errs = (playE l).errs ++ [0]
 bad : allZ (playE L).errs = false → (playE (l ++ [x])).errs = (playE l).errs ++ [13]
theorem added {l : List Ln} {k : Nat} (hk : k < (playE l).eff.length) {x : Ln} (hx : x.word = wStrike) (hx1 : x.one = (((playE l).eff[k]).1 : Int) + 1) :
  Struck l (((playE l).eff.eraseIdx k).map (·.2)) x (decide (k = (playE l).eff.length - 1)) := by
 have hg := good_playE l
 have he := playE_errs l
 have hplain : ∀ y ∈ ((playE l).eff.eraseIdx k).map (·.2), y.word ≠ wStrike := fun y hy => by
  obtain ⟨q, hq, rfl⟩ := List.mem_map.1 hy
  exact hg.plain q (List.mem_of_mem_eraseIdx hq)
 have hin := List.getElem_mem hk
 have hlt := hg.lt _ hin
 have hstep : strikeE (playE l) (((playE l).eff[k]).1 : Int) = match againS [] [] (((playE l).eff.eraseIdx k).map (·.2)) with
  | none => ((playE l).os, (playE l).ls, (playE l).eff, 13)
  | some r => (r.1, r.2, (playE l).eff.eraseIdx k, 0) := by
  unfold strikeE
  rw [if_neg (by omega), if_neg, erase_but _ _ hk hg.rise]
  ·rfl
  ·rw [Bool.not_eq_false, List.any_eq_true]
   exact ⟨_, hin, by simp⟩
 have hone : x.one - 1 = (((playE l).eff[k]).1 : Int) := by omega
 have hsn : (playE (l ++ [x])).errs = (playE l).errs ++ [(strikeE (playE l) (((playE l).eff[k]).1 : Int)).2.2.2] ∧ (playE (l ++ [x])).os = (strikeE (playE l) (((playE l).eff[k]).1 : Int)).1 ∧ (playE (l ++ [x])).ls = (strikeE (playE l) (((playE l).eff[k]).1 : Int)).2.1 := by
  rw [playE_snoc]
  unfold stepE
  rw [if_pos hx, hone]
  exact ⟨rfl, rfl, rfl⟩
 cases hq : againS [] [] (((playE l).eff.eraseIdx k).map (·.2)) with
 | none =>
  have hbad : allZ (playE (((playE l).eff.eraseIdx k).map (·.2))).errs = false := again_none _ ⟨[], [], [], []⟩ hplain hq
  rw [hq] at hstep
  refine ⟨fun h => ?_, fun h => (by rw [hbad] at h; cases h), fun _ => by rw [hsn.1, hstep]⟩
  exfalso
  have hkl := of_decide_eq_true h
  have hne : (playE l).eff ≠ [] := fun e => by rw [e] at hk; simp at hk
  have h2 := erase_last _ hne
  rw [← hkl] at h2
  have h3 := hg.again
  rw [← List.dropLast_concat_getLast hne, List.map_append] at h3
  obtain ⟨s, hs⟩ := again_prefix h3
  rw [← h2, hq] at hs
  cases hs
 | some r =>
  have hp := play_all (((playE l).eff.eraseIdx k).map (·.2)) ⟨[], [], [], []⟩ r hq hplain
  have hp2 : playE (((playE l).eff.eraseIdx k).map (·.2)) = ⟨r.1, r.2, [] ++ enumE 0 (((playE l).eff.eraseIdx k).map (·.2)), [] ++ List.replicate (((playE l).eff.eraseIdx k).map (·.2)).length 0⟩ := hp
  have hz : allZ (playE (((playE l).eff.eraseIdx k).map (·.2))).errs = true := by
   rw [hp2]
   unfold allZ
   rw [List.nil_append, List.all_eq_true]
   intro a ha
   rw [List.eq_of_mem_replicate ha]
   rfl
  rw [hq] at hstep
  refine ⟨fun _ => hz, fun _ => ⟨by rw [hsn.2.1, hstep, hp2], by rw [hsn.2.2, hstep, hp2], by rw [hsn.1, hstep]⟩, fun h => by rw [hz] at h; cases h⟩
theorem left_parse {text : ByteArray} {l : List Ln} (h : parseS text = (l, 0)) (k : Nat) :
  parseS (textB (((playE l).eff.eraseIdx k).map (·.2.text))) = (((playE l).eff.eraseIdx k).map (·.2), 0) := by
 obtain ⟨h1, h2, h3, h4⟩ := parse_iff.1 h
 have hg := good_playE l
 have hsub : ((playE l).eff.eraseIdx k).Sublist (playE l).eff := List.eraseIdx_sublist _ _
 have hts : text.size = text.data.toList.length := by simp
 have hsz : (textB (((playE l).eff.eraseIdx k).map (·.2.text))).size ≤ text.size := by
  have := textL_sub l ((playE l).eff.eraseIdx k) 0 0 (Nat.le_refl _) (fun q hq => ⟨Nat.zero_le _, hg.at_ q (hsub.subset hq)⟩) (hg.rise.sublist (hsub.map _))
  rw [← h1] at this
  show (textL 0 _).toArray.size ≤ _
  rw [List.size_toArray, hts]
  exact this
 have hlen : ((playE l).eff.eraseIdx k).length ≤ 200 := by
  have a := booked h
  have b := (parse_iff.1 a.parse).2.2.1
  rw [List.length_map] at b
  exact Nat.le_trans hsub.length_le b
 have e : ((playE l).eff.eraseIdx k).map (·.2.text) = (((playE l).eff.eraseIdx k).map (·.2)).map (·.text) := by rw [List.map_map]; rfl
 rw [e] at hsz ⊢
 refine parse_text (fun x hx => ?_) (by rw [List.length_map]; exact hlen) (by omega)
 obtain ⟨q, hq, rfl⟩ := List.mem_map.1 hx
 exact h2 _ (List.mem_of_getElem? (hg.at_ q (hsub.subset hq)))
end Go.Proofs.YtcnpbcgkhhebaaaGreatDoor
/- Lines that are added: a raft, a payment, a log: the text, and the season after it. -/
namespace Go.Proofs.YtcnpbcgkhhebaaaGreatDoor
open Go.RowKit

theorem decB_small {n : Nat} {k : Nat} (hk : 1 ≤ k) (h : n < 10 ^ k) : (decB (n : Int)).size ≤ k := by
 rw [decB_len]
 exact itoa_small hk h
theorem two_size {w : ByteArray} {a b : Nat} (ha : a ≤ 1099511627776) (hb : b ≤ 1000000) : (twoLn w a b).text.size ≤ w.size + 22 := by
 have h1 := decB_small (n := a) (k := 13) (by omega) (by omega)
 have h2 := decB_small (n := b) (k := 7) (by omega) (by omega)
 have e : (⟨#[32]⟩ : ByteArray).size = 1 := rfl
 simp only [twoLn, ByteArray.size_append]
 omega
theorem log_size {a f : Nat} {s : ByteArray} (ha : a ≤ 1099511627776) (hf : f ≤ 10000) (hs : isSeenB s = true) : (logLn a s f).text.size ≤ 33 := by
 have h1 := decB_small (n := a) (k := 13) (by omega) (by omega)
 have h2 := decB_small (n := f) (k := 5) (by omega) (by omega)
 have h3 : (dashS s).size ≤ 8 := by
  unfold dashS
  split
  ·decide
  ·unfold isSeenB at hs
   rw [Bool.and_eq_true] at hs
   simpa using hs.2
 have e : (⟨#[32]⟩ : ByteArray).size = 1 := rfl
 have e2 : wLog.size = 3 := rfl
 simp only [logLn, ByteArray.size_append]
 omega
theorem raft_eq (a b : Int) : (⟨#[114, 97, 102, 116, 32]⟩ : ByteArray) ++ decB a ++ ⟨#[32]⟩ ++ decB b = (twoLn wRaft a b).text := bx (by simp [twoLn, wRaft])
theorem pay_eq (a b : Int) : (⟨#[112, 97, 121, 32]⟩ : ByteArray) ++ decB a ++ ⟨#[32]⟩ ++ decB b = (twoLn wPay a b).text := bx (by simp [twoLn, wPay])
theorem dec_1 : decB 1 = ⟨#[49]⟩ := by
 rw [show (1 : Int) = ((1 : Nat) : Int) from rfl, decB_nat, dec_one (by omega)]
 rfl
theorem log_eq (a f : Int) (s : ByteArray) : (⟨#[108, 111, 103, 32]⟩ : ByteArray) ++ decB a ++ ⟨#[32]⟩ ++ dashS s ++ ⟨#[32]⟩ ++ decB f = (logLn a s f).text := bx (by simp [logLn, wLog])

/-- The season behind a text and a line that is no strike. -/
theorem add_play {text : ByteArray} {l : List Ln} {x : Ln} (h : parseS text = (l, 0)) (hx : IsLine x) (hs : x.word ≠ wStrike) (hn : l.length < 200) (hz : text.size + x.text.size ≤ 7995) {os : List Ow} {ls : List Lg} {er : List Int} (h1 : (playE l).os = os) (h2 : (playE l).ls = ls) (h3 : (playE l).errs = er) {os' : List Ow} {ls' : List Lg} {e : Int} (hd : doS os ls x = (os', ls', e)) :
  parseS (addB text x.text) = (l ++ [x], 0) ∧ (playE (l ++ [x])).os = os' ∧ (playE (l ++ [x])).ls = ls' ∧ (playE (l ++ [x])).errs = er ++ [e] ∧ Valid os' ls' ∧ (l ++ [x]).length = l.length + 1 := by
 obtain ⟨p1, p2, p3⟩ := play_add l x hs
 have hp := parse_add h hx hn hz
 rw [h1, h2, hd] at p1 p2
 rw [h1, h2, h3, hd] at p3
 have hv := valid_play hp
 rw [p1, p2] at hv
 exact ⟨hp, p1, p2, p3, hv, by simp⟩
theorem addB_le {text x : ByteArray} {l : List Ln} (h : parseS text = (l, 0)) : (addB text x).size ≤ text.size + x.size + 5 := by
 have hs2 := addB_size (text := text) (line := x)
 have := (parse_iff.1 h).2.2.1
 rw [nLines_parse h] at hs2
 have h3 := decB_small (n := l.length + 1) (k := 3) (by omega) (by omega)
 rw [Int.natCast_add, show ((1 : Nat) : Int) = 1 from rfl] at h3
 omega
/-- An owner pays a penny too much, all, and a penny. -/
structure Payed (t3 : ByteArray) (ls : List Lg) (er : List Int) (o : Int) (es : List Int) (c : Nat) : Prop where
 fin : ∃ l3 os3, parseS t3 = (l3, 0) ∧ (playE l3).os = os3 ∧ (playE l3).ls = ls ∧ (playE l3).errs = er ++ es ∧ owedS os3 ls o = (0, 0) ∧ Valid os3 ls ∧ nLines t3 = er.length + c
theorem payed {text : ByteArray} {l : List Ln} (h : parseS text = (l, 0)) (hl : l.length ≤ 197) (hz : text.size ≤ 7700) {os : List Ow} {ls : List Lg} {er : List Int} (h1 : (playE l).os = os) (h2 : (playE l).ls = ls) (h3 : (playE l).errs = er) {k : Nat} (hk : k < os.length) {o n : Nat} (ho : os[k].num = o) (hn : (n : Int) = feesOf ls o - os[k].paid) :
  (n = 0 → Payed (addB (addB text (twoLn wPay o ((n : Int) + 1)).text) (twoLn wPay o 1).text) ls er o [4, 4] 2) ∧
  (n ≠ 0 → Payed (addB (addB (addB text (twoLn wPay o ((n : Int) + 1)).text) (twoLn wPay o n).text) (twoLn wPay o 1).text) ls er o [4, 0, 4] 3) := by
 have hv : Valid os ls := by rw [← h1, ← h2]; exact valid_play h
 have hbd := owed_bd hv hk
 have hnm := hv.onum _ (List.getElem_mem hk)
 have hel : er.length = l.length := by rw [← h3, playE_errs]
 rw [ho] at hbd hnm
 have hn2 : n ≤ 100300 := by have := hv.paid _ (List.getElem_mem hk); omega
 have w3 : wPay.size = 3 := rfl
 have ps : ∀ m : Nat, m ≤ 1000000 → (twoLn wPay o m).text.size ≤ 25 := fun m hm => by
  have := two_size (w := wPay) (a := o) (b := m) (by omega) hm
  omega
 have hline : ∀ m : Nat, 1 ≤ m → m ≤ 1000000 → IsLine (twoLn wPay o m) := fun m a b => pay_line (by omega) (by omega) a b
 have hns : ∀ m : Int, (twoLn wPay o m).word ≠ wStrike := fun m => by show ¬ wPay = wStrike; decide
 have d1 : doS os ls (twoLn wPay o ((n + 1 : Nat) : Int)) = (os, ls, 4) := by
  rw [do_pay, ← ho]
  exact paid_more hv hk (by omega) (by rw [ho]; omega)
 have hz1 := ps (n + 1) (by omega)
 obtain ⟨a1, a2, a3, a4, a5, a6⟩ := add_play h (hline (n + 1) (by omega) (by omega)) (hns _) (by omega) (by omega) h1 h2 h3 d1
 have s1 := addB_le (x := (twoLn wPay o ((n + 1 : Nat) : Int)).text) h
 have e1 : ((n + 1 : Nat) : Int) = (n : Int) + 1 := by omega
 rw [e1] at a1 a2 a3 a4 a6 s1 hz1
 constructor
 ·intro h0
  have d2 : doS os ls (twoLn wPay o ((1 : Nat) : Int)) = (os, ls, 4) := by
   rw [do_pay, ← ho]
   exact paid_more hv hk (by omega) (by rw [ho]; omega)
  have hz2 := ps 1 (by omega)
  obtain ⟨b1, b2, b3, b4, b5, b6⟩ := add_play a1 (hline 1 (by omega) (by omega)) (hns _) (by omega) (by omega) a2 a3 a4 d2
  refine ⟨_, os, b1, b2, b3, ?_, ?_, hv, ?_⟩
  ·rw [b4, List.append_assoc]
   rfl
  ·rw [← ho, owed_at hv hk, ho]
   congr 1
   omega
  ·have := nLines_parse b1
   rw [b6, a6] at this
   exact this.trans (by omega)
 ·intro h0
  have d2 : doS os ls (twoLn wPay o n) = (os.set k { os[k] with paid := os[k].paid + n }, ls, 0) := by
   rw [do_pay, ← ho]
   exact paid_all hv hk (by omega) (by rw [ho]; exact hn)
  have hz2 := ps n (by omega)
  obtain ⟨b1, b2, b3, b4, b5, b6⟩ := add_play a1 (hline n (by omega) (by omega)) (hns _) (by omega) (by omega) a2 a3 a4 d2
  have s2 := addB_le (x := (twoLn wPay o n).text) a1
  have hk2 : k < (os.set k { os[k] with paid := os[k].paid + n }).length := by rw [List.length_set]; exact hk
  have hg : (os.set k { os[k] with paid := os[k].paid + n })[k] = { os[k] with paid := os[k].paid + n } := by rw [List.getElem_set_self]
  have ho2 : ((os.set k { os[k] with paid := os[k].paid + n })[k]).num = o := by rw [hg]; exact ho
  have hp2 : ((os.set k { os[k] with paid := os[k].paid + n })[k]).paid = os[k].paid + n := by rw [hg]
  generalize os.set k { os[k] with paid := os[k].paid + n } = os2 at b2 b5 hk2 ho2 hp2
  have d3 : doS os2 ls (twoLn wPay o ((1 : Nat) : Int)) = (os2, ls, 4) := by
   rw [do_pay, ← ho2]
   exact paid_more b5 hk2 (by omega) (by rw [ho2, hp2]; omega)
  have hz3 := ps 1 (by omega)
  obtain ⟨c1, c2, c3, c4, c5, c6⟩ := add_play b1 (hline 1 (by omega) (by omega)) (hns _) (by omega) (by omega) b2 b3 b4 d3
  refine ⟨_, os2, c1, c2, c3, ?_, ?_, b5, ?_⟩
  ·rw [c4, List.append_assoc, List.append_assoc]
   rfl
  ·rw [← ho2, owed_at b5 hk2, ho2, hp2]
   congr 1
   omega
  ·have := nLines_parse c1
   rw [c6, b6, a6] at this
   exact this.trans (by omega)
/-- So many of an owner's logs go. -/
structure Rafts (t3 : ByteArray) (os : List Ow) (ls : List Lg) (er : List Int) (o : Int) (n : Nat) : Prop where
 fin : ∃ l3 ls3 e, parseS t3 = (l3, 0) ∧ (playE l3).os = os ∧ (playE l3).ls = ls3 ∧ (playE l3).errs = er ++ [e] ∧ Valid os ls3 ∧ nLines t3 = er.length + 1 ∧ decide (e = 0) = decide (n ≤ (hereN o ls).length) ∧ ∀ p, hereN p ls3 = if p = o ∧ n ≤ (hereN o ls).length then (hereN o ls).drop n else hereN p ls
theorem rafts {text : ByteArray} {l : List Ln} (h : parseS text = (l, 0)) (hl : l.length < 200) (hz : text.size ≤ 7900) {os : List Ow} {ls : List Lg} {er : List Int} (h1 : (playE l).os = os) (h2 : (playE l).ls = ls) (h3 : (playE l).errs = er) {k : Nat} (hk : k < os.length) {o n : Nat} (ho : os[k].num = o) (hn1 : 1 ≤ n) (hn : n ≤ 10) :
  Rafts (addB text (twoLn wRaft o n).text) os ls er o n := by
 have hv : Valid os ls := by rw [← h1, ← h2]; exact valid_play h
 have hnm := hv.onum _ (List.getElem_mem hk)
 have hel : er.length = l.length := by rw [← h3, playE_errs]
 rw [ho] at hnm
 have w3 : wRaft.size = 4 := rfl
 have hz1 := two_size (w := wRaft) (a := o) (b := n) (by omega) (by omega)
 have hline : IsLine (twoLn wRaft o n) := raft_line (by omega) (by omega) hn1 (by omega)
 have hns : (twoLn wRaft o n).word ≠ wStrike := by show ¬ wRaft = wStrike; decide
 obtain ⟨r1, r2, r3⟩ := rafted hv hk (n := n)
 rw [ho] at r1 r2 r3
 have fin : ∀ (ls3 : List Lg) (e : Int), doS os ls (twoLn wRaft o n) = (os, ls3, e) → decide (e = 0) = decide (n ≤ (hereN o ls).length) → (∀ p, hereN p ls3 = if p = o ∧ n ≤ (hereN o ls).length then (hereN o ls).drop n else hereN p ls) → Rafts (addB text (twoLn wRaft o n).text) os ls er o n := by
  intro ls3 e hd he hh
  obtain ⟨a1, a2, a3, a4, a5, a6⟩ := add_play h hline hns hl (by omega) h1 h2 h3 hd
  refine ⟨_, ls3, e, a1, a2, a3, a4, a5, ?_, he, hh⟩
  rw [nLines_parse a1, a6, hel]
 have hdo : ∀ a b c, raftS os ls (twoLn wRaft o n) = (a, b, c) → doS os ls (twoLn wRaft o n) = (a, b, c) := fun a b c e => by rw [do_raft, e]
 obtain ⟨x, hx⟩ : ∃ x, raftS os ls (twoLn wRaft o n) = x := ⟨_, rfl⟩
 obtain ⟨x1, x2, x3⟩ := x
 rw [hx] at r1 r2 r3
 simp only at r1 r2 r3
 subst r1
 by_cases c : n ≤ (hereN o ls).length
 ·obtain ⟨q1, q2⟩ := r3 c
  subst q1 q2
  refine fin _ 0 (hdo _ _ _ hx) (by simp [c]) fun p => ?_
  rw [here_gone]
  by_cases hp : p = (o : Int)
  ·rw [if_pos hp, if_pos ⟨hp, c⟩]
  ·rw [if_neg hp, if_neg fun h => hp h.1]
 ·obtain ⟨q1, q2⟩ := r2 (by omega)
  subst q1 q2
  refine fin _ 6 (hdo _ _ _ hx) (by simp [c]) fun p => ?_
  rw [if_neg fun h => c h.2]
end Go.Proofs.YtcnpbcgkhhebaaaGreatDoor
/- A strike of the last line, twice: the text. -/
namespace Go.Proofs.YtcnpbcgkhhebaaaGreatDoor
open Go.RowKit

theorem at_of {xs : List Int} {i : Nat} {v : Int} (h : xs[i]? = some v) (hi : i < xs.length) : xs[i] = v := by
 rw [List.getElem?_eq_getElem hi] at h
 exact Option.some.inj h
def moreT (text lb ib jb : ByteArray) : ByteArray := text ++ ib ++ ⟨#[32]⟩ ++ (⟨#[115, 116, 114, 105, 107, 101, 32]⟩ ++ lb ++ ⟨#[10]⟩) ++ jb ++ ⟨#[32]⟩ ++ (⟨#[115, 116, 114, 105, 107, 101, 32]⟩ ++ lb ++ ⟨#[10]⟩)
theorem strike_size {n : Nat} (h : n ≤ 200) : (strikeLn n).text.size ≤ 10 := by
 have h1 := decB_small (n := n) (k := 3) (by omega) (by omega)
 have e : (⟨#[115, 116, 114, 105, 107, 101, 32]⟩ : ByteArray).size = 7 := rfl
 show (strikeT n).size ≤ 10
 unfold strikeT
 rw [ByteArray.size_append]
 omega
theorem more_parse {text : ByteArray} {l : List Ln} {n : Nat} (h : parseS text = (l, 0)) (hn : l.length = n) (h1 : 1 ≤ n) (h2 : n ≤ 198) (hz : text.size ≤ 7970) : parseS (moreT text (decB n) (decB ((n : Int) + 1)) (decB ((n : Int) + 2))) = (l ++ [strikeLn n] ++ [strikeLn n], 0) := by
 have hx := strike_line (n := n) h1 (by omega)
 have hs := strike_size (n := n) (by omega)
 have p1 := parse_add h hx (by omega) (by omega)
 have s1 := addB_le (x := (strikeLn n).text) h
 have p2 := parse_add p1 hx (by rw [List.length_append]; simp; omega) (by omega)
 have e : addB (addB text (strikeLn n).text) (strikeLn n).text = moreT text (decB n) (decB ((n : Int) + 1)) (decB ((n : Int) + 2)) := by
  have n1 := nLines_parse p1
  rw [List.length_append, List.length_cons, List.length_nil, hn] at n1
  show (addB text (strikeLn n).text) ++ decB ((nLines (addB text (strikeLn n).text) : Int) + 1) ++ ⟨#[32]⟩ ++ (strikeLn n).text ++ ⟨#[10]⟩ = _
  rw [n1, show (((n + (0 + 1) : Nat) : Int) + 1) = (n : Int) + 2 by omega]
  unfold addB moreT
  rw [nLines_parse h, hn]
  show _ = _
  apply bx
  simp [strikeLn, strikeT]
 rw [← e]
 exact p2
theorem errs_at {E : List Int} {m : Nat} (h : E.length = m) (e f g : Int) : (E ++ [e] ++ [f] ++ [g]).length = m + 3 ∧ (E ++ [e] ++ [f] ++ [g])[m]? = some e ∧ (E ++ [e] ++ [f] ++ [g])[m + 1]? = some f ∧ (E ++ [e] ++ [f] ++ [g])[m + 2]? = some g := by
 subst h
 refine ⟨by simp, ?_, ?_, ?_⟩
 ·simp
 ·simp
 ·simp
end Go.Proofs.YtcnpbcgkhhebaaaGreatDoor
/- The plain book without one of its lines: the text. -/
namespace Go.Proofs.YtcnpbcgkhhebaaaGreatDoor
open Go.RowKit

theorem parts_at : ∀ (xs : List ByteArray) (m i : Nat) (hi : i < xs.length), (∀ x ∈ xs, (10 : UInt8) ∉ x.data.toList) → (parts 10 (textL m xs))[i]? = some (Lib.itoa (((m + i : Nat) : Int) + 1) ++ 32 :: (xs[i]).data.toList)
 | [], m, i, hi, _ => by simp at hi
 | x :: r, m, 0, _, h => by
  rw [textL_cons, parts_app _ _ (no_nl (h x List.mem_cons_self))]
  rfl
 | x :: r, m, i + 1, hi, h => by
  rw [textL_cons, parts_app _ _ (no_nl (h x List.mem_cons_self)), List.getElem?_cons_succ, parts_at r (m + 1) i (by simpa using hi) fun y hy => h y (List.mem_cons_of_mem _ hy), show m + 1 + i = m + (i + 1) by omega]
  rfl
theorem prt_at {xs : List ByteArray} (h : ∀ x ∈ xs, (10 : UInt8) ∉ x.data.toList) {i : Nat} (hi : i < xs.length) : (prtB 10 (textB xs))[i]? = some (decB ((i : Int) + 1) ++ ⟨#[32]⟩ ++ xs[i]) := by
 unfold prtB
 rw [List.getElem?_map]
 show ((parts 10 (textL 0 xs))[i]?).map mkB = _
 rw [parts_at xs 0 i hi h, Nat.zero_add]
 show some (mkB _) = _
 congr 1
 exact bx (by rw [mkB_data]; simp [decB])
theorem prt_len {xs : List ByteArray} (h : ∀ x ∈ xs, (10 : UInt8) ∉ x.data.toList) : (prtB 10 (textB xs)).length = xs.length + 1 := by
 unfold prtB
 rw [List.length_map]
 exact parts_textL xs 0 h
theorem cut_line (a t : ByteArray) : (a ++ ⟨#[32]⟩ ++ t).extract (a.size + 1) (a ++ ⟨#[32]⟩ ++ t).size = t := by
 apply bx
 rw [extract_list]
 have h1 : (a ++ ⟨#[32]⟩ ++ t).data.toList = a.data.toList ++ (32 :: t.data.toList) := by simp
 have h2 : (a ++ ⟨#[32]⟩ ++ t).size = a.data.toList.length + (t.data.toList.length + 1) := by
  simp only [ByteArray.size_append]
  have e : (⟨#[32]⟩ : ByteArray).size = 1 := rfl
  have e1 : a.data.toList.length = a.size := by simp
  have e2 : t.data.toList.length = t.size := by simp
  omega
 have h3 : a.size = a.data.toList.length := by simp
 rw [h1, h2, h3, ← List.drop_drop, List.drop_left, List.drop_succ_cons, List.drop_zero, List.take_of_length_le (by omega)]
theorem eraseX_map {α β : Type} (f : α → β) : ∀ (l : List α) (k : Nat), (l.map f).eraseIdx k = (l.eraseIdx k).map f
 | [], k => rfl
 | a :: l, 0 => rfl
 | a :: l, k + 1 => by rw [List.map_cons, List.eraseIdx_cons_succ, List.eraseIdx_cons_succ, List.map_cons, eraseX_map f l k]
/-- The first texts, without one. -/
def leftN (T : List ByteArray) (j i : Nat) : List ByteArray := (T.take i).eraseIdx j
theorem leftN_eq {T : List ByteArray} {j : Nat} (hj : j < T.length) : leftN T j (j + 1) = leftN T j j := by
 unfold leftN
 have hl : (T.take j).length = j := by rw [List.length_take]; omega
 rw [List.take_succ_eq_append_getElem hj, List.eraseIdx_append_of_length_le (by omega), hl, Nat.sub_self, List.eraseIdx_of_length_le (k := j) (l := T.take j) (by omega)]
 simp
theorem leftN_ne {T : List ByteArray} {j i : Nat} (hi : i < T.length) (hne : i ≠ j) : leftN T j (i + 1) = leftN T j i ++ [T[i]] := by
 unfold leftN
 have hl : (T.take i).length = i := by rw [List.length_take]; omega
 rw [List.take_succ_eq_append_getElem hi]
 by_cases h : j < i
 ·rw [List.eraseIdx_append_of_lt_length (by omega)]
 ·rw [List.eraseIdx_append_of_length_le (by omega), List.eraseIdx_of_length_le (k := j) (l := T.take i) (by omega), hl]
  congr 1
  rw [List.eraseIdx_of_length_le (by simp; omega)]
theorem leftN_len (T : List ByteArray) (j i : Nat) : (leftN T j i).length ≤ i := by
 unfold leftN
 have := List.length_eraseIdx_le (T.take i) j
 rw [List.length_take] at this
 omega
theorem allZ_snoc (l : List Int) (x : Int) : allZ (l ++ [x]) = (allZ l && (x == 0)) := by unfold allZ; simp
theorem fine_true' {text : ByteArray} {l : List Ln} (h : parseS text = (l, 0)) : (decide (text.size ≤ 8000) && decide ((parseS text).2 = 0)) = true := by
 have := (parse_iff.1 h).2.2.2
 rw [h]
 simp [this]
/-- All that a struck line in effect comes to. -/
structure Add14 (text p : ByteArray) (l : List Ln) (T : List ByteArray) (xs : List Int) (n j q : Nat) : Prop where
 xlen : xs.length = n
 tlen : T.length = n
 eff : plus1 (playE l).eff = xs
 at_ : xs[j]? = some ((q : Int) + 1)
 ql : q < l.length
 book : p = textB T
 nl : ∀ x ∈ T, (10 : UInt8) ∉ x.data.toList
 tsz : ∀ x ∈ T, x.size ≤ 8001
 left : parseS (textB (T.eraseIdx j)) = (((playE l).eff.eraseIdx j).map (·.2), 0)
 str : Struck l (((playE l).eff.eraseIdx j).map (·.2)) (strikeLn ((q : Int) + 1)) (decide (j = n - 1))
 llen : (((playE l).eff.eraseIdx j).map (·.2)).length = n - 1
 elen : (T.eraseIdx j).length = n - 1
theorem add14 {text : ByteArray} {l : List Ln} (h : parseS text = (l, 0)) {n j : Nat} (hn : (playE l).eff.length = n) (hj : j < n) :
  ∃ q, Add14 text (textB ((playE l).eff.map (·.2.text))) l ((playE l).eff.map (·.2.text)) (plus1 (playE l).eff) n j q := by
 have hg := good_playE l
 have hp := parse_iff.1 h
 have hj2 : j < (playE l).eff.length := by omega
 have hnl : ∀ x ∈ (playE l).eff.map (·.2.text), (10 : UInt8) ∉ x.data.toList := fun x hx => by
  obtain ⟨q, hq, rfl⟩ := List.mem_map.1 hx
  exact (hp.2.1 _ (List.mem_of_getElem? (hg.at_ q hq))).nl
 refine ⟨((playE l).eff[j]).1, ⟨by unfold plus1; rw [List.length_map]; exact hn, by rw [List.length_map]; exact hn, rfl, ?_, hg.lt _ (List.getElem_mem hj2), rfl, hnl, ?_, ?_, ?_, ?_, ?_⟩⟩
 ·unfold plus1
  rw [List.getElem?_map, List.getElem?_eq_getElem hj2]
  rfl
 ·intro x hx
  obtain ⟨q, hq, rfl⟩ := List.mem_map.1 hx
  have := parseS_text (text := text)
  rw [h] at this
  exact this _ (List.mem_of_getElem? (hg.at_ q hq))
 ·rw [eraseX_map]
  exact left_parse h j
 ·have := added hj2 (x := strikeLn ((((playE l).eff[j]).1 : Int) + 1)) rfl rfl
  rw [hn] at this
  exact this
 ·rw [List.length_map, List.length_eraseIdx_of_lt hj2, hn]
 ·rw [List.length_eraseIdx_of_lt (by rw [List.length_map]; exact hj2), List.length_map, hn]
end Go.Proofs.YtcnpbcgkhhebaaaGreatDoor
namespace Go.Proofs.YtcnpbcgkhhebaaaGreatDoor
end Go.Proofs.YtcnpbcgkhhebaaaGreatDoor
