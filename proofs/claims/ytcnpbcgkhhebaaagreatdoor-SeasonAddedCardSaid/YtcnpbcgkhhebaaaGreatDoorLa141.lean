/- SeasonAdded returns true, for every input; and what it was given reads as before: the given card, under the row's condition: the listed package-level variables read as the program's text lays them. -/
import Derived.Test.YtcnpbcgkhhebaaaGreatDoorNj1
/- SeasonAdded: a line in effect is struck. -/
namespace Go.Proofs.YtcnpbcgkhhebaaaGreatDoor
open Go.RowKit

set_option maxRecDepth 100000 in
set_option maxHeartbeats 40000000 in
theorem added_law (text : ByteArray) (m : Int) (w : World) (hL : LaidW w) (hs : text.size ≤ 9223372036854775807) (hm0 : 0 ≤ m) (hm1 : m ≤ 255) :
  Calls Tryz.prog 14 #[.string text, .int .u8 m] w fun e w' => e = .returned (.bool true) ∧ Below w.heap.size w w' := by
 have FN := Lib.hid (fun W => fine_any text W hs)
 rcases fine_cases text with hf | ⟨hf, l, hl⟩
 ·rw [hf] at FN
  clear hf
  have HL := Lib.hid hL
  have BB := Lib.hid (Below.refl w.heap.size w)
  go_enter Tryz.func14, Tryz.ntmps14
  go_wp2_with fail
  have hE : Below w.heap.size w w := (Below.refl w.heap.size w)
  refine (FN.out _).mono ?_
  rintro e w1 ⟨rfl, hb⟩
  have hB := below2 hE hb
  replace HL := Lib.hid (HL.out.below hB)
  replace BB := Lib.hid (below2 BB.out hB)
  clear hE hb hB
  go_wp2_with fail
  have hE : Below w1.heap.size w1 w1 := (Below.refl w1.heap.size w1)
  refine (works_any _ (HL.out.below hE)).mono ?_
  rintro e w2 ⟨rfl, hb⟩
  have hB := below2 hE hb
  replace HL := Lib.hid (HL.out.below hB)
  replace BB := Lib.hid (below2 BB.out hB)
  clear hE hb hB
  go_wp2
  go_ret
  exact ⟨rfl, BB.out⟩
 ·rw [hf] at FN
  have HL := Lib.hid hL
  have BB := Lib.hid (Below.refl w.heap.size w)
  have hs0 := small_text hl
  have hBk := booked hl
  obtain ⟨wn, rfl⟩ : ∃ wn : Nat, m = wn := ⟨m.toNat, by omega⟩
  obtain ⟨n, hn⟩ : ∃ n, (playE l).eff.length = n := ⟨_, rfl⟩
  have hadd := fun j (hj : j < n) => add14 hl hn hj
  obtain ⟨T, hT⟩ : ∃ T, (playE l).eff.map (·.2.text) = T := ⟨_, rfl⟩
  rw [hT] at hadd hBk
  obtain ⟨p, hp⟩ : ∃ p, textB T = p := ⟨_, rfl⟩
  rw [hp] at hadd hBk
  have hbn := hBk.num
  rw [hn] at hbn
  have hsp := small_text hBk.parse
  obtain ⟨xs, hxs⟩ : ∃ x, plus1 (playE l).eff = x := ⟨_, rfl⟩
  rw [hxs] at hadd
  have hxl : xs.length = n := by rw [← hxs, ← hn]; unfold plus1; rw [List.length_map]
  have PL := Lib.hid (fun W hW => plainT hs0.1 hBk.book W hW)
  have EF := Lib.hid (fun W hW => effectT (n := n) hl hxs hxl W hW)
  have LN := Lib.hid (fun W => lines_any text W (by omega))
  rw [nLines_parse hl] at LN
  have LNP := Lib.hid (fun W => lines_any p W (by omega))
  rw [nLines_parse hBk.parse, hbn] at LNP
  have FNP := Lib.hid (fun W => fine_any p W (by omega))
  rw [show fineS p = true from fine_true' hBk.parse] at FNP
  have CP := Lib.hid (fun W => parts2_any p 10 W (by omega))
  have hn200 : n ≤ 200 := by omega
  have HBP := Lib.hid (And.intro hBk.parse hbn)
  clear hL hf hBk hbn
  by_cases hz : n = 0
  ·have _z : True := trivial
   subst hz
   go_enter Tryz.func14, Tryz.ntmps14
   go_wp2_with fail
   have hE : Below w.heap.size w w := (Below.refl w.heap.size w)
   refine (FN.out _).mono ?_
   rintro e w1 ⟨rfl, hb⟩
   have hB := below2 hE hb
   replace HL := Lib.hid (HL.out.below hB)
   replace BB := Lib.hid (below2 BB.out hB)
   clear hE hb hB
   go_wp2_with fail
   have hE : Below w1.heap.size w1 w1 := (Below.refl w1.heap.size w1)
   refine (EF.out _ (HL.out.below hE)).mono ?_
   rintro e w2 ⟨⟨A1, c1, rfl, ho1⟩, hb⟩
   have hB := below2 hE hb
   replace HL := Lib.hid (HL.out.below hB)
   replace BB := Lib.hid (below2 BB.out hB)
   have RX := Lib.hid ho1
   clear hE hb hB ho1
   go_wp2_with fail
   have hE : Below w2.heap.size w2 w2 := (Below.refl w2.heap.size w2)
   refine (PL.out _ (HL.out.below hE)).mono ?_
   rintro e w3 ⟨rfl, hb⟩
   have hB := below2 hE hb
   replace HL := Lib.hid (HL.out.below hB)
   replace BB := Lib.hid (below2 BB.out hB)
   replace RX := Lib.hid (RX.out.below hB)
   clear hE hb hB
   go_wp2_with fail
   have hE : Below w3.heap.size w3 w3 := (Below.refl w3.heap.size w3)
   refine (LNP.out _).mono ?_
   rintro e w4 ⟨rfl, hb⟩
   have hB := below2 hE hb
   replace HL := Lib.hid (HL.out.below hB)
   replace BB := Lib.hid (below2 BB.out hB)
   replace RX := Lib.hid (RX.out.below hB)
   clear hE hb hB
   go_wp2_with fail
   have hE : Below w4.heap.size w4 w4 := (Below.refl w4.heap.size w4)
   refine (FNP.out _).mono ?_
   rintro e w5 ⟨rfl, hb⟩
   have hB := below2 hE hb
   replace HL := Lib.hid (HL.out.below hB)
   replace BB := Lib.hid (below2 BB.out hB)
   replace RX := Lib.hid (RX.out.below hB)
   clear hE hb hB
   go_wp2_with fail
   have hE : Below w5.heap.size w5 w5 := (Below.refl w5.heap.size w5)
   refine (works_any _ (HL.out.below hE)).mono ?_
   rintro e w6 ⟨rfl, hb⟩
   have hB := below2 hE hb
   replace HL := Lib.hid (HL.out.below hB)
   replace BB := Lib.hid (below2 BB.out hB)
   replace RX := Lib.hid (RX.out.below hB)
   clear hE hb hB
   go_wp2
   go_ret
   exact ⟨rfl, BB.out⟩
  have hpos : 0 < n := by omega
  obtain ⟨j, hj⟩ : ∃ j, wn % n = j := ⟨_, rfl⟩
  have hjl : j < n := by have := Nat.mod_lt wn hpos; omega
  have hzf : ((n : Int) == 0) = false := by rw [beq_eq_false_iff_ne]; omega
  have hzf2 : (n == 0) = false := by rw [beq_eq_false_iff_ne]; exact hz
  have hrem2 : (wn : Int) % (n : Int) = (j : Int) := by rw [← hj]; push_cast; rfl
  have hrem : (wn : Int).tmod (n : Int) = (j : Int) := by rw [Int.tmod_eq_emod_of_nonneg (by omega)]; exact hrem2
  have hj0 : (0 : Int) ≤ (j : Int) := by omega
  have hjli : (j : Int) < (n : Int) := by omega
  obtain ⟨q, AD⟩ := hadd j hjl
  have HAD := Lib.hid AD
  have hql := AD.ql
  have q1 : ¬ (q : Int) + 1 < 1 := by omega
  obtain ⟨N, hN⟩ : ∃ N, l.length = N := ⟨_, rfl⟩
  rw [hN] at LN hql
  have hN2 : N ≤ 200 := by omega
  have q2 : ¬ (N : Int) < (q : Int) + 1 := by omega
  have q3 : decide ((N : Int) < (q : Int) + 1) = false := decide_eq_false q2
  have q4 : decide ((q : Int) + 1 < 1) = false := decide_eq_false q1
  have DQ := Lib.hid (fun W => digits2_any (q + 1) W (by omega))
  have c1 : ((q + 1 : Nat) : Int) = (q : Int) + 1 := by omega
  have sz1 := decB_small (n := q + 1) (k := 3) (by omega) (by omega)
  rw [c1] at DQ sz1
  have sl := strike_line (n := q + 1) (by omega) (by omega)
  have ss := strike_size (n := q + 1) (by omega)
  rw [c1] at sl ss
  have AD1 := Lib.hid (fun W => added_any text (strikeLn ((q : Int) + 1)).text W (by omega) (by omega))
  rw [nLines_parse hl, hN] at AD1
  have hst : (strikeLn ((q : Int) + 1)).text = ⟨#[115, 116, 114, 105, 107, 101, 32]⟩ ++ decB ((q : Int) + 1) := rfl
  rw [hst] at AD1
  have PM := Lib.hid (fun (a : N < 200) (b : text.size ≤ 7900) => parse_add hl sl (by omega) (by omega))
  rw [hst] at PM
  obtain ⟨qb, hqb⟩ : ∃ x, decB ((q : Int) + 1) = x := ⟨_, rfl⟩
  rw [hqb] at DQ sz1 AD1 PM
  have g1 : ¬ 9223372036854775807 < 7 + qb.size := by omega
  have HN := Lib.hid hN
  have HT := Lib.hid hT
  have HPT := Lib.hid hp
  have HEN := Lib.hid hn
  clear hj hqb hst sl ss c1 hl hxs hadd hN hT hp hn
  obtain ⟨b1, hb1⟩ : ∃ x, (decide (N < 200) && decide (text.size ≤ 7900)) = x := ⟨_, rfl⟩
  rw [hb1] at AD1
  have HB1 := Lib.hid hb1
  clear hb1
  go_enter Tryz.func14, Tryz.ntmps14
  go_wp2_with fail
  have hE : Below w.heap.size w w := (Below.refl w.heap.size w)
  refine (FN.out _).mono ?_
  rintro e w1 ⟨rfl, hb⟩
  have hB := below2 hE hb
  replace HL := Lib.hid (HL.out.below hB)
  replace BB := Lib.hid (below2 BB.out hB)
  clear hE hb hB
  go_wp2_with fail
  have hE : Below w1.heap.size w1 w1 := (Below.refl w1.heap.size w1)
  refine (EF.out _ (HL.out.below hE)).mono ?_
  rintro e w2 ⟨⟨A1, c1, rfl, ho1⟩, hb⟩
  have hB := below2 hE hb
  replace HL := Lib.hid (HL.out.below hB)
  replace BB := Lib.hid (below2 BB.out hB)
  have RX := Lib.hid ho1
  clear hE hb hB ho1
  go_wp2_with fail
  have hE : Below w2.heap.size w2 w2 := (Below.refl w2.heap.size w2)
  refine (PL.out _ (HL.out.below hE)).mono ?_
  rintro e w3 ⟨rfl, hb⟩
  have hB := below2 hE hb
  replace HL := Lib.hid (HL.out.below hB)
  replace BB := Lib.hid (below2 BB.out hB)
  replace RX := Lib.hid (RX.out.below hB)
  clear hE hb hB
  go_wp2_with fail
  have hE : Below w3.heap.size w3 w3 := (Below.refl w3.heap.size w3)
  refine (LNP.out _).mono ?_
  rintro e w4 ⟨rfl, hb⟩
  have hB := below2 hE hb
  replace HL := Lib.hid (HL.out.below hB)
  replace BB := Lib.hid (below2 BB.out hB)
  replace RX := Lib.hid (RX.out.below hB)
  clear hE hb hB
  go_wp2_with fail
  have hE : Below w4.heap.size w4 w4 := (Below.refl w4.heap.size w4)
  refine (FNP.out _).mono ?_
  rintro e w5 ⟨rfl, hb⟩
  have hB := below2 hE hb
  replace HL := Lib.hid (HL.out.below hB)
  replace BB := Lib.hid (below2 BB.out hB)
  replace RX := Lib.hid (RX.out.below hB)
  clear hE hb hB
  obtain ⟨bx, ox, zq, hzq, rfl, hbx, x0⟩ := RX.out.atI (i := j) (by rw [HAD.out.xlen]; exact hjl)
  rw [at_of HAD.out.at_] at hzq
  subst hzq
  have X0 := Lib.hid x0
  go_wp2_with fail
  refine wp_region_held_drew (S := fun W => Below w5.heap.size w5 W ∧ W.cell? ⟨bx, ox + j, none⟩ = some (.int .i64 ((q : Int) + 1))) (by kernel_rfl) ?_ (fun hHeld => ?_)
  ·first | exact ⟨Below.refl _ _, x0⟩ | exact ⟨belowD (Below.refl _ _), x0⟩
  refine tk (i := 0) (v := ?_) rfl (Or.inl ⟨by rfl, ?_⟩) hHeld ?_
  rotate_left 1
  ·(intro w hSw; (try dsimp only at hSw); go_simp; try with_reducible rfl)
  try simp only [gA, Act.put]
  refine tk (i := 1) (v := ?_) rfl (Or.inl ⟨by rfl, ?_⟩) hHeld ?_
  rotate_left 1
  ·(intro w hSw; (try dsimp only at hSw); go_simp; try with_reducible rfl)
  try simp only [gA, Act.put]
  refine tk (i := 2) (v := ?_) rfl (Or.inl ⟨by rfl, ?_⟩) hHeld ?_
  rotate_left 1
  ·(intro w hSw; (try dsimp only at hSw); go_simp; try with_reducible rfl)
  try simp only [gA, Act.put]
  refine tk (i := 3) (v := ?_) rfl (Or.inl ⟨by rfl, ?_⟩) hHeld ?_
  rotate_left 1
  ·(intro w hSw; (try dsimp only at hSw); go_simp; try with_reducible rfl)
  try simp only [gA, Act.put]
  refine tk (i := 4) (v := ?_) rfl (Or.inl ⟨by rfl, ?_⟩) hHeld ?_
  rotate_left 1
  ·(intro w hSw; (try dsimp only at hSw); go_simp; try with_reducible rfl)
  try simp only [gA, Act.put]
  refine tk (i := 5) (v := ?_) rfl (Or.inl ⟨by rfl, ?_⟩) hHeld ?_
  rotate_left 1
  ·(intro w hSw; (try dsimp only at hSw); go_simp; try with_reducible rfl)
  try simp only [gA, Act.put]
  refine tk (i := 6) (v := ?_) rfl (Or.inl ⟨by rfl, ?_⟩) hHeld ?_
  rotate_left 1
  ·(intro w hSw; (try dsimp only at hSw); go_simp; try with_reducible rfl)
  try simp only [gA, Act.put]
  refine tk (i := 7) (v := ?_) rfl (Or.inl ⟨by rfl, ?_⟩) hHeld ?_
  rotate_left 1
  ·(intro w hSw; (try dsimp only at hSw); go_simp; try with_reducible rfl)
  try simp only [gA, Act.put]
  refine tk (i := 8) (v := ?_) rfl (Or.inl ⟨by rfl, ?_⟩) hHeld ?_
  rotate_left 1
  ·(intro w hSw; (try dsimp only at hSw); go_simp; try with_reducible rfl)
  try simp only [gA, Act.put]
  refine tk (i := 9) (v := ?_) rfl (Or.inl ⟨by rfl, ?_⟩) hHeld ?_
  rotate_left 1
  ·(intro w hSw; (try dsimp only at hSw); go_simp; try with_reducible rfl)
  try simp only [gA, Act.put]
  refine tk (i := 10) (v := ?_) rfl (Or.inl ⟨by rfl, ?_⟩) hHeld ?_
  rotate_left 1
  ·(intro w hSw; (try dsimp only at hSw); go_simp; try with_reducible rfl)
  try simp only [gA, Act.put]
  refine wpAnyH_ready (rs := [11]) (by kernel_rfl) (by simp) ?_
  refine AllReadyH.cons rfl (fun K hK => ?_) AllReadyH.nil
  go_simp
  go_at_call 44
  refine (LN.out _).mono ?_
  rintro e w6 ⟨rfl, hbq⟩
  go_wp2_with fail
  refine hK.out _ _ ?_ (fun hHeld => ?_)
  ·exact ⟨below2 hHeld.1 hbq, cB hbq hHeld.2⟩
  clear hK K
  try simp only [gA, Act.put]
  refine tk (i := 12) (v := ?_) rfl (Or.inl ⟨by rfl, ?_⟩) hHeld ?_
  rotate_left 1
  ·(intro w hSw; (try dsimp only at hSw); go_simp; try with_reducible rfl)
  try simp only [gA, Act.put]
  refine tk (i := 13) (v := ?_) rfl (Or.inl ⟨by rfl, ?_⟩) hHeld ?_
  rotate_left 1
  ·(intro w hSw; (try dsimp only at hSw); go_simp; try with_reducible rfl)
  try simp only [gA, Act.put]
  refine wpAnyH_done (by kernel_rfl) ?_ _
  rotate_left 1
  replace HL := Lib.hid (HL.out.below hHeld.1)
  replace BB := Lib.hid (below2 BB.out hHeld.1)
  replace RX := Lib.hid (RX.out.below hHeld.1)
  replace X0 := Lib.hid (cB hHeld.1 X0.out)
  clear hHeld x0
  have x0 := X0.out
  go_wp2_with fail
  have hE : Below w6.heap.size w6 w6 := (Below.refl w6.heap.size w6)
  refine (DQ.out _).mono ?_
  rintro e w7 ⟨rfl, hb⟩
  have hB := below2 hE hb
  replace HL := Lib.hid (HL.out.below hB)
  replace BB := Lib.hid (below2 BB.out hB)
  replace RX := Lib.hid (RX.out.below hB)
  replace X0 := Lib.hid (cB hB X0.out)
  clear hE hb hB
  clear x0
  go_wp2_with fail
  have hE : Below w7.heap.size w7 w7 := (Below.refl w7.heap.size w7)
  refine (AD1.out _).mono ?_
  rintro e w8 ⟨rfl, hb⟩
  have hB := below2 hE hb
  replace HL := Lib.hid (HL.out.below hB)
  replace BB := Lib.hid (below2 BB.out hB)
  replace RX := Lib.hid (RX.out.below hB)
  replace X0 := Lib.hid (cB hB X0.out)
  clear hE hb hB
  cases b1 with
  | false =>
   go_wp2_with fail
   have hE : Below w8.heap.size w8 w8 := (Below.refl w8.heap.size w8)
   refine (works_any _ (HL.out.below hE)).mono ?_
   rintro e w9 ⟨rfl, hb⟩
   have hB := below2 hE hb
   replace HL := Lib.hid (HL.out.below hB)
   replace BB := Lib.hid (below2 BB.out hB)
   replace RX := Lib.hid (RX.out.below hB)
   replace X0 := Lib.hid (cB hB X0.out)
   clear hE hb hB
   go_wp2
   go_ret
   exact ⟨rfl, BB.out⟩
  | true =>
   have hb2 := HB1.out
   rw [Bool.and_eq_true, decide_eq_true_eq, decide_eq_true_eq] at hb2
   have hpm := PM.out hb2.1 hb2.2
   clear PM hb2 AD1
   obtain ⟨mo, hmo⟩ : ∃ x, addB text (⟨#[115, 116, 114, 105, 107, 101, 32]⟩ ++ qb) = x := ⟨_, rfl⟩
   rw [hmo] at hpm ⊢
   clear hmo
   have hpx : prtB 10 p = prtB 10 (textB T) := by rw [HPT.out]
   have hplen := prt_len HAD.out.nl
   rw [← hpx, HAD.out.tlen] at hplen
   obtain ⟨ps, hps⟩ : ∃ x, prtB 10 p = x := ⟨_, rfl⟩
   rw [hps] at CP hplen hpx
   have HPX := Lib.hid hpx
   have HPL := Lib.hid hplen
   have tln : T.length = n := HAD.out.tlen
   clear hpx hps
   go_wp2_with fail
   have hE : Below w8.heap.size w8 w8 := (Below.refl w8.heap.size w8)
   refine (CP.out _).mono ?_
   rintro e w9 ⟨⟨A2, c2, rfl, ho1⟩, hb⟩
   have hB := below2 hE hb
   replace HL := Lib.hid (HL.out.below hB)
   replace BB := Lib.hid (below2 BB.out hB)
   replace RX := Lib.hid (RX.out.below hB)
   replace X0 := Lib.hid (cB hB X0.out)
   clear hE hb hB
   have RP := Lib.hid (ho1.rs encS)
   clear ho1
   rw [hplen]
   clear hplen
   go_wp2
   go_loopg [13, 14] n (fun gg s13 s14 wr => ∃ i : Nat, i ≤ n ∧ n - i ≤ gg ∧ s14 = .int .i64 i ∧ Hid (Below w9.heap.size w9 wr) ∧ Hid (Own eS 9 1 w9.heap.size wr s13 (leftN T j i)))
   case atStart => exact ⟨0, by omega, by omega, rfl, Below.refl _ _, (show Own eS 9 1 _ _ _ [] from Own.nil_ _ _ _ _ _)⟩
   case round =>
    obtain ⟨i, hi, hg, rfl, BW, OW⟩ := hrel
    replace HL := Lib.hid (HL.out.below BW.out)
    replace BB := Lib.hid (below2 BB.out BW.out)
    replace RX := Lib.hid (RX.out.below BW.out)
    replace X0 := Lib.hid (cB BW.out X0.out)
    replace RP := Lib.hid (RP.out.below BW.out)
    by_cases hlt : i < n
    ·have _z : True := trivial
     have hli : (i : Int) < (n : Int) := by omega
     have hi0 : (0 : Int) ≤ (i : Int) := by omega
     by_cases hij : i = j
     ·have _z : True := trivial
      subst hij
      have hlf := leftN_eq (T := T) (j := i) (by omega)
      have HLF := Lib.hid hlf
      clear hlf
      go_wp2
      go_roundg (n - (i + 1))
      case measure => omega
      case rel => exact ⟨i + 1, by omega, by omega, by go_num, BW.out, (show Hid _ from by rw [HLF.out]; exact OW)⟩
     ·have _z : True := trivial
      have hne : ((i : Int) != (j : Int)) = true := by rw [bne_iff_ne]; omega
      have hne2 : ((i : Int) == (j : Int)) = false := by rw [beq_eq_false_iff_ne]; omega
      have hne3 : (i != j) = true := by rw [bne_iff_ne]; exact hij
      have hne4 : (i == j) = false := by rw [beq_eq_false_iff_ne]; exact hij
      have hit : i < T.length := by omega
      have hlf := leftN_ne hit hij
      have hlen := leftN_len T j i
      obtain ⟨tx, htx⟩ : ∃ x, T[i] = x := ⟨_, rfl⟩
      have htz := HAD.out.tsz _ (List.getElem_mem hit)
      have hpa := prt_at HAD.out.nl hit
      rw [htx] at hlf htz hpa
      rw [← HPX.out] at hpa
      have DI := Lib.hid (fun W => digits2_any (i + 1) W (by omega))
      have ci : ((i + 1 : Nat) : Int) = (i : Int) + 1 := by omega
      have szi := decB_small (n := i + 1) (k := 3) (by omega) (by omega)
      rw [ci] at DI szi
      obtain ⟨ib, hib⟩ : ∃ x, decB ((i : Int) + 1) = x := ⟨_, rfl⟩
      rw [hib] at DI szi hpa
      have hip : i < ps.length := by have := HPL.out; omega
      obtain ⟨bp, op, y, hy, rfl, hbp, y0⟩ := RP.out.atS hip
      rw [List.getElem?_eq_getElem hip, ← hy] at hpa
      have hyy := Option.some.inj hpa
      have hcl := cut_line ib tx
      rw [← hyy] at hcl
      have hysz : y.size = ib.size + 1 + tx.size := by rw [hyy, ByteArray.size_append, ByteArray.size_append]; rfl
      obtain ⟨lf, hlfe⟩ : ∃ x, leftN T j i = x := ⟨_, rfl⟩
      rw [hlfe] at OW hlf hlen
      have HCL := Lib.hid hcl
      have HLF := Lib.hid hlf
      clear hy hpa hyy hcl hlf hlfe htx hib ci hip hit
      have y1 : (ib.size : Int) + 1 ≤ (y.size : Int) := by omega
      have y2 : ib.size + 1 ≤ y.size := by omega
      have y3 : y.size ≤ 9000 := by omega
      clear hysz
      have Y0 := Lib.hid y0
      clear y0
      go_wp2_with fail
      have hE : Below wr.heap.size wr wr := (Below.refl wr.heap.size wr)
      refine (DI.out _).mono ?_
      rintro e w10 ⟨rfl, hb⟩
      have hB := below2 hE hb
      replace HL := Lib.hid (HL.out.below hB)
      replace BB := Lib.hid (below2 BB.out hB)
      replace RX := Lib.hid (RX.out.below hB)
      replace X0 := Lib.hid (cB hB X0.out)
      replace RP := Lib.hid (RP.out.below hB)
      replace BW := Lib.hid (below2 BW.out hB)
      replace Y0 := Lib.hid (cB hB Y0.out)
      replace OW := Lib.hid (OW.out.below hB)
      clear hE hb hB
      have y0 := Y0.out
      have g9 : ¬ 9223372036854775807 < ib.size := by omega
      go_wp2_with (at_builtin; apply stop_)
      unfold Hid
      refine wpList_push e9 encS rfl _ _ rfl rfl (OW.out.below (below_a1 w10 (.cells #[.string (y.extract (ib.size + 1) y.size)] 9))) w10.heap.size 1 (y.extract (ib.size + 1) y.size) rfl (one_S3 (by go_simp)) (by omega) (by omega) (by have := BW.out.size; simp only [World.size_alloc] at this ⊢; omega) ?_
      intro v' w' hown' hgr hlk
      have HOWN := Lib.hid hown'
      have BW2 := Lib.hid ((belowA BW.out (.cells #[.string (y.extract (ib.size + 1) y.size)] 9)).grown hgr (by have := BW.out.size; simp only [World.size_alloc] at this ⊢; omega) (fun q hq => (OW.out.lt_ _ hq).1))
      clear hown' hgr hlk
      go_wp2
      go_roundg (n - (i + 1))
      case measure => omega
      case rel => exact ⟨i + 1, by omega, by omega, by go_num, BW2, (show Hid _ from by rw [HLF.out, ← HCL.out]; exact HOWN)⟩
    ·have _z : True := trivial
     have hli : ¬ (i : Int) < (n : Int) := by omega
     have hin : i = n := by omega
     have hlf : leftN T j i = T.eraseIdx j := by unfold leftN; rw [hin, List.take_of_length_le (by omega)]
     rw [hlf] at OW
     obtain ⟨LF, hLF⟩ : ∃ x, T.eraseIdx j = x := ⟨_, rfl⟩
     have hlfl := HAD.out.elen
     have hlp := HAD.out.left
     have hll := HAD.out.llen
     have hstr := HAD.out.str
     rw [hLF] at OW hlfl hlp
     have hlz : ∀ x ∈ LF, x.size ≤ 9000 := fun x hx => by rw [← hLF] at hx; have := HAD.out.tsz x (List.mem_of_mem_eraseIdx hx); omega
     obtain ⟨M, hM⟩ : ∃ M, n - 1 = M := ⟨_, rfl⟩
     rw [hM] at hlfl hll
     have hMn : M + 1 = n := by omega
     have hM200 : M ≤ 200 := by omega
     obtain ⟨A4, c4, rfl⟩ := OW.out.sl
     have RL := Lib.hid (OW.out.rs encS)
     have TX := Lib.hid (fun W (h : Rd eS 1 W A4 c4 LF) => text_any A4 c4 LF W h (by omega) hlz)
     rw [hlfl] at TX ⊢
     obtain ⟨os, h1⟩ : ∃ x, (playE (l ++ [strikeLn ((q : Int) + 1)])).os = x := ⟨_, rfl⟩
     obtain ⟨ls, h2⟩ : ∃ x, (playE (l ++ [strikeLn ((q : Int) + 1)])).ls = x := ⟨_, rfl⟩
     obtain ⟨ee, h3⟩ : ∃ x, (playE (l ++ [strikeLn ((q : Int) + 1)])).errs = x := ⟨_, rfl⟩
     have h4 : ee.length = N + 1 := by rw [← h3, playE_errs, List.length_append, HN.out]; rfl
     have RU := Lib.hid (fun W hW => runT (n := N + 1) hpm h1 h2 h3 h4 W hW)
     have LNM := Lib.hid (fun W => lines_any mo W (by have := (small_text hpm).1; omega))
     rw [nLines_parse hpm, List.length_append, HN.out, List.length_cons, List.length_nil] at LNM
     obtain ⟨L2, hL2⟩ : ∃ x, ((playE l).eff.eraseIdx j).map (·.2) = x := ⟨_, rfl⟩
     rw [hL2] at hlp hll hstr
     obtain ⟨os2, i1⟩ : ∃ x, (playE L2).os = x := ⟨_, rfl⟩
     obtain ⟨ls2, i2⟩ : ∃ x, (playE L2).ls = x := ⟨_, rfl⟩
     obtain ⟨er2, i3⟩ : ∃ x, (playE L2).errs = x := ⟨_, rfl⟩
     have i4 : er2.length = M := by rw [← i3, playE_errs]; exact hll
     obtain ⟨tl, htl⟩ : ∃ x, textB LF = x := ⟨_, rfl⟩
     rw [htl] at TX hlp
     have RU2 := Lib.hid (fun W hW => runT (n := M) hlp i1 i2 i3 i4 W hW)
     obtain ⟨s1, s2, s3⟩ := hstr
     rw [h1, h2, h3, i1, i2, i3] at s2
     rw [h3, i3] at s3
     rw [i3] at s1
     have er_l : (playE l).errs.length = N := by rw [playE_errs]; exact HN.out
     have hg1 : allZ er2 = true → os = os2 ∧ ls = ls2 ∧ ee[N]? = some 0 := fun h => by obtain ⟨a, b, c⟩ := s2 h; refine ⟨a, b, ?_⟩; rw [c, List.getElem?_append_right (by omega), er_l, Nat.sub_self]; rfl
     have hg2 : allZ er2 = false → ee[N]? = some 13 := fun h => by have c := s3 h; rw [c, List.getElem?_append_right (by omega), er_l, Nat.sub_self]; rfl
     have hg3 : allZ er2 = false → j ≠ n - 1 := fun h e => by have := s1 (decide_eq_true e); rw [h] at this; cases this
     have G1 := Lib.hid hg1
     have G2 := Lib.hid hg2
     have G3 := Lib.hid hg3
     have I4 := Lib.hid i4
     have H4 := Lib.hid h4
     have HMN := Lib.hid hMn
     clear hpm h1 h2 h3 h4 hL2 i1 i2 i3 i4 htl s1 s2 s3 er_l hg1 hg2 hg3 hlp hll hlfl hLF hlf hin hlz hM hMn OW
     go_wp2_with fail
     have hE : Below wr.heap.size wr wr := (Below.refl wr.heap.size wr)
     refine (RU.out _ (HL.out.below hE)).mono ?_
     rintro e w10 ⟨⟨A6, c6, A7, c7, A8, c8, rfl, ho1, ho2, ho3⟩, hb⟩
     have hB := below2 hE hb
     replace HL := Lib.hid (HL.out.below hB)
     replace BB := Lib.hid (below2 BB.out hB)
     replace RX := Lib.hid (RX.out.below hB)
     replace X0 := Lib.hid (cB hB X0.out)
     replace RP := Lib.hid (RP.out.below hB)
     replace BW := Lib.hid (below2 BW.out hB)
     replace RL := Lib.hid (RL.out.below hB)
     have RO := Lib.hid ho1
     have RS := Lib.hid ho2
     have RE := Lib.hid ho3
     clear hE hb hB ho1 ho2 ho3
     go_wp2_with fail
     have hE : Below w10.heap.size w10 (w10.alloc (.cells #[.slice A6 os.length c6, .slice A7 ls.length c7] 26)) := (below_a1 w10 (.cells #[.slice A6 os.length c6, .slice A7 ls.length c7] 26))
     refine (TX.out _ (RL.out.below hE)).mono ?_
     rintro e w11 ⟨rfl, hb⟩
     have hB := below2 hE hb
     replace HL := Lib.hid (HL.out.below hB)
     replace BB := Lib.hid (below2 BB.out hB)
     replace RX := Lib.hid (RX.out.below hB)
     replace X0 := Lib.hid (cB hB X0.out)
     replace RP := Lib.hid (RP.out.below hB)
     replace BW := Lib.hid (below2 BW.out hB)
     replace RL := Lib.hid (RL.out.below hB)
     replace RO := Lib.hid (RO.out.below hB)
     replace RS := Lib.hid (RS.out.below hB)
     replace RE := Lib.hid (RE.out.below hB)
     have bx0 := Lib.hid (show w11.cell? ⟨w10.heap.size, 0, none⟩ = some (.slice A6 os.length c6) from cB hb (by go_simp))
     have bx1 := Lib.hid (show w11.cell? ⟨w10.heap.size, 1, none⟩ = some (.slice A7 ls.length c7) from cB hb (by go_simp))
     clear hE hb hB
     go_wp2_with fail
     have hE : Below w11.heap.size w11 w11 := (Below.refl w11.heap.size w11)
     refine (RU2.out _ (HL.out.below hE)).mono ?_
     rintro e w12 ⟨⟨A9, c9, A10, c10, A11, c11, rfl, ho1, ho2, ho3⟩, hb⟩
     have hB := below2 hE hb
     replace HL := Lib.hid (HL.out.below hB)
     replace BB := Lib.hid (below2 BB.out hB)
     replace RX := Lib.hid (RX.out.below hB)
     replace X0 := Lib.hid (cB hB X0.out)
     replace RP := Lib.hid (RP.out.below hB)
     replace BW := Lib.hid (below2 BW.out hB)
     replace RL := Lib.hid (RL.out.below hB)
     replace RO := Lib.hid (RO.out.below hB)
     replace RS := Lib.hid (RS.out.below hB)
     replace RE := Lib.hid (RE.out.below hB)
     replace bx0 := Lib.hid (cB hB bx0.out)
     replace bx1 := Lib.hid (cB hB bx1.out)
     have RO2 := Lib.hid ho1
     have RS2 := Lib.hid ho2
     have RE2 := Lib.hid ho3
     clear hE hb hB ho1 ho2 ho3
     go_wp2_with fail
     have hE : Below w12.heap.size w12 (w12.alloc (.cells #[.slice A9 os2.length c9, .slice A10 ls2.length c10] 26)) := (below_a1 w12 (.cells #[.slice A9 os2.length c9, .slice A10 ls2.length c10] 26))
     refine (LNM.out _).mono ?_
     rintro e w13 ⟨rfl, hb⟩
     have hB := below2 hE hb
     replace HL := Lib.hid (HL.out.below hB)
     replace BB := Lib.hid (below2 BB.out hB)
     replace RX := Lib.hid (RX.out.below hB)
     replace X0 := Lib.hid (cB hB X0.out)
     replace RP := Lib.hid (RP.out.below hB)
     replace BW := Lib.hid (below2 BW.out hB)
     replace RL := Lib.hid (RL.out.below hB)
     replace RO := Lib.hid (RO.out.below hB)
     replace RS := Lib.hid (RS.out.below hB)
     replace RE := Lib.hid (RE.out.below hB)
     replace bx0 := Lib.hid (cB hB bx0.out)
     replace bx1 := Lib.hid (cB hB bx1.out)
     replace RO2 := Lib.hid (RO2.out.below hB)
     replace RS2 := Lib.hid (RS2.out.below hB)
     replace RE2 := Lib.hid (RE2.out.below hB)
     have by0 := Lib.hid (show w13.cell? ⟨w12.heap.size, 0, none⟩ = some (.slice A9 os2.length c9) from cB hb (by go_simp))
     have by1 := Lib.hid (show w13.cell? ⟨w12.heap.size, 1, none⟩ = some (.slice A10 ls2.length c10) from cB hb (by go_simp))
     clear hE hb hB
     go_wp2
     go_loopg [22, 23] M (fun gg s22 s23 wr2 => ∃ i2 : Nat, i2 ≤ M ∧ M - i2 ≤ gg ∧ s23 = .int .i64 i2 ∧ s22 = .bool (allZ (er2.take i2)) ∧ Hid (w13 = wr2))
     case atStart => exact ⟨0, by omega, by omega, rfl, rfl, rfl⟩
     case round =>
      obtain ⟨i2, hi2, hg2, rfl, rfl, BW2⟩ := hrel
      obtain rfl := BW2.out
      by_cases hlt2 : i2 < M
      ·have _z : True := trivial
       have hli2 : (i2 : Int) < (M : Int) := by omega
       have hi20 : (0 : Int) ≤ (i2 : Int) := by omega
       have hi2l : i2 < er2.length := by have := I4.out; omega
       have hsn : allZ (er2.take (i2 + 1)) = (allZ (er2.take i2) && (er2[i2] == 0)) := by rw [List.take_succ_eq_append_getElem hi2l, allZ_snoc]
       obtain ⟨be, oe, z, hz2, rfl, -, e0⟩ := RE2.out.atI (i := i2) hi2l
       rw [← hz2] at hsn
       have HSN := Lib.hid hsn
       clear hsn hz2
       obtain ⟨g, hgg⟩ : ∃ x, allZ (er2.take i2) = x := ⟨_, rfl⟩
       rw [hgg] at HSN ⊢
       clear hgg
       obtain ⟨zb, hzb⟩ : ∃ x, (z == 0) = x := ⟨_, rfl⟩
       rw [hzb] at HSN
       cases g with
       | false =>
        go_wp2
        go_roundg (M - (i2 + 1))
        case measure => omega
        case rel => exact ⟨i2 + 1, by omega, by omega, by go_num, by rw [HSN.out] <;> rfl, rfl⟩
       | true =>
        cases zb with
        | false =>
         go_wp2
         go_roundg (M - (i2 + 1))
         case measure => omega
         case rel => exact ⟨i2 + 1, by omega, by omega, by go_num, by rw [HSN.out] <;> rfl, rfl⟩
        | true =>
         go_wp2
         go_roundg (M - (i2 + 1))
         case measure => omega
         case rel => exact ⟨i2 + 1, by omega, by omega, by go_num, by rw [HSN.out] <;> rfl, rfl⟩
      ·have _z : True := trivial
       have hli2 : ¬ (i2 : Int) < (M : Int) := by omega
       have htk : er2.take i2 = er2 := List.take_of_length_le (by have := I4.out; omega)
       rw [htk]
       clear htk
       obtain ⟨be, oe, z, hz2, rfl, -, e0⟩ := RE.out.atI (i := N) (by have := H4.out; omega)
       have hz3 : ee[N]? = some z := by rw [hz2]; exact List.getElem?_eq_getElem _
       have hN0 : (0 : Int) ≤ (N : Int) := by omega
       have hjn0 : (n : Int) - 1 = (M : Int) := by have := HMN.out; omega
       obtain ⟨g, hgg⟩ : ∃ x, allZ er2 = x := ⟨_, rfl⟩
       rw [hgg] at G1 G2 G3 ⊢
       clear hgg hz2
       cases g with
       | true =>
        obtain ⟨a1, a2, a3⟩ := G1.out rfl
        have hz0 : z = 0 := by rw [a3] at hz3; exact (Option.some.inj hz3).symm
        subst hz0 a1 a2
        clear a3 hz3 hjn0
        have hjd : ((j : Int) == (n : Int) - 1) = decide (j + 1 = n) := by rw [Bool.eq_iff_iff, beq_iff_eq, decide_eq_true_eq]; omega
        obtain ⟨jd, hjd2⟩ : ∃ x, decide (j + 1 = n) = x := ⟨_, rfl⟩
        rw [hjd2] at hjd
        clear hjd2
        have bx0o := bx0.out
        have bx1o := bx1.out
        have bxlt : w10.heap.size < w13.heap.size := World.block_lt_of_cell? _ _ bx0o
        have by0o := by0.out
        have by1o := by1.out
        have bylt : w12.heap.size < w13.heap.size := World.block_lt_of_cell? _ _ by0o
        cases jd with
        | true =>
         go_wp2_with fail
         have hE : Below w13.heap.size w13 w13 := (Below.refl w13.heap.size w13)
         refine (same_any _ _ _ _ _ _ _ _ os ls _ (RO.out.below hE) (RS.out.below hE) (RO2.out.below hE) (RS2.out.below hE)).mono ?_
         rintro e w14 ⟨rfl, hb⟩
         have hB := below2 hE hb
         replace HL := Lib.hid (HL.out.below hB)
         replace BB := Lib.hid (below2 BB.out hB)
         replace RX := Lib.hid (RX.out.below hB)
         replace X0 := Lib.hid (cB hB X0.out)
         replace RP := Lib.hid (RP.out.below hB)
         replace BW := Lib.hid (below2 BW.out hB)
         replace RL := Lib.hid (RL.out.below hB)
         replace RO := Lib.hid (RO.out.below hB)
         replace RS := Lib.hid (RS.out.below hB)
         replace RE := Lib.hid (RE.out.below hB)
         replace bx0 := Lib.hid (cB hB bx0.out)
         replace bx1 := Lib.hid (cB hB bx1.out)
         replace RO2 := Lib.hid (RO2.out.below hB)
         replace RS2 := Lib.hid (RS2.out.below hB)
         replace RE2 := Lib.hid (RE2.out.below hB)
         replace by0 := Lib.hid (cB hB by0.out)
         replace by1 := Lib.hid (cB hB by1.out)
         clear hE hb hB
         go_wp2_with fail
         have hE : Below w14.heap.size w14 w14 := (Below.refl w14.heap.size w14)
         refine (works_any _ (HL.out.below hE)).mono ?_
         rintro e w15 ⟨rfl, hb⟩
         have hB := below2 hE hb
         replace HL := Lib.hid (HL.out.below hB)
         replace BB := Lib.hid (below2 BB.out hB)
         replace RX := Lib.hid (RX.out.below hB)
         replace X0 := Lib.hid (cB hB X0.out)
         replace RP := Lib.hid (RP.out.below hB)
         replace BW := Lib.hid (below2 BW.out hB)
         replace RL := Lib.hid (RL.out.below hB)
         replace RO := Lib.hid (RO.out.below hB)
         replace RS := Lib.hid (RS.out.below hB)
         replace RE := Lib.hid (RE.out.below hB)
         replace bx0 := Lib.hid (cB hB bx0.out)
         replace bx1 := Lib.hid (cB hB bx1.out)
         replace RO2 := Lib.hid (RO2.out.below hB)
         replace RS2 := Lib.hid (RS2.out.below hB)
         replace RE2 := Lib.hid (RE2.out.below hB)
         replace by0 := Lib.hid (cB hB by0.out)
         replace by1 := Lib.hid (cB hB by1.out)
         clear hE hb hB
         go_wp2
         go_ret
         exact ⟨rfl, BB.out⟩
        | false =>
         go_wp2_with fail
         have hE : Below w13.heap.size w13 w13 := (Below.refl w13.heap.size w13)
         refine (same_any _ _ _ _ _ _ _ _ os ls _ (RO.out.below hE) (RS.out.below hE) (RO2.out.below hE) (RS2.out.below hE)).mono ?_
         rintro e w14 ⟨rfl, hb⟩
         have hB := below2 hE hb
         replace HL := Lib.hid (HL.out.below hB)
         replace BB := Lib.hid (below2 BB.out hB)
         replace RX := Lib.hid (RX.out.below hB)
         replace X0 := Lib.hid (cB hB X0.out)
         replace RP := Lib.hid (RP.out.below hB)
         replace BW := Lib.hid (below2 BW.out hB)
         replace RL := Lib.hid (RL.out.below hB)
         replace RO := Lib.hid (RO.out.below hB)
         replace RS := Lib.hid (RS.out.below hB)
         replace RE := Lib.hid (RE.out.below hB)
         replace bx0 := Lib.hid (cB hB bx0.out)
         replace bx1 := Lib.hid (cB hB bx1.out)
         replace RO2 := Lib.hid (RO2.out.below hB)
         replace RS2 := Lib.hid (RS2.out.below hB)
         replace RE2 := Lib.hid (RE2.out.below hB)
         replace by0 := Lib.hid (cB hB by0.out)
         replace by1 := Lib.hid (cB hB by1.out)
         clear hE hb hB
         go_wp2_with fail
         have hE : Below w14.heap.size w14 w14 := (Below.refl w14.heap.size w14)
         refine (works_any _ (HL.out.below hE)).mono ?_
         rintro e w15 ⟨rfl, hb⟩
         have hB := below2 hE hb
         replace HL := Lib.hid (HL.out.below hB)
         replace BB := Lib.hid (below2 BB.out hB)
         replace RX := Lib.hid (RX.out.below hB)
         replace X0 := Lib.hid (cB hB X0.out)
         replace RP := Lib.hid (RP.out.below hB)
         replace BW := Lib.hid (below2 BW.out hB)
         replace RL := Lib.hid (RL.out.below hB)
         replace RO := Lib.hid (RO.out.below hB)
         replace RS := Lib.hid (RS.out.below hB)
         replace RE := Lib.hid (RE.out.below hB)
         replace bx0 := Lib.hid (cB hB bx0.out)
         replace bx1 := Lib.hid (cB hB bx1.out)
         replace RO2 := Lib.hid (RO2.out.below hB)
         replace RS2 := Lib.hid (RS2.out.below hB)
         replace RE2 := Lib.hid (RE2.out.below hB)
         replace by0 := Lib.hid (cB hB by0.out)
         replace by1 := Lib.hid (cB hB by1.out)
         clear hE hb hB
         go_wp2
         go_ret
         exact ⟨rfl, BB.out⟩
       | false =>
        have a3 := G2.out rfl
        have hz0 : z = 13 := by rw [a3] at hz3; exact (Option.some.inj hz3).symm
        subst hz0
        clear a3 hz3
        have a4 := G3.out rfl
        have hjd : ((j : Int) == (n : Int) - 1) = false := by rw [beq_eq_false_iff_ne]; omega
        have hjd3 : ((j : Int) == (M : Int)) = false := by rw [beq_eq_false_iff_ne]; omega
        clear hjn0 a4
        go_wp2_with fail
        have hE : Below w13.heap.size w13 w13 := (Below.refl w13.heap.size w13)
        refine (works_any _ (HL.out.below hE)).mono ?_
        rintro e w14 ⟨rfl, hb⟩
        have hB := below2 hE hb
        replace HL := Lib.hid (HL.out.below hB)
        replace BB := Lib.hid (below2 BB.out hB)
        replace RX := Lib.hid (RX.out.below hB)
        replace X0 := Lib.hid (cB hB X0.out)
        replace RP := Lib.hid (RP.out.below hB)
        replace BW := Lib.hid (below2 BW.out hB)
        replace RL := Lib.hid (RL.out.below hB)
        replace RO := Lib.hid (RO.out.below hB)
        replace RS := Lib.hid (RS.out.below hB)
        replace RE := Lib.hid (RE.out.below hB)
        replace bx0 := Lib.hid (cB hB bx0.out)
        replace bx1 := Lib.hid (cB hB bx1.out)
        replace RO2 := Lib.hid (RO2.out.below hB)
        replace RS2 := Lib.hid (RS2.out.below hB)
        replace RE2 := Lib.hid (RE2.out.below hB)
        replace by0 := Lib.hid (cB hB by0.out)
        replace by1 := Lib.hid (cB hB by1.out)
        clear hE hb hB
        go_wp2
        go_ret
        exact ⟨rfl, BB.out⟩
end Go.Proofs.YtcnpbcgkhhebaaaGreatDoor
/- Closed facts of SeasonAdded's row. -/
namespace Go.Proofs.YtcnpbcgkhhebaaaGreatDoor
open Go.ChangeShapes Go.WideShapes Go.ChangeAt Go.RowKit
set_option maxRecDepth 100000
theorem seasonAdded_j0 : (Rows.seasonAddedRow.wf (OpenSpec.ofChange Rows.seasonAddedSpec)) = true := by kernel_rfl
theorem seasonAdded_j3 : (Tryz.f14.params.all (Tryz.prog.readableRec ·)) = true := by kernel_rfl
theorem seasonAdded_j4 : (namedTie Tryz.prog Rows.seasonAddedRow.named Rows.seasonAddedSpec.vars) = true := by kernel_rfl
theorem seasonAdded_j5 : ((Rows.seasonAddedRow.stops == [])) = true := by kernel_rfl
theorem seasonAdded_j7 : ((Rows.seasonAddedRow.knobs == [])) = true := by kernel_rfl
theorem seasonAdded_j9 : ((Rows.seasonAddedRow.inPlace == Tryz.prog.inPlace 14)) = true := by kernel_rfl
theorem seasonAdded_j10 : ((Rows.seasonAddedRow.unfollowed == Tryz.prog.unfollowed 14)) = true := by kernel_rfl
theorem seasonAdded_j11 : ((Rows.seasonAddedRow.recurses == Tryz.prog.recurses 14)) = true := by kernel_rfl
theorem seasonAdded_j12 : ((Rows.seasonAddedRow.named == Tryz.prog.varsNamed 14)) = true := by kernel_rfl
theorem seasonAdded_j13 : ((Rows.seasonAddedRow.maps == (Tryz.f14.params.toList ++ Rows.seasonAddedSpec.plain.varTypes Tryz.prog).any (Tryz.prog.mapsRec ·))) = true := by kernel_rfl
theorem seasonAdded_j14 : ((Rows.seasonAddedRow.ifaces == (Tryz.f14.params.toList ++ Rows.seasonAddedSpec.plain.varTypes Tryz.prog).any (Tryz.prog.ifacesRec ·))) = true := by kernel_rfl
theorem seasonAdded_j15 : ((Rows.seasonAddedRow.mapsOut == Tryz.prog.mapsAmong Tryz.f14.resultTypes.toList)) = true := by kernel_rfl
theorem seasonAdded_j16 : ((Rows.seasonAddedRow.loops == (Tryz.f14.params.toList ++ Rows.seasonAddedSpec.plain.varTypes Tryz.prog).any (Tryz.prog.loopsFrom ·))) = true := by kernel_rfl
theorem seasonAdded_j17 : ((Rows.seasonAddedRow.wideKeys == (Tryz.f14.params.toList ++ Rows.seasonAddedSpec.plain.varTypes Tryz.prog ++ Tryz.f14.resultTypes.toList).any (Tryz.prog.wideKeysFrom ·))) = true := by kernel_rfl
theorem seasonAdded_j18 : (Rows.seasonAddedSpec.vars.all (Tryz.prog.varReadable ·)) = true := by kernel_rfl
theorem seasonAdded_j19 : (Tryz.f14.resultTypes.all (fun t => Tryz.prog.readableRec t && decide (t < Tryz.prog.types.size))) = true := by kernel_rfl
theorem seasonAdded_j20 : ((Rows.seasonAddedRow.ifacesOut == Tryz.f14.resultTypes.toList.any (Tryz.prog.ifacesRec ·))) = true := by kernel_rfl
theorem seasonAdded_j21 : ((Rows.seasonAddedRow.loopsOut == Tryz.f14.resultTypes.toList.any (Tryz.prog.loopsFrom ·))) = true := by kernel_rfl
theorem seasonAdded_j22 : ((Rows.seasonAddedRow.plainKeys == Tryz.prog.plainKeys)) = true := by kernel_rfl
theorem seasonAdded_j23 : (Rows.seasonAddedRow.shortTexts.isNone) = true := by kernel_rfl
theorem seasonAdded_j26 : ((Rows.seasonAddedRow.lifted == Tryz.prog.liftsFinal)) = true := by kernel_rfl
theorem seasonAdded_j27 : ((Tryz.prog.make == some Rows.seasonAddedRow.make)) = true := by kernel_rfl
theorem seasonAdded_j28 : ((Rows.seasonAddedRow.kinds == (if Rows.seasonAddedRow.domain.isEmpty then [] else Tryz.f14.params.toList.map fun t => match Tryz.prog.underlying t with | some (.int k) => some k | _ => none))) = true := by kernel_rfl
theorem seasonAdded_j29 : ((Rows.seasonAddedRow.pinned == Rows.seasonAddedRow.pinnedBy)) = true := by kernel_rfl
theorem seasonAdded_j30 : ((Rows.seasonAddedRow.veiled == (Tryz.f14.params.toList ++ Rows.seasonAddedSpec.plain.varTypes Tryz.prog ++ Tryz.f14.resultTypes.toList).any (Tryz.prog.veiledRec ·))) = true := by kernel_rfl
theorem seasonAdded_j31 : (Rows.seasonAddedRow.veiledFits Tryz.prog Tryz.f14.params.toList (Tryz.f14.params.toList ++ Rows.seasonAddedSpec.plain.varTypes Tryz.prog ++ Tryz.f14.resultTypes.toList)) = true := by kernel_rfl
theorem seasonAdded_joined : joinedFacts Tryz.prog 14 Tryz.f14 Rows.seasonAddedSpec Rows.seasonAddedRow = true := by
 unfold joinedFacts
 exact (and_mk (and_mk (and_mk (and_mk (and_mk (and_mk (and_mk (and_mk (and_mk (and_mk (and_mk (and_mk (and_mk (and_mk (and_mk (and_mk (and_mk (and_mk (and_mk (and_mk (and_mk (and_mk (and_mk (and_mk (and_mk (and_mk (and_mk (and_mk (and_mk (and_mk (and_mk seasonAdded_j0 sh_laidOut) sh_mapsRowed) seasonAdded_j3) seasonAdded_j4) seasonAdded_j5) sh_stops) seasonAdded_j7) sh_knobs) seasonAdded_j9) seasonAdded_j10) seasonAdded_j11) seasonAdded_j12) seasonAdded_j13) seasonAdded_j14) seasonAdded_j15) seasonAdded_j16) seasonAdded_j17) seasonAdded_j18) seasonAdded_j19) seasonAdded_j20) seasonAdded_j21) seasonAdded_j22) seasonAdded_j23) sh_heard) sh_enter) seasonAdded_j26) seasonAdded_j27) seasonAdded_j28) seasonAdded_j29) seasonAdded_j30) seasonAdded_j31)
end Go.Proofs.YtcnpbcgkhhebaaaGreatDoor
namespace Go.Proofs.YtcnpbcgkhhebaaaGreatDoor
open Go.ChangeShapes Go.WideShapes Go.ChangeAt Go.RowKit
set_option maxRecDepth 100000
open Go.Deep Go.Joins
theorem seasonAdded_lifted (os : Os) (started : os.Started) (H : Type) (enc : TypeId × Value → H) :
  ReturnsInHanded {} Tryz.checked os 14 .any (fun w args => (Rows.seasonAddedSpec.pre enc Tryz.prog Tryz.f14 Rows.seasonAddedRow.domain false w args ∧ laidMetH Tryz.prog laidAllL w) ∧ sizedMet enc Tryz.prog Tryz.f14 (OpenSpec.ofChange Rows.seasonAddedSpec) false w args)
   (Rows.seasonAddedSpec.post enc Tryz.prog Tryz.f14 false true false false) := by
 refine handed_both (C := Tryz.checked) (X := fun w _ => laidMetH Tryz.prog laidAllL w) (fun _ _ _ hh h => h.of_heap hh) ownKn started (by kernel_rfl) Tryz.func14
  (ChangeSpec.witness_shaped (enc := enc) (C := Tryz.checked) (os := os) (X := fun w _ => laidMetH Tryz.prog laidAllL w) false (World.laidAll Tryz.prog os laidAllL) #[.string ⟨#[]⟩, .int .u8 0] 8 (World.laidAll_os _ _ _)
   (World.shaped_of_ZipB (by kernel_rfl) (by kernel_rfl)) (by kernel_rfl) (by kernel_rfl) (by kernel_rfl) (laid_met os _)) ?_
 intro W base args ds gs before hval0 hW _ hwt hsh hL _
 have hW' := hW
 obtain ⟨p, q, hA0, hV, rfl, _, _⟩ := hW
 have hA : DataW.TrodAll enc Tryz.prog W 0 (fun _ => true) true Tryz.f14.params.toList args.toList ds p := hA0
 have hLW := laidW_of hsh hL
 rw [Tryz.params14] at hA
 have hval : ∀ (j : Nat) t v, Tryz.f14.params[j]? = some t → args[j]? = some v → Value.okWide Tryz.prog W .any base t v := hval0
 rw [Tryz.params14] at hval
 obtain ⟨v0, v1, d0, d1, p0, p1, rfl, rfl, rfl, h0, h1⟩ := trodAll_two hA
 obtain ⟨rfl, rfl⟩ := trodVars_none hV
 have h0k := h0
 have h1k := h1
 obtain ⟨x0, rfl, _, _, k0⟩ := Go.ChangeMaps.open_string Tryz.underlying9 (hval 0 9 v0 rfl rfl) h0
 obtain ⟨n1, rfl, _, _, wf1⟩ := open_int Tryz.underlying5 (hval 1 5 v1 rfl rfl) h1
 simp only [List.append_nil] at hW'
 have hlt : ∀ x ∈ p0 ++ p1, x.block < W.heap.size := fun x hx => by simpa using hW'.lt x hx
 refine (added_law x0 n1 W hLW (by unfold maxLen at k0; omega) (u8_bd wf1).1 (u8_bd wf1).2).mono fun e W' ⟨he, hb⟩ => ?_
 subst he
 exact ⟨_, rfl, _, _, _, [], p0 ++ p1, [], hW', trodAll_mk1 (shut_bool Tryz.underlying4 true), trodAll_mk2 (Below.trod sh_laidOut (by kernel_rfl) (of_decide_eq_true (by kernel_rfl)) h0k hb (fun x hx => hlt x (by simp [hx]))) (Below.trod sh_laidOut (by kernel_rfl) (of_decide_eq_true (by kernel_rfl)) h1k hb (fun x hx => hlt x (by simp [hx]))), rfl, hb.frame _, fun h => by cases h⟩
theorem seasonAdded_named : Tryz.prog.funcNamed "peavey/peaveylaw12.SeasonAdded" = some 14 := by kernel_rfl
theorem seasonAdded_goes : false = Rows.seasonAddedRow.goesBy Tryz.prog := by kernel_rfl
theorem seasonAdded_wf : Rows.seasonAddedRow.wfByText (OpenSpec.ofChange Rows.seasonAddedSpec) = true := by kernel_rfl
theorem seasonAdded_row : Rows.SeasonAddedSaid :=
 OpenClaim.holds_of_wide 14 Tryz.f14 rfl rfl rfl rfl rfl rfl rfl ⟨rfl, rfl, rfl, rfl, rfl⟩ rfl rfl rfl rfl rfl seasonAdded_named Tryz.func14 seasonAdded_joined
  (of_decide_eq_true (by kernel_rfl)) (by unfold Func.isWrapper; rw [if_neg (of_decide_eq_false (by kernel_rfl))]; exact ⟨rfl, rfl⟩)
  (fun os started H enc _ => seasonAdded_lifted os started H enc)
theorem seasonAdded_card : Rows.SeasonAddedCardSaid :=
 Claim7.holds_tied_plain_at .later [] [.data, .data, .data, .data, .sentinel, .sentinel, .pinned] true (true, "bb3957611fb07b8f30c253038086df1c9e34512f5bd6bdaf1e554329739cb219") true seasonAdded_row (fun _ h => by cases h) seasonAdded_wf (fun _ h => by cases h) seasonAdded_row_tie rfl ⟨rfl, rfl⟩ sh_main rfl
  (fun f fn hf hfn => by
   obtain rfl : f = 14 := Option.some.inj (seasonAdded_named.symm.trans hf) |>.symm
   obtain rfl : fn = Tryz.f14 := (Option.some.inj (Tryz.func14.symm.trans hfn)).symm
   exact ⟨sh_looks, fun j t ht => by
    rw [Tryz.params14] at ht
    have hm : t ∈ [9, 5] := by simpa using Array.mem_of_getElem? ht
    have hall : ([9, 5].all fun u => !Tryz.prog.wantsStandIn u) = true := by kernel_rfl
    exact (show Tryz.prog.wantsStandIn t = false by simpa using List.all_eq_true.1 hall t hm)⟩)
  seasonAdded_goes
#print axioms seasonAdded_card
end Go.Proofs.YtcnpbcgkhhebaaaGreatDoor
