/- SeasonStruck returns true, for every input; and what it was given reads as before: the given card, under the row's condition: the listed package-level variables read as the program's text lays them. -/
import Derived.Test.YtcnpbcgkhhebaaaGreatDoorNj1
/- SeasonStruck: a line is struck. -/
namespace Go.Proofs.YtcnpbcgkhhebaaaGreatDoor
open Go.RowKit

set_option maxRecDepth 100000 in
set_option maxHeartbeats 40000000 in
theorem struck_any (text : ByteArray) (w : World) (hL : LaidW w) (hs : text.size ≤ 9223372036854775807):
  Calls Tryz.prog 8 #[.string text] w fun e w' => e = .returned (.bool true) ∧ Below w.heap.size w w' := by
 have FN := Lib.hid (fun W => fine_any text W hs)
 rcases fine_cases text with hf | ⟨hf, l, hl⟩
 ·rw [hf] at FN
  clear hf
  have HL := Lib.hid hL
  have BB := Lib.hid (Below.refl w.heap.size w)
  go_enter Tryz.func8, Tryz.ntmps8
  go_wp2_with fail
  have hE : Below w.heap.size w w := (Below.refl w.heap.size w)
  refine (FN.out _).mono ?_
  rintro e w1 ⟨rfl, hb⟩
  have hB := below2 hE hb
  replace HL := Lib.hid (HL.out.below hB)
  replace BB := Lib.hid (below2 BB.out hB)
  clear hE hb hB
  go_wp2_with fail
  have hE : Below w1.heap.size w1 w1 := (Below.refl w1.heap.size w1)
  refine (works_any _ (HL.out.below hE)).mono ?_
  rintro e w2 ⟨rfl, hb⟩
  have hB := below2 hE hb
  replace HL := Lib.hid (HL.out.below hB)
  replace BB := Lib.hid (below2 BB.out hB)
  clear hE hb hB
  go_wp2
  go_ret
  exact ⟨rfl, BB.out⟩
 ·rw [hf] at FN
  have HL := Lib.hid hL
  have BB := Lib.hid (Below.refl w.heap.size w)
  have hs0 := small_text hl
  have LN := Lib.hid (fun W => lines_any text W (by omega))
  rw [nLines_parse hl] at LN
  clear hL
  obtain ⟨n, hn⟩ : ∃ n, l.length = n := ⟨_, rfl⟩
  rw [hn] at LN
  by_cases z1 : n = 0
  ·have _z : True := trivial
   subst z1
   go_enter Tryz.func8, Tryz.ntmps8
   go_wp2_with fail
   have hE : Below w.heap.size w w := (Below.refl w.heap.size w)
   refine (FN.out _).mono ?_
   rintro e w1 ⟨rfl, hb⟩
   have hB := below2 hE hb
   replace HL := Lib.hid (HL.out.below hB)
   replace BB := Lib.hid (below2 BB.out hB)
   clear hE hb hB
   go_wp2_with fail
   have hE : Below w1.heap.size w1 w1 := (Below.refl w1.heap.size w1)
   refine (LN.out _).mono ?_
   rintro e w2 ⟨rfl, hb⟩
   have hB := below2 hE hb
   replace HL := Lib.hid (HL.out.below hB)
   replace BB := Lib.hid (below2 BB.out hB)
   clear hE hb hB
   go_wp2_with fail
   have hE : Below w2.heap.size w2 w2 := (Below.refl w2.heap.size w2)
   refine (works_any _ (HL.out.below hE)).mono ?_
   rintro e w3 ⟨rfl, hb⟩
   have hB := below2 hE hb
   replace HL := Lib.hid (HL.out.below hB)
   replace BB := Lib.hid (below2 BB.out hB)
   clear hE hb hB
   go_wp2
   go_ret
   exact ⟨rfl, BB.out⟩
  have z1i : ((n : Int) == 0) = false := by rw [beq_eq_false_iff_ne]; omega
  have z1n : (n == 0) = false := by rw [beq_eq_false_iff_ne]; omega
  by_cases z2 : 198 < n
  ·have _z : True := trivial
   have z2i : (198 : Int) < (n : Int) := by omega
   go_enter Tryz.func8, Tryz.ntmps8
   go_wp2_with fail
   have hE : Below w.heap.size w w := (Below.refl w.heap.size w)
   refine (FN.out _).mono ?_
   rintro e w1 ⟨rfl, hb⟩
   have hB := below2 hE hb
   replace HL := Lib.hid (HL.out.below hB)
   replace BB := Lib.hid (below2 BB.out hB)
   clear hE hb hB
   go_wp2_with fail
   have hE : Below w1.heap.size w1 w1 := (Below.refl w1.heap.size w1)
   refine (LN.out _).mono ?_
   rintro e w2 ⟨rfl, hb⟩
   have hB := below2 hE hb
   replace HL := Lib.hid (HL.out.below hB)
   replace BB := Lib.hid (below2 BB.out hB)
   clear hE hb hB
   go_wp2_with fail
   have hE : Below w2.heap.size w2 w2 := (Below.refl w2.heap.size w2)
   refine (LN.out _).mono ?_
   rintro e w3 ⟨rfl, hb⟩
   have hB := below2 hE hb
   replace HL := Lib.hid (HL.out.below hB)
   replace BB := Lib.hid (below2 BB.out hB)
   clear hE hb hB
   go_wp2_with fail
   have hE : Below w3.heap.size w3 w3 := (Below.refl w3.heap.size w3)
   refine (works_any _ (HL.out.below hE)).mono ?_
   rintro e w4 ⟨rfl, hb⟩
   have hB := below2 hE hb
   replace HL := Lib.hid (HL.out.below hB)
   replace BB := Lib.hid (below2 BB.out hB)
   clear hE hb hB
   go_wp2
   go_ret
   exact ⟨rfl, BB.out⟩
  by_cases z3 : 7970 < text.size
  ·have _z : True := trivial
   have z3i : (7970 : Int) < (text.size : Int) := by omega
   have z2i : ¬ (198 : Int) < (n : Int) := by omega
   go_enter Tryz.func8, Tryz.ntmps8
   go_wp2_with fail
   have hE : Below w.heap.size w w := (Below.refl w.heap.size w)
   refine (FN.out _).mono ?_
   rintro e w1 ⟨rfl, hb⟩
   have hB := below2 hE hb
   replace HL := Lib.hid (HL.out.below hB)
   replace BB := Lib.hid (below2 BB.out hB)
   clear hE hb hB
   go_wp2_with fail
   have hE : Below w1.heap.size w1 w1 := (Below.refl w1.heap.size w1)
   refine (LN.out _).mono ?_
   rintro e w2 ⟨rfl, hb⟩
   have hB := below2 hE hb
   replace HL := Lib.hid (HL.out.below hB)
   replace BB := Lib.hid (below2 BB.out hB)
   clear hE hb hB
   go_wp2_with fail
   have hE : Below w2.heap.size w2 w2 := (Below.refl w2.heap.size w2)
   refine (LN.out _).mono ?_
   rintro e w3 ⟨rfl, hb⟩
   have hB := below2 hE hb
   replace HL := Lib.hid (HL.out.below hB)
   replace BB := Lib.hid (below2 BB.out hB)
   clear hE hb hB
   go_wp2_with fail
   have hE : Below w3.heap.size w3 w3 := (Below.refl w3.heap.size w3)
   refine (works_any _ (HL.out.below hE)).mono ?_
   rintro e w4 ⟨rfl, hb⟩
   have hB := below2 hE hb
   replace HL := Lib.hid (HL.out.below hB)
   replace BB := Lib.hid (below2 BB.out hB)
   clear hE hb hB
   go_wp2
   go_ret
   exact ⟨rfl, BB.out⟩
  have z3i : ¬ (7970 : Int) < (text.size : Int) := by omega
  obtain ⟨l0, y, hly⟩ : ∃ l0 y, l = l0 ++ [y] := ⟨l.dropLast, l.getLast (fun e => by rw [e] at hn; exact z1 hn.symm), (List.dropLast_concat_getLast _).symm⟩
  obtain ⟨m, hm⟩ : ∃ m, l0.length = m := ⟨_, rfl⟩
  have hnm : n = m + 1 := by rw [← hn, hly, List.length_append, hm]; rfl
  subst hnm
  have hm198 : m ≤ 197 := by omega
  have z2i : ¬ (198 : Int) < (m : Int) + 1 := by omega
  have z1i2 : ((m : Int) + 1 == 0) = false := by rw [beq_eq_false_iff_ne]; omega
  have CLN := Lib.hid (fun W => lines2_any text W (by omega))
  rw [hl] at CLN
  simp only [OwnR2, hn] at CLN
  have HYL := Lib.hid (show ∀ h : m < l.length, l[m] = y from by subst hly; intro h; rw [List.getElem_append_right (by omega)]; simp [hm])
  have HMN := Lib.hid (show m < l.length by omega)
  have hm0 : (0 : Int) ≤ (m : Int) := by omega
  have hm1 : (m : Int) < (m : Int) + 1 := by omega
  have HN := Lib.hid hn
  by_cases hw : y.word = wStrike
  ·have _z : True := trivial
   have hwb : (y.word.toList == [115, 116, 114, 105, 107, 101]) = true := by rw [hw, ByteArray.toList_eq]; decide
   have HWB := Lib.hid hw
   clear hw
   go_enter Tryz.func8, Tryz.ntmps8
   go_wp2_with fail
   have hE : Below w.heap.size w w := (Below.refl w.heap.size w)
   refine (FN.out _).mono ?_
   rintro e w1 ⟨rfl, hb⟩
   have hB := below2 hE hb
   replace HL := Lib.hid (HL.out.below hB)
   replace BB := Lib.hid (below2 BB.out hB)
   clear hE hb hB
   go_wp2_with fail
   have hE : Below w1.heap.size w1 w1 := (Below.refl w1.heap.size w1)
   refine (LN.out _).mono ?_
   rintro e w2 ⟨rfl, hb⟩
   have hB := below2 hE hb
   replace HL := Lib.hid (HL.out.below hB)
   replace BB := Lib.hid (below2 BB.out hB)
   clear hE hb hB
   go_wp2_with fail
   have hE : Below w2.heap.size w2 w2 := (Below.refl w2.heap.size w2)
   refine (LN.out _).mono ?_
   rintro e w3 ⟨rfl, hb⟩
   have hB := below2 hE hb
   replace HL := Lib.hid (HL.out.below hB)
   replace BB := Lib.hid (below2 BB.out hB)
   clear hE hb hB
   go_wp2_with fail
   have hE : Below w3.heap.size w3 w3 := (Below.refl w3.heap.size w3)
   refine (LN.out _).mono ?_
   rintro e w4 ⟨rfl, hb⟩
   have hB := below2 hE hb
   replace HL := Lib.hid (HL.out.below hB)
   replace BB := Lib.hid (below2 BB.out hB)
   clear hE hb hB
   go_wp2_with fail
   have hE : Below w4.heap.size w4 w4 := (Below.refl w4.heap.size w4)
   refine (CLN.out _).mono ?_
   rintro e w5 ⟨⟨A0, c0, rfl, ho1⟩, hb⟩
   have hB := below2 hE hb
   replace HL := Lib.hid (HL.out.below hB)
   replace BB := Lib.hid (below2 BB.out hB)
   clear hE hb hB
   have RL := Lib.hid (show Rd eD 4 _ A0 c0 l from Own.rs (by rw [HN.out]; exact ho1) encD)
   clear ho1
   obtain ⟨bl, ol, yy, hyy, rfl, -, l0w⟩ := RL.out.atD (i := m) HMN.out
   rw [HYL.out] at hyy
   subst hyy
   go_wp2_with fail
   have hE : Below w5.heap.size w5 w5 := (Below.refl w5.heap.size w5)
   refine (works_any _ (HL.out.below hE)).mono ?_
   rintro e w6 ⟨rfl, hb⟩
   have hB := below2 hE hb
   replace HL := Lib.hid (HL.out.below hB)
   replace BB := Lib.hid (below2 BB.out hB)
   replace RL := Lib.hid (RL.out.below hB)
   clear hE hb hB
   go_wp2
   go_ret
   exact ⟨rfl, BB.out⟩
  have hwb : (y.word.toList == [115, 116, 114, 105, 107, 101]) = false := by have h := word_eq y.word wStrike; rw [ByteArray.toList_eq wStrike] at h; exact h.trans (decide_eq_false hw)
  have hst := struck (l := l0) (y := y) (x := strikeLn ((m + 1 : Nat) : Int)) hw rfl (by rw [hm]; rfl)
  rw [← hly] at hst
  obtain ⟨os, h1⟩ : ∃ x, (playE l0).os = x := ⟨_, rfl⟩
  obtain ⟨ls, h2⟩ : ∃ x, (playE l0).ls = x := ⟨_, rfl⟩
  obtain ⟨er, h3⟩ : ∃ x, (playE l0).errs = x := ⟨_, rfl⟩
  have h4 : er.length = m := by rw [← h3, playE_errs]; exact hm
  have htk : l.take m = l0 := by rw [hly, List.take_left' hm]
  rw [h1, h2, h3] at hst
  obtain ⟨s1, s2, e, s3⟩ := hst
  obtain ⟨x1, x2, x3, x4⟩ := errs_at h4 e (if e = 0 then 0 else 5) 5
  obtain ⟨ee, hee⟩ : ∃ x, er ++ [e] ++ [if e = 0 then 0 else 5] ++ [5] = x := ⟨_, rfl⟩
  rw [hee] at s3 x1 x2 x3 x4
  have hpar := more_parse hl hn (by omega) (by omega) (by omega)
  have DG0 := Lib.hid (fun W => digits2_any (m + 1) W (by omega))
  have DG1 := Lib.hid (fun W => digits2_any (m + 2) W (by omega))
  have DG2 := Lib.hid (fun W => digits2_any (m + 3) W (by omega))
  have q0 := decB_small (n := m + 1) (k := 3) (by omega) (by omega)
  have q1 := decB_small (n := m + 2) (k := 3) (by omega) (by omega)
  have q2 := decB_small (n := m + 3) (k := 3) (by omega) (by omega)
  have c1 : ((m + 1 : Nat) : Int) = (m : Int) + 1 := by omega
  have c2 : ((m + 2 : Nat) : Int) = (m : Int) + 2 := by omega
  have c3 : ((m + 3 : Nat) : Int) = (m : Int) + 3 := by omega
  have c4 : (m : Int) + 1 + 1 = (m : Int) + 2 := by omega
  have c5 : (m : Int) + 1 + 2 = (m : Int) + 3 := by omega
  rw [c1] at hpar DG0 q0
  rw [c2] at DG1 q1
  rw [c3] at DG2 q2
  rw [c4, c5] at hpar
  obtain ⟨lb, hlb⟩ : ∃ x, decB ((m : Int) + 1) = x := ⟨_, rfl⟩
  obtain ⟨ib, hib⟩ : ∃ x, decB ((m : Int) + 2) = x := ⟨_, rfl⟩
  obtain ⟨jb, hjb⟩ : ∃ x, decB ((m : Int) + 3) = x := ⟨_, rfl⟩
  rw [hlb] at hpar DG0 q0
  rw [hib] at hpar DG1 q1
  rw [hjb] at hpar DG2 q2
  have RU := Lib.hid (fun W hW => runT (n := m + 3) hpar s1 s2 s3 x1 W hW)
  have BO := Lib.hid (fun W hW => boardT hl (k := m) (os := os) (ls := ls) (by omega) (by rw [htk]; exact h1) (by rw [htk]; exact h2) W hW)
  have X2 := Lib.hid x2
  have X3 := Lib.hid x3
  have X4 := Lib.hid x4
  have X1 := Lib.hid x1
  unfold moreT at RU
  obtain ⟨tb, htb⟩ : ∃ x : ByteArray, (⟨#[115, 116, 114, 105, 107, 101, 32]⟩ : ByteArray) ++ lb ++ ⟨#[10]⟩ = x := ⟨_, rfl⟩
  have htz : tb.size ≤ 11 := by rw [← htb, ByteArray.size_append, ByteArray.size_append]; have a : (⟨#[115, 116, 114, 105, 107, 101, 32]⟩ : ByteArray).size = 7 := rfl; have b : (⟨#[10]⟩ : ByteArray).size = 1 := rfl; omega
  clear hpar s1 s2 s3 x1 x2 x3 x4 hlb hib hjb htk h1 h2 h3 h4 hee hw hly hm hl hn c1 c2 c3
  have HTB := Lib.hid htb
  clear htb
  have g1 : ¬ 9223372036854775807 < 7 + lb.size := by omega
  have g2 : ¬ 9223372036854775807 < 7 + lb.size + 1 := by omega
  have g3 : ¬ 9223372036854775807 < text.size + ib.size := by omega
  have g4 : ¬ 9223372036854775807 < text.size + ib.size + 1 := by omega
  have g5 : ¬ 9223372036854775807 < text.size + ib.size + 1 + tb.size := by omega
  have g6 : ¬ 9223372036854775807 < text.size + ib.size + 1 + tb.size + jb.size := by omega
  have g7 : ¬ 9223372036854775807 < text.size + ib.size + 1 + tb.size + jb.size + 1 := by omega
  have g8 : ¬ 9223372036854775807 < text.size + ib.size + 1 + tb.size + jb.size + 1 + tb.size := by omega
  go_enter Tryz.func8, Tryz.ntmps8
  go_wp2_with fail
  have hE : Below w.heap.size w w := (Below.refl w.heap.size w)
  refine (FN.out _).mono ?_
  rintro e w1 ⟨rfl, hb⟩
  have hB := below2 hE hb
  replace HL := Lib.hid (HL.out.below hB)
  replace BB := Lib.hid (below2 BB.out hB)
  clear hE hb hB
  go_wp2_with fail
  have hE : Below w1.heap.size w1 w1 := (Below.refl w1.heap.size w1)
  refine (LN.out _).mono ?_
  rintro e w2 ⟨rfl, hb⟩
  have hB := below2 hE hb
  replace HL := Lib.hid (HL.out.below hB)
  replace BB := Lib.hid (below2 BB.out hB)
  clear hE hb hB
  go_wp2_with fail
  have hE : Below w2.heap.size w2 w2 := (Below.refl w2.heap.size w2)
  refine (LN.out _).mono ?_
  rintro e w3 ⟨rfl, hb⟩
  have hB := below2 hE hb
  replace HL := Lib.hid (HL.out.below hB)
  replace BB := Lib.hid (below2 BB.out hB)
  clear hE hb hB
  go_wp2_with fail
  have hE : Below w3.heap.size w3 w3 := (Below.refl w3.heap.size w3)
  refine (LN.out _).mono ?_
  rintro e w4 ⟨rfl, hb⟩
  have hB := below2 hE hb
  replace HL := Lib.hid (HL.out.below hB)
  replace BB := Lib.hid (below2 BB.out hB)
  clear hE hb hB
  go_wp2_with fail
  have hE : Below w4.heap.size w4 w4 := (Below.refl w4.heap.size w4)
  refine (CLN.out _).mono ?_
  rintro e w5 ⟨⟨A0, c0, rfl, ho1⟩, hb⟩
  have hB := below2 hE hb
  replace HL := Lib.hid (HL.out.below hB)
  replace BB := Lib.hid (below2 BB.out hB)
  clear hE hb hB
  have RL := Lib.hid (show Rd eD 4 _ A0 c0 l from Own.rs (by rw [HN.out]; exact ho1) encD)
  clear ho1
  obtain ⟨bl, ol, yy, hyy, rfl, -, l0w⟩ := RL.out.atD (i := m) HMN.out
  rw [HYL.out] at hyy
  subst hyy
  go_wp2_with fail
  have hE : Below w5.heap.size w5 w5 := (Below.refl w5.heap.size w5)
  refine (DG0.out _).mono ?_
  rintro e w6 ⟨rfl, hb⟩
  have hB := below2 hE hb
  replace HL := Lib.hid (HL.out.below hB)
  replace BB := Lib.hid (below2 BB.out hB)
  replace RL := Lib.hid (RL.out.below hB)
  clear hE hb hB
  go_wp2_with fail
  have hE : Below w6.heap.size w6 w6 := (Below.refl w6.heap.size w6)
  refine (DG1.out _).mono ?_
  rintro e w7 ⟨rfl, hb⟩
  have hB := below2 hE hb
  replace HL := Lib.hid (HL.out.below hB)
  replace BB := Lib.hid (below2 BB.out hB)
  replace RL := Lib.hid (RL.out.below hB)
  clear hE hb hB
  go_wp2_with fail
  have hE : Below w7.heap.size w7 w7 := (Below.refl w7.heap.size w7)
  refine (DG2.out _).mono ?_
  rintro e w8 ⟨rfl, hb⟩
  have hB := below2 hE hb
  replace HL := Lib.hid (HL.out.below hB)
  replace BB := Lib.hid (below2 BB.out hB)
  replace RL := Lib.hid (RL.out.below hB)
  clear hE hb hB
  go_wp2_with fail
  have hE : Below w8.heap.size w8 w8 := (Below.refl w8.heap.size w8)
  refine (BO.out _ (HL.out.below hE)).mono ?_
  rintro e w9 ⟨⟨A1, c1, A2, c2, rfl, ho1, ho2⟩, hb⟩
  have hB := below2 hE hb
  replace HL := Lib.hid (HL.out.below hB)
  replace BB := Lib.hid (below2 BB.out hB)
  replace RL := Lib.hid (RL.out.below hB)
  have RO := Lib.hid ho1
  have RS := Lib.hid ho2
  clear hE hb hB ho1 ho2
  go_wp2_with fail
  have hE : Below w9.heap.size w9 (w9.alloc (.cells #[.slice A1 os.length c1, .slice A2 ls.length c2] 26)) := (below_a1 w9 (.cells #[.slice A1 os.length c1, .slice A2 ls.length c2] 26))
  refine (RU.out _ (HL.out.below hE)).mono ?_
  rintro e w10 ⟨⟨A3, c3, A4, c4, A5, c5, rfl, ho1, ho2, ho3⟩, hb⟩
  have hB := below2 hE hb
  replace HL := Lib.hid (HL.out.below hB)
  replace BB := Lib.hid (below2 BB.out hB)
  replace RL := Lib.hid (RL.out.below hB)
  replace RO := Lib.hid (RO.out.below hB)
  replace RS := Lib.hid (RS.out.below hB)
  have bx0 := Lib.hid (show w10.cell? ⟨w9.heap.size, 0, none⟩ = some (.slice A1 os.length c1) from cB hb (by go_simp))
  have bx1 := Lib.hid (show w10.cell? ⟨w9.heap.size, 1, none⟩ = some (.slice A2 ls.length c2) from cB hb (by go_simp))
  have RO2 := Lib.hid ho1
  have RS2 := Lib.hid ho2
  have RE := Lib.hid ho3
  clear hE hb hB ho1 ho2 ho3
  obtain ⟨be, oe, z5, hz5, rfl, -, e5⟩ := RE.out.atI (i := m + 2) (by rw [X1.out]; omega)
  rw [at_of X4.out] at hz5
  subst hz5
  obtain ⟨be', oe', z6, hz6, hee, -, e6⟩ := RE.out.atI (i := m) (by rw [X1.out]; omega)
  cases hee
  rw [at_of X2.out] at hz6
  subst hz6
  obtain ⟨be', oe', z7, hz7, hee, -, e7⟩ := RE.out.atI (i := m + 1) (by rw [X1.out]; omega)
  cases hee
  rw [at_of X3.out] at hz7
  have E5 := Lib.hid e5
  have E6 := Lib.hid e6
  have E7 := Lib.hid e7
  clear e5 e6 e7
  have e5 := cA E5.out (.cells #[.slice A3 os.length c3, .slice A4 ls.length c4] 26)
  have bx0o := bx0.out
  have bx1o := bx1.out
  have bxlt : w9.heap.size < w10.heap.size := World.block_lt_of_cell? _ _ bx0o
  go_wp2_with fail
  have hE : Below w10.heap.size w10 (w10.alloc (.cells #[.slice A3 os.length c3, .slice A4 ls.length c4] 26)) := (below_a1 w10 (.cells #[.slice A3 os.length c3, .slice A4 ls.length c4] 26))
  refine (same_any _ _ _ _ _ _ _ _ os ls _ (RO2.out.below hE) (RS2.out.below hE) (RO.out.below hE) (RS.out.below hE)).mono ?_
  rintro e w11 ⟨rfl, hb⟩
  have hB := below2 hE hb
  replace HL := Lib.hid (HL.out.below hB)
  replace BB := Lib.hid (below2 BB.out hB)
  replace RL := Lib.hid (RL.out.below hB)
  replace RO := Lib.hid (RO.out.below hB)
  replace RS := Lib.hid (RS.out.below hB)
  replace bx0 := Lib.hid (cB hB bx0.out)
  replace bx1 := Lib.hid (cB hB bx1.out)
  replace RO2 := Lib.hid (RO2.out.below hB)
  replace RS2 := Lib.hid (RS2.out.below hB)
  replace RE := Lib.hid (RE.out.below hB)
  replace E5 := Lib.hid (cB hB E5.out)
  replace E6 := Lib.hid (cB hB E6.out)
  replace E7 := Lib.hid (cB hB E7.out)
  clear hE hb hB
  clear bx0o bx1o bxlt
  clear e5
  have e6 := E6.out
  have e7 := E7.out
  by_cases h0 : z6 = 0
  ·have _z : True := trivial
   rw [if_pos h0] at hz7
   subst h0 hz7
   go_wp2_with fail
   have hE : Below w11.heap.size w11 w11 := (Below.refl w11.heap.size w11)
   refine (works_any _ (HL.out.below hE)).mono ?_
   rintro e w12 ⟨rfl, hb⟩
   have hB := below2 hE hb
   replace HL := Lib.hid (HL.out.below hB)
   replace BB := Lib.hid (below2 BB.out hB)
   replace RL := Lib.hid (RL.out.below hB)
   replace RO := Lib.hid (RO.out.below hB)
   replace RS := Lib.hid (RS.out.below hB)
   replace bx0 := Lib.hid (cB hB bx0.out)
   replace bx1 := Lib.hid (cB hB bx1.out)
   replace RO2 := Lib.hid (RO2.out.below hB)
   replace RS2 := Lib.hid (RS2.out.below hB)
   replace RE := Lib.hid (RE.out.below hB)
   replace E5 := Lib.hid (cB hB E5.out)
   replace E6 := Lib.hid (cB hB E6.out)
   replace E7 := Lib.hid (cB hB E7.out)
   clear hE hb hB
   go_wp2
   go_ret
   exact ⟨rfl, BB.out⟩
  ·have _z : True := trivial
   rw [if_neg h0] at hz7
   subst hz7
   have h0f : (z6 == 0) = false := by rw [beq_eq_false_iff_ne]; exact h0
   go_wp2_with fail
   have hE : Below w11.heap.size w11 w11 := (Below.refl w11.heap.size w11)
   refine (works_any _ (HL.out.below hE)).mono ?_
   rintro e w12 ⟨rfl, hb⟩
   have hB := below2 hE hb
   replace HL := Lib.hid (HL.out.below hB)
   replace BB := Lib.hid (below2 BB.out hB)
   replace RL := Lib.hid (RL.out.below hB)
   replace RO := Lib.hid (RO.out.below hB)
   replace RS := Lib.hid (RS.out.below hB)
   replace bx0 := Lib.hid (cB hB bx0.out)
   replace bx1 := Lib.hid (cB hB bx1.out)
   replace RO2 := Lib.hid (RO2.out.below hB)
   replace RS2 := Lib.hid (RS2.out.below hB)
   replace RE := Lib.hid (RE.out.below hB)
   replace E5 := Lib.hid (cB hB E5.out)
   replace E6 := Lib.hid (cB hB E6.out)
   replace E7 := Lib.hid (cB hB E7.out)
   clear hE hb hB
   go_wp2
   go_ret
   exact ⟨rfl, BB.out⟩
end Go.Proofs.YtcnpbcgkhhebaaaGreatDoor
/- Closed facts of SeasonStruck's row. -/
namespace Go.Proofs.YtcnpbcgkhhebaaaGreatDoor
open Go.ChangeShapes Go.WideShapes Go.ChangeAt Go.RowKit
set_option maxRecDepth 100000
theorem seasonStruck_j0 : (Rows.seasonStruckRow.wf (OpenSpec.ofChange Rows.seasonStruckSpec)) = true := by kernel_rfl
theorem seasonStruck_j3 : (Tryz.f8.params.all (Tryz.prog.readableRec ·)) = true := by kernel_rfl
theorem seasonStruck_j4 : (namedTie Tryz.prog Rows.seasonStruckRow.named Rows.seasonStruckSpec.vars) = true := by kernel_rfl
theorem seasonStruck_j5 : ((Rows.seasonStruckRow.stops == [])) = true := by kernel_rfl
theorem seasonStruck_j7 : ((Rows.seasonStruckRow.knobs == [])) = true := by kernel_rfl
theorem seasonStruck_j9 : ((Rows.seasonStruckRow.inPlace == Tryz.prog.inPlace 8)) = true := by kernel_rfl
theorem seasonStruck_j10 : ((Rows.seasonStruckRow.unfollowed == Tryz.prog.unfollowed 8)) = true := by kernel_rfl
theorem seasonStruck_j11 : ((Rows.seasonStruckRow.recurses == Tryz.prog.recurses 8)) = true := by kernel_rfl
theorem seasonStruck_j12 : ((Rows.seasonStruckRow.named == Tryz.prog.varsNamed 8)) = true := by kernel_rfl
theorem seasonStruck_j13 : ((Rows.seasonStruckRow.maps == (Tryz.f8.params.toList ++ Rows.seasonStruckSpec.plain.varTypes Tryz.prog).any (Tryz.prog.mapsRec ·))) = true := by kernel_rfl
theorem seasonStruck_j14 : ((Rows.seasonStruckRow.ifaces == (Tryz.f8.params.toList ++ Rows.seasonStruckSpec.plain.varTypes Tryz.prog).any (Tryz.prog.ifacesRec ·))) = true := by kernel_rfl
theorem seasonStruck_j15 : ((Rows.seasonStruckRow.mapsOut == Tryz.prog.mapsAmong Tryz.f8.resultTypes.toList)) = true := by kernel_rfl
theorem seasonStruck_j16 : ((Rows.seasonStruckRow.loops == (Tryz.f8.params.toList ++ Rows.seasonStruckSpec.plain.varTypes Tryz.prog).any (Tryz.prog.loopsFrom ·))) = true := by kernel_rfl
theorem seasonStruck_j17 : ((Rows.seasonStruckRow.wideKeys == (Tryz.f8.params.toList ++ Rows.seasonStruckSpec.plain.varTypes Tryz.prog ++ Tryz.f8.resultTypes.toList).any (Tryz.prog.wideKeysFrom ·))) = true := by kernel_rfl
theorem seasonStruck_j18 : (Rows.seasonStruckSpec.vars.all (Tryz.prog.varReadable ·)) = true := by kernel_rfl
theorem seasonStruck_j19 : (Tryz.f8.resultTypes.all (fun t => Tryz.prog.readableRec t && decide (t < Tryz.prog.types.size))) = true := by kernel_rfl
theorem seasonStruck_j20 : ((Rows.seasonStruckRow.ifacesOut == Tryz.f8.resultTypes.toList.any (Tryz.prog.ifacesRec ·))) = true := by kernel_rfl
theorem seasonStruck_j21 : ((Rows.seasonStruckRow.loopsOut == Tryz.f8.resultTypes.toList.any (Tryz.prog.loopsFrom ·))) = true := by kernel_rfl
theorem seasonStruck_j22 : ((Rows.seasonStruckRow.plainKeys == Tryz.prog.plainKeys)) = true := by kernel_rfl
theorem seasonStruck_j23 : (Rows.seasonStruckRow.shortTexts.isNone) = true := by kernel_rfl
theorem seasonStruck_j26 : ((Rows.seasonStruckRow.lifted == Tryz.prog.liftsFinal)) = true := by kernel_rfl
theorem seasonStruck_j27 : ((Tryz.prog.make == some Rows.seasonStruckRow.make)) = true := by kernel_rfl
theorem seasonStruck_j28 : ((Rows.seasonStruckRow.kinds == (if Rows.seasonStruckRow.domain.isEmpty then [] else Tryz.f8.params.toList.map fun t => match Tryz.prog.underlying t with | some (.int k) => some k | _ => none))) = true := by kernel_rfl
theorem seasonStruck_j29 : ((Rows.seasonStruckRow.pinned == Rows.seasonStruckRow.pinnedBy)) = true := by kernel_rfl
theorem seasonStruck_j30 : ((Rows.seasonStruckRow.veiled == (Tryz.f8.params.toList ++ Rows.seasonStruckSpec.plain.varTypes Tryz.prog ++ Tryz.f8.resultTypes.toList).any (Tryz.prog.veiledRec ·))) = true := by kernel_rfl
theorem seasonStruck_j31 : (Rows.seasonStruckRow.veiledFits Tryz.prog Tryz.f8.params.toList (Tryz.f8.params.toList ++ Rows.seasonStruckSpec.plain.varTypes Tryz.prog ++ Tryz.f8.resultTypes.toList)) = true := by kernel_rfl
theorem seasonStruck_joined : joinedFacts Tryz.prog 8 Tryz.f8 Rows.seasonStruckSpec Rows.seasonStruckRow = true := by
 unfold joinedFacts
 exact (and_mk (and_mk (and_mk (and_mk (and_mk (and_mk (and_mk (and_mk (and_mk (and_mk (and_mk (and_mk (and_mk (and_mk (and_mk (and_mk (and_mk (and_mk (and_mk (and_mk (and_mk (and_mk (and_mk (and_mk (and_mk (and_mk (and_mk (and_mk (and_mk (and_mk (and_mk seasonStruck_j0 sh_laidOut) sh_mapsRowed) seasonStruck_j3) seasonStruck_j4) seasonStruck_j5) sh_stops) seasonStruck_j7) sh_knobs) seasonStruck_j9) seasonStruck_j10) seasonStruck_j11) seasonStruck_j12) seasonStruck_j13) seasonStruck_j14) seasonStruck_j15) seasonStruck_j16) seasonStruck_j17) seasonStruck_j18) seasonStruck_j19) seasonStruck_j20) seasonStruck_j21) seasonStruck_j22) seasonStruck_j23) sh_heard) sh_enter) seasonStruck_j26) seasonStruck_j27) seasonStruck_j28) seasonStruck_j29) seasonStruck_j30) seasonStruck_j31)
end Go.Proofs.YtcnpbcgkhhebaaaGreatDoor
namespace Go.Proofs.YtcnpbcgkhhebaaaGreatDoor
open Go.ChangeShapes Go.WideShapes Go.ChangeAt Go.RowKit
set_option maxRecDepth 100000
open Go.Deep Go.Joins
theorem seasonStruck_lifted (os : Os) (started : os.Started) (H : Type) (enc : TypeId × Value → H) :
  ReturnsInHanded {} Tryz.checked os 8 .any (fun w args => (Rows.seasonStruckSpec.pre enc Tryz.prog Tryz.f8 Rows.seasonStruckRow.domain false w args ∧ laidMetH Tryz.prog laidAllL w) ∧ sizedMet enc Tryz.prog Tryz.f8 (OpenSpec.ofChange Rows.seasonStruckSpec) false w args)
   (Rows.seasonStruckSpec.post enc Tryz.prog Tryz.f8 false true false false) := by
 refine handed_both (C := Tryz.checked) (X := fun w _ => laidMetH Tryz.prog laidAllL w) (fun _ _ _ hh h => h.of_heap hh) ownKn started (by kernel_rfl) Tryz.func8
  (ChangeSpec.witness_shaped (enc := enc) (C := Tryz.checked) (os := os) (X := fun w _ => laidMetH Tryz.prog laidAllL w) false (World.laidAll Tryz.prog os laidAllL) #[.string ⟨#[]⟩] 8 (World.laidAll_os _ _ _)
   (World.shaped_of_ZipB (by kernel_rfl) (by kernel_rfl)) (by kernel_rfl) (by kernel_rfl) (by kernel_rfl) (laid_met os _)) ?_
 intro W base args ds gs before hval0 hW _ hwt hsh hL _
 have hW' := hW
 obtain ⟨p, q, hA0, hV, rfl, _, _⟩ := hW
 have hA : DataW.TrodAll enc Tryz.prog W 0 (fun _ => true) true Tryz.f8.params.toList args.toList ds p := hA0
 have hLW := laidW_of hsh hL
 rw [Tryz.params8] at hA
 have hval : ∀ (j : Nat) t v, Tryz.f8.params[j]? = some t → args[j]? = some v → Value.okWide Tryz.prog W .any base t v := hval0
 rw [Tryz.params8] at hval
 obtain ⟨v0, d0, rfl, rfl, h0⟩ := trodAll_one hA
 obtain ⟨rfl, rfl⟩ := trodVars_none hV
 have h0k := h0
 obtain ⟨x0, rfl, _, _, k0⟩ := Go.ChangeMaps.open_string Tryz.underlying9 (hval 0 9 v0 rfl rfl) h0
 simp only [List.append_nil] at hW'
 have hlt : ∀ x ∈ p, x.block < W.heap.size := fun x hx => by simpa using hW'.lt x hx
 refine (struck_any x0 W hLW (by unfold maxLen at k0; omega)).mono fun e W' ⟨he, hb⟩ => ?_
 subst he
 exact ⟨_, rfl, _, _, _, [], p, [], hW', trodAll_mk1 (shut_bool Tryz.underlying4 true), trodAll_mk1 (Below.trod sh_laidOut (by kernel_rfl) (of_decide_eq_true (by kernel_rfl)) h0k hb (fun x hx => hlt x (by simp [hx]))), rfl, hb.frame _, fun h => by cases h⟩
theorem seasonStruck_named : Tryz.prog.funcNamed "peavey/peaveylaw12.SeasonStruck" = some 8 := by kernel_rfl
theorem seasonStruck_goes : false = Rows.seasonStruckRow.goesBy Tryz.prog := by kernel_rfl
theorem seasonStruck_wf : Rows.seasonStruckRow.wfByText (OpenSpec.ofChange Rows.seasonStruckSpec) = true := by kernel_rfl
theorem seasonStruck_row : Rows.SeasonStruckSaid :=
 OpenClaim.holds_of_wide 8 Tryz.f8 rfl rfl rfl rfl rfl rfl rfl ⟨rfl, rfl, rfl, rfl, rfl⟩ rfl rfl rfl rfl rfl seasonStruck_named Tryz.func8 seasonStruck_joined
  (of_decide_eq_true (by kernel_rfl)) (by unfold Func.isWrapper; rw [if_neg (of_decide_eq_false (by kernel_rfl))]; exact ⟨rfl, rfl⟩)
  (fun os started H enc _ => seasonStruck_lifted os started H enc)
theorem seasonStruck_card : Rows.SeasonStruckCardSaid :=
 Claim7.holds_tied_plain_at .later [] [.data, .data, .data, .data, .sentinel, .sentinel, .pinned] true (true, "bb3957611fb07b8f30c253038086df1c9e34512f5bd6bdaf1e554329739cb219") true seasonStruck_row (fun _ h => by cases h) seasonStruck_wf (fun _ h => by cases h) seasonStruck_row_tie rfl ⟨rfl, rfl⟩ sh_main rfl
  (fun f fn hf hfn => by
   obtain rfl : f = 8 := Option.some.inj (seasonStruck_named.symm.trans hf) |>.symm
   obtain rfl : fn = Tryz.f8 := (Option.some.inj (Tryz.func8.symm.trans hfn)).symm
   exact ⟨sh_looks, fun j t ht => by
    rw [Tryz.params8] at ht
    have hm : t ∈ [9] := by simpa using Array.mem_of_getElem? ht
    have hall : ([9].all fun u => !Tryz.prog.wantsStandIn u) = true := by kernel_rfl
    exact (show Tryz.prog.wantsStandIn t = false by simpa using List.all_eq_true.1 hall t hm)⟩)
  seasonStruck_goes
#print axioms seasonStruck_card
end Go.Proofs.YtcnpbcgkhhebaaaGreatDoor
