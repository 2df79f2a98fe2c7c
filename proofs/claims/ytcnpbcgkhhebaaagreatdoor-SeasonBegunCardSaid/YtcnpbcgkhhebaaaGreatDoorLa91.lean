/- SeasonBegun returns true, for every input; and what it was given reads as before: the given card, under the row's condition: the listed package-level variables read as the program's text lays them. -/
import Derived.Test.YtcnpbcgkhhebaaaGreatDoorNj1
/- SeasonBegun: the first lines of a text. -/
namespace Go.Proofs.YtcnpbcgkhhebaaaGreatDoor
open Go.RowKit

set_option maxRecDepth 100000 in
set_option maxHeartbeats 40000000 in
theorem begun_any (text : ByteArray) (m : Int) (w : World) (hL : LaidW w) (hs : text.size ≤ 9223372036854775807) (hm0 : 0 ≤ m) (hm1 : m ≤ 255) :
  Calls Tryz.prog 9 #[.string text, .int .u8 m] w fun e w' => e = .returned (.bool true) ∧ Below w.heap.size w w' := by
 have FN := Lib.hid (fun W => fine_any text W hs)
 rcases fine_cases text with hf | ⟨hf, l, hl⟩
 ·rw [hf] at FN
  clear hf
  have HL := Lib.hid hL
  have BB := Lib.hid (Below.refl w.heap.size w)
  go_enter Tryz.func9, Tryz.ntmps9
  go_wp2_with fail
  have hE : Below w.heap.size w w := (Below.refl w.heap.size w)
  refine (FN.out _).mono ?_
  rintro e w1 ⟨rfl, hb⟩
  have hB := below2 hE hb
  replace HL := Lib.hid (HL.out.below hB)
  replace BB := Lib.hid (below2 BB.out hB)
  clear hE hb hB
  go_wp2_with fail
  have hE : Below w1.heap.size w1 w1 := (Below.refl w1.heap.size w1)
  refine (works_any _ (HL.out.below hE)).mono ?_
  rintro e w2 ⟨rfl, hb⟩
  have hB := below2 hE hb
  replace HL := Lib.hid (HL.out.below hB)
  replace BB := Lib.hid (below2 BB.out hB)
  clear hE hb hB
  go_wp2
  go_ret
  exact ⟨rfl, BB.out⟩
 ·rw [hf] at FN
  have HL := Lib.hid hL
  have BB := Lib.hid (Below.refl w.heap.size w)
  have hs0 := small_text hl
  obtain ⟨mn, rfl⟩ : ∃ mn : Nat, m = mn := ⟨m.toNat, by omega⟩
  obtain ⟨n, hn⟩ : ∃ n, l.length = n := ⟨_, rfl⟩
  have hn2 : n ≤ 200 := by omega
  obtain ⟨k, hk⟩ : ∃ k, mn % (n + 1) = k := ⟨_, rfl⟩
  have hkn : k ≤ n := by have := Nat.mod_lt mn (show 0 < n + 1 by omega); omega
  have hkl : k ≤ l.length := by omega
  have hrem2 : (mn : Int) % ((n : Int) + 1) = (k : Int) := by rw [← hk]; push_cast; rfl
  have hrem : (mn : Int).tmod ((n : Int) + 1) = (k : Int) := by rw [Int.tmod_eq_emod_of_nonneg (by omega)]; exact hrem2
  have LN := Lib.hid (fun W => lines_any text W (by omega))
  rw [nLines_parse hl, hn] at LN
  have hpk := head_parse hl k
  have HD := Lib.hid (fun W => head_any text k W (by omega) (by omega))
  have hsh := small_text hpk
  obtain ⟨os, h1⟩ : ∃ x, (playE l).os = x := ⟨_, rfl⟩
  obtain ⟨ls, h2⟩ : ∃ x, (playE l).ls = x := ⟨_, rfl⟩
  obtain ⟨er, h3⟩ : ∃ x, (playE l).errs = x := ⟨_, rfl⟩
  obtain ⟨os1, j1⟩ : ∃ x, (playE (l.take k)).os = x := ⟨_, rfl⟩
  obtain ⟨ls1, j2⟩ : ∃ x, (playE (l.take k)).ls = x := ⟨_, rfl⟩
  obtain ⟨er1, j3⟩ : ∃ x, (playE (l.take k)).errs = x := ⟨_, rfl⟩
  have hel : er1.length = k := by rw [← j3, playE_errs, List.length_take]; omega
  have hel2 : er.length = n := by rw [← h3, playE_errs]; exact hn
  have htake : er.take k = er1 := by rw [← h3, ← j3]; exact errs_take l k hkl
  have RU := Lib.hid (fun W hW => runT (n := n) hl h1 h2 h3 hel2 W hW)
  have RU1 := Lib.hid (fun W hW => runT (n := k) hpk j1 j2 j3 hel W hW)
  have BO := Lib.hid (fun W hW => boardT hl hkl j1 j2 W hW)
  have HTK := Lib.hid htake
  have HEL := Lib.hid hel
  have HEL2 := Lib.hid hel2
  have HCK := Lib.hid (And.intro hl (And.intro hkl (And.intro j1 (And.intro j2 j3))))
  obtain ⟨hd, hhd⟩ : ∃ x, headB text k = x := ⟨_, rfl⟩
  rw [hhd] at HD RU1
  clear hL hl hpk hsh h1 h2 h3 j1 j2 j3 hel hel2 htake hk hhd hf hn hkl
  go_enter Tryz.func9, Tryz.ntmps9
  go_wp2_with fail
  have hE : Below w.heap.size w w := (Below.refl w.heap.size w)
  refine (FN.out _).mono ?_
  rintro e w1 ⟨rfl, hb⟩
  have hB := below2 hE hb
  replace HL := Lib.hid (HL.out.below hB)
  replace BB := Lib.hid (below2 BB.out hB)
  clear hE hb hB
  go_wp2_with fail
  have hE : Below w1.heap.size w1 w1 := (Below.refl w1.heap.size w1)
  refine (LN.out _).mono ?_
  rintro e w2 ⟨rfl, hb⟩
  have hB := below2 hE hb
  replace HL := Lib.hid (HL.out.below hB)
  replace BB := Lib.hid (below2 BB.out hB)
  clear hE hb hB
  go_wp2_with fail
  have hE : Below w2.heap.size w2 w2 := (Below.refl w2.heap.size w2)
  refine (BO.out _ (HL.out.below hE)).mono ?_
  rintro e w3 ⟨⟨A1, c1, A2, c2, rfl, ho1, ho2⟩, hb⟩
  have hB := below2 hE hb
  replace HL := Lib.hid (HL.out.below hB)
  replace BB := Lib.hid (below2 BB.out hB)
  have RO := Lib.hid ho1
  have RS := Lib.hid ho2
  clear hE hb hB ho1 ho2
  go_wp2_with fail
  have hE : Below w3.heap.size w3 (w3.alloc (.cells #[.slice A1 os1.length c1, .slice A2 ls1.length c2] 26)) := (below_a1 w3 (.cells #[.slice A1 os1.length c1, .slice A2 ls1.length c2] 26))
  refine (HD.out _).mono ?_
  rintro e w4 ⟨rfl, hb⟩
  have hB := below2 hE hb
  replace HL := Lib.hid (HL.out.below hB)
  replace BB := Lib.hid (below2 BB.out hB)
  replace RO := Lib.hid (RO.out.below hB)
  replace RS := Lib.hid (RS.out.below hB)
  have bx0 := Lib.hid (show w4.cell? ⟨w3.heap.size, 0, none⟩ = some (.slice A1 os1.length c1) from cB hb (by go_simp))
  have bx1 := Lib.hid (show w4.cell? ⟨w3.heap.size, 1, none⟩ = some (.slice A2 ls1.length c2) from cB hb (by go_simp))
  clear hE hb hB
  go_wp2_with fail
  have hE : Below w4.heap.size w4 w4 := (Below.refl w4.heap.size w4)
  refine (RU1.out _ (HL.out.below hE)).mono ?_
  rintro e w5 ⟨⟨A3, c3, A4, c4, A5, c5, rfl, ho1, ho2, ho3⟩, hb⟩
  have hB := below2 hE hb
  replace HL := Lib.hid (HL.out.below hB)
  replace BB := Lib.hid (below2 BB.out hB)
  replace RO := Lib.hid (RO.out.below hB)
  replace RS := Lib.hid (RS.out.below hB)
  replace bx0 := Lib.hid (cB hB bx0.out)
  replace bx1 := Lib.hid (cB hB bx1.out)
  have RO2 := Lib.hid ho1
  have RS2 := Lib.hid ho2
  have RE1 := Lib.hid ho3
  clear hE hb hB ho1 ho2 ho3
  go_wp2_with fail
  have hE : Below w5.heap.size w5 (w5.alloc (.cells #[.slice A3 os1.length c3, .slice A4 ls1.length c4] 26)) := (below_a1 w5 (.cells #[.slice A3 os1.length c3, .slice A4 ls1.length c4] 26))
  refine (RU.out _ (HL.out.below hE)).mono ?_
  rintro e w6 ⟨⟨A6, c6, A7, c7, A8, c8, rfl, ho1, ho2, ho3⟩, hb⟩
  have hB := below2 hE hb
  replace HL := Lib.hid (HL.out.below hB)
  replace BB := Lib.hid (below2 BB.out hB)
  replace RO := Lib.hid (RO.out.below hB)
  replace RS := Lib.hid (RS.out.below hB)
  replace bx0 := Lib.hid (cB hB bx0.out)
  replace bx1 := Lib.hid (cB hB bx1.out)
  replace RO2 := Lib.hid (RO2.out.below hB)
  replace RS2 := Lib.hid (RS2.out.below hB)
  replace RE1 := Lib.hid (RE1.out.below hB)
  have by0 := Lib.hid (show w6.cell? ⟨w5.heap.size, 0, none⟩ = some (.slice A3 os1.length c3) from cB hb (by go_simp))
  have by1 := Lib.hid (show w6.cell? ⟨w5.heap.size, 1, none⟩ = some (.slice A4 ls1.length c4) from cB hb (by go_simp))
  have RE := Lib.hid ho3
  clear hE hb hB ho3
  clear ho1 ho2
  have bx0o := bx0.out
  have bx1o := bx1.out
  have bxlt : w3.heap.size < w6.heap.size := World.block_lt_of_cell? _ _ bx0o
  have by0o := by0.out
  have by1o := by1.out
  have bylt : w5.heap.size < w6.heap.size := World.block_lt_of_cell? _ _ by0o
  go_wp2_with fail
  have hE : Below w6.heap.size w6 (w6.alloc (.cells #[.slice A6 os.length c6, .slice A7 ls.length c7] 26)) := (below_a1 w6 (.cells #[.slice A6 os.length c6, .slice A7 ls.length c7] 26))
  refine (same_any _ _ _ _ _ _ _ _ os1 ls1 _ (RO.out.below hE) (RS.out.below hE) (RO2.out.below hE) (RS2.out.below hE)).mono ?_
  rintro e w7 ⟨rfl, hb⟩
  have hB := below2 hE hb
  replace HL := Lib.hid (HL.out.below hB)
  replace BB := Lib.hid (below2 BB.out hB)
  replace RO := Lib.hid (RO.out.below hB)
  replace RS := Lib.hid (RS.out.below hB)
  replace bx0 := Lib.hid (cB hB bx0.out)
  replace bx1 := Lib.hid (cB hB bx1.out)
  replace RO2 := Lib.hid (RO2.out.below hB)
  replace RS2 := Lib.hid (RS2.out.below hB)
  replace RE1 := Lib.hid (RE1.out.below hB)
  replace by0 := Lib.hid (cB hB by0.out)
  replace by1 := Lib.hid (cB hB by1.out)
  replace RE := Lib.hid (RE.out.below hB)
  clear hE hb hB
  clear bx0o bx1o bxlt
  clear by0o by1o bylt
  go_wp2_with fail
  have hE : Below w7.heap.size w7 w7 := (Below.refl w7.heap.size w7)
  refine (LN.out _).mono ?_
  rintro e w8 ⟨rfl, hb⟩
  have hB := below2 hE hb
  replace HL := Lib.hid (HL.out.below hB)
  replace BB := Lib.hid (below2 BB.out hB)
  replace RO := Lib.hid (RO.out.below hB)
  replace RS := Lib.hid (RS.out.below hB)
  replace bx0 := Lib.hid (cB hB bx0.out)
  replace bx1 := Lib.hid (cB hB bx1.out)
  replace RO2 := Lib.hid (RO2.out.below hB)
  replace RS2 := Lib.hid (RS2.out.below hB)
  replace RE1 := Lib.hid (RE1.out.below hB)
  replace by0 := Lib.hid (cB hB by0.out)
  replace by1 := Lib.hid (cB hB by1.out)
  replace RE := Lib.hid (RE.out.below hB)
  clear hE hb hB
  have hc8 : n ≤ c8 := by have := RE.out.1; have := HEL2.out; omega
  have hc8m : c8 ≤ 9223372036854775807 := RE.out.2.1
  have hkc : (k : Int) ≤ (c8 : Int) := by omega
  have hk0 : (0 : Int) ≤ (k : Int) := by omega
  have RT := Lib.hid (show Rd eI 1 w8 A8 c8 er1 from by rw [← HTK.out]; exact RE.out.take k)
  have ERR := Lib.hid (fun W (h1 : Rd eI 1 W A5 c5 er1) (h2 : Rd eI 1 W A8 c8 er1) => errors_any A5 c5 A8 c8 er1 W h1 h2)
  rw [HEL.out] at ERR
  go_wp2_with fail
  have hE : Below w8.heap.size w8 w8 := (Below.refl w8.heap.size w8)
  refine (ERR.out _ (RE1.out.below hE) (RT.out.below hE)).mono ?_
  rintro e w9 ⟨rfl, hb⟩
  have hB := below2 hE hb
  replace HL := Lib.hid (HL.out.below hB)
  replace BB := Lib.hid (below2 BB.out hB)
  replace RO := Lib.hid (RO.out.below hB)
  replace RS := Lib.hid (RS.out.below hB)
  replace bx0 := Lib.hid (cB hB bx0.out)
  replace bx1 := Lib.hid (cB hB bx1.out)
  replace RO2 := Lib.hid (RO2.out.below hB)
  replace RS2 := Lib.hid (RS2.out.below hB)
  replace RE1 := Lib.hid (RE1.out.below hB)
  replace by0 := Lib.hid (cB hB by0.out)
  replace by1 := Lib.hid (cB hB by1.out)
  replace RE := Lib.hid (RE.out.below hB)
  replace RT := Lib.hid (RT.out.below hB)
  clear hE hb hB
  cases k with
  | zero =>
   have he1 : os1 = [] ∧ ls1 = [] := by obtain ⟨-, -, a, b, -⟩ := HCK.out; exact ⟨a.symm, b.symm⟩
   obtain ⟨rfl, rfl⟩ := he1
   have bx0o := bx0.out
   have bx1o := bx1.out
   have bxlt : w3.heap.size < w9.heap.size := World.block_lt_of_cell? _ _ bx0o
   go_wp2_with fail
   have hE : Below w9.heap.size w9 w9 := (Below.refl w9.heap.size w9)
   refine (same_any _ _ _ _ _ _ _ _ [] [] _ (RO.out.below hE) (RS.out.below hE) (Rd.nil_ _ 0 (by decide)) (Rd.nil_ _ 0 (by decide))).mono ?_
   rintro e w10 ⟨rfl, hb⟩
   have hB := below2 hE hb
   replace HL := Lib.hid (HL.out.below hB)
   replace BB := Lib.hid (below2 BB.out hB)
   replace RO := Lib.hid (RO.out.below hB)
   replace RS := Lib.hid (RS.out.below hB)
   replace bx0 := Lib.hid (cB hB bx0.out)
   replace bx1 := Lib.hid (cB hB bx1.out)
   replace RO2 := Lib.hid (RO2.out.below hB)
   replace RS2 := Lib.hid (RS2.out.below hB)
   replace RE1 := Lib.hid (RE1.out.below hB)
   replace by0 := Lib.hid (cB hB by0.out)
   replace by1 := Lib.hid (cB hB by1.out)
   replace RE := Lib.hid (RE.out.below hB)
   replace RT := Lib.hid (RT.out.below hB)
   clear hE hb hB
   clear bx0o bx1o bxlt
   go_wp2_with fail
   have hE : Below w10.heap.size w10 w10 := (Below.refl w10.heap.size w10)
   refine (works_any _ (HL.out.below hE)).mono ?_
   rintro e w11 ⟨rfl, hb⟩
   have hB := below2 hE hb
   replace HL := Lib.hid (HL.out.below hB)
   replace BB := Lib.hid (below2 BB.out hB)
   replace RO := Lib.hid (RO.out.below hB)
   replace RS := Lib.hid (RS.out.below hB)
   replace bx0 := Lib.hid (cB hB bx0.out)
   replace bx1 := Lib.hid (cB hB bx1.out)
   replace RO2 := Lib.hid (RO2.out.below hB)
   replace RS2 := Lib.hid (RS2.out.below hB)
   replace RE1 := Lib.hid (RE1.out.below hB)
   replace by0 := Lib.hid (cB hB by0.out)
   replace by1 := Lib.hid (cB hB by1.out)
   replace RE := Lib.hid (RE.out.below hB)
   replace RT := Lib.hid (RT.out.below hB)
   clear hE hb hB
   go_wp2
   go_ret
   exact ⟨rfl, BB.out⟩
  | succ j =>
   obtain ⟨hl, hkl, j1, j2, j3⟩ := HCK.out
   have hlast := last_line (l := l) (k := j) (by omega)
   rw [j1, j2, j3] at hlast
   obtain ⟨os0, i1⟩ : ∃ x, (playE (l.take j)).os = x := ⟨_, rfl⟩
   obtain ⟨ls0, i2⟩ : ∃ x, (playE (l.take j)).ls = x := ⟨_, rfl⟩
   rw [i1, i2] at hlast
   have BO2 := Lib.hid (fun W hW => boardT hl (k := j) (by omega) i1 i2 W hW)
   have hj1 : ((j + 1 : Nat) : Int) - 1 = (j : Int) := by omega
   have hj2 : (j : Int) + 1 - 1 = (j : Int) := by omega
   have hjz : (((j + 1 : Nat) : Int) == 0) = false := by rw [beq_eq_false_iff_ne]; omega
   have hjz2 : ((j : Int) + 1 == 0) = false := by rw [beq_eq_false_iff_ne]; omega
   have HLS := Lib.hid hlast
   clear hl hkl j1 j2 j3 i1 i2 hlast HCK
   go_wp2_with fail
   have hE : Below w9.heap.size w9 w9 := (Below.refl w9.heap.size w9)
   refine (BO2.out _ (HL.out.below hE)).mono ?_
   rintro e w10 ⟨⟨A9, c9, A10, c10, rfl, ho1, ho2⟩, hb⟩
   have hB := below2 hE hb
   replace HL := Lib.hid (HL.out.below hB)
   replace BB := Lib.hid (below2 BB.out hB)
   replace RO := Lib.hid (RO.out.below hB)
   replace RS := Lib.hid (RS.out.below hB)
   replace bx0 := Lib.hid (cB hB bx0.out)
   replace bx1 := Lib.hid (cB hB bx1.out)
   replace RO2 := Lib.hid (RO2.out.below hB)
   replace RS2 := Lib.hid (RS2.out.below hB)
   replace RE1 := Lib.hid (RE1.out.below hB)
   replace by0 := Lib.hid (cB hB by0.out)
   replace by1 := Lib.hid (cB hB by1.out)
   replace RE := Lib.hid (RE.out.below hB)
   replace RT := Lib.hid (RT.out.below hB)
   have RO3 := Lib.hid ho1
   have RS3 := Lib.hid ho2
   clear hE hb hB ho1 ho2
   obtain ⟨be, oe, q, hq, rfl, -, e0⟩ := RE1.out.atI (i := j) (by rw [HEL.out]; omega)
   have hj3 : (j : Int) < (j : Int) + 1 := by omega
   replace e0 := cA e0 (.cells #[.slice A9 os0.length c9, .slice A10 ls0.length c10] 26)
   by_cases hq0 : q = 0
   ·have _z : True := trivial
    subst hq0
    clear hq
    go_wp2_with fail
    have hE : Below w10.heap.size w10 (w10.alloc (.cells #[.slice A9 os0.length c9, .slice A10 ls0.length c10] 26)) := (below_a1 w10 (.cells #[.slice A9 os0.length c9, .slice A10 ls0.length c10] 26))
    refine (works_any _ (HL.out.below hE)).mono ?_
    rintro e w11 ⟨rfl, hb⟩
    have hB := below2 hE hb
    replace HL := Lib.hid (HL.out.below hB)
    replace BB := Lib.hid (below2 BB.out hB)
    replace RO := Lib.hid (RO.out.below hB)
    replace RS := Lib.hid (RS.out.below hB)
    replace bx0 := Lib.hid (cB hB bx0.out)
    replace bx1 := Lib.hid (cB hB bx1.out)
    replace RO2 := Lib.hid (RO2.out.below hB)
    replace RS2 := Lib.hid (RS2.out.below hB)
    replace RE1 := Lib.hid (RE1.out.below hB)
    replace by0 := Lib.hid (cB hB by0.out)
    replace by1 := Lib.hid (cB hB by1.out)
    replace RE := Lib.hid (RE.out.below hB)
    replace RT := Lib.hid (RT.out.below hB)
    replace RO3 := Lib.hid (RO3.out.below hB)
    replace RS3 := Lib.hid (RS3.out.below hB)
    clear hE hb hB
    go_wp2
    go_ret
    exact ⟨rfl, BB.out⟩
   ·have _z : True := trivial
    have hqf : (q == 0) = false := by rw [beq_eq_false_iff_ne]; exact hq0
    have hsm : os0 = os1 ∧ ls0 = ls1 := by
     rcases HLS.out with h | h
     ·exfalso
      rw [List.getElem?_eq_getElem (by rw [HEL.out]; omega)] at h
      exact hq0 (hq.trans (Option.some.inj h))
     ·exact h
    obtain ⟨rfl, rfl⟩ := hsm
    clear hq hq0
    have bx0o := bx0.out
    have bx1o := bx1.out
    have bxlt : w3.heap.size < w10.heap.size := World.block_lt_of_cell? _ _ bx0o
    go_wp2_with fail
    have hE : Below w10.heap.size w10 (w10.alloc (.cells #[.slice A9 os0.length c9, .slice A10 ls0.length c10] 26)) := (below_a1 w10 (.cells #[.slice A9 os0.length c9, .slice A10 ls0.length c10] 26))
    refine (same_any _ _ _ _ _ _ _ _ os0 ls0 _ (RO3.out.below hE) (RS3.out.below hE) (RO.out.below hE) (RS.out.below hE)).mono ?_
    rintro e w11 ⟨rfl, hb⟩
    have hB := below2 hE hb
    replace HL := Lib.hid (HL.out.below hB)
    replace BB := Lib.hid (below2 BB.out hB)
    replace RO := Lib.hid (RO.out.below hB)
    replace RS := Lib.hid (RS.out.below hB)
    replace bx0 := Lib.hid (cB hB bx0.out)
    replace bx1 := Lib.hid (cB hB bx1.out)
    replace RO2 := Lib.hid (RO2.out.below hB)
    replace RS2 := Lib.hid (RS2.out.below hB)
    replace RE1 := Lib.hid (RE1.out.below hB)
    replace by0 := Lib.hid (cB hB by0.out)
    replace by1 := Lib.hid (cB hB by1.out)
    replace RE := Lib.hid (RE.out.below hB)
    replace RT := Lib.hid (RT.out.below hB)
    replace RO3 := Lib.hid (RO3.out.below hB)
    replace RS3 := Lib.hid (RS3.out.below hB)
    clear hE hb hB
    clear bx0o bx1o bxlt
    go_wp2_with fail
    have hE : Below w11.heap.size w11 w11 := (Below.refl w11.heap.size w11)
    refine (works_any _ (HL.out.below hE)).mono ?_
    rintro e w12 ⟨rfl, hb⟩
    have hB := below2 hE hb
    replace HL := Lib.hid (HL.out.below hB)
    replace BB := Lib.hid (below2 BB.out hB)
    replace RO := Lib.hid (RO.out.below hB)
    replace RS := Lib.hid (RS.out.below hB)
    replace bx0 := Lib.hid (cB hB bx0.out)
    replace bx1 := Lib.hid (cB hB bx1.out)
    replace RO2 := Lib.hid (RO2.out.below hB)
    replace RS2 := Lib.hid (RS2.out.below hB)
    replace RE1 := Lib.hid (RE1.out.below hB)
    replace by0 := Lib.hid (cB hB by0.out)
    replace by1 := Lib.hid (cB hB by1.out)
    replace RE := Lib.hid (RE.out.below hB)
    replace RT := Lib.hid (RT.out.below hB)
    replace RO3 := Lib.hid (RO3.out.below hB)
    replace RS3 := Lib.hid (RS3.out.below hB)
    clear hE hb hB
    go_wp2
    go_ret
    exact ⟨rfl, BB.out⟩
end Go.Proofs.YtcnpbcgkhhebaaaGreatDoor
/- Closed facts of SeasonBegun's row. -/
namespace Go.Proofs.YtcnpbcgkhhebaaaGreatDoor
open Go.ChangeShapes Go.WideShapes Go.ChangeAt Go.RowKit
set_option maxRecDepth 100000
theorem seasonBegun_j0 : (Rows.seasonBegunRow.wf (OpenSpec.ofChange Rows.seasonBegunSpec)) = true := by kernel_rfl
theorem seasonBegun_j3 : (Tryz.f9.params.all (Tryz.prog.readableRec ·)) = true := by kernel_rfl
theorem seasonBegun_j4 : (namedTie Tryz.prog Rows.seasonBegunRow.named Rows.seasonBegunSpec.vars) = true := by kernel_rfl
theorem seasonBegun_j5 : ((Rows.seasonBegunRow.stops == [])) = true := by kernel_rfl
theorem seasonBegun_j7 : ((Rows.seasonBegunRow.knobs == [])) = true := by kernel_rfl
theorem seasonBegun_j9 : ((Rows.seasonBegunRow.inPlace == Tryz.prog.inPlace 9)) = true := by kernel_rfl
theorem seasonBegun_j10 : ((Rows.seasonBegunRow.unfollowed == Tryz.prog.unfollowed 9)) = true := by kernel_rfl
theorem seasonBegun_j11 : ((Rows.seasonBegunRow.recurses == Tryz.prog.recurses 9)) = true := by kernel_rfl
theorem seasonBegun_j12 : ((Rows.seasonBegunRow.named == Tryz.prog.varsNamed 9)) = true := by kernel_rfl
theorem seasonBegun_j13 : ((Rows.seasonBegunRow.maps == (Tryz.f9.params.toList ++ Rows.seasonBegunSpec.plain.varTypes Tryz.prog).any (Tryz.prog.mapsRec ·))) = true := by kernel_rfl
theorem seasonBegun_j14 : ((Rows.seasonBegunRow.ifaces == (Tryz.f9.params.toList ++ Rows.seasonBegunSpec.plain.varTypes Tryz.prog).any (Tryz.prog.ifacesRec ·))) = true := by kernel_rfl
theorem seasonBegun_j15 : ((Rows.seasonBegunRow.mapsOut == Tryz.prog.mapsAmong Tryz.f9.resultTypes.toList)) = true := by kernel_rfl
theorem seasonBegun_j16 : ((Rows.seasonBegunRow.loops == (Tryz.f9.params.toList ++ Rows.seasonBegunSpec.plain.varTypes Tryz.prog).any (Tryz.prog.loopsFrom ·))) = true := by kernel_rfl
theorem seasonBegun_j17 : ((Rows.seasonBegunRow.wideKeys == (Tryz.f9.params.toList ++ Rows.seasonBegunSpec.plain.varTypes Tryz.prog ++ Tryz.f9.resultTypes.toList).any (Tryz.prog.wideKeysFrom ·))) = true := by kernel_rfl
theorem seasonBegun_j18 : (Rows.seasonBegunSpec.vars.all (Tryz.prog.varReadable ·)) = true := by kernel_rfl
theorem seasonBegun_j19 : (Tryz.f9.resultTypes.all (fun t => Tryz.prog.readableRec t && decide (t < Tryz.prog.types.size))) = true := by kernel_rfl
theorem seasonBegun_j20 : ((Rows.seasonBegunRow.ifacesOut == Tryz.f9.resultTypes.toList.any (Tryz.prog.ifacesRec ·))) = true := by kernel_rfl
theorem seasonBegun_j21 : ((Rows.seasonBegunRow.loopsOut == Tryz.f9.resultTypes.toList.any (Tryz.prog.loopsFrom ·))) = true := by kernel_rfl
theorem seasonBegun_j22 : ((Rows.seasonBegunRow.plainKeys == Tryz.prog.plainKeys)) = true := by kernel_rfl
theorem seasonBegun_j23 : (Rows.seasonBegunRow.shortTexts.isNone) = true := by kernel_rfl
theorem seasonBegun_j26 : ((Rows.seasonBegunRow.lifted == Tryz.prog.liftsFinal)) = true := by kernel_rfl
theorem seasonBegun_j27 : ((Tryz.prog.make == some Rows.seasonBegunRow.make)) = true := by kernel_rfl
theorem seasonBegun_j28 : ((Rows.seasonBegunRow.kinds == (if Rows.seasonBegunRow.domain.isEmpty then [] else Tryz.f9.params.toList.map fun t => match Tryz.prog.underlying t with | some (.int k) => some k | _ => none))) = true := by kernel_rfl
theorem seasonBegun_j29 : ((Rows.seasonBegunRow.pinned == Rows.seasonBegunRow.pinnedBy)) = true := by kernel_rfl
theorem seasonBegun_j30 : ((Rows.seasonBegunRow.veiled == (Tryz.f9.params.toList ++ Rows.seasonBegunSpec.plain.varTypes Tryz.prog ++ Tryz.f9.resultTypes.toList).any (Tryz.prog.veiledRec ·))) = true := by kernel_rfl
theorem seasonBegun_j31 : (Rows.seasonBegunRow.veiledFits Tryz.prog Tryz.f9.params.toList (Tryz.f9.params.toList ++ Rows.seasonBegunSpec.plain.varTypes Tryz.prog ++ Tryz.f9.resultTypes.toList)) = true := by kernel_rfl
theorem seasonBegun_joined : joinedFacts Tryz.prog 9 Tryz.f9 Rows.seasonBegunSpec Rows.seasonBegunRow = true := by
 unfold joinedFacts
 exact (and_mk (and_mk (and_mk (and_mk (and_mk (and_mk (and_mk (and_mk (and_mk (and_mk (and_mk (and_mk (and_mk (and_mk (and_mk (and_mk (and_mk (and_mk (and_mk (and_mk (and_mk (and_mk (and_mk (and_mk (and_mk (and_mk (and_mk (and_mk (and_mk (and_mk (and_mk seasonBegun_j0 sh_laidOut) sh_mapsRowed) seasonBegun_j3) seasonBegun_j4) seasonBegun_j5) sh_stops) seasonBegun_j7) sh_knobs) seasonBegun_j9) seasonBegun_j10) seasonBegun_j11) seasonBegun_j12) seasonBegun_j13) seasonBegun_j14) seasonBegun_j15) seasonBegun_j16) seasonBegun_j17) seasonBegun_j18) seasonBegun_j19) seasonBegun_j20) seasonBegun_j21) seasonBegun_j22) seasonBegun_j23) sh_heard) sh_enter) seasonBegun_j26) seasonBegun_j27) seasonBegun_j28) seasonBegun_j29) seasonBegun_j30) seasonBegun_j31)
end Go.Proofs.YtcnpbcgkhhebaaaGreatDoor
namespace Go.Proofs.YtcnpbcgkhhebaaaGreatDoor
open Go.ChangeShapes Go.WideShapes Go.ChangeAt Go.RowKit
set_option maxRecDepth 100000
open Go.Deep Go.Joins
theorem seasonBegun_lifted (os : Os) (started : os.Started) (H : Type) (enc : TypeId × Value → H) :
  ReturnsInHanded {} Tryz.checked os 9 .any (fun w args => (Rows.seasonBegunSpec.pre enc Tryz.prog Tryz.f9 Rows.seasonBegunRow.domain false w args ∧ laidMetH Tryz.prog laidAllL w) ∧ sizedMet enc Tryz.prog Tryz.f9 (OpenSpec.ofChange Rows.seasonBegunSpec) false w args)
   (Rows.seasonBegunSpec.post enc Tryz.prog Tryz.f9 false true false false) := by
 refine handed_both (C := Tryz.checked) (X := fun w _ => laidMetH Tryz.prog laidAllL w) (fun _ _ _ hh h => h.of_heap hh) ownKn started (by kernel_rfl) Tryz.func9
  (ChangeSpec.witness_shaped (enc := enc) (C := Tryz.checked) (os := os) (X := fun w _ => laidMetH Tryz.prog laidAllL w) false (World.laidAll Tryz.prog os laidAllL) #[.string ⟨#[]⟩, .int .u8 0] 8 (World.laidAll_os _ _ _)
   (World.shaped_of_ZipB (by kernel_rfl) (by kernel_rfl)) (by kernel_rfl) (by kernel_rfl) (by kernel_rfl) (laid_met os _)) ?_
 intro W base args ds gs before hval0 hW _ hwt hsh hL _
 have hW' := hW
 obtain ⟨p, q, hA0, hV, rfl, _, _⟩ := hW
 have hA : DataW.TrodAll enc Tryz.prog W 0 (fun _ => true) true Tryz.f9.params.toList args.toList ds p := hA0
 have hLW := laidW_of hsh hL
 rw [Tryz.params9] at hA
 have hval : ∀ (j : Nat) t v, Tryz.f9.params[j]? = some t → args[j]? = some v → Value.okWide Tryz.prog W .any base t v := hval0
 rw [Tryz.params9] at hval
 obtain ⟨v0, v1, d0, d1, p0, p1, rfl, rfl, rfl, h0, h1⟩ := trodAll_two hA
 obtain ⟨rfl, rfl⟩ := trodVars_none hV
 have h0k := h0
 have h1k := h1
 obtain ⟨x0, rfl, _, _, k0⟩ := Go.ChangeMaps.open_string Tryz.underlying9 (hval 0 9 v0 rfl rfl) h0
 obtain ⟨n1, rfl, _, _, wf1⟩ := open_int Tryz.underlying5 (hval 1 5 v1 rfl rfl) h1
 simp only [List.append_nil] at hW'
 have hlt : ∀ x ∈ p0 ++ p1, x.block < W.heap.size := fun x hx => by simpa using hW'.lt x hx
 refine (begun_any x0 n1 W hLW (by unfold maxLen at k0; omega) (u8_bd wf1).1 (u8_bd wf1).2).mono fun e W' ⟨he, hb⟩ => ?_
 subst he
 exact ⟨_, rfl, _, _, _, [], p0 ++ p1, [], hW', trodAll_mk1 (shut_bool Tryz.underlying4 true), trodAll_mk2 (Below.trod sh_laidOut (by kernel_rfl) (of_decide_eq_true (by kernel_rfl)) h0k hb (fun x hx => hlt x (by simp [hx]))) (Below.trod sh_laidOut (by kernel_rfl) (of_decide_eq_true (by kernel_rfl)) h1k hb (fun x hx => hlt x (by simp [hx]))), rfl, hb.frame _, fun h => by cases h⟩
theorem seasonBegun_named : Tryz.prog.funcNamed "peavey/peaveylaw12.SeasonBegun" = some 9 := by kernel_rfl
theorem seasonBegun_goes : false = Rows.seasonBegunRow.goesBy Tryz.prog := by kernel_rfl
theorem seasonBegun_wf : Rows.seasonBegunRow.wfByText (OpenSpec.ofChange Rows.seasonBegunSpec) = true := by kernel_rfl
theorem seasonBegun_row : Rows.SeasonBegunSaid :=
 OpenClaim.holds_of_wide 9 Tryz.f9 rfl rfl rfl rfl rfl rfl rfl ⟨rfl, rfl, rfl, rfl, rfl⟩ rfl rfl rfl rfl rfl seasonBegun_named Tryz.func9 seasonBegun_joined
  (of_decide_eq_true (by kernel_rfl)) (by unfold Func.isWrapper; rw [if_neg (of_decide_eq_false (by kernel_rfl))]; exact ⟨rfl, rfl⟩)
  (fun os started H enc _ => seasonBegun_lifted os started H enc)
theorem seasonBegun_card : Rows.SeasonBegunCardSaid :=
 Claim7.holds_tied_plain_at .later [] [.data, .data, .data, .data, .sentinel, .sentinel, .pinned] true (true, "bb3957611fb07b8f30c253038086df1c9e34512f5bd6bdaf1e554329739cb219") true seasonBegun_row (fun _ h => by cases h) seasonBegun_wf (fun _ h => by cases h) seasonBegun_row_tie rfl ⟨rfl, rfl⟩ sh_main rfl
  (fun f fn hf hfn => by
   obtain rfl : f = 9 := Option.some.inj (seasonBegun_named.symm.trans hf) |>.symm
   obtain rfl : fn = Tryz.f9 := (Option.some.inj (Tryz.func9.symm.trans hfn)).symm
   exact ⟨sh_looks, fun j t ht => by
    rw [Tryz.params9] at ht
    have hm : t ∈ [9, 5] := by simpa using Array.mem_of_getElem? ht
    have hall : ([9, 5].all fun u => !Tryz.prog.wantsStandIn u) = true := by kernel_rfl
    exact (show Tryz.prog.wantsStandIn t = false by simpa using List.all_eq_true.1 hall t hm)⟩)
  seasonBegun_goes
#print axioms seasonBegun_card
end Go.Proofs.YtcnpbcgkhhebaaaGreatDoor
