/- SeasonOwed returns true, for every input; and what it was given reads as before: the given card, under the row's condition: the listed package-level variables read as the program's text lays them. -/
import Derived.Test.YtcnpbcgkhhebaaaGreatDoorNj1
/- SeasonOwed: what all owe is the fees of their logs. -/
namespace Go.Proofs.YtcnpbcgkhhebaaaGreatDoor
open Go.RowKit

set_option maxRecDepth 100000 in
set_option maxHeartbeats 40000000 in
theorem owed_law (A : Option Addr) (c : Nat) (os0 : List Ow) (A2 : Option Addr) (c2 : Nat) (ls0 : List Lg) (text : ByteArray) (w : World) (hL : LaidW w) (hs : text.size ≤ 9223372036854775807) (hr : Rd eO 3 w A c os0) (hr2 : Rd eL 5 w A2 c2 ls0) (hm : ∀ x ∈ os0, x.mark.size ≤ 9223372036854775807) (hsn : ∀ l ∈ ls0, l.seen.size ≤ 9223372036854775807):
  Calls Tryz.prog 10 #[.agg #[.slice A os0.length c, .slice A2 ls0.length c2], .string text] w fun e w' => e = .returned (.bool true) ∧ Below w.heap.size w w' := by
 have HL := Lib.hid hL
 have BB := Lib.hid (Below.refl w.heap.size w)
 have RO0 := Lib.hid hr
 have RS0 := Lib.hid hr2
 have HM := Lib.hid hm
 have HS := Lib.hid hsn
 clear hL hr hr2 hm hsn
 have FN := Lib.hid (fun W => fine_any text W hs)
 have GR := Lib.hid (fun W (h1 : Rd eO 3 W A c os0) (h2 : Rd eL 5 W A2 c2 ls0) => great_any A c os0 A2 c2 ls0 W h1 h2 HM.out HS.out)
 have CK := Lib.hid (fun W (h1 : Rd eO 3 W A c os0) (h2 : Rd eL 5 W A2 c2 ls0) => check2_any A c os0 A2 c2 ls0 W h1 h2 HM.out HS.out)
 have OW := Lib.hid (fun W (h1 : Rd eO 3 W A c os0) (h2 : Rd eL 5 W A2 c2 ls0) (hv : Valid os0 ls0) => ow_any A c os0 A2 c2 ls0 W h1 h2 hv)
 have VI := Lib.hid (fun h => valid_of (os := os0) (ls := ls0) h)
 obtain ⟨g, hg⟩ : ∃ x, greatS os0 ls0 = x := ⟨_, rfl⟩
 obtain ⟨ck, hck⟩ : ∃ x, checkS os0 ls0 = x := ⟨_, rfl⟩
 rw [hg] at GR
 rw [hck] at CK VI
 clear hg hck
 go_enter Tryz.func10, Tryz.ntmps10
 go_wp2_with fail
 have hE : Below w.heap.size w (w.alloc (.cells #[.slice A os0.length c, .slice A2 ls0.length c2] 26)) := (below_a1 w (.cells #[.slice A os0.length c, .slice A2 ls0.length c2] 26))
 refine (GR.out _ (RO0.out.below hE) (RS0.out.below hE)).mono ?_
 rintro e w1 ⟨rfl, hb⟩
 have hB := below2 hE hb
 replace HL := Lib.hid (HL.out.below hB)
 replace BB := Lib.hid (below2 BB.out hB)
 replace RO0 := Lib.hid (RO0.out.below hB)
 replace RS0 := Lib.hid (RS0.out.below hB)
 have bs0 := Lib.hid (show w1.cell? ⟨w.heap.size, 0, none⟩ = some (.slice A os0.length c) from cB hb (by go_simp))
 have bs1 := Lib.hid (show w1.cell? ⟨w.heap.size, 1, none⟩ = some (.slice A2 ls0.length c2) from cB hb (by go_simp))
 clear hE hb hB
 cases g with
 | true =>
  rcases fine_cases text with hf | ⟨hf, l, hl⟩
  ·have _z : True := trivial
   rw [hf] at FN
   clear hf
   go_wp2_with fail
   have hE : Below w1.heap.size w1 w1 := (Below.refl w1.heap.size w1)
   refine (FN.out _).mono ?_
   rintro e w2 ⟨rfl, hb⟩
   have hB := below2 hE hb
   replace HL := Lib.hid (HL.out.below hB)
   replace BB := Lib.hid (below2 BB.out hB)
   replace RO0 := Lib.hid (RO0.out.below hB)
   replace RS0 := Lib.hid (RS0.out.below hB)
   replace bs0 := Lib.hid (cB hB bs0.out)
   replace bs1 := Lib.hid (cB hB bs1.out)
   clear hE hb hB
   go_wp2_with fail
   have hE : Below w2.heap.size w2 w2 := (Below.refl w2.heap.size w2)
   refine (works_any _ (HL.out.below hE)).mono ?_
   rintro e w3 ⟨rfl, hb⟩
   have hB := below2 hE hb
   replace HL := Lib.hid (HL.out.below hB)
   replace BB := Lib.hid (below2 BB.out hB)
   replace RO0 := Lib.hid (RO0.out.below hB)
   replace RS0 := Lib.hid (RS0.out.below hB)
   replace bs0 := Lib.hid (cB hB bs0.out)
   replace bs1 := Lib.hid (cB hB bs1.out)
   clear hE hb hB
   go_wp2
   go_ret
   exact ⟨rfl, BB.out⟩
  ·have _z : True := trivial
   rw [hf] at FN
   obtain ⟨os, h1⟩ : ∃ x, (playE l).os = x := ⟨_, rfl⟩
   obtain ⟨ls, h2⟩ : ∃ x, (playE l).ls = x := ⟨_, rfl⟩
   obtain ⟨er, h3⟩ : ∃ x, (playE l).errs = x := ⟨_, rfl⟩
   have HV := Lib.hid (show Valid os ls by rw [← h1, ← h2]; exact valid_play hl)
   have RU := Lib.hid (fun W hW => runT (n := l.length) hl h1 h2 h3 (by rw [← h3, playE_errs]) W hW)
   clear hl h1 h2 h3 hf
   go_wp2_with fail
   have hE : Below w1.heap.size w1 w1 := (Below.refl w1.heap.size w1)
   refine (FN.out _).mono ?_
   rintro e w2 ⟨rfl, hb⟩
   have hB := below2 hE hb
   replace HL := Lib.hid (HL.out.below hB)
   replace BB := Lib.hid (below2 BB.out hB)
   replace RO0 := Lib.hid (RO0.out.below hB)
   replace RS0 := Lib.hid (RS0.out.below hB)
   replace bs0 := Lib.hid (cB hB bs0.out)
   replace bs1 := Lib.hid (cB hB bs1.out)
   clear hE hb hB
   go_wp2_with fail
   have hE : Below w2.heap.size w2 w2 := (Below.refl w2.heap.size w2)
   refine (RU.out _ (HL.out.below hE)).mono ?_
   rintro e w3 ⟨⟨A3, c3, A4, c4, A5, c5, rfl, ho1, ho2, ho3⟩, hb⟩
   have hB := below2 hE hb
   replace HL := Lib.hid (HL.out.below hB)
   replace BB := Lib.hid (below2 BB.out hB)
   replace RO0 := Lib.hid (RO0.out.below hB)
   replace RS0 := Lib.hid (RS0.out.below hB)
   replace bs0 := Lib.hid (cB hB bs0.out)
   replace bs1 := Lib.hid (cB hB bs1.out)
   have RO := Lib.hid ho1
   have RS := Lib.hid ho2
   clear hE hb hB ho1 ho2
   clear ho3
   go_wp2_with fail
   have hE : Below w3.heap.size w3 (w3.alloc (.cells #[.slice A3 os.length c3, .slice A4 ls.length c4] 26)) := (below_a1 w3 (.cells #[.slice A3 os.length c3, .slice A4 ls.length c4] 26))
   refine (check_ok HV.out _ _ _ _ _ (RO.out.below hE) (RS.out.below hE)).mono ?_
   rintro e w4 ⟨rfl, hb⟩
   have hB := below2 hE hb
   replace HL := Lib.hid (HL.out.below hB)
   replace BB := Lib.hid (below2 BB.out hB)
   replace RO0 := Lib.hid (RO0.out.below hB)
   replace RS0 := Lib.hid (RS0.out.below hB)
   replace bs0 := Lib.hid (cB hB bs0.out)
   replace bs1 := Lib.hid (cB hB bs1.out)
   replace RO := Lib.hid (RO.out.below hB)
   replace RS := Lib.hid (RS.out.below hB)
   have bx0 := Lib.hid (show w4.cell? ⟨w3.heap.size, 0, none⟩ = some (.slice A3 os.length c3) from cB hb (by go_simp))
   have bx1 := Lib.hid (show w4.cell? ⟨w3.heap.size, 1, none⟩ = some (.slice A4 ls.length c4) from cB hb (by go_simp))
   clear hE hb hB
   have bx0o := bx0.out
   have bx1o := bx1.out
   have bxlt : w3.heap.size < w4.heap.size := World.block_lt_of_cell? _ _ bx0o
   go_wp2_with fail
   have hE : Below w4.heap.size w4 w4 := (Below.refl w4.heap.size w4)
   refine (ow_any _ _ os _ _ ls _ (RO.out.below hE) (RS.out.below hE) HV.out).mono ?_
   rintro e w5 ⟨rfl, hb⟩
   have hB := below2 hE hb
   replace HL := Lib.hid (HL.out.below hB)
   replace BB := Lib.hid (below2 BB.out hB)
   replace RO0 := Lib.hid (RO0.out.below hB)
   replace RS0 := Lib.hid (RS0.out.below hB)
   replace bs0 := Lib.hid (cB hB bs0.out)
   replace bs1 := Lib.hid (cB hB bs1.out)
   replace RO := Lib.hid (RO.out.below hB)
   replace RS := Lib.hid (RS.out.below hB)
   replace bx0 := Lib.hid (cB hB bx0.out)
   replace bx1 := Lib.hid (cB hB bx1.out)
   clear hE hb hB
   clear bx0o bx1o bxlt
   go_wp2_with fail
   have hE : Below w5.heap.size w5 w5 := (Below.refl w5.heap.size w5)
   refine (works_any _ (HL.out.below hE)).mono ?_
   rintro e w6 ⟨rfl, hb⟩
   have hB := below2 hE hb
   replace HL := Lib.hid (HL.out.below hB)
   replace BB := Lib.hid (below2 BB.out hB)
   replace RO0 := Lib.hid (RO0.out.below hB)
   replace RS0 := Lib.hid (RS0.out.below hB)
   replace bs0 := Lib.hid (cB hB bs0.out)
   replace bs1 := Lib.hid (cB hB bs1.out)
   replace RO := Lib.hid (RO.out.below hB)
   replace RS := Lib.hid (RS.out.below hB)
   replace bx0 := Lib.hid (cB hB bx0.out)
   replace bx1 := Lib.hid (cB hB bx1.out)
   clear hE hb hB
   go_wp2
   go_ret
   exact ⟨rfl, BB.out⟩
 | false =>
  have bs0o := bs0.out
  have bs1o := bs1.out
  have bslt : w.heap.size < w1.heap.size := World.block_lt_of_cell? _ _ bs0o
  go_wp2_with fail
  have hE : Below w1.heap.size w1 w1 := (Below.refl w1.heap.size w1)
  refine (CK.out _ (RO0.out.below hE) (RS0.out.below hE)).mono ?_
  rintro e w2 ⟨rfl, hb⟩
  have hB := below2 hE hb
  replace HL := Lib.hid (HL.out.below hB)
  replace BB := Lib.hid (below2 BB.out hB)
  replace RO0 := Lib.hid (RO0.out.below hB)
  replace RS0 := Lib.hid (RS0.out.below hB)
  replace bs0 := Lib.hid (cB hB bs0.out)
  replace bs1 := Lib.hid (cB hB bs1.out)
  clear hE hb hB
  clear bs0o bs1o bslt
  by_cases hck : ck = 0
  ·have _z : True := trivial
   have hv0 := VI.out hck
   subst hck
   have bs0o := bs0.out
   have bs1o := bs1.out
   have bslt : w.heap.size < w2.heap.size := World.block_lt_of_cell? _ _ bs0o
   go_wp2_with fail
   have hE : Below w2.heap.size w2 w2 := (Below.refl w2.heap.size w2)
   refine (OW.out _ (RO0.out.below hE) (RS0.out.below hE) hv0).mono ?_
   rintro e w3 ⟨rfl, hb⟩
   have hB := below2 hE hb
   replace HL := Lib.hid (HL.out.below hB)
   replace BB := Lib.hid (below2 BB.out hB)
   replace RO0 := Lib.hid (RO0.out.below hB)
   replace RS0 := Lib.hid (RS0.out.below hB)
   replace bs0 := Lib.hid (cB hB bs0.out)
   replace bs1 := Lib.hid (cB hB bs1.out)
   clear hE hb hB
   clear bs0o bs1o bslt
   rcases fine_cases text with hf | ⟨hf, l, hl⟩
   ·have _z : True := trivial
    rw [hf] at FN
    clear hf
    go_wp2_with fail
    have hE : Below w3.heap.size w3 w3 := (Below.refl w3.heap.size w3)
    refine (FN.out _).mono ?_
    rintro e w4 ⟨rfl, hb⟩
    have hB := below2 hE hb
    replace HL := Lib.hid (HL.out.below hB)
    replace BB := Lib.hid (below2 BB.out hB)
    replace RO0 := Lib.hid (RO0.out.below hB)
    replace RS0 := Lib.hid (RS0.out.below hB)
    replace bs0 := Lib.hid (cB hB bs0.out)
    replace bs1 := Lib.hid (cB hB bs1.out)
    clear hE hb hB
    go_wp2_with fail
    have hE : Below w4.heap.size w4 w4 := (Below.refl w4.heap.size w4)
    refine (works_any _ (HL.out.below hE)).mono ?_
    rintro e w5 ⟨rfl, hb⟩
    have hB := below2 hE hb
    replace HL := Lib.hid (HL.out.below hB)
    replace BB := Lib.hid (below2 BB.out hB)
    replace RO0 := Lib.hid (RO0.out.below hB)
    replace RS0 := Lib.hid (RS0.out.below hB)
    replace bs0 := Lib.hid (cB hB bs0.out)
    replace bs1 := Lib.hid (cB hB bs1.out)
    clear hE hb hB
    go_wp2
    go_ret
    exact ⟨rfl, BB.out⟩
   ·have _z : True := trivial
    rw [hf] at FN
    obtain ⟨os, h1⟩ : ∃ x, (playE l).os = x := ⟨_, rfl⟩
    obtain ⟨ls, h2⟩ : ∃ x, (playE l).ls = x := ⟨_, rfl⟩
    obtain ⟨er, h3⟩ : ∃ x, (playE l).errs = x := ⟨_, rfl⟩
    have HV := Lib.hid (show Valid os ls by rw [← h1, ← h2]; exact valid_play hl)
    have RU := Lib.hid (fun W hW => runT (n := l.length) hl h1 h2 h3 (by rw [← h3, playE_errs]) W hW)
    clear hl h1 h2 h3 hf
    go_wp2_with fail
    have hE : Below w3.heap.size w3 w3 := (Below.refl w3.heap.size w3)
    refine (FN.out _).mono ?_
    rintro e w4 ⟨rfl, hb⟩
    have hB := below2 hE hb
    replace HL := Lib.hid (HL.out.below hB)
    replace BB := Lib.hid (below2 BB.out hB)
    replace RO0 := Lib.hid (RO0.out.below hB)
    replace RS0 := Lib.hid (RS0.out.below hB)
    replace bs0 := Lib.hid (cB hB bs0.out)
    replace bs1 := Lib.hid (cB hB bs1.out)
    clear hE hb hB
    go_wp2_with fail
    have hE : Below w4.heap.size w4 w4 := (Below.refl w4.heap.size w4)
    refine (RU.out _ (HL.out.below hE)).mono ?_
    rintro e w5 ⟨⟨A3, c3, A4, c4, A5, c5, rfl, ho1, ho2, ho3⟩, hb⟩
    have hB := below2 hE hb
    replace HL := Lib.hid (HL.out.below hB)
    replace BB := Lib.hid (below2 BB.out hB)
    replace RO0 := Lib.hid (RO0.out.below hB)
    replace RS0 := Lib.hid (RS0.out.below hB)
    replace bs0 := Lib.hid (cB hB bs0.out)
    replace bs1 := Lib.hid (cB hB bs1.out)
    have RO := Lib.hid ho1
    have RS := Lib.hid ho2
    clear hE hb hB ho1 ho2
    clear ho3
    go_wp2_with fail
    have hE : Below w5.heap.size w5 (w5.alloc (.cells #[.slice A3 os.length c3, .slice A4 ls.length c4] 26)) := (below_a1 w5 (.cells #[.slice A3 os.length c3, .slice A4 ls.length c4] 26))
    refine (check_ok HV.out _ _ _ _ _ (RO.out.below hE) (RS.out.below hE)).mono ?_
    rintro e w6 ⟨rfl, hb⟩
    have hB := below2 hE hb
    replace HL := Lib.hid (HL.out.below hB)
    replace BB := Lib.hid (below2 BB.out hB)
    replace RO0 := Lib.hid (RO0.out.below hB)
    replace RS0 := Lib.hid (RS0.out.below hB)
    replace bs0 := Lib.hid (cB hB bs0.out)
    replace bs1 := Lib.hid (cB hB bs1.out)
    replace RO := Lib.hid (RO.out.below hB)
    replace RS := Lib.hid (RS.out.below hB)
    have bx0 := Lib.hid (show w6.cell? ⟨w5.heap.size, 0, none⟩ = some (.slice A3 os.length c3) from cB hb (by go_simp))
    have bx1 := Lib.hid (show w6.cell? ⟨w5.heap.size, 1, none⟩ = some (.slice A4 ls.length c4) from cB hb (by go_simp))
    clear hE hb hB
    have bx0o := bx0.out
    have bx1o := bx1.out
    have bxlt : w5.heap.size < w6.heap.size := World.block_lt_of_cell? _ _ bx0o
    go_wp2_with fail
    have hE : Below w6.heap.size w6 w6 := (Below.refl w6.heap.size w6)
    refine (ow_any _ _ os _ _ ls _ (RO.out.below hE) (RS.out.below hE) HV.out).mono ?_
    rintro e w7 ⟨rfl, hb⟩
    have hB := below2 hE hb
    replace HL := Lib.hid (HL.out.below hB)
    replace BB := Lib.hid (below2 BB.out hB)
    replace RO0 := Lib.hid (RO0.out.below hB)
    replace RS0 := Lib.hid (RS0.out.below hB)
    replace bs0 := Lib.hid (cB hB bs0.out)
    replace bs1 := Lib.hid (cB hB bs1.out)
    replace RO := Lib.hid (RO.out.below hB)
    replace RS := Lib.hid (RS.out.below hB)
    replace bx0 := Lib.hid (cB hB bx0.out)
    replace bx1 := Lib.hid (cB hB bx1.out)
    clear hE hb hB
    clear bx0o bx1o bxlt
    go_wp2_with fail
    have hE : Below w7.heap.size w7 w7 := (Below.refl w7.heap.size w7)
    refine (works_any _ (HL.out.below hE)).mono ?_
    rintro e w8 ⟨rfl, hb⟩
    have hB := below2 hE hb
    replace HL := Lib.hid (HL.out.below hB)
    replace BB := Lib.hid (below2 BB.out hB)
    replace RO0 := Lib.hid (RO0.out.below hB)
    replace RS0 := Lib.hid (RS0.out.below hB)
    replace bs0 := Lib.hid (cB hB bs0.out)
    replace bs1 := Lib.hid (cB hB bs1.out)
    replace RO := Lib.hid (RO.out.below hB)
    replace RS := Lib.hid (RS.out.below hB)
    replace bx0 := Lib.hid (cB hB bx0.out)
    replace bx1 := Lib.hid (cB hB bx1.out)
    clear hE hb hB
    go_wp2
    go_ret
    exact ⟨rfl, BB.out⟩
  ·have _z : True := trivial
   have hckf : (ck == 0) = false := by rw [beq_eq_false_iff_ne]; exact hck
   rcases fine_cases text with hf | ⟨hf, l, hl⟩
   ·have _z : True := trivial
    rw [hf] at FN
    clear hf
    go_wp2_with fail
    have hE : Below w2.heap.size w2 w2 := (Below.refl w2.heap.size w2)
    refine (FN.out _).mono ?_
    rintro e w3 ⟨rfl, hb⟩
    have hB := below2 hE hb
    replace HL := Lib.hid (HL.out.below hB)
    replace BB := Lib.hid (below2 BB.out hB)
    replace RO0 := Lib.hid (RO0.out.below hB)
    replace RS0 := Lib.hid (RS0.out.below hB)
    replace bs0 := Lib.hid (cB hB bs0.out)
    replace bs1 := Lib.hid (cB hB bs1.out)
    clear hE hb hB
    go_wp2_with fail
    have hE : Below w3.heap.size w3 w3 := (Below.refl w3.heap.size w3)
    refine (works_any _ (HL.out.below hE)).mono ?_
    rintro e w4 ⟨rfl, hb⟩
    have hB := below2 hE hb
    replace HL := Lib.hid (HL.out.below hB)
    replace BB := Lib.hid (below2 BB.out hB)
    replace RO0 := Lib.hid (RO0.out.below hB)
    replace RS0 := Lib.hid (RS0.out.below hB)
    replace bs0 := Lib.hid (cB hB bs0.out)
    replace bs1 := Lib.hid (cB hB bs1.out)
    clear hE hb hB
    go_wp2
    go_ret
    exact ⟨rfl, BB.out⟩
   ·have _z : True := trivial
    rw [hf] at FN
    obtain ⟨os, h1⟩ : ∃ x, (playE l).os = x := ⟨_, rfl⟩
    obtain ⟨ls, h2⟩ : ∃ x, (playE l).ls = x := ⟨_, rfl⟩
    obtain ⟨er, h3⟩ : ∃ x, (playE l).errs = x := ⟨_, rfl⟩
    have HV := Lib.hid (show Valid os ls by rw [← h1, ← h2]; exact valid_play hl)
    have RU := Lib.hid (fun W hW => runT (n := l.length) hl h1 h2 h3 (by rw [← h3, playE_errs]) W hW)
    clear hl h1 h2 h3 hf
    go_wp2_with fail
    have hE : Below w2.heap.size w2 w2 := (Below.refl w2.heap.size w2)
    refine (FN.out _).mono ?_
    rintro e w3 ⟨rfl, hb⟩
    have hB := below2 hE hb
    replace HL := Lib.hid (HL.out.below hB)
    replace BB := Lib.hid (below2 BB.out hB)
    replace RO0 := Lib.hid (RO0.out.below hB)
    replace RS0 := Lib.hid (RS0.out.below hB)
    replace bs0 := Lib.hid (cB hB bs0.out)
    replace bs1 := Lib.hid (cB hB bs1.out)
    clear hE hb hB
    go_wp2_with fail
    have hE : Below w3.heap.size w3 w3 := (Below.refl w3.heap.size w3)
    refine (RU.out _ (HL.out.below hE)).mono ?_
    rintro e w4 ⟨⟨A3, c3, A4, c4, A5, c5, rfl, ho1, ho2, ho3⟩, hb⟩
    have hB := below2 hE hb
    replace HL := Lib.hid (HL.out.below hB)
    replace BB := Lib.hid (below2 BB.out hB)
    replace RO0 := Lib.hid (RO0.out.below hB)
    replace RS0 := Lib.hid (RS0.out.below hB)
    replace bs0 := Lib.hid (cB hB bs0.out)
    replace bs1 := Lib.hid (cB hB bs1.out)
    have RO := Lib.hid ho1
    have RS := Lib.hid ho2
    clear hE hb hB ho1 ho2
    clear ho3
    go_wp2_with fail
    have hE : Below w4.heap.size w4 (w4.alloc (.cells #[.slice A3 os.length c3, .slice A4 ls.length c4] 26)) := (below_a1 w4 (.cells #[.slice A3 os.length c3, .slice A4 ls.length c4] 26))
    refine (check_ok HV.out _ _ _ _ _ (RO.out.below hE) (RS.out.below hE)).mono ?_
    rintro e w5 ⟨rfl, hb⟩
    have hB := below2 hE hb
    replace HL := Lib.hid (HL.out.below hB)
    replace BB := Lib.hid (below2 BB.out hB)
    replace RO0 := Lib.hid (RO0.out.below hB)
    replace RS0 := Lib.hid (RS0.out.below hB)
    replace bs0 := Lib.hid (cB hB bs0.out)
    replace bs1 := Lib.hid (cB hB bs1.out)
    replace RO := Lib.hid (RO.out.below hB)
    replace RS := Lib.hid (RS.out.below hB)
    have bx0 := Lib.hid (show w5.cell? ⟨w4.heap.size, 0, none⟩ = some (.slice A3 os.length c3) from cB hb (by go_simp))
    have bx1 := Lib.hid (show w5.cell? ⟨w4.heap.size, 1, none⟩ = some (.slice A4 ls.length c4) from cB hb (by go_simp))
    clear hE hb hB
    have bx0o := bx0.out
    have bx1o := bx1.out
    have bxlt : w4.heap.size < w5.heap.size := World.block_lt_of_cell? _ _ bx0o
    go_wp2_with fail
    have hE : Below w5.heap.size w5 w5 := (Below.refl w5.heap.size w5)
    refine (ow_any _ _ os _ _ ls _ (RO.out.below hE) (RS.out.below hE) HV.out).mono ?_
    rintro e w6 ⟨rfl, hb⟩
    have hB := below2 hE hb
    replace HL := Lib.hid (HL.out.below hB)
    replace BB := Lib.hid (below2 BB.out hB)
    replace RO0 := Lib.hid (RO0.out.below hB)
    replace RS0 := Lib.hid (RS0.out.below hB)
    replace bs0 := Lib.hid (cB hB bs0.out)
    replace bs1 := Lib.hid (cB hB bs1.out)
    replace RO := Lib.hid (RO.out.below hB)
    replace RS := Lib.hid (RS.out.below hB)
    replace bx0 := Lib.hid (cB hB bx0.out)
    replace bx1 := Lib.hid (cB hB bx1.out)
    clear hE hb hB
    clear bx0o bx1o bxlt
    go_wp2_with fail
    have hE : Below w6.heap.size w6 w6 := (Below.refl w6.heap.size w6)
    refine (works_any _ (HL.out.below hE)).mono ?_
    rintro e w7 ⟨rfl, hb⟩
    have hB := below2 hE hb
    replace HL := Lib.hid (HL.out.below hB)
    replace BB := Lib.hid (below2 BB.out hB)
    replace RO0 := Lib.hid (RO0.out.below hB)
    replace RS0 := Lib.hid (RS0.out.below hB)
    replace bs0 := Lib.hid (cB hB bs0.out)
    replace bs1 := Lib.hid (cB hB bs1.out)
    replace RO := Lib.hid (RO.out.below hB)
    replace RS := Lib.hid (RS.out.below hB)
    replace bx0 := Lib.hid (cB hB bx0.out)
    replace bx1 := Lib.hid (cB hB bx1.out)
    clear hE hb hB
    go_wp2
    go_ret
    exact ⟨rfl, BB.out⟩
end Go.Proofs.YtcnpbcgkhhebaaaGreatDoor
/- Closed facts of SeasonOwed's row. -/
namespace Go.Proofs.YtcnpbcgkhhebaaaGreatDoor
open Go.ChangeShapes Go.WideShapes Go.ChangeAt Go.RowKit
set_option maxRecDepth 100000
theorem seasonOwed_j0 : (Rows.seasonOwedRow.wf (OpenSpec.ofChange Rows.seasonOwedSpec)) = true := by kernel_rfl
theorem seasonOwed_j3 : (Tryz.f10.params.all (Tryz.prog.readableRec ·)) = true := by kernel_rfl
theorem seasonOwed_j4 : (namedTie Tryz.prog Rows.seasonOwedRow.named Rows.seasonOwedSpec.vars) = true := by kernel_rfl
theorem seasonOwed_j5 : ((Rows.seasonOwedRow.stops == [])) = true := by kernel_rfl
theorem seasonOwed_j7 : ((Rows.seasonOwedRow.knobs == [])) = true := by kernel_rfl
theorem seasonOwed_j9 : ((Rows.seasonOwedRow.inPlace == Tryz.prog.inPlace 10)) = true := by kernel_rfl
theorem seasonOwed_j10 : ((Rows.seasonOwedRow.unfollowed == Tryz.prog.unfollowed 10)) = true := by kernel_rfl
theorem seasonOwed_j11 : ((Rows.seasonOwedRow.recurses == Tryz.prog.recurses 10)) = true := by kernel_rfl
theorem seasonOwed_j12 : ((Rows.seasonOwedRow.named == Tryz.prog.varsNamed 10)) = true := by kernel_rfl
theorem seasonOwed_j13 : ((Rows.seasonOwedRow.maps == (Tryz.f10.params.toList ++ Rows.seasonOwedSpec.plain.varTypes Tryz.prog).any (Tryz.prog.mapsRec ·))) = true := by kernel_rfl
theorem seasonOwed_j14 : ((Rows.seasonOwedRow.ifaces == (Tryz.f10.params.toList ++ Rows.seasonOwedSpec.plain.varTypes Tryz.prog).any (Tryz.prog.ifacesRec ·))) = true := by kernel_rfl
theorem seasonOwed_j15 : ((Rows.seasonOwedRow.mapsOut == Tryz.prog.mapsAmong Tryz.f10.resultTypes.toList)) = true := by kernel_rfl
theorem seasonOwed_j16 : ((Rows.seasonOwedRow.loops == (Tryz.f10.params.toList ++ Rows.seasonOwedSpec.plain.varTypes Tryz.prog).any (Tryz.prog.loopsFrom ·))) = true := by kernel_rfl
theorem seasonOwed_j17 : ((Rows.seasonOwedRow.wideKeys == (Tryz.f10.params.toList ++ Rows.seasonOwedSpec.plain.varTypes Tryz.prog ++ Tryz.f10.resultTypes.toList).any (Tryz.prog.wideKeysFrom ·))) = true := by kernel_rfl
theorem seasonOwed_j18 : (Rows.seasonOwedSpec.vars.all (Tryz.prog.varReadable ·)) = true := by kernel_rfl
theorem seasonOwed_j19 : (Tryz.f10.resultTypes.all (fun t => Tryz.prog.readableRec t && decide (t < Tryz.prog.types.size))) = true := by kernel_rfl
theorem seasonOwed_j20 : ((Rows.seasonOwedRow.ifacesOut == Tryz.f10.resultTypes.toList.any (Tryz.prog.ifacesRec ·))) = true := by kernel_rfl
theorem seasonOwed_j21 : ((Rows.seasonOwedRow.loopsOut == Tryz.f10.resultTypes.toList.any (Tryz.prog.loopsFrom ·))) = true := by kernel_rfl
theorem seasonOwed_j22 : ((Rows.seasonOwedRow.plainKeys == Tryz.prog.plainKeys)) = true := by kernel_rfl
theorem seasonOwed_j23 : (Rows.seasonOwedRow.shortTexts.isNone) = true := by kernel_rfl
theorem seasonOwed_j26 : ((Rows.seasonOwedRow.lifted == Tryz.prog.liftsFinal)) = true := by kernel_rfl
theorem seasonOwed_j27 : ((Tryz.prog.make == some Rows.seasonOwedRow.make)) = true := by kernel_rfl
theorem seasonOwed_j28 : ((Rows.seasonOwedRow.kinds == (if Rows.seasonOwedRow.domain.isEmpty then [] else Tryz.f10.params.toList.map fun t => match Tryz.prog.underlying t with | some (.int k) => some k | _ => none))) = true := by kernel_rfl
theorem seasonOwed_j29 : ((Rows.seasonOwedRow.pinned == Rows.seasonOwedRow.pinnedBy)) = true := by kernel_rfl
theorem seasonOwed_j30 : ((Rows.seasonOwedRow.veiled == (Tryz.f10.params.toList ++ Rows.seasonOwedSpec.plain.varTypes Tryz.prog ++ Tryz.f10.resultTypes.toList).any (Tryz.prog.veiledRec ·))) = true := by kernel_rfl
theorem seasonOwed_j31 : (Rows.seasonOwedRow.veiledFits Tryz.prog Tryz.f10.params.toList (Tryz.f10.params.toList ++ Rows.seasonOwedSpec.plain.varTypes Tryz.prog ++ Tryz.f10.resultTypes.toList)) = true := by kernel_rfl
theorem seasonOwed_joined : joinedFacts Tryz.prog 10 Tryz.f10 Rows.seasonOwedSpec Rows.seasonOwedRow = true := by
 unfold joinedFacts
 exact (and_mk (and_mk (and_mk (and_mk (and_mk (and_mk (and_mk (and_mk (and_mk (and_mk (and_mk (and_mk (and_mk (and_mk (and_mk (and_mk (and_mk (and_mk (and_mk (and_mk (and_mk (and_mk (and_mk (and_mk (and_mk (and_mk (and_mk (and_mk (and_mk (and_mk (and_mk seasonOwed_j0 sh_laidOut) sh_mapsRowed) seasonOwed_j3) seasonOwed_j4) seasonOwed_j5) sh_stops) seasonOwed_j7) sh_knobs) seasonOwed_j9) seasonOwed_j10) seasonOwed_j11) seasonOwed_j12) seasonOwed_j13) seasonOwed_j14) seasonOwed_j15) seasonOwed_j16) seasonOwed_j17) seasonOwed_j18) seasonOwed_j19) seasonOwed_j20) seasonOwed_j21) seasonOwed_j22) seasonOwed_j23) sh_heard) sh_enter) seasonOwed_j26) seasonOwed_j27) seasonOwed_j28) seasonOwed_j29) seasonOwed_j30) seasonOwed_j31)
end Go.Proofs.YtcnpbcgkhhebaaaGreatDoor
namespace Go.Proofs.YtcnpbcgkhhebaaaGreatDoor
open Go.ChangeShapes Go.WideShapes Go.ChangeAt Go.RowKit
set_option maxRecDepth 100000
open Go.Deep Go.Joins
theorem seasonOwed_lifted (os : Os) (started : os.Started) (H : Type) (enc : TypeId × Value → H) :
  ReturnsInHanded {} Tryz.checked os 10 .any (fun w args => (Rows.seasonOwedSpec.pre enc Tryz.prog Tryz.f10 Rows.seasonOwedRow.domain false w args ∧ laidMetH Tryz.prog laidAllL w) ∧ sizedMet enc Tryz.prog Tryz.f10 (OpenSpec.ofChange Rows.seasonOwedSpec) false w args)
   (Rows.seasonOwedSpec.post enc Tryz.prog Tryz.f10 false true false false) := by
 refine handed_both (C := Tryz.checked) (X := fun w _ => laidMetH Tryz.prog laidAllL w) (fun _ _ _ hh h => h.of_heap hh) ownKn started (by kernel_rfl) Tryz.func10
  (ChangeSpec.witness_shaped (enc := enc) (C := Tryz.checked) (os := os) (X := fun w _ => laidMetH Tryz.prog laidAllL w) false (World.laidAll Tryz.prog os laidAllL) #[.agg #[.slice none 0 0, .slice none 0 0], .string ⟨#[]⟩] 8 (World.laidAll_os _ _ _)
   (World.shaped_of_ZipB (by kernel_rfl) (by kernel_rfl)) (by kernel_rfl) (by kernel_rfl) (by kernel_rfl) (laid_met os _)) ?_
 intro W base args ds gs before hval0 hW _ hwt hsh hL _
 have hW' := hW
 obtain ⟨p, q, hA0, hV, rfl, _, _⟩ := hW
 have hA : DataW.TrodAll enc Tryz.prog W 0 (fun _ => true) true Tryz.f10.params.toList args.toList ds p := hA0
 have hLW := laidW_of hsh hL
 rw [Tryz.params10] at hA
 have hval : ∀ (j : Nat) t v, Tryz.f10.params[j]? = some t → args[j]? = some v → Value.okWide Tryz.prog W .any base t v := hval0
 rw [Tryz.params10] at hval
 obtain ⟨v0, v1, d0, d1, p0, p1, rfl, rfl, rfl, h0, h1⟩ := trodAll_two hA
 obtain ⟨rfl, rfl⟩ := trodVars_none hV
 have h0k := h0
 have h1k := h1
 obtain ⟨A0, c0, os0, B0, e0, ls0, rfl, r0, s0, k0, l0⟩ := open_season (hval 0 26 v0 rfl rfl) h0
 obtain ⟨x1, rfl, _, _, k1⟩ := Go.ChangeMaps.open_string Tryz.underlying9 (hval 1 9 v1 rfl rfl) h1
 simp only [List.append_nil] at hW'
 have hlt : ∀ x ∈ p0 ++ p1, x.block < W.heap.size := fun x hx => by simpa using hW'.lt x hx
 refine (owed_law A0 c0 os0 B0 e0 ls0 x1 W hLW (by unfold maxLen at k1; omega) r0 s0 (fun x hx => by have := k0 x hx; unfold maxLen at this; omega) (fun x hx => by have := l0 x hx; unfold maxLen at this; omega)).mono fun e W' ⟨he, hb⟩ => ?_
 subst he
 exact ⟨_, rfl, _, _, _, [], p0 ++ p1, [], hW', trodAll_mk1 (shut_bool Tryz.underlying4 true), trodAll_mk2 (Below.trod sh_laidOut (by kernel_rfl) (of_decide_eq_true (by kernel_rfl)) h0k hb (fun x hx => hlt x (by simp [hx]))) (Below.trod sh_laidOut (by kernel_rfl) (of_decide_eq_true (by kernel_rfl)) h1k hb (fun x hx => hlt x (by simp [hx]))), rfl, hb.frame _, fun h => by cases h⟩
theorem seasonOwed_named : Tryz.prog.funcNamed "peavey/peaveylaw12.SeasonOwed" = some 10 := by kernel_rfl
theorem seasonOwed_goes : false = Rows.seasonOwedRow.goesBy Tryz.prog := by kernel_rfl
theorem seasonOwed_wf : Rows.seasonOwedRow.wfByText (OpenSpec.ofChange Rows.seasonOwedSpec) = true := by kernel_rfl
theorem seasonOwed_row : Rows.SeasonOwedSaid :=
 OpenClaim.holds_of_wide 10 Tryz.f10 rfl rfl rfl rfl rfl rfl rfl ⟨rfl, rfl, rfl, rfl, rfl⟩ rfl rfl rfl rfl rfl seasonOwed_named Tryz.func10 seasonOwed_joined
  (of_decide_eq_true (by kernel_rfl)) (by unfold Func.isWrapper; rw [if_neg (of_decide_eq_false (by kernel_rfl))]; exact ⟨rfl, rfl⟩)
  (fun os started H enc _ => seasonOwed_lifted os started H enc)
theorem seasonOwed_card : Rows.SeasonOwedCardSaid :=
 Claim7.holds_tied_plain_at .later [] [.data, .data, .data, .data, .sentinel, .sentinel, .pinned] true (true, "bb3957611fb07b8f30c253038086df1c9e34512f5bd6bdaf1e554329739cb219") true seasonOwed_row (fun _ h => by cases h) seasonOwed_wf (fun _ h => by cases h) seasonOwed_row_tie rfl ⟨rfl, rfl⟩ sh_main rfl
  (fun f fn hf hfn => by
   obtain rfl : f = 10 := Option.some.inj (seasonOwed_named.symm.trans hf) |>.symm
   obtain rfl : fn = Tryz.f10 := (Option.some.inj (Tryz.func10.symm.trans hfn)).symm
   exact ⟨sh_looks, fun j t ht => by
    rw [Tryz.params10] at ht
    have hm : t ∈ [26, 9] := by simpa using Array.mem_of_getElem? ht
    have hall : ([26, 9].all fun u => !Tryz.prog.wantsStandIn u) = true := by kernel_rfl
    exact (show Tryz.prog.wantsStandIn t = false by simpa using List.all_eq_true.1 hall t hm)⟩)
  seasonOwed_goes
#print axioms seasonOwed_card
end Go.Proofs.YtcnpbcgkhhebaaaGreatDoor
