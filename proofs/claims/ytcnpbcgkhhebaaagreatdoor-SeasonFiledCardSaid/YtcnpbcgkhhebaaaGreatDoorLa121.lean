/- SeasonFiled returns true, for every input; and what it was given reads as before: the given card, under the row's condition: the listed package-level variables read as the program's text lays them. -/
import Derived.Test.YtcnpbcgkhhebaaaGreatDoorNj1
/- SeasonFiled: a season and its file. -/
namespace Go.Proofs.YtcnpbcgkhhebaaaGreatDoor
open Go.RowKit

set_option maxRecDepth 100000 in
set_option maxHeartbeats 40000000 in
theorem filed_any (A : Option Addr) (c : Nat) (os0 : List Ow) (A2 : Option Addr) (c2 : Nat) (ls0 : List Lg) (file text : ByteArray) (w : World) (hL : LaidW w) (hs : text.size ≤ 9223372036854775807) (hs2 : file.size ≤ 9223372036854775807) (hr : Rd eO 3 w A c os0) (hr2 : Rd eL 5 w A2 c2 ls0) (hm : ∀ x ∈ os0, x.mark.size ≤ 9223372036854775807) (hsn : ∀ l ∈ ls0, l.seen.size ≤ 9223372036854775807):
  Calls Tryz.prog 12 #[.agg #[.slice A os0.length c, .slice A2 ls0.length c2], .string file, .string text] w fun e w' => e = .returned (.bool true) ∧ Below w.heap.size w w' := by
 have HL := Lib.hid hL
 have BB := Lib.hid (Below.refl w.heap.size w)
 have RO0 := Lib.hid hr
 have RS0 := Lib.hid hr2
 have HM := Lib.hid hm
 have HS := Lib.hid hsn
 clear hL hr hr2 hm hsn
 have FN := Lib.hid (fun W => fine_any text W hs)
 have GR := Lib.hid (fun W (h1 : Rd eO 3 W A c os0) (h2 : Rd eL 5 W A2 c2 ls0) => great_any A c os0 A2 c2 ls0 W h1 h2 HM.out HS.out)
 have CK := Lib.hid (fun W (h1 : Rd eO 3 W A c os0) (h2 : Rd eL 5 W A2 c2 ls0) => check2_any A c os0 A2 c2 ls0 W h1 h2 HM.out HS.out)
 obtain ⟨g, hg⟩ : ∃ x, greatS os0 ls0 = x := ⟨_, rfl⟩
 obtain ⟨ck, hck⟩ : ∃ x, checkS os0 ls0 = x := ⟨_, rfl⟩
 have FIL := Lib.hid (file_load (os := os0) (ls := ls0))
 obtain ⟨r, hlf⟩ : ∃ x, loadF file = x := ⟨_, rfl⟩
 obtain ⟨⟨os5, ls5⟩, e5⟩ := r
 have LF := Lib.hid (fun W hW => loadC hlf hs2 W hW)
 have LFL := Lib.hid (fun (he : e5 = 0) => load_file (file := file) (x := (os5, ls5)) (by rw [hlf, he]))
 rw [hg] at GR
 rw [hck] at CK
 have HCK := Lib.hid hck
 clear hg hck hlf
 go_enter Tryz.func12, Tryz.ntmps12
 go_wp2_with fail
 have hE : Below w.heap.size w (w.alloc (.cells #[.slice A os0.length c, .slice A2 ls0.length c2] 26)) := (below_a1 w (.cells #[.slice A os0.length c, .slice A2 ls0.length c2] 26))
 refine (GR.out _ (RO0.out.below hE) (RS0.out.below hE)).mono ?_
 rintro e w1 ⟨rfl, hb⟩
 have hB := below2 hE hb
 replace HL := Lib.hid (HL.out.below hB)
 replace BB := Lib.hid (below2 BB.out hB)
 replace RO0 := Lib.hid (RO0.out.below hB)
 replace RS0 := Lib.hid (RS0.out.below hB)
 have bs0 := Lib.hid (show w1.cell? ⟨w.heap.size, 0, none⟩ = some (.slice A os0.length c) from cB hb (by go_simp))
 have bs1 := Lib.hid (show w1.cell? ⟨w.heap.size, 1, none⟩ = some (.slice A2 ls0.length c2) from cB hb (by go_simp))
 clear hE hb hB
 cases g with
 | true =>
  go_wp2_with fail
  have hE : Below w1.heap.size w1 w1 := (Below.refl w1.heap.size w1)
  refine (works_any _ (HL.out.below hE)).mono ?_
  rintro e w2 ⟨rfl, hb⟩
  have hB := below2 hE hb
  replace HL := Lib.hid (HL.out.below hB)
  replace BB := Lib.hid (below2 BB.out hB)
  replace RO0 := Lib.hid (RO0.out.below hB)
  replace RS0 := Lib.hid (RS0.out.below hB)
  replace bs0 := Lib.hid (cB hB bs0.out)
  replace bs1 := Lib.hid (cB hB bs1.out)
  clear hE hb hB
  go_wp2
  go_ret
  exact ⟨rfl, BB.out⟩
 | false =>
  by_cases hz : 16100 < file.size
  ·have _z : True := trivial
   have hzi : (16100 : Int) < (file.size : Int) := by omega
   go_wp2_with fail
   have hE : Below w1.heap.size w1 w1 := (Below.refl w1.heap.size w1)
   refine (works_any _ (HL.out.below hE)).mono ?_
   rintro e w2 ⟨rfl, hb⟩
   have hB := below2 hE hb
   replace HL := Lib.hid (HL.out.below hB)
   replace BB := Lib.hid (below2 BB.out hB)
   replace RO0 := Lib.hid (RO0.out.below hB)
   replace RS0 := Lib.hid (RS0.out.below hB)
   replace bs0 := Lib.hid (cB hB bs0.out)
   replace bs1 := Lib.hid (cB hB bs1.out)
   clear hE hb hB
   go_wp2
   go_ret
   exact ⟨rfl, BB.out⟩
  have hzi : ¬ (16100 : Int) < (file.size : Int) := by omega
  have bs0o := bs0.out
  have bs1o := bs1.out
  have bslt : w.heap.size < w1.heap.size := World.block_lt_of_cell? _ _ bs0o
  go_wp2_with fail
  have hE : Below w1.heap.size w1 w1 := (Below.refl w1.heap.size w1)
  refine (CK.out _ (RO0.out.below hE) (RS0.out.below hE)).mono ?_
  rintro e w2 ⟨rfl, hb⟩
  have hB := below2 hE hb
  replace HL := Lib.hid (HL.out.below hB)
  replace BB := Lib.hid (below2 BB.out hB)
  replace RO0 := Lib.hid (RO0.out.below hB)
  replace RS0 := Lib.hid (RS0.out.below hB)
  replace bs0 := Lib.hid (cB hB bs0.out)
  replace bs1 := Lib.hid (cB hB bs1.out)
  clear hE hb hB
  clear bs0o bs1o bslt
  by_cases hck : ck = 0
  ·have _z : True := trivial
   subst hck
   obtain ⟨f1, f2, f3⟩ := FIL.out HCK.out
   obtain ⟨fb, hfb⟩ : ∃ x, accB (fileL os0 ls0) = x := ⟨_, rfl⟩
   rw [hfb] at f1 f2 f3
   have FI := Lib.hid (fun W (hL : LaidW W) (h1 : Rd eO 3 W A c os0) (h2 : Rd eL 5 W A2 c2 ls0) => fileC f1 A c A2 c2 W hL h1 h2)
   have LF0 := Lib.hid (fun W hW => loadC f3 (by omega) W hW)
   have hfbi : ¬ (16000 : Int) < (fb.size : Int) := by omega
   clear f1 f3 hfb
   have bs0o := bs0.out
   have bs1o := bs1.out
   have bslt : w.heap.size < w2.heap.size := World.block_lt_of_cell? _ _ bs0o
   go_wp2_with fail
   have hE : Below w2.heap.size w2 w2 := (Below.refl w2.heap.size w2)
   refine (FI.out _ (HL.out.below hE) (RO0.out.below hE) (RS0.out.below hE)).mono ?_
   rintro e w3 ⟨rfl, hb⟩
   have hB := below2 hE hb
   replace HL := Lib.hid (HL.out.below hB)
   replace BB := Lib.hid (below2 BB.out hB)
   replace RO0 := Lib.hid (RO0.out.below hB)
   replace RS0 := Lib.hid (RS0.out.below hB)
   replace bs0 := Lib.hid (cB hB bs0.out)
   replace bs1 := Lib.hid (cB hB bs1.out)
   clear hE hb hB
   clear bs0o bs1o bslt
   go_wp2_with fail
   have hE : Below w3.heap.size w3 w3 := (Below.refl w3.heap.size w3)
   refine (LF0.out _ (HL.out.below hE)).mono ?_
   rintro e w4 ⟨⟨A3, c3, A4, c4, rfl, ho1, ho2⟩, hb⟩
   have hB := below2 hE hb
   replace HL := Lib.hid (HL.out.below hB)
   replace BB := Lib.hid (below2 BB.out hB)
   replace RO0 := Lib.hid (RO0.out.below hB)
   replace RS0 := Lib.hid (RS0.out.below hB)
   replace bs0 := Lib.hid (cB hB bs0.out)
   replace bs1 := Lib.hid (cB hB bs1.out)
   have RO1 := Lib.hid ho1
   have RS1 := Lib.hid ho2
   clear hE hb hB ho1 ho2
   have bs0o := bs0.out
   have bs1o := bs1.out
   have bslt : w.heap.size < w4.heap.size := World.block_lt_of_cell? _ _ bs0o
   go_wp2_with fail
   have hE : Below w4.heap.size w4 (w4.alloc (.cells #[.slice A3 os0.length c3, .slice A4 ls0.length c4] 26)) := (below_a1 w4 (.cells #[.slice A3 os0.length c3, .slice A4 ls0.length c4] 26))
   refine (same_any _ _ _ _ _ _ _ _ os0 ls0 _ (RO0.out.below hE) (RS0.out.below hE) (RO1.out.below hE) (RS1.out.below hE)).mono ?_
   rintro e w5 ⟨rfl, hb⟩
   have hB := below2 hE hb
   replace HL := Lib.hid (HL.out.below hB)
   replace BB := Lib.hid (below2 BB.out hB)
   replace RO0 := Lib.hid (RO0.out.below hB)
   replace RS0 := Lib.hid (RS0.out.below hB)
   replace bs0 := Lib.hid (cB hB bs0.out)
   replace bs1 := Lib.hid (cB hB bs1.out)
   replace RO1 := Lib.hid (RO1.out.below hB)
   replace RS1 := Lib.hid (RS1.out.below hB)
   clear hE hb hB
   clear bs0o bs1o bslt
   go_wp2_with fail
   have hE : Below w5.heap.size w5 w5 := (Below.refl w5.heap.size w5)
   refine (LF.out _ (HL.out.below hE)).mono ?_
   rintro e w6 ⟨⟨A5, c5, A6, c6, rfl, ho1, ho2⟩, hb⟩
   have hB := below2 hE hb
   replace HL := Lib.hid (HL.out.below hB)
   replace BB := Lib.hid (below2 BB.out hB)
   replace RO0 := Lib.hid (RO0.out.below hB)
   replace RS0 := Lib.hid (RS0.out.below hB)
   replace bs0 := Lib.hid (cB hB bs0.out)
   replace bs1 := Lib.hid (cB hB bs1.out)
   replace RO1 := Lib.hid (RO1.out.below hB)
   replace RS1 := Lib.hid (RS1.out.below hB)
   have RO5 := Lib.hid ho1
   have RS5 := Lib.hid ho2
   clear hE hb hB ho1 ho2
   by_cases he5 : e5 = 0
   ·have _z : True := trivial
    obtain ⟨g1, g2⟩ := LFL.out he5
    subst he5
    have HV5 := Lib.hid (valid_of g1)
    have FI5 := Lib.hid (fun W (hL : LaidW W) (h1 : Rd eO 3 W A5 c5 os5) (h2 : Rd eL 5 W A6 c6 ls5) => fileC g2 A5 c5 A6 c6 W hL h1 h2)
    clear g1 g2
    go_wp2_with fail
    have hE : Below w6.heap.size w6 (w6.alloc (.cells #[.slice A5 os5.length c5, .slice A6 ls5.length c6] 26)) := (below_a1 w6 (.cells #[.slice A5 os5.length c5, .slice A6 ls5.length c6] 26))
    refine (FI5.out _ (HL.out.below hE) (RO5.out.below hE) (RS5.out.below hE)).mono ?_
    rintro e w7 ⟨rfl, hb⟩
    have hB := below2 hE hb
    replace HL := Lib.hid (HL.out.below hB)
    replace BB := Lib.hid (below2 BB.out hB)
    replace RO0 := Lib.hid (RO0.out.below hB)
    replace RS0 := Lib.hid (RS0.out.below hB)
    replace bs0 := Lib.hid (cB hB bs0.out)
    replace bs1 := Lib.hid (cB hB bs1.out)
    replace RO1 := Lib.hid (RO1.out.below hB)
    replace RS1 := Lib.hid (RS1.out.below hB)
    replace RO5 := Lib.hid (RO5.out.below hB)
    replace RS5 := Lib.hid (RS5.out.below hB)
    have bf0 := Lib.hid (show w7.cell? ⟨w6.heap.size, 0, none⟩ = some (.slice A5 os5.length c5) from cB hb (by go_simp))
    have bf1 := Lib.hid (show w7.cell? ⟨w6.heap.size, 1, none⟩ = some (.slice A6 ls5.length c6) from cB hb (by go_simp))
    clear hE hb hB
    have bf0o := bf0.out
    have bf1o := bf1.out
    have bflt : w6.heap.size < w7.heap.size := World.block_lt_of_cell? _ _ bf0o
    go_wp2_with fail
    have hE : Below w7.heap.size w7 w7 := (Below.refl w7.heap.size w7)
    refine (check_ok HV5.out _ _ _ _ _ (RO5.out.below hE) (RS5.out.below hE)).mono ?_
    rintro e w8 ⟨rfl, hb⟩
    have hB := below2 hE hb
    replace HL := Lib.hid (HL.out.below hB)
    replace BB := Lib.hid (below2 BB.out hB)
    replace RO0 := Lib.hid (RO0.out.below hB)
    replace RS0 := Lib.hid (RS0.out.below hB)
    replace bs0 := Lib.hid (cB hB bs0.out)
    replace bs1 := Lib.hid (cB hB bs1.out)
    replace RO1 := Lib.hid (RO1.out.below hB)
    replace RS1 := Lib.hid (RS1.out.below hB)
    replace RO5 := Lib.hid (RO5.out.below hB)
    replace RS5 := Lib.hid (RS5.out.below hB)
    replace bf0 := Lib.hid (cB hB bf0.out)
    replace bf1 := Lib.hid (cB hB bf1.out)
    clear hE hb hB
    clear bf0o bf1o bflt
    rcases fine_cases text with hf | ⟨hf, l, hl⟩
    ·have _z : True := trivial
     rw [hf] at FN
     clear hf
     go_wp2_with fail
     have hE : Below w8.heap.size w8 w8 := (Below.refl w8.heap.size w8)
     refine (FN.out _).mono ?_
     rintro e w9 ⟨rfl, hb⟩
     have hB := below2 hE hb
     replace HL := Lib.hid (HL.out.below hB)
     replace BB := Lib.hid (below2 BB.out hB)
     replace RO0 := Lib.hid (RO0.out.below hB)
     replace RS0 := Lib.hid (RS0.out.below hB)
     replace bs0 := Lib.hid (cB hB bs0.out)
     replace bs1 := Lib.hid (cB hB bs1.out)
     replace RO1 := Lib.hid (RO1.out.below hB)
     replace RS1 := Lib.hid (RS1.out.below hB)
     replace RO5 := Lib.hid (RO5.out.below hB)
     replace RS5 := Lib.hid (RS5.out.below hB)
     replace bf0 := Lib.hid (cB hB bf0.out)
     replace bf1 := Lib.hid (cB hB bf1.out)
     clear hE hb hB
     go_wp2_with fail
     have hE : Below w9.heap.size w9 w9 := (Below.refl w9.heap.size w9)
     refine (works_any _ (HL.out.below hE)).mono ?_
     rintro e w10 ⟨rfl, hb⟩
     have hB := below2 hE hb
     replace HL := Lib.hid (HL.out.below hB)
     replace BB := Lib.hid (below2 BB.out hB)
     replace RO0 := Lib.hid (RO0.out.below hB)
     replace RS0 := Lib.hid (RS0.out.below hB)
     replace bs0 := Lib.hid (cB hB bs0.out)
     replace bs1 := Lib.hid (cB hB bs1.out)
     replace RO1 := Lib.hid (RO1.out.below hB)
     replace RS1 := Lib.hid (RS1.out.below hB)
     replace RO5 := Lib.hid (RO5.out.below hB)
     replace RS5 := Lib.hid (RS5.out.below hB)
     replace bf0 := Lib.hid (cB hB bf0.out)
     replace bf1 := Lib.hid (cB hB bf1.out)
     clear hE hb hB
     go_wp2
     go_ret
     exact ⟨rfl, BB.out⟩
    ·have _z : True := trivial
     rw [hf] at FN
     obtain ⟨os, h1⟩ : ∃ x, (playE l).os = x := ⟨_, rfl⟩
     obtain ⟨ls, h2⟩ : ∃ x, (playE l).ls = x := ⟨_, rfl⟩
     obtain ⟨er, h3⟩ : ∃ x, (playE l).errs = x := ⟨_, rfl⟩
     have hvd : Valid os ls := by rw [← h1, ← h2]; exact valid_play hl
     have RU := Lib.hid (fun W hW => runT (n := l.length) hl h1 h2 h3 (by rw [← h3, playE_errs]) W hW)
     obtain ⟨y1, y2, y3⟩ := file_load (valid_check hvd)
     obtain ⟨fb2, hfb2⟩ : ∃ x, accB (fileL os ls) = x := ⟨_, rfl⟩
     rw [hfb2] at y1 y2 y3
     have LF2 := Lib.hid (fun W hW => loadC y3 (by omega) W hW)
     have Y1 := Lib.hid y1
     clear hl h1 h2 h3 hf y1 y2 y3 hfb2 hvd
     go_wp2_with fail
     have hE : Below w8.heap.size w8 w8 := (Below.refl w8.heap.size w8)
     refine (FN.out _).mono ?_
     rintro e w9 ⟨rfl, hb⟩
     have hB := below2 hE hb
     replace HL := Lib.hid (HL.out.below hB)
     replace BB := Lib.hid (below2 BB.out hB)
     replace RO0 := Lib.hid (RO0.out.below hB)
     replace RS0 := Lib.hid (RS0.out.below hB)
     replace bs0 := Lib.hid (cB hB bs0.out)
     replace bs1 := Lib.hid (cB hB bs1.out)
     replace RO1 := Lib.hid (RO1.out.below hB)
     replace RS1 := Lib.hid (RS1.out.below hB)
     replace RO5 := Lib.hid (RO5.out.below hB)
     replace RS5 := Lib.hid (RS5.out.below hB)
     replace bf0 := Lib.hid (cB hB bf0.out)
     replace bf1 := Lib.hid (cB hB bf1.out)
     clear hE hb hB
     go_wp2_with fail
     have hE : Below w9.heap.size w9 w9 := (Below.refl w9.heap.size w9)
     refine (RU.out _ (HL.out.below hE)).mono ?_
     rintro e w10 ⟨⟨A13, c13, A14, c14, A15, c15, rfl, ho1, ho2, ho3⟩, hb⟩
     have hB := below2 hE hb
     replace HL := Lib.hid (HL.out.below hB)
     replace BB := Lib.hid (below2 BB.out hB)
     replace RO0 := Lib.hid (RO0.out.below hB)
     replace RS0 := Lib.hid (RS0.out.below hB)
     replace bs0 := Lib.hid (cB hB bs0.out)
     replace bs1 := Lib.hid (cB hB bs1.out)
     replace RO1 := Lib.hid (RO1.out.below hB)
     replace RS1 := Lib.hid (RS1.out.below hB)
     replace RO5 := Lib.hid (RO5.out.below hB)
     replace RS5 := Lib.hid (RS5.out.below hB)
     replace bf0 := Lib.hid (cB hB bf0.out)
     replace bf1 := Lib.hid (cB hB bf1.out)
     have RO := Lib.hid ho1
     have RS := Lib.hid ho2
     clear hE hb hB ho1 ho2
     clear ho3
     have FI2 := Lib.hid (fun W (hL : LaidW W) (h1 : Rd eO 3 W A13 c13 os) (h2 : Rd eL 5 W A14 c14 ls) => fileC Y1.out A13 c13 A14 c14 W hL h1 h2)
     go_wp2_with fail
     have hE : Below w10.heap.size w10 (w10.alloc (.cells #[.slice A13 os.length c13, .slice A14 ls.length c14] 26)) := (below_a1 w10 (.cells #[.slice A13 os.length c13, .slice A14 ls.length c14] 26))
     refine (FI2.out _ (HL.out.below hE) (RO.out.below hE) (RS.out.below hE)).mono ?_
     rintro e w11 ⟨rfl, hb⟩
     have hB := below2 hE hb
     replace HL := Lib.hid (HL.out.below hB)
     replace BB := Lib.hid (below2 BB.out hB)
     replace RO0 := Lib.hid (RO0.out.below hB)
     replace RS0 := Lib.hid (RS0.out.below hB)
     replace bs0 := Lib.hid (cB hB bs0.out)
     replace bs1 := Lib.hid (cB hB bs1.out)
     replace RO1 := Lib.hid (RO1.out.below hB)
     replace RS1 := Lib.hid (RS1.out.below hB)
     replace RO5 := Lib.hid (RO5.out.below hB)
     replace RS5 := Lib.hid (RS5.out.below hB)
     replace bf0 := Lib.hid (cB hB bf0.out)
     replace bf1 := Lib.hid (cB hB bf1.out)
     replace RO := Lib.hid (RO.out.below hB)
     replace RS := Lib.hid (RS.out.below hB)
     have bx0 := Lib.hid (show w11.cell? ⟨w10.heap.size, 0, none⟩ = some (.slice A13 os.length c13) from cB hb (by go_simp))
     have bx1 := Lib.hid (show w11.cell? ⟨w10.heap.size, 1, none⟩ = some (.slice A14 ls.length c14) from cB hb (by go_simp))
     clear hE hb hB
     go_wp2_with fail
     have hE : Below w11.heap.size w11 w11 := (Below.refl w11.heap.size w11)
     refine (LF2.out _ (HL.out.below hE)).mono ?_
     rintro e w12 ⟨⟨A16, c16, A17, c17, rfl, ho1, ho2⟩, hb⟩
     have hB := below2 hE hb
     replace HL := Lib.hid (HL.out.below hB)
     replace BB := Lib.hid (below2 BB.out hB)
     replace RO0 := Lib.hid (RO0.out.below hB)
     replace RS0 := Lib.hid (RS0.out.below hB)
     replace bs0 := Lib.hid (cB hB bs0.out)
     replace bs1 := Lib.hid (cB hB bs1.out)
     replace RO1 := Lib.hid (RO1.out.below hB)
     replace RS1 := Lib.hid (RS1.out.below hB)
     replace RO5 := Lib.hid (RO5.out.below hB)
     replace RS5 := Lib.hid (RS5.out.below hB)
     replace bf0 := Lib.hid (cB hB bf0.out)
     replace bf1 := Lib.hid (cB hB bf1.out)
     replace RO := Lib.hid (RO.out.below hB)
     replace RS := Lib.hid (RS.out.below hB)
     replace bx0 := Lib.hid (cB hB bx0.out)
     replace bx1 := Lib.hid (cB hB bx1.out)
     have RO6 := Lib.hid ho1
     have RS6 := Lib.hid ho2
     clear hE hb hB ho1 ho2
     have bx0o := bx0.out
     have bx1o := bx1.out
     have bxlt : w10.heap.size < w12.heap.size := World.block_lt_of_cell? _ _ bx0o
     go_wp2_with fail
     have hE : Below w12.heap.size w12 (w12.alloc (.cells #[.slice A16 os.length c16, .slice A17 ls.length c17] 26)) := (below_a1 w12 (.cells #[.slice A16 os.length c16, .slice A17 ls.length c17] 26))
     refine (same_any _ _ _ _ _ _ _ _ os ls _ (RO.out.below hE) (RS.out.below hE) (RO6.out.below hE) (RS6.out.below hE)).mono ?_
     rintro e w13 ⟨rfl, hb⟩
     have hB := below2 hE hb
     replace HL := Lib.hid (HL.out.below hB)
     replace BB := Lib.hid (below2 BB.out hB)
     replace RO0 := Lib.hid (RO0.out.below hB)
     replace RS0 := Lib.hid (RS0.out.below hB)
     replace bs0 := Lib.hid (cB hB bs0.out)
     replace bs1 := Lib.hid (cB hB bs1.out)
     replace RO1 := Lib.hid (RO1.out.below hB)
     replace RS1 := Lib.hid (RS1.out.below hB)
     replace RO5 := Lib.hid (RO5.out.below hB)
     replace RS5 := Lib.hid (RS5.out.below hB)
     replace bf0 := Lib.hid (cB hB bf0.out)
     replace bf1 := Lib.hid (cB hB bf1.out)
     replace RO := Lib.hid (RO.out.below hB)
     replace RS := Lib.hid (RS.out.below hB)
     replace bx0 := Lib.hid (cB hB bx0.out)
     replace bx1 := Lib.hid (cB hB bx1.out)
     replace RO6 := Lib.hid (RO6.out.below hB)
     replace RS6 := Lib.hid (RS6.out.below hB)
     clear hE hb hB
     clear bx0o bx1o bxlt
     go_wp2_with fail
     have hE : Below w13.heap.size w13 w13 := (Below.refl w13.heap.size w13)
     refine (works_any _ (HL.out.below hE)).mono ?_
     rintro e w14 ⟨rfl, hb⟩
     have hB := below2 hE hb
     replace HL := Lib.hid (HL.out.below hB)
     replace BB := Lib.hid (below2 BB.out hB)
     replace RO0 := Lib.hid (RO0.out.below hB)
     replace RS0 := Lib.hid (RS0.out.below hB)
     replace bs0 := Lib.hid (cB hB bs0.out)
     replace bs1 := Lib.hid (cB hB bs1.out)
     replace RO1 := Lib.hid (RO1.out.below hB)
     replace RS1 := Lib.hid (RS1.out.below hB)
     replace RO5 := Lib.hid (RO5.out.below hB)
     replace RS5 := Lib.hid (RS5.out.below hB)
     replace bf0 := Lib.hid (cB hB bf0.out)
     replace bf1 := Lib.hid (cB hB bf1.out)
     replace RO := Lib.hid (RO.out.below hB)
     replace RS := Lib.hid (RS.out.below hB)
     replace bx0 := Lib.hid (cB hB bx0.out)
     replace bx1 := Lib.hid (cB hB bx1.out)
     replace RO6 := Lib.hid (RO6.out.below hB)
     replace RS6 := Lib.hid (RS6.out.below hB)
     clear hE hb hB
     go_wp2
     go_ret
     exact ⟨rfl, BB.out⟩
   ·have _z : True := trivial
    have he5f : (e5 == 0) = false := by rw [beq_eq_false_iff_ne]; exact he5
    rcases fine_cases text with hf | ⟨hf, l, hl⟩
    ·have _z : True := trivial
     rw [hf] at FN
     clear hf
     go_wp2_with fail
     have hE : Below w6.heap.size w6 (w6.alloc (.cells #[.slice A5 os5.length c5, .slice A6 ls5.length c6] 26)) := (below_a1 w6 (.cells #[.slice A5 os5.length c5, .slice A6 ls5.length c6] 26))
     refine (FN.out _).mono ?_
     rintro e w7 ⟨rfl, hb⟩
     have hB := below2 hE hb
     replace HL := Lib.hid (HL.out.below hB)
     replace BB := Lib.hid (below2 BB.out hB)
     replace RO0 := Lib.hid (RO0.out.below hB)
     replace RS0 := Lib.hid (RS0.out.below hB)
     replace bs0 := Lib.hid (cB hB bs0.out)
     replace bs1 := Lib.hid (cB hB bs1.out)
     replace RO1 := Lib.hid (RO1.out.below hB)
     replace RS1 := Lib.hid (RS1.out.below hB)
     replace RO5 := Lib.hid (RO5.out.below hB)
     replace RS5 := Lib.hid (RS5.out.below hB)
     clear hE hb hB
     go_wp2_with fail
     have hE : Below w7.heap.size w7 w7 := (Below.refl w7.heap.size w7)
     refine (works_any _ (HL.out.below hE)).mono ?_
     rintro e w8 ⟨rfl, hb⟩
     have hB := below2 hE hb
     replace HL := Lib.hid (HL.out.below hB)
     replace BB := Lib.hid (below2 BB.out hB)
     replace RO0 := Lib.hid (RO0.out.below hB)
     replace RS0 := Lib.hid (RS0.out.below hB)
     replace bs0 := Lib.hid (cB hB bs0.out)
     replace bs1 := Lib.hid (cB hB bs1.out)
     replace RO1 := Lib.hid (RO1.out.below hB)
     replace RS1 := Lib.hid (RS1.out.below hB)
     replace RO5 := Lib.hid (RO5.out.below hB)
     replace RS5 := Lib.hid (RS5.out.below hB)
     clear hE hb hB
     go_wp2
     go_ret
     exact ⟨rfl, BB.out⟩
    ·have _z : True := trivial
     rw [hf] at FN
     obtain ⟨os, h1⟩ : ∃ x, (playE l).os = x := ⟨_, rfl⟩
     obtain ⟨ls, h2⟩ : ∃ x, (playE l).ls = x := ⟨_, rfl⟩
     obtain ⟨er, h3⟩ : ∃ x, (playE l).errs = x := ⟨_, rfl⟩
     have hvd : Valid os ls := by rw [← h1, ← h2]; exact valid_play hl
     have RU := Lib.hid (fun W hW => runT (n := l.length) hl h1 h2 h3 (by rw [← h3, playE_errs]) W hW)
     obtain ⟨y1, y2, y3⟩ := file_load (valid_check hvd)
     obtain ⟨fb2, hfb2⟩ : ∃ x, accB (fileL os ls) = x := ⟨_, rfl⟩
     rw [hfb2] at y1 y2 y3
     have LF2 := Lib.hid (fun W hW => loadC y3 (by omega) W hW)
     have Y1 := Lib.hid y1
     clear hl h1 h2 h3 hf y1 y2 y3 hfb2 hvd
     go_wp2_with fail
     have hE : Below w6.heap.size w6 (w6.alloc (.cells #[.slice A5 os5.length c5, .slice A6 ls5.length c6] 26)) := (below_a1 w6 (.cells #[.slice A5 os5.length c5, .slice A6 ls5.length c6] 26))
     refine (FN.out _).mono ?_
     rintro e w7 ⟨rfl, hb⟩
     have hB := below2 hE hb
     replace HL := Lib.hid (HL.out.below hB)
     replace BB := Lib.hid (below2 BB.out hB)
     replace RO0 := Lib.hid (RO0.out.below hB)
     replace RS0 := Lib.hid (RS0.out.below hB)
     replace bs0 := Lib.hid (cB hB bs0.out)
     replace bs1 := Lib.hid (cB hB bs1.out)
     replace RO1 := Lib.hid (RO1.out.below hB)
     replace RS1 := Lib.hid (RS1.out.below hB)
     replace RO5 := Lib.hid (RO5.out.below hB)
     replace RS5 := Lib.hid (RS5.out.below hB)
     clear hE hb hB
     go_wp2_with fail
     have hE : Below w7.heap.size w7 w7 := (Below.refl w7.heap.size w7)
     refine (RU.out _ (HL.out.below hE)).mono ?_
     rintro e w8 ⟨⟨A13, c13, A14, c14, A15, c15, rfl, ho1, ho2, ho3⟩, hb⟩
     have hB := below2 hE hb
     replace HL := Lib.hid (HL.out.below hB)
     replace BB := Lib.hid (below2 BB.out hB)
     replace RO0 := Lib.hid (RO0.out.below hB)
     replace RS0 := Lib.hid (RS0.out.below hB)
     replace bs0 := Lib.hid (cB hB bs0.out)
     replace bs1 := Lib.hid (cB hB bs1.out)
     replace RO1 := Lib.hid (RO1.out.below hB)
     replace RS1 := Lib.hid (RS1.out.below hB)
     replace RO5 := Lib.hid (RO5.out.below hB)
     replace RS5 := Lib.hid (RS5.out.below hB)
     have RO := Lib.hid ho1
     have RS := Lib.hid ho2
     clear hE hb hB ho1 ho2
     clear ho3
     have FI2 := Lib.hid (fun W (hL : LaidW W) (h1 : Rd eO 3 W A13 c13 os) (h2 : Rd eL 5 W A14 c14 ls) => fileC Y1.out A13 c13 A14 c14 W hL h1 h2)
     go_wp2_with fail
     have hE : Below w8.heap.size w8 (w8.alloc (.cells #[.slice A13 os.length c13, .slice A14 ls.length c14] 26)) := (below_a1 w8 (.cells #[.slice A13 os.length c13, .slice A14 ls.length c14] 26))
     refine (FI2.out _ (HL.out.below hE) (RO.out.below hE) (RS.out.below hE)).mono ?_
     rintro e w9 ⟨rfl, hb⟩
     have hB := below2 hE hb
     replace HL := Lib.hid (HL.out.below hB)
     replace BB := Lib.hid (below2 BB.out hB)
     replace RO0 := Lib.hid (RO0.out.below hB)
     replace RS0 := Lib.hid (RS0.out.below hB)
     replace bs0 := Lib.hid (cB hB bs0.out)
     replace bs1 := Lib.hid (cB hB bs1.out)
     replace RO1 := Lib.hid (RO1.out.below hB)
     replace RS1 := Lib.hid (RS1.out.below hB)
     replace RO5 := Lib.hid (RO5.out.below hB)
     replace RS5 := Lib.hid (RS5.out.below hB)
     replace RO := Lib.hid (RO.out.below hB)
     replace RS := Lib.hid (RS.out.below hB)
     have bx0 := Lib.hid (show w9.cell? ⟨w8.heap.size, 0, none⟩ = some (.slice A13 os.length c13) from cB hb (by go_simp))
     have bx1 := Lib.hid (show w9.cell? ⟨w8.heap.size, 1, none⟩ = some (.slice A14 ls.length c14) from cB hb (by go_simp))
     clear hE hb hB
     go_wp2_with fail
     have hE : Below w9.heap.size w9 w9 := (Below.refl w9.heap.size w9)
     refine (LF2.out _ (HL.out.below hE)).mono ?_
     rintro e w10 ⟨⟨A16, c16, A17, c17, rfl, ho1, ho2⟩, hb⟩
     have hB := below2 hE hb
     replace HL := Lib.hid (HL.out.below hB)
     replace BB := Lib.hid (below2 BB.out hB)
     replace RO0 := Lib.hid (RO0.out.below hB)
     replace RS0 := Lib.hid (RS0.out.below hB)
     replace bs0 := Lib.hid (cB hB bs0.out)
     replace bs1 := Lib.hid (cB hB bs1.out)
     replace RO1 := Lib.hid (RO1.out.below hB)
     replace RS1 := Lib.hid (RS1.out.below hB)
     replace RO5 := Lib.hid (RO5.out.below hB)
     replace RS5 := Lib.hid (RS5.out.below hB)
     replace RO := Lib.hid (RO.out.below hB)
     replace RS := Lib.hid (RS.out.below hB)
     replace bx0 := Lib.hid (cB hB bx0.out)
     replace bx1 := Lib.hid (cB hB bx1.out)
     have RO6 := Lib.hid ho1
     have RS6 := Lib.hid ho2
     clear hE hb hB ho1 ho2
     have bx0o := bx0.out
     have bx1o := bx1.out
     have bxlt : w8.heap.size < w10.heap.size := World.block_lt_of_cell? _ _ bx0o
     go_wp2_with fail
     have hE : Below w10.heap.size w10 (w10.alloc (.cells #[.slice A16 os.length c16, .slice A17 ls.length c17] 26)) := (below_a1 w10 (.cells #[.slice A16 os.length c16, .slice A17 ls.length c17] 26))
     refine (same_any _ _ _ _ _ _ _ _ os ls _ (RO.out.below hE) (RS.out.below hE) (RO6.out.below hE) (RS6.out.below hE)).mono ?_
     rintro e w11 ⟨rfl, hb⟩
     have hB := below2 hE hb
     replace HL := Lib.hid (HL.out.below hB)
     replace BB := Lib.hid (below2 BB.out hB)
     replace RO0 := Lib.hid (RO0.out.below hB)
     replace RS0 := Lib.hid (RS0.out.below hB)
     replace bs0 := Lib.hid (cB hB bs0.out)
     replace bs1 := Lib.hid (cB hB bs1.out)
     replace RO1 := Lib.hid (RO1.out.below hB)
     replace RS1 := Lib.hid (RS1.out.below hB)
     replace RO5 := Lib.hid (RO5.out.below hB)
     replace RS5 := Lib.hid (RS5.out.below hB)
     replace RO := Lib.hid (RO.out.below hB)
     replace RS := Lib.hid (RS.out.below hB)
     replace bx0 := Lib.hid (cB hB bx0.out)
     replace bx1 := Lib.hid (cB hB bx1.out)
     replace RO6 := Lib.hid (RO6.out.below hB)
     replace RS6 := Lib.hid (RS6.out.below hB)
     clear hE hb hB
     clear bx0o bx1o bxlt
     go_wp2_with fail
     have hE : Below w11.heap.size w11 w11 := (Below.refl w11.heap.size w11)
     refine (works_any _ (HL.out.below hE)).mono ?_
     rintro e w12 ⟨rfl, hb⟩
     have hB := below2 hE hb
     replace HL := Lib.hid (HL.out.below hB)
     replace BB := Lib.hid (below2 BB.out hB)
     replace RO0 := Lib.hid (RO0.out.below hB)
     replace RS0 := Lib.hid (RS0.out.below hB)
     replace bs0 := Lib.hid (cB hB bs0.out)
     replace bs1 := Lib.hid (cB hB bs1.out)
     replace RO1 := Lib.hid (RO1.out.below hB)
     replace RS1 := Lib.hid (RS1.out.below hB)
     replace RO5 := Lib.hid (RO5.out.below hB)
     replace RS5 := Lib.hid (RS5.out.below hB)
     replace RO := Lib.hid (RO.out.below hB)
     replace RS := Lib.hid (RS.out.below hB)
     replace bx0 := Lib.hid (cB hB bx0.out)
     replace bx1 := Lib.hid (cB hB bx1.out)
     replace RO6 := Lib.hid (RO6.out.below hB)
     replace RS6 := Lib.hid (RS6.out.below hB)
     clear hE hb hB
     go_wp2
     go_ret
     exact ⟨rfl, BB.out⟩
  ·have _z : True := trivial
   have hckf : (ck == 0) = false := by rw [beq_eq_false_iff_ne]; exact hck
   go_wp2_with fail
   have hE : Below w2.heap.size w2 w2 := (Below.refl w2.heap.size w2)
   refine (LF.out _ (HL.out.below hE)).mono ?_
   rintro e w3 ⟨⟨A5, c5, A6, c6, rfl, ho1, ho2⟩, hb⟩
   have hB := below2 hE hb
   replace HL := Lib.hid (HL.out.below hB)
   replace BB := Lib.hid (below2 BB.out hB)
   replace RO0 := Lib.hid (RO0.out.below hB)
   replace RS0 := Lib.hid (RS0.out.below hB)
   replace bs0 := Lib.hid (cB hB bs0.out)
   replace bs1 := Lib.hid (cB hB bs1.out)
   have RO5 := Lib.hid ho1
   have RS5 := Lib.hid ho2
   clear hE hb hB ho1 ho2
   by_cases he5 : e5 = 0
   ·have _z : True := trivial
    obtain ⟨g1, g2⟩ := LFL.out he5
    subst he5
    have HV5 := Lib.hid (valid_of g1)
    have FI5 := Lib.hid (fun W (hL : LaidW W) (h1 : Rd eO 3 W A5 c5 os5) (h2 : Rd eL 5 W A6 c6 ls5) => fileC g2 A5 c5 A6 c6 W hL h1 h2)
    clear g1 g2
    go_wp2_with fail
    have hE : Below w3.heap.size w3 (w3.alloc (.cells #[.slice A5 os5.length c5, .slice A6 ls5.length c6] 26)) := (below_a1 w3 (.cells #[.slice A5 os5.length c5, .slice A6 ls5.length c6] 26))
    refine (FI5.out _ (HL.out.below hE) (RO5.out.below hE) (RS5.out.below hE)).mono ?_
    rintro e w4 ⟨rfl, hb⟩
    have hB := below2 hE hb
    replace HL := Lib.hid (HL.out.below hB)
    replace BB := Lib.hid (below2 BB.out hB)
    replace RO0 := Lib.hid (RO0.out.below hB)
    replace RS0 := Lib.hid (RS0.out.below hB)
    replace bs0 := Lib.hid (cB hB bs0.out)
    replace bs1 := Lib.hid (cB hB bs1.out)
    replace RO5 := Lib.hid (RO5.out.below hB)
    replace RS5 := Lib.hid (RS5.out.below hB)
    have bf0 := Lib.hid (show w4.cell? ⟨w3.heap.size, 0, none⟩ = some (.slice A5 os5.length c5) from cB hb (by go_simp))
    have bf1 := Lib.hid (show w4.cell? ⟨w3.heap.size, 1, none⟩ = some (.slice A6 ls5.length c6) from cB hb (by go_simp))
    clear hE hb hB
    have bf0o := bf0.out
    have bf1o := bf1.out
    have bflt : w3.heap.size < w4.heap.size := World.block_lt_of_cell? _ _ bf0o
    go_wp2_with fail
    have hE : Below w4.heap.size w4 w4 := (Below.refl w4.heap.size w4)
    refine (check_ok HV5.out _ _ _ _ _ (RO5.out.below hE) (RS5.out.below hE)).mono ?_
    rintro e w5 ⟨rfl, hb⟩
    have hB := below2 hE hb
    replace HL := Lib.hid (HL.out.below hB)
    replace BB := Lib.hid (below2 BB.out hB)
    replace RO0 := Lib.hid (RO0.out.below hB)
    replace RS0 := Lib.hid (RS0.out.below hB)
    replace bs0 := Lib.hid (cB hB bs0.out)
    replace bs1 := Lib.hid (cB hB bs1.out)
    replace RO5 := Lib.hid (RO5.out.below hB)
    replace RS5 := Lib.hid (RS5.out.below hB)
    replace bf0 := Lib.hid (cB hB bf0.out)
    replace bf1 := Lib.hid (cB hB bf1.out)
    clear hE hb hB
    clear bf0o bf1o bflt
    rcases fine_cases text with hf | ⟨hf, l, hl⟩
    ·have _z : True := trivial
     rw [hf] at FN
     clear hf
     go_wp2_with fail
     have hE : Below w5.heap.size w5 w5 := (Below.refl w5.heap.size w5)
     refine (FN.out _).mono ?_
     rintro e w6 ⟨rfl, hb⟩
     have hB := below2 hE hb
     replace HL := Lib.hid (HL.out.below hB)
     replace BB := Lib.hid (below2 BB.out hB)
     replace RO0 := Lib.hid (RO0.out.below hB)
     replace RS0 := Lib.hid (RS0.out.below hB)
     replace bs0 := Lib.hid (cB hB bs0.out)
     replace bs1 := Lib.hid (cB hB bs1.out)
     replace RO5 := Lib.hid (RO5.out.below hB)
     replace RS5 := Lib.hid (RS5.out.below hB)
     replace bf0 := Lib.hid (cB hB bf0.out)
     replace bf1 := Lib.hid (cB hB bf1.out)
     clear hE hb hB
     go_wp2_with fail
     have hE : Below w6.heap.size w6 w6 := (Below.refl w6.heap.size w6)
     refine (works_any _ (HL.out.below hE)).mono ?_
     rintro e w7 ⟨rfl, hb⟩
     have hB := below2 hE hb
     replace HL := Lib.hid (HL.out.below hB)
     replace BB := Lib.hid (below2 BB.out hB)
     replace RO0 := Lib.hid (RO0.out.below hB)
     replace RS0 := Lib.hid (RS0.out.below hB)
     replace bs0 := Lib.hid (cB hB bs0.out)
     replace bs1 := Lib.hid (cB hB bs1.out)
     replace RO5 := Lib.hid (RO5.out.below hB)
     replace RS5 := Lib.hid (RS5.out.below hB)
     replace bf0 := Lib.hid (cB hB bf0.out)
     replace bf1 := Lib.hid (cB hB bf1.out)
     clear hE hb hB
     go_wp2
     go_ret
     exact ⟨rfl, BB.out⟩
    ·have _z : True := trivial
     rw [hf] at FN
     obtain ⟨os, h1⟩ : ∃ x, (playE l).os = x := ⟨_, rfl⟩
     obtain ⟨ls, h2⟩ : ∃ x, (playE l).ls = x := ⟨_, rfl⟩
     obtain ⟨er, h3⟩ : ∃ x, (playE l).errs = x := ⟨_, rfl⟩
     have hvd : Valid os ls := by rw [← h1, ← h2]; exact valid_play hl
     have RU := Lib.hid (fun W hW => runT (n := l.length) hl h1 h2 h3 (by rw [← h3, playE_errs]) W hW)
     obtain ⟨y1, y2, y3⟩ := file_load (valid_check hvd)
     obtain ⟨fb2, hfb2⟩ : ∃ x, accB (fileL os ls) = x := ⟨_, rfl⟩
     rw [hfb2] at y1 y2 y3
     have LF2 := Lib.hid (fun W hW => loadC y3 (by omega) W hW)
     have Y1 := Lib.hid y1
     clear hl h1 h2 h3 hf y1 y2 y3 hfb2 hvd
     go_wp2_with fail
     have hE : Below w5.heap.size w5 w5 := (Below.refl w5.heap.size w5)
     refine (FN.out _).mono ?_
     rintro e w6 ⟨rfl, hb⟩
     have hB := below2 hE hb
     replace HL := Lib.hid (HL.out.below hB)
     replace BB := Lib.hid (below2 BB.out hB)
     replace RO0 := Lib.hid (RO0.out.below hB)
     replace RS0 := Lib.hid (RS0.out.below hB)
     replace bs0 := Lib.hid (cB hB bs0.out)
     replace bs1 := Lib.hid (cB hB bs1.out)
     replace RO5 := Lib.hid (RO5.out.below hB)
     replace RS5 := Lib.hid (RS5.out.below hB)
     replace bf0 := Lib.hid (cB hB bf0.out)
     replace bf1 := Lib.hid (cB hB bf1.out)
     clear hE hb hB
     go_wp2_with fail
     have hE : Below w6.heap.size w6 w6 := (Below.refl w6.heap.size w6)
     refine (RU.out _ (HL.out.below hE)).mono ?_
     rintro e w7 ⟨⟨A13, c13, A14, c14, A15, c15, rfl, ho1, ho2, ho3⟩, hb⟩
     have hB := below2 hE hb
     replace HL := Lib.hid (HL.out.below hB)
     replace BB := Lib.hid (below2 BB.out hB)
     replace RO0 := Lib.hid (RO0.out.below hB)
     replace RS0 := Lib.hid (RS0.out.below hB)
     replace bs0 := Lib.hid (cB hB bs0.out)
     replace bs1 := Lib.hid (cB hB bs1.out)
     replace RO5 := Lib.hid (RO5.out.below hB)
     replace RS5 := Lib.hid (RS5.out.below hB)
     replace bf0 := Lib.hid (cB hB bf0.out)
     replace bf1 := Lib.hid (cB hB bf1.out)
     have RO := Lib.hid ho1
     have RS := Lib.hid ho2
     clear hE hb hB ho1 ho2
     clear ho3
     have FI2 := Lib.hid (fun W (hL : LaidW W) (h1 : Rd eO 3 W A13 c13 os) (h2 : Rd eL 5 W A14 c14 ls) => fileC Y1.out A13 c13 A14 c14 W hL h1 h2)
     go_wp2_with fail
     have hE : Below w7.heap.size w7 (w7.alloc (.cells #[.slice A13 os.length c13, .slice A14 ls.length c14] 26)) := (below_a1 w7 (.cells #[.slice A13 os.length c13, .slice A14 ls.length c14] 26))
     refine (FI2.out _ (HL.out.below hE) (RO.out.below hE) (RS.out.below hE)).mono ?_
     rintro e w8 ⟨rfl, hb⟩
     have hB := below2 hE hb
     replace HL := Lib.hid (HL.out.below hB)
     replace BB := Lib.hid (below2 BB.out hB)
     replace RO0 := Lib.hid (RO0.out.below hB)
     replace RS0 := Lib.hid (RS0.out.below hB)
     replace bs0 := Lib.hid (cB hB bs0.out)
     replace bs1 := Lib.hid (cB hB bs1.out)
     replace RO5 := Lib.hid (RO5.out.below hB)
     replace RS5 := Lib.hid (RS5.out.below hB)
     replace bf0 := Lib.hid (cB hB bf0.out)
     replace bf1 := Lib.hid (cB hB bf1.out)
     replace RO := Lib.hid (RO.out.below hB)
     replace RS := Lib.hid (RS.out.below hB)
     have bx0 := Lib.hid (show w8.cell? ⟨w7.heap.size, 0, none⟩ = some (.slice A13 os.length c13) from cB hb (by go_simp))
     have bx1 := Lib.hid (show w8.cell? ⟨w7.heap.size, 1, none⟩ = some (.slice A14 ls.length c14) from cB hb (by go_simp))
     clear hE hb hB
     go_wp2_with fail
     have hE : Below w8.heap.size w8 w8 := (Below.refl w8.heap.size w8)
     refine (LF2.out _ (HL.out.below hE)).mono ?_
     rintro e w9 ⟨⟨A16, c16, A17, c17, rfl, ho1, ho2⟩, hb⟩
     have hB := below2 hE hb
     replace HL := Lib.hid (HL.out.below hB)
     replace BB := Lib.hid (below2 BB.out hB)
     replace RO0 := Lib.hid (RO0.out.below hB)
     replace RS0 := Lib.hid (RS0.out.below hB)
     replace bs0 := Lib.hid (cB hB bs0.out)
     replace bs1 := Lib.hid (cB hB bs1.out)
     replace RO5 := Lib.hid (RO5.out.below hB)
     replace RS5 := Lib.hid (RS5.out.below hB)
     replace bf0 := Lib.hid (cB hB bf0.out)
     replace bf1 := Lib.hid (cB hB bf1.out)
     replace RO := Lib.hid (RO.out.below hB)
     replace RS := Lib.hid (RS.out.below hB)
     replace bx0 := Lib.hid (cB hB bx0.out)
     replace bx1 := Lib.hid (cB hB bx1.out)
     have RO6 := Lib.hid ho1
     have RS6 := Lib.hid ho2
     clear hE hb hB ho1 ho2
     have bx0o := bx0.out
     have bx1o := bx1.out
     have bxlt : w7.heap.size < w9.heap.size := World.block_lt_of_cell? _ _ bx0o
     go_wp2_with fail
     have hE : Below w9.heap.size w9 (w9.alloc (.cells #[.slice A16 os.length c16, .slice A17 ls.length c17] 26)) := (below_a1 w9 (.cells #[.slice A16 os.length c16, .slice A17 ls.length c17] 26))
     refine (same_any _ _ _ _ _ _ _ _ os ls _ (RO.out.below hE) (RS.out.below hE) (RO6.out.below hE) (RS6.out.below hE)).mono ?_
     rintro e w10 ⟨rfl, hb⟩
     have hB := below2 hE hb
     replace HL := Lib.hid (HL.out.below hB)
     replace BB := Lib.hid (below2 BB.out hB)
     replace RO0 := Lib.hid (RO0.out.below hB)
     replace RS0 := Lib.hid (RS0.out.below hB)
     replace bs0 := Lib.hid (cB hB bs0.out)
     replace bs1 := Lib.hid (cB hB bs1.out)
     replace RO5 := Lib.hid (RO5.out.below hB)
     replace RS5 := Lib.hid (RS5.out.below hB)
     replace bf0 := Lib.hid (cB hB bf0.out)
     replace bf1 := Lib.hid (cB hB bf1.out)
     replace RO := Lib.hid (RO.out.below hB)
     replace RS := Lib.hid (RS.out.below hB)
     replace bx0 := Lib.hid (cB hB bx0.out)
     replace bx1 := Lib.hid (cB hB bx1.out)
     replace RO6 := Lib.hid (RO6.out.below hB)
     replace RS6 := Lib.hid (RS6.out.below hB)
     clear hE hb hB
     clear bx0o bx1o bxlt
     go_wp2_with fail
     have hE : Below w10.heap.size w10 w10 := (Below.refl w10.heap.size w10)
     refine (works_any _ (HL.out.below hE)).mono ?_
     rintro e w11 ⟨rfl, hb⟩
     have hB := below2 hE hb
     replace HL := Lib.hid (HL.out.below hB)
     replace BB := Lib.hid (below2 BB.out hB)
     replace RO0 := Lib.hid (RO0.out.below hB)
     replace RS0 := Lib.hid (RS0.out.below hB)
     replace bs0 := Lib.hid (cB hB bs0.out)
     replace bs1 := Lib.hid (cB hB bs1.out)
     replace RO5 := Lib.hid (RO5.out.below hB)
     replace RS5 := Lib.hid (RS5.out.below hB)
     replace bf0 := Lib.hid (cB hB bf0.out)
     replace bf1 := Lib.hid (cB hB bf1.out)
     replace RO := Lib.hid (RO.out.below hB)
     replace RS := Lib.hid (RS.out.below hB)
     replace bx0 := Lib.hid (cB hB bx0.out)
     replace bx1 := Lib.hid (cB hB bx1.out)
     replace RO6 := Lib.hid (RO6.out.below hB)
     replace RS6 := Lib.hid (RS6.out.below hB)
     clear hE hb hB
     go_wp2
     go_ret
     exact ⟨rfl, BB.out⟩
   ·have _z : True := trivial
    have he5f : (e5 == 0) = false := by rw [beq_eq_false_iff_ne]; exact he5
    rcases fine_cases text with hf | ⟨hf, l, hl⟩
    ·have _z : True := trivial
     rw [hf] at FN
     clear hf
     go_wp2_with fail
     have hE : Below w3.heap.size w3 (w3.alloc (.cells #[.slice A5 os5.length c5, .slice A6 ls5.length c6] 26)) := (below_a1 w3 (.cells #[.slice A5 os5.length c5, .slice A6 ls5.length c6] 26))
     refine (FN.out _).mono ?_
     rintro e w4 ⟨rfl, hb⟩
     have hB := below2 hE hb
     replace HL := Lib.hid (HL.out.below hB)
     replace BB := Lib.hid (below2 BB.out hB)
     replace RO0 := Lib.hid (RO0.out.below hB)
     replace RS0 := Lib.hid (RS0.out.below hB)
     replace bs0 := Lib.hid (cB hB bs0.out)
     replace bs1 := Lib.hid (cB hB bs1.out)
     replace RO5 := Lib.hid (RO5.out.below hB)
     replace RS5 := Lib.hid (RS5.out.below hB)
     clear hE hb hB
     go_wp2_with fail
     have hE : Below w4.heap.size w4 w4 := (Below.refl w4.heap.size w4)
     refine (works_any _ (HL.out.below hE)).mono ?_
     rintro e w5 ⟨rfl, hb⟩
     have hB := below2 hE hb
     replace HL := Lib.hid (HL.out.below hB)
     replace BB := Lib.hid (below2 BB.out hB)
     replace RO0 := Lib.hid (RO0.out.below hB)
     replace RS0 := Lib.hid (RS0.out.below hB)
     replace bs0 := Lib.hid (cB hB bs0.out)
     replace bs1 := Lib.hid (cB hB bs1.out)
     replace RO5 := Lib.hid (RO5.out.below hB)
     replace RS5 := Lib.hid (RS5.out.below hB)
     clear hE hb hB
     go_wp2
     go_ret
     exact ⟨rfl, BB.out⟩
    ·have _z : True := trivial
     rw [hf] at FN
     obtain ⟨os, h1⟩ : ∃ x, (playE l).os = x := ⟨_, rfl⟩
     obtain ⟨ls, h2⟩ : ∃ x, (playE l).ls = x := ⟨_, rfl⟩
     obtain ⟨er, h3⟩ : ∃ x, (playE l).errs = x := ⟨_, rfl⟩
     have hvd : Valid os ls := by rw [← h1, ← h2]; exact valid_play hl
     have RU := Lib.hid (fun W hW => runT (n := l.length) hl h1 h2 h3 (by rw [← h3, playE_errs]) W hW)
     obtain ⟨y1, y2, y3⟩ := file_load (valid_check hvd)
     obtain ⟨fb2, hfb2⟩ : ∃ x, accB (fileL os ls) = x := ⟨_, rfl⟩
     rw [hfb2] at y1 y2 y3
     have LF2 := Lib.hid (fun W hW => loadC y3 (by omega) W hW)
     have Y1 := Lib.hid y1
     clear hl h1 h2 h3 hf y1 y2 y3 hfb2 hvd
     go_wp2_with fail
     have hE : Below w3.heap.size w3 (w3.alloc (.cells #[.slice A5 os5.length c5, .slice A6 ls5.length c6] 26)) := (below_a1 w3 (.cells #[.slice A5 os5.length c5, .slice A6 ls5.length c6] 26))
     refine (FN.out _).mono ?_
     rintro e w4 ⟨rfl, hb⟩
     have hB := below2 hE hb
     replace HL := Lib.hid (HL.out.below hB)
     replace BB := Lib.hid (below2 BB.out hB)
     replace RO0 := Lib.hid (RO0.out.below hB)
     replace RS0 := Lib.hid (RS0.out.below hB)
     replace bs0 := Lib.hid (cB hB bs0.out)
     replace bs1 := Lib.hid (cB hB bs1.out)
     replace RO5 := Lib.hid (RO5.out.below hB)
     replace RS5 := Lib.hid (RS5.out.below hB)
     clear hE hb hB
     go_wp2_with fail
     have hE : Below w4.heap.size w4 w4 := (Below.refl w4.heap.size w4)
     refine (RU.out _ (HL.out.below hE)).mono ?_
     rintro e w5 ⟨⟨A13, c13, A14, c14, A15, c15, rfl, ho1, ho2, ho3⟩, hb⟩
     have hB := below2 hE hb
     replace HL := Lib.hid (HL.out.below hB)
     replace BB := Lib.hid (below2 BB.out hB)
     replace RO0 := Lib.hid (RO0.out.below hB)
     replace RS0 := Lib.hid (RS0.out.below hB)
     replace bs0 := Lib.hid (cB hB bs0.out)
     replace bs1 := Lib.hid (cB hB bs1.out)
     replace RO5 := Lib.hid (RO5.out.below hB)
     replace RS5 := Lib.hid (RS5.out.below hB)
     have RO := Lib.hid ho1
     have RS := Lib.hid ho2
     clear hE hb hB ho1 ho2
     clear ho3
     have FI2 := Lib.hid (fun W (hL : LaidW W) (h1 : Rd eO 3 W A13 c13 os) (h2 : Rd eL 5 W A14 c14 ls) => fileC Y1.out A13 c13 A14 c14 W hL h1 h2)
     go_wp2_with fail
     have hE : Below w5.heap.size w5 (w5.alloc (.cells #[.slice A13 os.length c13, .slice A14 ls.length c14] 26)) := (below_a1 w5 (.cells #[.slice A13 os.length c13, .slice A14 ls.length c14] 26))
     refine (FI2.out _ (HL.out.below hE) (RO.out.below hE) (RS.out.below hE)).mono ?_
     rintro e w6 ⟨rfl, hb⟩
     have hB := below2 hE hb
     replace HL := Lib.hid (HL.out.below hB)
     replace BB := Lib.hid (below2 BB.out hB)
     replace RO0 := Lib.hid (RO0.out.below hB)
     replace RS0 := Lib.hid (RS0.out.below hB)
     replace bs0 := Lib.hid (cB hB bs0.out)
     replace bs1 := Lib.hid (cB hB bs1.out)
     replace RO5 := Lib.hid (RO5.out.below hB)
     replace RS5 := Lib.hid (RS5.out.below hB)
     replace RO := Lib.hid (RO.out.below hB)
     replace RS := Lib.hid (RS.out.below hB)
     have bx0 := Lib.hid (show w6.cell? ⟨w5.heap.size, 0, none⟩ = some (.slice A13 os.length c13) from cB hb (by go_simp))
     have bx1 := Lib.hid (show w6.cell? ⟨w5.heap.size, 1, none⟩ = some (.slice A14 ls.length c14) from cB hb (by go_simp))
     clear hE hb hB
     go_wp2_with fail
     have hE : Below w6.heap.size w6 w6 := (Below.refl w6.heap.size w6)
     refine (LF2.out _ (HL.out.below hE)).mono ?_
     rintro e w7 ⟨⟨A16, c16, A17, c17, rfl, ho1, ho2⟩, hb⟩
     have hB := below2 hE hb
     replace HL := Lib.hid (HL.out.below hB)
     replace BB := Lib.hid (below2 BB.out hB)
     replace RO0 := Lib.hid (RO0.out.below hB)
     replace RS0 := Lib.hid (RS0.out.below hB)
     replace bs0 := Lib.hid (cB hB bs0.out)
     replace bs1 := Lib.hid (cB hB bs1.out)
     replace RO5 := Lib.hid (RO5.out.below hB)
     replace RS5 := Lib.hid (RS5.out.below hB)
     replace RO := Lib.hid (RO.out.below hB)
     replace RS := Lib.hid (RS.out.below hB)
     replace bx0 := Lib.hid (cB hB bx0.out)
     replace bx1 := Lib.hid (cB hB bx1.out)
     have RO6 := Lib.hid ho1
     have RS6 := Lib.hid ho2
     clear hE hb hB ho1 ho2
     have bx0o := bx0.out
     have bx1o := bx1.out
     have bxlt : w5.heap.size < w7.heap.size := World.block_lt_of_cell? _ _ bx0o
     go_wp2_with fail
     have hE : Below w7.heap.size w7 (w7.alloc (.cells #[.slice A16 os.length c16, .slice A17 ls.length c17] 26)) := (below_a1 w7 (.cells #[.slice A16 os.length c16, .slice A17 ls.length c17] 26))
     refine (same_any _ _ _ _ _ _ _ _ os ls _ (RO.out.below hE) (RS.out.below hE) (RO6.out.below hE) (RS6.out.below hE)).mono ?_
     rintro e w8 ⟨rfl, hb⟩
     have hB := below2 hE hb
     replace HL := Lib.hid (HL.out.below hB)
     replace BB := Lib.hid (below2 BB.out hB)
     replace RO0 := Lib.hid (RO0.out.below hB)
     replace RS0 := Lib.hid (RS0.out.below hB)
     replace bs0 := Lib.hid (cB hB bs0.out)
     replace bs1 := Lib.hid (cB hB bs1.out)
     replace RO5 := Lib.hid (RO5.out.below hB)
     replace RS5 := Lib.hid (RS5.out.below hB)
     replace RO := Lib.hid (RO.out.below hB)
     replace RS := Lib.hid (RS.out.below hB)
     replace bx0 := Lib.hid (cB hB bx0.out)
     replace bx1 := Lib.hid (cB hB bx1.out)
     replace RO6 := Lib.hid (RO6.out.below hB)
     replace RS6 := Lib.hid (RS6.out.below hB)
     clear hE hb hB
     clear bx0o bx1o bxlt
     go_wp2_with fail
     have hE : Below w8.heap.size w8 w8 := (Below.refl w8.heap.size w8)
     refine (works_any _ (HL.out.below hE)).mono ?_
     rintro e w9 ⟨rfl, hb⟩
     have hB := below2 hE hb
     replace HL := Lib.hid (HL.out.below hB)
     replace BB := Lib.hid (below2 BB.out hB)
     replace RO0 := Lib.hid (RO0.out.below hB)
     replace RS0 := Lib.hid (RS0.out.below hB)
     replace bs0 := Lib.hid (cB hB bs0.out)
     replace bs1 := Lib.hid (cB hB bs1.out)
     replace RO5 := Lib.hid (RO5.out.below hB)
     replace RS5 := Lib.hid (RS5.out.below hB)
     replace RO := Lib.hid (RO.out.below hB)
     replace RS := Lib.hid (RS.out.below hB)
     replace bx0 := Lib.hid (cB hB bx0.out)
     replace bx1 := Lib.hid (cB hB bx1.out)
     replace RO6 := Lib.hid (RO6.out.below hB)
     replace RS6 := Lib.hid (RS6.out.below hB)
     clear hE hb hB
     go_wp2
     go_ret
     exact ⟨rfl, BB.out⟩
end Go.Proofs.YtcnpbcgkhhebaaaGreatDoor
/- Closed facts of SeasonFiled's row. -/
namespace Go.Proofs.YtcnpbcgkhhebaaaGreatDoor
open Go.ChangeShapes Go.WideShapes Go.ChangeAt Go.RowKit
set_option maxRecDepth 100000
theorem seasonFiled_j0 : (Rows.seasonFiledRow.wf (OpenSpec.ofChange Rows.seasonFiledSpec)) = true := by kernel_rfl
theorem seasonFiled_j3 : (Tryz.f12.params.all (Tryz.prog.readableRec ·)) = true := by kernel_rfl
theorem seasonFiled_j4 : (namedTie Tryz.prog Rows.seasonFiledRow.named Rows.seasonFiledSpec.vars) = true := by kernel_rfl
theorem seasonFiled_j5 : ((Rows.seasonFiledRow.stops == [])) = true := by kernel_rfl
theorem seasonFiled_j7 : ((Rows.seasonFiledRow.knobs == [])) = true := by kernel_rfl
theorem seasonFiled_j9 : ((Rows.seasonFiledRow.inPlace == Tryz.prog.inPlace 12)) = true := by kernel_rfl
theorem seasonFiled_j10 : ((Rows.seasonFiledRow.unfollowed == Tryz.prog.unfollowed 12)) = true := by kernel_rfl
theorem seasonFiled_j11 : ((Rows.seasonFiledRow.recurses == Tryz.prog.recurses 12)) = true := by kernel_rfl
theorem seasonFiled_j12 : ((Rows.seasonFiledRow.named == Tryz.prog.varsNamed 12)) = true := by kernel_rfl
theorem seasonFiled_j13 : ((Rows.seasonFiledRow.maps == (Tryz.f12.params.toList ++ Rows.seasonFiledSpec.plain.varTypes Tryz.prog).any (Tryz.prog.mapsRec ·))) = true := by kernel_rfl
theorem seasonFiled_j14 : ((Rows.seasonFiledRow.ifaces == (Tryz.f12.params.toList ++ Rows.seasonFiledSpec.plain.varTypes Tryz.prog).any (Tryz.prog.ifacesRec ·))) = true := by kernel_rfl
theorem seasonFiled_j15 : ((Rows.seasonFiledRow.mapsOut == Tryz.prog.mapsAmong Tryz.f12.resultTypes.toList)) = true := by kernel_rfl
theorem seasonFiled_j16 : ((Rows.seasonFiledRow.loops == (Tryz.f12.params.toList ++ Rows.seasonFiledSpec.plain.varTypes Tryz.prog).any (Tryz.prog.loopsFrom ·))) = true := by kernel_rfl
theorem seasonFiled_j17 : ((Rows.seasonFiledRow.wideKeys == (Tryz.f12.params.toList ++ Rows.seasonFiledSpec.plain.varTypes Tryz.prog ++ Tryz.f12.resultTypes.toList).any (Tryz.prog.wideKeysFrom ·))) = true := by kernel_rfl
theorem seasonFiled_j18 : (Rows.seasonFiledSpec.vars.all (Tryz.prog.varReadable ·)) = true := by kernel_rfl
theorem seasonFiled_j19 : (Tryz.f12.resultTypes.all (fun t => Tryz.prog.readableRec t && decide (t < Tryz.prog.types.size))) = true := by kernel_rfl
theorem seasonFiled_j20 : ((Rows.seasonFiledRow.ifacesOut == Tryz.f12.resultTypes.toList.any (Tryz.prog.ifacesRec ·))) = true := by kernel_rfl
theorem seasonFiled_j21 : ((Rows.seasonFiledRow.loopsOut == Tryz.f12.resultTypes.toList.any (Tryz.prog.loopsFrom ·))) = true := by kernel_rfl
theorem seasonFiled_j22 : ((Rows.seasonFiledRow.plainKeys == Tryz.prog.plainKeys)) = true := by kernel_rfl
theorem seasonFiled_j23 : (Rows.seasonFiledRow.shortTexts.isNone) = true := by kernel_rfl
theorem seasonFiled_j26 : ((Rows.seasonFiledRow.lifted == Tryz.prog.liftsFinal)) = true := by kernel_rfl
theorem seasonFiled_j27 : ((Tryz.prog.make == some Rows.seasonFiledRow.make)) = true := by kernel_rfl
theorem seasonFiled_j28 : ((Rows.seasonFiledRow.kinds == (if Rows.seasonFiledRow.domain.isEmpty then [] else Tryz.f12.params.toList.map fun t => match Tryz.prog.underlying t with | some (.int k) => some k | _ => none))) = true := by kernel_rfl
theorem seasonFiled_j29 : ((Rows.seasonFiledRow.pinned == Rows.seasonFiledRow.pinnedBy)) = true := by kernel_rfl
theorem seasonFiled_j30 : ((Rows.seasonFiledRow.veiled == (Tryz.f12.params.toList ++ Rows.seasonFiledSpec.plain.varTypes Tryz.prog ++ Tryz.f12.resultTypes.toList).any (Tryz.prog.veiledRec ·))) = true := by kernel_rfl
theorem seasonFiled_j31 : (Rows.seasonFiledRow.veiledFits Tryz.prog Tryz.f12.params.toList (Tryz.f12.params.toList ++ Rows.seasonFiledSpec.plain.varTypes Tryz.prog ++ Tryz.f12.resultTypes.toList)) = true := by kernel_rfl
theorem seasonFiled_joined : joinedFacts Tryz.prog 12 Tryz.f12 Rows.seasonFiledSpec Rows.seasonFiledRow = true := by
 unfold joinedFacts
 exact (and_mk (and_mk (and_mk (and_mk (and_mk (and_mk (and_mk (and_mk (and_mk (and_mk (and_mk (and_mk (and_mk (and_mk (and_mk (and_mk (and_mk (and_mk (and_mk (and_mk (and_mk (and_mk (and_mk (and_mk (and_mk (and_mk (and_mk (and_mk (and_mk (and_mk (and_mk seasonFiled_j0 sh_laidOut) sh_mapsRowed) seasonFiled_j3) seasonFiled_j4) seasonFiled_j5) sh_stops) seasonFiled_j7) sh_knobs) seasonFiled_j9) seasonFiled_j10) seasonFiled_j11) seasonFiled_j12) seasonFiled_j13) seasonFiled_j14) seasonFiled_j15) seasonFiled_j16) seasonFiled_j17) seasonFiled_j18) seasonFiled_j19) seasonFiled_j20) seasonFiled_j21) seasonFiled_j22) seasonFiled_j23) sh_heard) sh_enter) seasonFiled_j26) seasonFiled_j27) seasonFiled_j28) seasonFiled_j29) seasonFiled_j30) seasonFiled_j31)
end Go.Proofs.YtcnpbcgkhhebaaaGreatDoor
namespace Go.Proofs.YtcnpbcgkhhebaaaGreatDoor
open Go.ChangeShapes Go.WideShapes Go.ChangeAt Go.RowKit
set_option maxRecDepth 100000
open Go.Deep Go.Joins
theorem seasonFiled_lifted (os : Os) (started : os.Started) (H : Type) (enc : TypeId × Value → H) :
  ReturnsInHanded {} Tryz.checked os 12 .any (fun w args => (Rows.seasonFiledSpec.pre enc Tryz.prog Tryz.f12 Rows.seasonFiledRow.domain false w args ∧ laidMetH Tryz.prog laidAllL w) ∧ sizedMet enc Tryz.prog Tryz.f12 (OpenSpec.ofChange Rows.seasonFiledSpec) false w args)
   (Rows.seasonFiledSpec.post enc Tryz.prog Tryz.f12 false true false false) := by
 refine handed_both (C := Tryz.checked) (X := fun w _ => laidMetH Tryz.prog laidAllL w) (fun _ _ _ hh h => h.of_heap hh) ownKn started (by kernel_rfl) Tryz.func12
  (ChangeSpec.witness_shaped (enc := enc) (C := Tryz.checked) (os := os) (X := fun w _ => laidMetH Tryz.prog laidAllL w) false (World.laidAll Tryz.prog os laidAllL) #[.agg #[.slice none 0 0, .slice none 0 0], .string ⟨#[]⟩, .string ⟨#[]⟩] 8 (World.laidAll_os _ _ _)
   (World.shaped_of_ZipB (by kernel_rfl) (by kernel_rfl)) (by kernel_rfl) (by kernel_rfl) (by kernel_rfl) (laid_met os _)) ?_
 intro W base args ds gs before hval0 hW _ hwt hsh hL _
 have hW' := hW
 obtain ⟨p, q, hA0, hV, rfl, _, _⟩ := hW
 have hA : DataW.TrodAll enc Tryz.prog W 0 (fun _ => true) true Tryz.f12.params.toList args.toList ds p := hA0
 have hLW := laidW_of hsh hL
 rw [Tryz.params12] at hA
 have hval : ∀ (j : Nat) t v, Tryz.f12.params[j]? = some t → args[j]? = some v → Value.okWide Tryz.prog W .any base t v := hval0
 rw [Tryz.params12] at hval
 obtain ⟨v0, v1, v2, d0, d1, d2, p0, p1, p2, rfl, rfl, rfl, h0, h1, h2⟩ := trodAll_three hA
 obtain ⟨rfl, rfl⟩ := trodVars_none hV
 have h0k := h0
 have h1k := h1
 have h2k := h2
 obtain ⟨A0, c0, os0, B0, e0, ls0, rfl, r0, s0, k0, l0⟩ := open_season (hval 0 26 v0 rfl rfl) h0
 obtain ⟨x1, rfl, _, _, k1⟩ := Go.ChangeMaps.open_string Tryz.underlying9 (hval 1 9 v1 rfl rfl) h1
 obtain ⟨x2, rfl, _, _, k2⟩ := Go.ChangeMaps.open_string Tryz.underlying9 (hval 2 9 v2 rfl rfl) h2
 simp only [List.append_nil, List.append_assoc] at hW'
 have hlt : ∀ x ∈ p0 ++ (p1 ++ p2), x.block < W.heap.size := fun x hx => by simpa using hW'.lt x hx
 refine (filed_any A0 c0 os0 B0 e0 ls0 x1 x2 W hLW (by unfold maxLen at k2; omega) (by unfold maxLen at k1; omega) r0 s0 (fun x hx => by have := k0 x hx; unfold maxLen at this; omega) (fun x hx => by have := l0 x hx; unfold maxLen at this; omega)).mono fun e W' ⟨he, hb⟩ => ?_
 subst he
 exact ⟨_, rfl, _, _, _, [], p0 ++ (p1 ++ p2), [], hW', trodAll_mk1 (shut_bool Tryz.underlying4 true), trodAll_mk3 (Below.trod sh_laidOut (by kernel_rfl) (of_decide_eq_true (by kernel_rfl)) h0k hb (fun x hx => hlt x (by simp [hx]))) (Below.trod sh_laidOut (by kernel_rfl) (of_decide_eq_true (by kernel_rfl)) h1k hb (fun x hx => hlt x (by simp [hx]))) (Below.trod sh_laidOut (by kernel_rfl) (of_decide_eq_true (by kernel_rfl)) h2k hb (fun x hx => hlt x (by simp [hx]))), rfl, hb.frame _, fun h => by cases h⟩
theorem seasonFiled_named : Tryz.prog.funcNamed "peavey/peaveylaw12.SeasonFiled" = some 12 := by kernel_rfl
theorem seasonFiled_goes : false = Rows.seasonFiledRow.goesBy Tryz.prog := by kernel_rfl
theorem seasonFiled_wf : Rows.seasonFiledRow.wfByText (OpenSpec.ofChange Rows.seasonFiledSpec) = true := by kernel_rfl
theorem seasonFiled_row : Rows.SeasonFiledSaid :=
 OpenClaim.holds_of_wide 12 Tryz.f12 rfl rfl rfl rfl rfl rfl rfl ⟨rfl, rfl, rfl, rfl, rfl⟩ rfl rfl rfl rfl rfl seasonFiled_named Tryz.func12 seasonFiled_joined
  (of_decide_eq_true (by kernel_rfl)) (by unfold Func.isWrapper; rw [if_neg (of_decide_eq_false (by kernel_rfl))]; exact ⟨rfl, rfl⟩)
  (fun os started H enc _ => seasonFiled_lifted os started H enc)
theorem seasonFiled_card : Rows.SeasonFiledCardSaid :=
 Claim7.holds_tied_plain_at .later [] [.data, .data, .data, .data, .sentinel, .sentinel, .pinned] true (true, "bb3957611fb07b8f30c253038086df1c9e34512f5bd6bdaf1e554329739cb219") true seasonFiled_row (fun _ h => by cases h) seasonFiled_wf (fun _ h => by cases h) seasonFiled_row_tie rfl ⟨rfl, rfl⟩ sh_main rfl
  (fun f fn hf hfn => by
   obtain rfl : f = 12 := Option.some.inj (seasonFiled_named.symm.trans hf) |>.symm
   obtain rfl : fn = Tryz.f12 := (Option.some.inj (Tryz.func12.symm.trans hfn)).symm
   exact ⟨sh_looks, fun j t ht => by
    rw [Tryz.params12] at ht
    have hm : t ∈ [26, 9, 9] := by simpa using Array.mem_of_getElem? ht
    have hall : ([26, 9, 9].all fun u => !Tryz.prog.wantsStandIn u) = true := by kernel_rfl
    exact (show Tryz.prog.wantsStandIn t = false by simpa using List.all_eq_true.1 hall t hm)⟩)
  seasonFiled_goes
#print axioms seasonFiled_card
end Go.Proofs.YtcnpbcgkhhebaaaGreatDoor
