/- The document: a number's digits; a dash. -/
import Derived.Test.YtcnpbcgkhhebaaaGreatDoorMi4
namespace Go.Proofs.YtcnpbcgkhhebaaaGreatDoor
open Go.RowKit

theorem decV_snoc : ∀ (a : List UInt8) (c : UInt8) (n : Nat), decV n (a ++ [c]) = decV n a * 10 + (c.toNat - 48)
 | [], _c, _n => rfl
 | x :: a, c, n => decV_snoc a c (n * 10 + (x.toNat - 48))
theorem numOk_no {s : ByteArray} (h : numOk s = false) : numV s = 0 := by unfold numV; rw [h]; rfl
theorem wrap64 {x : Int} (h : -9223372036854775808 ≤ x ∧ x ≤ 9223372036854775807) : IntKind.i64.wrap x = x := IntWalk.i64_in _ h
set_option maxRecDepth 100000 in
set_option maxHeartbeats 2000000 in
theorem number2_any (s : ByteArray) (w : World) (hs : s.size ≤ 9223372036854775807) :
  Calls Tryz.prog 157 #[.string s] w fun e w' => e = .returned (.tuple #[.int .i64 (numV s), .bool (numOk s)]) ∧ w' = w := by
 by_cases h0 : s.size = 0
 ·have hno : numOk s = false := by
   have : s.data.toList = [] := List.eq_nil_of_length_eq_zero (by simpa using h0)
   unfold numOk
   rw [ByteArray.toList_eq, this]
   simp
  have HV := Lib.hid (numOk_no hno)
  have HN := Lib.hid hno
  have hd : ((s.size : Int) == 0) = true := by simp [h0]
  have hd' : (s.size == 0) = true := by simp [h0]
  clear hno
  go_enter Tryz.func157, Tryz.ntmps157
  go_wp2
  go_ret2
  rw [HV.out, HN.out]
  exact ⟨rfl, rfl⟩
 have hz0 : ((s.size : Int) == 0) = false := by simp [h0]
 have hz0' : (s.size == 0) = false := by simp [h0]
 by_cases h1 : 18 < s.size
 ·have hd1 : decide (18 < s.size) = true := decide_eq_true h1
  have hd1i : decide (18 < (s.size : Int)) = true := decide_eq_true (by omega)
  have hno : numOk s = false := by unfold numOk; rw [hd1]; rfl
  have HV := Lib.hid (numOk_no hno)
  have HN := Lib.hid hno
  clear hno h0
  go_enter Tryz.func157, Tryz.ntmps157
  go_wp2
  go_ret2
  rw [HV.out, HN.out]
  exact ⟨rfl, rfl⟩
 have hd1 : decide (18 < s.size) = false := decide_eq_false h1
 have hd1i : decide (18 < (s.size : Int)) = false := decide_eq_false (by omega)
 have hs0 : 0 < s.size := by omega
 have hs0i : (0 : Int) < (s.size : Int) := by omega
 have hat : s.data.toList[0]? = some s[0] := by
  rw [List.getElem?_eq_getElem (by simpa using hs0)]
  rfl
 have hem : s.toList.isEmpty = false := by
  rw [ByteArray.toList_eq, List.isEmpty_eq_false_iff]
  intro e
  rw [e] at hat
  cases hat
 obtain ⟨z, hz⟩ : ∃ z : Bool, (decide (s.data.toList[0]? = some 48) && decide (1 < s.size)) = z := ⟨_, rfl⟩
 have hok : numOk s = (s.data.toList.all isDig && !z) := by
  unfold numOk
  rw [hd1, hem, hz]
  simp
 have HOK := Lib.hid hok
 have h48 : (((s[0].toNat : Nat) : Int) == 48) = decide (s.data.toList[0]? = some 48) := by
  rw [hat, Bool.eq_iff_iff, beq_iff_eq, decide_eq_true_eq, Option.some.injEq, ← UInt8.toNat_inj]
  have : (48 : UInt8).toNat = 48 := rfl
  omega
 have HAT := Lib.hid hat
 have HEM := Lib.hid hem
 clear hok hat hem
 by_cases hq : (((s[0].toNat : Nat) : Int) == 48) = true
 ·by_cases hs1 : 1 < s.size
  ·have hd2 : decide (1 < s.size) = true := decide_eq_true hs1
   have hd2i : decide (1 < (s.size : Int)) = true := decide_eq_true (by omega)
   have hno : numOk s = false := by
    rw [h48] at hq
    rw [HOK.out, ← hz, hq, hd2]
    simp
   have HV := Lib.hid (numOk_no hno)
   have HN := Lib.hid hno
   clear hno h0 h48 hz
   go_enter Tryz.func157, Tryz.ntmps157
   go_wp2
   go_ret2
   rw [HV.out, HN.out]
   exact ⟨rfl, rfl⟩
  ·have hd2 : decide (1 < s.size) = false := decide_eq_false hs1
   have hd2i : decide (1 < (s.size : Int)) = false := decide_eq_false (by omega)
   have hz2 : z = false := by rw [← hz, hd2]; simp
   have HZ := Lib.hid hz2
   clear hz2 hz h48
   have hno : numOk s = s.data.toList.all isDig := by
    rw [HOK.out, HZ.out]
    simp
   have HNO := Lib.hid hno
   clear hno
   go_enter Tryz.func157, Tryz.ntmps157
   go_wp2
   go_loopg [4, 5] s.size (fun gg s4 s5 wr => ∃ (k v : Nat), k ≤ s.size ∧ s.size - k ≤ gg ∧ s5 = .int .i64 k ∧ s4 = .int .i64 v ∧ v < 10 ^ k ∧ Hid (wr = w) ∧ Hid (decV 0 (s.data.toList.take k) = v) ∧ Hid (s.data.toList.all isDig = (s.data.toList.drop k).all isDig))
   case atStart => exact ⟨0, 0, Nat.zero_le _, by omega, rfl, rfl, by decide, rfl, rfl, (show Hid _ from by rw [List.drop_zero]; rfl)⟩
   case round =>
    obtain ⟨k, v, hk, hg, rfl, rfl, hv, BW, DV, AA⟩ := hrel
    obtain rfl := BW.out
    by_cases hlt : k < s.size
    ·have hli : (k : Int) < (s.size : Int) := by omega
     have hdr := drop_data s k hlt
     have HDR := Lib.hid hdr
     have h17 : 10 ^ k ≤ 10 ^ 17 := Nat.pow_le_pow_right (by omega) (by omega)
     have e17 : (10 : Nat) ^ 17 = 100000000000000000 := by decide
     have hv2 : v < 100000000000000000 := by omega
     clear hdr h17 e17
     by_cases c1 : (s[k].toNat : Int) < 48
     ·have hdc : decide ((s[k].toNat : Int) < 48) = true := decide_eq_true c1
      have hbad : s.data.toList.all isDig = false := by
       rw [AA.out, HDR.out, List.all_cons]
       unfold isDig
       rw [decide_eq_false (show ¬ 48 ≤ s[k].toNat by omega)]
       rfl
      have HB := Lib.hid (HNO.out.trans hbad)
      clear hbad c1 hv hv2
      go_wp2
      go_ret2
      rw [numOk_no HB.out, HB.out]
      exact ⟨rfl, rfl⟩
     have hdc : decide ((s[k].toNat : Int) < 48) = false := decide_eq_false c1
     by_cases c2 : 57 < (s[k].toNat : Int)
     ·have hdc2 : decide (57 < (s[k].toNat : Int)) = true := decide_eq_true c2
      have hbad : s.data.toList.all isDig = false := by
       rw [AA.out, HDR.out, List.all_cons]
       unfold isDig
       rw [decide_eq_false (show ¬ s[k].toNat ≤ 57 by omega)]
       simp
      have HB := Lib.hid (HNO.out.trans hbad)
      clear hbad c1 c2 hv hv2
      go_wp2
      go_ret2
      rw [numOk_no HB.out, HB.out]
      exact ⟨rfl, rfl⟩
     have hdc2 : decide (57 < (s[k].toNat : Int)) = false := decide_eq_false c2
     have hok : s.data.toList.all isDig = (s.data.toList.drop (k + 1)).all isDig := by
      rw [AA.out, HDR.out, List.all_cons]
      have : isDig s[k] = true := by unfold isDig; rw [decide_eq_true (show 48 ≤ s[k].toNat by omega), decide_eq_true (show s[k].toNat ≤ 57 by omega)]; rfl
      rw [this]
      rfl
     have hdv : decV 0 (s.data.toList.take (k + 1)) = v * 10 + (s[k].toNat - 48) := by
      rw [List.take_succ_eq_append_getElem (by simpa using hlt), decV_snoc, DV.out]
      rfl
     have hvn : v * 10 + (s[k].toNat - 48) < 10 ^ (k + 1) := by rw [Nat.pow_succ]; omega
     obtain ⟨d, hd⟩ : ∃ d : Nat, s[k].toNat = d + 48 := ⟨s[k].toNat - 48, by omega⟩
     have hd9 : d ≤ 9 := by omega
     have e1 : ((v * 10 + (s[k].toNat - 48) : Nat) : Int) = 10 * (v : Int) + (d : Int) := by rw [hd]; omega
     have w1 : IntKind.u8.wrap ((s[k].toNat : Int) - 48) = (d : Int) := by
      rw [show (s[k].toNat : Int) - 48 = (d : Int) by omega]
      exact IntWalk.u8_in _ (by omega)
     have w2 : IntKind.i64.wrap (10 * (v : Int)) = 10 * (v : Int) := wrap64 (by omega)
     have w3 : IntKind.i64.wrap (10 * (v : Int) + (d : Int)) = 10 * (v : Int) + (d : Int) := wrap64 (by omega)
     have w4 : IntKind.i64.wrap (d : Int) = (d : Int) := wrap64 (by omega)
     have HE1 := Lib.hid e1
     have HOK2 := Lib.hid hok
     have HDV := Lib.hid hdv
     have HVN := Lib.hid hvn
     clear hok c1 c2 hv hdv hvn hd e1 hd9
     go_wp2
     go_roundg (s.size - (k + 1))
     case measure => omega
     case rel => exact ⟨k + 1, _, by omega, by omega, by go_num, by rw [HE1.out], HVN.out, rfl, HDV, HOK2⟩
    ·have hli : ¬ (k : Int) < (s.size : Int) := by omega
     have hke : s.data.toList.take k = s.data.toList := List.take_of_length_le (by simp; omega)
     have hok : numOk s = true := by rw [HNO.out, AA.out, List.drop_eq_nil_of_le (by simp; omega)]; rfl
     have hnv : numV s = (v : Int) := by unfold numV; rw [hok, ← DV.out, hke]; rfl
     have HO := Lib.hid hok
     have HV := Lib.hid hnv
     clear hke hok hnv hv
     go_wp2
     go_ret2
     rw [HV.out, HO.out]
     exact ⟨rfl, rfl⟩
 ·have hq2 : (((s[0].toNat : Nat) : Int) == 48) = false := by simpa using hq
  have hz2 : z = false := by rw [← hz, ← h48, hq2]; rfl
  have HZ := Lib.hid hz2
  clear hz2 hz h48 hq
  have hno : numOk s = s.data.toList.all isDig := by
   rw [HOK.out, HZ.out]
   simp
  have HNO := Lib.hid hno
  clear hno
  go_enter Tryz.func157, Tryz.ntmps157
  go_wp2
  go_loopg [4, 5] s.size (fun gg s4 s5 wr => ∃ (k v : Nat), k ≤ s.size ∧ s.size - k ≤ gg ∧ s5 = .int .i64 k ∧ s4 = .int .i64 v ∧ v < 10 ^ k ∧ Hid (wr = w) ∧ Hid (decV 0 (s.data.toList.take k) = v) ∧ Hid (s.data.toList.all isDig = (s.data.toList.drop k).all isDig))
  case atStart => exact ⟨0, 0, Nat.zero_le _, by omega, rfl, rfl, by decide, rfl, rfl, (show Hid _ from by rw [List.drop_zero]; rfl)⟩
  case round =>
   obtain ⟨k, v, hk, hg, rfl, rfl, hv, BW, DV, AA⟩ := hrel
   obtain rfl := BW.out
   by_cases hlt : k < s.size
   ·have hli : (k : Int) < (s.size : Int) := by omega
    have hdr := drop_data s k hlt
    have HDR := Lib.hid hdr
    have h17 : 10 ^ k ≤ 10 ^ 17 := Nat.pow_le_pow_right (by omega) (by omega)
    have e17 : (10 : Nat) ^ 17 = 100000000000000000 := by decide
    have hv2 : v < 100000000000000000 := by omega
    clear hdr h17 e17
    by_cases c1 : (s[k].toNat : Int) < 48
    ·have hdc : decide ((s[k].toNat : Int) < 48) = true := decide_eq_true c1
     have hbad : s.data.toList.all isDig = false := by
      rw [AA.out, HDR.out, List.all_cons]
      unfold isDig
      rw [decide_eq_false (show ¬ 48 ≤ s[k].toNat by omega)]
      rfl
     have HB := Lib.hid (HNO.out.trans hbad)
     clear hbad c1 hv hv2
     go_wp2
     go_ret2
     rw [numOk_no HB.out, HB.out]
     exact ⟨rfl, rfl⟩
    have hdc : decide ((s[k].toNat : Int) < 48) = false := decide_eq_false c1
    by_cases c2 : 57 < (s[k].toNat : Int)
    ·have hdc2 : decide (57 < (s[k].toNat : Int)) = true := decide_eq_true c2
     have hbad : s.data.toList.all isDig = false := by
      rw [AA.out, HDR.out, List.all_cons]
      unfold isDig
      rw [decide_eq_false (show ¬ s[k].toNat ≤ 57 by omega)]
      simp
     have HB := Lib.hid (HNO.out.trans hbad)
     clear hbad c1 c2 hv hv2
     go_wp2
     go_ret2
     rw [numOk_no HB.out, HB.out]
     exact ⟨rfl, rfl⟩
    have hdc2 : decide (57 < (s[k].toNat : Int)) = false := decide_eq_false c2
    have hok : s.data.toList.all isDig = (s.data.toList.drop (k + 1)).all isDig := by
     rw [AA.out, HDR.out, List.all_cons]
     have : isDig s[k] = true := by unfold isDig; rw [decide_eq_true (show 48 ≤ s[k].toNat by omega), decide_eq_true (show s[k].toNat ≤ 57 by omega)]; rfl
     rw [this]
     rfl
    have hdv : decV 0 (s.data.toList.take (k + 1)) = v * 10 + (s[k].toNat - 48) := by
     rw [List.take_succ_eq_append_getElem (by simpa using hlt), decV_snoc, DV.out]
     rfl
    have hvn : v * 10 + (s[k].toNat - 48) < 10 ^ (k + 1) := by rw [Nat.pow_succ]; omega
    obtain ⟨d, hd⟩ : ∃ d : Nat, s[k].toNat = d + 48 := ⟨s[k].toNat - 48, by omega⟩
    have hd9 : d ≤ 9 := by omega
    have e1 : ((v * 10 + (s[k].toNat - 48) : Nat) : Int) = 10 * (v : Int) + (d : Int) := by rw [hd]; omega
    have w1 : IntKind.u8.wrap ((s[k].toNat : Int) - 48) = (d : Int) := by
     rw [show (s[k].toNat : Int) - 48 = (d : Int) by omega]
     exact IntWalk.u8_in _ (by omega)
    have w2 : IntKind.i64.wrap (10 * (v : Int)) = 10 * (v : Int) := wrap64 (by omega)
    have w3 : IntKind.i64.wrap (10 * (v : Int) + (d : Int)) = 10 * (v : Int) + (d : Int) := wrap64 (by omega)
    have w4 : IntKind.i64.wrap (d : Int) = (d : Int) := wrap64 (by omega)
    have HE1 := Lib.hid e1
    have HOK2 := Lib.hid hok
    have HDV := Lib.hid hdv
    have HVN := Lib.hid hvn
    clear hok c1 c2 hv hdv hvn hd e1 hd9
    go_wp2
    go_roundg (s.size - (k + 1))
    case measure => omega
    case rel => exact ⟨k + 1, _, by omega, by omega, by go_num, by rw [HE1.out], HVN.out, rfl, HDV, HOK2⟩
   ·have hli : ¬ (k : Int) < (s.size : Int) := by omega
    have hke : s.data.toList.take k = s.data.toList := List.take_of_length_le (by simp; omega)
    have hok : numOk s = true := by rw [HNO.out, AA.out, List.drop_eq_nil_of_le (by simp; omega)]; rfl
    have hnv : numV s = (v : Int) := by unfold numV; rw [hok, ← DV.out, hke]; rfl
    have HO := Lib.hid hok
    have HV := Lib.hid hnv
    clear hke hok hnv hv
    go_wp2
    go_ret2
    rw [HV.out, HO.out]
    exact ⟨rfl, rfl⟩

def dash2B (s : ByteArray) : ByteArray := if s.size = 0 then ⟨#[45]⟩ else s
set_option maxHeartbeats 1000000 in
theorem dash_any (s : ByteArray) (w : World) : Calls Tryz.prog 68 #[.string s] w fun e w' => e = .returned (.string (dash2B s)) ∧ w' = w := by
 unfold dash2B
 cases he : s.toList.isEmpty with
 | true =>
  have h0 : s.size = 0 := by
   rw [ByteArray.toList_eq, List.isEmpty_iff] at he
   have := congrArg List.length he
   simpa using this
  have H0 := Lib.hid h0
  clear h0
  go_enter Tryz.func68, Tryz.ntmps68
  go_wp2
  go_ret
  exact ⟨rfl, rfl⟩
 | false =>
  have h0 : ¬ s.size = 0 := fun h => by
   have : s.data.toList = [] := List.eq_nil_of_length_eq_zero (by simpa using h)
   rw [ByteArray.toList_eq, this] at he
   cases he
  have H0 := Lib.hid h0
  clear h0
  go_enter Tryz.func68, Tryz.ntmps68
  go_wp2
  go_ret
  exact ⟨rfl, rfl⟩
end Go.Proofs.YtcnpbcgkhhebaaaGreatDoor
/- The document: the parts of a string. -/
namespace Go.Proofs.YtcnpbcgkhhebaaaGreatDoor
open Go.RowKit

theorem parts_hit_snoc (c : UInt8) : ∀ l : List UInt8, parts c (l ++ [c]) = parts c l ++ [[]]
 | [] => by rw [List.nil_append, parts.eq_2, if_pos rfl]; rfl
 | x :: l => by
  rw [List.cons_append, parts.eq_2, parts.eq_2, parts_hit_snoc c l]
  split
  ·rfl
  ·cases hq : parts c l with
   | nil => exact absurd hq (parts_ne c l)
   | cons h t => rfl
theorem parts_miss_snoc {c x : UInt8} (hx : x ≠ c) : ∀ l : List UInt8, ∃ a p, parts c l = a ++ [p] ∧ parts c (l ++ [x]) = a ++ [p ++ [x]]
 | [] => ⟨[], [], rfl, by rw [List.nil_append, parts.eq_2, if_neg hx]; rfl⟩
 | y :: l => by
  obtain ⟨a, p, h1, h2⟩ := parts_miss_snoc hx l
  rw [List.cons_append, parts.eq_2, parts.eq_2, h1, h2]
  split
  ·exact ⟨[] :: a, p, rfl, rfl⟩
  ·cases a with
   | nil => exact ⟨[], y :: p, rfl, rfl⟩
   | cons h t => exact ⟨(y :: h) :: t, p, rfl, rfl⟩
theorem one_S3 {w : World} {b : Nat} {s : ByteArray} (h : w.cell? ⟨b, 0, none⟩ = some (.string s)) : ∀ j u, (eS s)[j]? = some u → w.cell? ⟨b, j, none⟩ = some u := by
 intro j u hj
 cases j with
 | zero => simp [eS] at hj; subst hj; exact h
 | succ j => simp [eS] at hj
theorem extract_one (s : ByteArray) (k : Nat) (hk : k < s.size) : (s.extract k (k + 1)).data.toList = [s[k]] := by
 rw [extract_list, Nat.add_sub_cancel_left, drop_data s k hk]
 rfl
def prtB (c : UInt8) (s : ByteArray) : List ByteArray := (parts c s.data.toList).map mkB
theorem parts_cnt (c : UInt8) (l : List UInt8) : (parts c l).length ≤ l.length + 1 := by
 have h := parts_sum c l
 have key : ∀ xs : List (List UInt8), xs.length ≤ (xs.map (fun p => p.length + 1)).sum := by
  intro xs
  induction xs with
  | nil => simp
  | cons a xs ih => rw [List.length_cons, List.map_cons, List.sum_cons]; omega
 have := key (parts c l)
 omega

set_option maxRecDepth 100000 in
set_option maxHeartbeats 4000000 in
theorem parts2_any (s : ByteArray) (c : UInt8) (w : World) (hs : s.size ≤ 1000000) :
  Calls Tryz.prog 51 #[.string s, .int .u8 (c.toNat : Int)] w fun e w' => OwnR eS 9 1 w.heap.size w' e (prtB c s) ∧ Below w.heap.size w w' := by
 go_enter Tryz.func51, Tryz.ntmps51
 go_wp2
 have ow0 := Lib.hid (Own.lit encS w 9 [(⟨#[]⟩ : ByteArray)] #[.string ⟨#[]⟩] rfl (by decide))
 go_loopg [5, 6] s.size (fun gg s5 s6 wr => ∃ k : Nat, k ≤ s.size ∧ s.size - k ≤ gg ∧ s6 = .int .i64 k ∧ Hid (Below w.heap.size w wr) ∧ Hid (Own eS 9 1 w.heap.size wr s5 ((parts c (s.data.toList.take k)).map mkB)))
 case atStart => exact ⟨0, Nat.zero_le _, by omega, rfl, below_a1 _ _, (show Hid _ from ow0)⟩
 case round =>
  obtain ⟨k, hk, hg, rfl, BW, OW⟩ := hrel
  have hpc := parts_cnt c (s.data.toList.take k)
  rw [List.length_take] at hpc
  by_cases hlt : k < s.size
  ·have hli : (k : Int) < (s.size : Int) := by omega
   have htk : s.data.toList.take (k + 1) = s.data.toList.take k ++ [s[k]] := by
    rw [List.take_succ_eq_append_getElem (by simpa using hlt)]
    rfl
   have HTK := Lib.hid htk
   clear htk
   by_cases hc : s[k] = c
   ·have hd : (((s[k].toNat : Nat) : Int) == ((c.toNat : Nat) : Int)) = true := by simp [hc]
    have hpp : (parts c (s.data.toList.take (k + 1))).map mkB = (parts c (s.data.toList.take k)).map mkB ++ [⟨#[]⟩] := by
     rw [HTK.out, hc, parts_hit_snoc, List.map_append]
     rfl
    have HPP := Lib.hid hpp
    clear hpp hc
    obtain ⟨xs, hxs⟩ : ∃ xs, (parts c (s.data.toList.take k)).map mkB = xs := ⟨_, rfl⟩
    have hxl : xs.length ≤ k + 1 := by rw [← hxs, List.length_map]; omega
    rw [hxs] at OW HPP
    clear hxs hpc
    go_wp2_with (at_builtin; apply stop_)
    unfold Hid
    refine wpList_push e9 encS rfl _ _ rfl rfl (OW.out.below (below_a1 wr (.cells #[.string ⟨#[]⟩] 9))) wr.heap.size 1 ⟨#[]⟩ rfl (one_S3 (by go_simp)) (by omega) (by omega) (by have := BW.out.size; simp only [World.size_alloc] at this ⊢; omega) ?_
    intro v' w' hown' hgr hlk
    have HOWN := Lib.hid hown'
    have BW2 := Lib.hid ((belowA BW.out (.cells #[.string ⟨#[]⟩] 9)).grown hgr (by have := BW.out.size; simp only [World.size_alloc] at this ⊢; omega) (fun q hq => (OW.out.lt_ _ hq).1))
    clear hown' hgr hlk
    go_wp2
    go_roundg (s.size - (k + 1))
    case measure => omega
    case rel => exact ⟨k + 1, by omega, by omega, by go_num, BW2.out, (show Hid _ from by rw [HPP.out]; exact HOWN)⟩
   ·have hd : (((s[k].toNat : Nat) : Int) == ((c.toNat : Nat) : Int)) = false := by
     rw [beq_eq_false_iff_ne]
     intro e
     exact hc (UInt8.toNat_inj.1 (by omega))
    obtain ⟨a, p, e1, e2⟩ := parts_miss_snoc hc (s.data.toList.take k)
    rw [← HTK.out] at e2
    have hpp : (parts c (s.data.toList.take (k + 1))).map mkB = ((parts c (s.data.toList.take k)).map mkB).set a.length (mkB p ++ s.extract k (k + 1)) := by
     rw [e1, e2, List.map_append, List.map_append, List.set_append_right _ _ (by simp)]
     simp only [List.length_map, Nat.sub_self, List.map_cons, List.map_nil, List.set_cons_zero]
     congr 2
     apply ByteArray.ext
     apply Array.ext'
     rw [ByteArray.data_append, Array.toList_append, extract_one s k hlt, mkB_data, mkB_data]
    have hlen : ((parts c (s.data.toList.take k)).map mkB).length = a.length + 1 := by rw [e1]; simp
    have hget : ((parts c (s.data.toList.take k)).map mkB)[a.length]? = some (mkB p) := by
     rw [e1, List.map_append, List.getElem?_append_right (by simp)]
     simp
    have HPP := Lib.hid hpp
    obtain ⟨m, hm⟩ : ∃ m, a.length = m := ⟨_, rfl⟩
    obtain ⟨y, hy⟩ : ∃ y, mkB p = y := ⟨_, rfl⟩
    obtain ⟨xs, hxs⟩ : ∃ xs, (parts c (s.data.toList.take k)).map mkB = xs := ⟨_, rfl⟩
    have hps : (parts c (s.data.toList.take k)).length = a.length + 1 := by rw [e1]; simp
    have hys : y.size ≤ s.size := by
     have h1 := parts_sum c (s.data.toList.take k)
     rw [e1, List.map_append, List.sum_append] at h1
     simp at h1
     rw [← hy, mkB_size]
     omega
    rw [hm, hy, hxs] at HPP
    rw [hxs, hm] at hlen
    rw [hxs, hm, hy] at hget
    rw [hxs] at OW
    have hmk : m ≤ k := by omega
    clear e1 e2 hpp hm hy hxs hpc hps a p hc
    have hml : m < xs.length := by omega
    have hgm : xs[m] = y := by rw [List.getElem?_eq_getElem hml] at hget; exact Option.some.inj hget
    obtain ⟨g, cap, hv, hbg, -, hf, hset, hgr⟩ := OW.out.set_ encS (i := m) (j := 0) (u := .string (y ++ s.extract k (k + 1))) (x' := y ++ s.extract k (k + 1)) hml (by rfl) (by omega)
    subst hv
    rw [Nat.mul_one, Nat.add_zero] at hf hset hgr
    have hcap := (OW.out.rs encS).1
    obtain ⟨b', off', z, hz, e3, hb', d0⟩ := (OW.out.rs encS).atS hml
    cases e3
    rw [Nat.zero_add, hz, hgm] at d0
    have hgw := (OW.out.lt_ g rfl).1
    have HSET := Lib.hid hset
    have HGR := Lib.hid hgr
    obtain ⟨n, hn⟩ : ∃ n, xs.length = n := ⟨_, rfl⟩
    have hnm : n = m + 1 := by omega
    rw [hn] at hcap
    simp only [hn]
    have HN := Lib.hid hn
    have hw1 : IntKind.i64.wrap ((n : Int) - 1) = (m : Int) := by rw [show (n : Int) - 1 = (m : Int) by omega]; exact wrap64 (by omega)
    have hw2 : IntKind.i64.wrap ((k : Int) + 1) = (k : Int) + 1 := wrap64 (by omega)
    have hmi : (m : Int) < (n : Int) := by omega
    have hmn : m < n := by omega
    have hk1 : (k : Int) + 1 ≤ (s.size : Int) := by omega
    have hk1n : k + 1 ≤ s.size := by omega
    have hk2 : (0 : Int) ≤ (k : Int) + 1 := by omega
    have hk3 : (k : Int) ≤ (k : Int) + 1 := by omega
    have hk4 : (0 : Int) ≤ (k : Int) := by omega

    have hsz3 : ¬ 9223372036854775807 < y.size + 1 := by omega
    have HNM := Lib.hid hnm
    clear hset hgr hml hgm hget hlen hn hz hb' hnm
    go_wp2
    go_still_tail 17, (by kernel_rfl)
    go_wp2
    obtain ⟨w5, hw5⟩ : ∃ w5, wr.setCell ⟨g, m, none⟩ (.string (y ++ s.extract k (k + 1))) = w5 := ⟨_, rfl⟩
    have HS5 := Lib.hid (show Own eS 9 1 w.heap.size w5.drew (.slice (some ⟨g, 0, none⟩) n cap) (xs.set m (y ++ s.extract k (k + 1))) from by
     have h1 := HSET.out
     rw [hw5, HN.out] at h1
     exact h1.below (belowD (Below.refl _ _)))
    have BW5 := Lib.hid (show Below w.heap.size w w5.drew from belowD (BW.out.grown (by rw [← hw5]; exact HGR.out) BW.out.size (fun q hq => by cases hq; exact hgw)))
    go_roundg (s.size - (k + 1))
    case measure => omega
    case rel => exact ⟨k + 1, by omega, by omega, by go_num, (show Hid _ from by first | exact BW5 | (rw [← hw5] at BW5; exact BW5)), (show Hid _ from by rw [HPP.out]; first | exact HS5 | (rw [← hw5] at HS5; exact HS5))⟩
  ·have hli : ¬ (k : Int) < (s.size : Int) := by omega
   have hke : s.data.toList.take k = s.data.toList := List.take_of_length_le (by simp; omega)
   have HOW := Lib.hid (show Own eS 9 1 w.heap.size wr _ (prtB c s) from by have := OW.out; rwa [hke] at this)
   clear hke hpc
   obtain ⟨A, c3, rfl⟩ := HOW.out.sl
   go_wp2
   go_ret
   exact ⟨⟨A, c3, rfl, HOW.out⟩, BW.out⟩
end Go.Proofs.YtcnpbcgkhhebaaaGreatDoor
/- The document: the numbers of some parts. -/
namespace Go.Proofs.YtcnpbcgkhhebaaaGreatDoor
open Go.RowKit

def pk (P : List ByteArray) (i : Nat) : ByteArray := (P[i]?).getD ⟨#[]⟩
def numsOk (P : List ByteArray) (ix : List Nat) : Bool := ix.all fun i => numOk (pk P i)
def numsOf (P : List ByteArray) (ix : List Nat) : List Int := if numsOk P ix then ix.map fun i => numV (pk P i) else []
set_option maxRecDepth 100000 in
set_option maxHeartbeats 4000000 in
theorem numbers_any (A : Option Addr) (c : Nat) (P : List ByteArray) (B : Option Addr) (d : Nat) (ix : List Nat) (w : World) (hr : Rd eS 1 w A c P) (hr2 : Rd eI 1 w B d (ix.map fun i : Nat => (i : Int))) (hix : ∀ i ∈ ix, i < P.length) (hz : ∀ p ∈ P, p.size ≤ 9223372036854775807) (hn : ix.length ≤ 1000) :
  Calls Tryz.prog 112 #[.slice A P.length c, .slice B ix.length d] w fun e w' => (∃ A' c', e = .returned (.tuple #[.slice A' (numsOf P ix).length c', .bool (numsOk P ix)]) ∧ Own eI 2 1 w.heap.size w' (.slice A' (numsOf P ix).length c') (numsOf P ix)) ∧ Below w.heap.size w w' := by
 have HR := Lib.hid hr
 have HR2 := Lib.hid hr2
 have HIX := Lib.hid hix
 have HZ := Lib.hid hz
 have hPl := hr.len
 clear hr hr2 hix hz
 go_enter Tryz.func112, Tryz.ntmps112
 go_wp2
 go_loopg [6, 7] ix.length (fun gg s6 s7 wr => ∃ k : Nat, k ≤ ix.length ∧ ix.length - k ≤ gg ∧ s7 = .int .i64 k ∧ Hid (Below w.heap.size w wr) ∧ Hid (numsOk P (ix.take k) = true) ∧ Hid (Own eI 2 1 w.heap.size wr s6 ((ix.take k).map fun i => numV (pk P i))))
 case atStart => exact ⟨0, Nat.zero_le _, by omega, rfl, Below.refl _ _, (show numsOk P (ix.take 0) = true from rfl), (show Own eI 2 1 w.heap.size w _ [] from Own.nil_ _ _ _ _ _)⟩
 case round =>
  obtain ⟨k, hk, hg, rfl, BW, OKS, OW⟩ := hrel
  by_cases hlt : k < ix.length
  ·have hli : (k : Int) < (ix.length : Int) := by omega
   have hlm : k < (ix.map fun i : Nat => (i : Int)).length := by simpa using hlt
   obtain ⟨b, off, y, hy, rfl, hb, d0⟩ := (HR2.out.below BW.out).atI hlm
   rw [List.getElem_map] at hy
   obtain ⟨i, hi⟩ : ∃ i, ix[k] = i := ⟨_, rfl⟩
   have hip := HIX.out ix[k] (List.getElem_mem hlt)
   rw [hi] at hy hip
   subst hy
   obtain ⟨b2, off2, z, hz, rfl, hb2, d1⟩ := (HR.out.below BW.out).atS hip
   have hzs := HZ.out z (by rw [hz]; exact List.getElem_mem hip)
   have hpk : pk P i = z := by unfold pk; rw [List.getElem?_eq_getElem hip, hz]; rfl
   have htk : ix.take (k + 1) = ix.take k ++ [i] := by rw [List.take_succ_eq_append_getElem hlt, hi]
   have HTK := Lib.hid htk
   have HPK := Lib.hid hpk
   have hcon := fun W => number2_any z W hzs
   have hii : (i : Int) < (P.length : Int) := by omega
   have hi0 : (0 : Int) ≤ (i : Int) := by omega
   have hk0 : (0 : Int) ≤ (k : Int) := by omega
   clear hz hpk htk hi hb hb2 hlm
   cases hq : numOk z with
   | false =>
    have hno : numsOk P ix = false := by
     unfold numsOk
     rw [List.all_eq_false]
     refine ⟨i, ?_, by rw [HPK.out, hq]; simp⟩
     have : i ∈ ix.take (k + 1) := by rw [HTK.out]; simp
     exact List.mem_of_mem_take this
    have hnn : numsOf P ix = [] := by unfold numsOf; rw [hno]; rfl
    rw [numOk_no hq, hq] at hcon
    have HNO := Lib.hid hno
    have HNN := Lib.hid hnn
    have HC := Lib.hid hcon
    clear hno hnn hcon hq
    go_wp2_with fail
    refine (HC.out _).mono ?_
    rintro e w1 ⟨rfl, rfl⟩
    go_wp2
    go_ret2
    rw [HNN.out, HNO.out]
    exact ⟨⟨none, 0, rfl, Own.nil_ _ _ _ _ _⟩, BW.out⟩
   | true =>
    have hst : (ix.take (k + 1)).map (fun i => numV (pk P i)) = (ix.take k).map (fun i => numV (pk P i)) ++ [numV z] := by rw [HTK.out, List.map_append, List.map_cons, List.map_nil, HPK.out]
    have hso : numsOk P (ix.take (k + 1)) = true := by
     have h1 := OKS.out
     unfold numsOk at h1 ⊢
     rw [HTK.out, List.all_append, h1, List.all_cons, HPK.out, hq]
     rfl
    obtain ⟨v, hv⟩ : ∃ v, numV z = v := ⟨_, rfl⟩
    rw [hq, hv] at hcon
    rw [hv] at hst
    obtain ⟨xs, hxs⟩ : ∃ xs, (ix.take k).map (fun i => numV (pk P i)) = xs := ⟨_, rfl⟩
    have hxl : xs.length ≤ k := by rw [← hxs, List.length_map, List.length_take]; omega
    rw [hxs] at hst OW
    have HST := Lib.hid hst
    have HSO := Lib.hid hso
    have HC := Lib.hid hcon
    clear hst hso hcon hq hv hxs
    go_wp2_with fail
    refine (HC.out _).mono ?_
    rintro e w1 ⟨rfl, rfl⟩
    go_wp2_with (at_builtin; apply stop_)
    unfold Hid
    refine wpList_push e2 encI rfl _ _ rfl rfl (OW.out.below (below_a1 w1 (.cells #[.int .i64 v] 2))) w1.heap.size 1 v rfl (one_I (by go_simp)) (by omega) (by omega) (by have := BW.out.size; simp only [World.size_alloc] at this ⊢; omega) ?_
    intro v' w' hown' hgr hlk
    have HOWN := Lib.hid hown'
    have BW2 := Lib.hid ((belowA BW.out (.cells #[.int .i64 v] 2)).grown hgr (by have := BW.out.size; simp only [World.size_alloc] at this ⊢; omega) (fun q hq => (OW.out.lt_ _ hq).1))
    clear hown' hgr hlk
    go_wp2
    go_roundg (ix.length - (k + 1))
    case measure => omega
    case rel => exact ⟨k + 1, by omega, by omega, by go_num, BW2.out, HSO.out, (show Hid _ from by rw [HST.out]; exact HOWN)⟩
  ·have hli : ¬ (k : Int) < (ix.length : Int) := by omega
   have hke : ix.take k = ix := List.take_of_length_le (by omega)
   have hno : numsOk P ix = true := by have := OKS.out; rwa [hke] at this
   have hnn : (ix.take k).map (fun i => numV (pk P i)) = numsOf P ix := by rw [hke]; unfold numsOf; rw [hno]; rfl
   have HNO := Lib.hid hno
   have HOW := Lib.hid (show Own eI 2 1 w.heap.size wr _ (numsOf P ix) from by have := OW.out; rwa [hnn] at this)
   clear hke hno hnn
   obtain ⟨A', c', rfl⟩ := HOW.out.sl
   go_wp2
   go_ret2
   rw [HNO.out]
   exact ⟨⟨A', c', rfl, HOW.out⟩, BW.out⟩
end Go.Proofs.YtcnpbcgkhhebaaaGreatDoor
/- The document: the numbers and the letters of a line. -/
namespace Go.Proofs.YtcnpbcgkhhebaaaGreatDoor
open Go.RowKit

set_option maxHeartbeats 1000000 in
theorem numberTo_any (s : ByteArray) (m : Int) (w : World) (hs : s.size ≤ 9223372036854775807) :
  Calls Tryz.prog 129 #[.string s, .int .i64 m] w fun e w' => e = .returned (.tuple #[.int .i64 (numV s), .bool (okN s m)]) ∧ w' = w := by
 have HC := Lib.hid (fun W => number2_any s W hs)
 obtain ⟨v, hv⟩ : ∃ v, numV s = v := ⟨_, rfl⟩
 obtain ⟨o, ho⟩ : ∃ o, numOk s = o := ⟨_, rfl⟩
 have HK := Lib.hid (show okN s m = (o && decide (1 ≤ v) && decide (v ≤ m)) by unfold okN; rw [hv, ho])
 rw [hv, ho] at HC
 rw [hv]
 clear hv ho
 cases o with
 | false =>
  go_enter Tryz.func129, Tryz.ntmps129
  go_wp2_with fail
  refine (HC.out _).mono ?_
  rintro e w1 ⟨rfl, rfl⟩
  go_wp2
  go_ret2
  rw [HK.out]
  exact ⟨rfl, rfl⟩
 | true =>
  by_cases h1 : 1 ≤ v
  ·have H1 := Lib.hid (decide_eq_true h1)
   by_cases h2 : v ≤ m
   ·have H2 := Lib.hid (decide_eq_true h2)
    go_enter Tryz.func129, Tryz.ntmps129
    go_wp2_with fail
    refine (HC.out _).mono ?_
    rintro e w1 ⟨rfl, rfl⟩
    go_wp2
    go_ret2
    rw [HK.out, H1.out, H2.out]
    exact ⟨rfl, rfl⟩
   ·have H2 := Lib.hid (decide_eq_false h2)
    go_enter Tryz.func129, Tryz.ntmps129
    go_wp2_with fail
    refine (HC.out _).mono ?_
    rintro e w1 ⟨rfl, rfl⟩
    go_wp2
    go_ret2
    rw [HK.out, H1.out, H2.out]
    exact ⟨rfl, rfl⟩
  ·have H1 := Lib.hid (decide_eq_false h1)
   go_enter Tryz.func129, Tryz.ntmps129
   go_wp2_with fail
   refine (HC.out _).mono ?_
   rintro e w1 ⟨rfl, rfl⟩
   go_wp2
   go_ret2
   rw [HK.out, H1.out]
   exact ⟨rfl, rfl⟩

set_option maxHeartbeats 1000000 in
theorem marked_any (s : ByteArray) (nn : Bool) (w : World) (hs : s.size ≤ 9223372036854775807) :
  Calls Tryz.prog 130 #[.string s, .bool nn] w fun e w' => e = .returned (.tuple #[.string (if s = bDs then bNo else s), .bool (if s = bDs then nn else okM s)]) ∧ Below w.heap.size w w' := by
 have hq := word_eq s bDs
 rw [ByteArray.toList_eq bDs] at hq
 by_cases h : s = bDs
 ·rw [if_pos h, if_pos h]
  have hd : (s.toList == [45]) = true := by rw [show ([45] : List UInt8) = bDs.data.toList from rfl, hq, decide_eq_true h]
  clear hq h
  go_enter Tryz.func130, Tryz.ntmps130
  go_wp2
  go_ret2
  exact ⟨rfl, Below.refl _ _⟩
 ·rw [if_neg h, if_neg h]
  have hd : (s.toList == [45]) = false := by rw [show ([45] : List UInt8) = bDs.data.toList from rfl, hq, decide_eq_false h]
  have HC := Lib.hid (fun W => isSeen2_any s W hs)
  obtain ⟨r, hr⟩ : ∃ r, isSeenB s = r := ⟨_, rfl⟩
  have HK := Lib.hid (show okM s = (!s.toList.isEmpty && r) by unfold okM; rw [hr])
  rw [hr] at HC
  clear hq h hr
  cases he : s.toList.isEmpty with
  | true =>
   have HE := Lib.hid he
   go_enter Tryz.func130, Tryz.ntmps130
   go_wp2
   go_ret2
   rw [HK.out, HE.out]
   exact ⟨rfl, Below.refl _ _⟩
  | false =>
   have HE := Lib.hid he
   go_enter Tryz.func130, Tryz.ntmps130
   go_wp2_with fail
   refine (HC.out _).mono ?_
   rintro e w1 ⟨rfl, hb⟩
   go_wp2
   go_ret2
   rw [HK.out, HE.out]
   exact ⟨rfl, hb⟩
def shapeQ (w : ByteArray) : Int × Int × Bool := if w = wMark then (1099511627776, 0, true) else if w = wLog then (1099511627776, 10000, true) else if w = wClaim then (1099511627776, 1099511627776, false) else if w = wRaft then (1099511627776, 100, false) else if w = wPay then (1099511627776, 1000000, false) else if w = wStrike then (200, 0, false) else (0, 0, false)
set_option maxHeartbeats 1000000 in
theorem shape_any (s : ByteArray) (w : World) : Calls Tryz.prog 128 #[.string s] w fun e w' => e = .returned (.tuple #[.int .i64 (shapeQ s).1, .int .i64 (shapeQ s).2.1, .bool (shapeQ s).2.2]) ∧ w' = w := by
 have q0 := word_eq s wMark
 rw [ByteArray.toList_eq wMark] at q0
 by_cases h0 : s = wMark
 ·have HS := Lib.hid (show shapeQ s = (1099511627776, 0, true) by unfold shapeQ; rw [if_pos h0])
  have d0 : (s.toList == [109, 97, 114, 107]) = true := by rw [show ([109, 97, 114, 107] : List UInt8) = wMark.data.toList from rfl, q0, decide_eq_true h0]
  clear h0 q0
  go_enter Tryz.func128, Tryz.ntmps128
  go_wp2
  go_ret3
  rw [HS.out]
  exact ⟨rfl, rfl⟩
 have d0 : (s.toList == [109, 97, 114, 107]) = false := by rw [show ([109, 97, 114, 107] : List UInt8) = wMark.data.toList from rfl, q0, decide_eq_false h0]
 clear q0
 have q1 := word_eq s wLog
 rw [ByteArray.toList_eq wLog] at q1
 by_cases h1 : s = wLog
 ·have HS := Lib.hid (show shapeQ s = (1099511627776, 10000, true) by unfold shapeQ; rw [if_neg h0, if_pos h1])
  have d1 : (s.toList == [108, 111, 103]) = true := by rw [show ([108, 111, 103] : List UInt8) = wLog.data.toList from rfl, q1, decide_eq_true h1]
  clear h0 h1 q1
  go_enter Tryz.func128, Tryz.ntmps128
  go_wp2
  go_ret3
  rw [HS.out]
  exact ⟨rfl, rfl⟩
 have d1 : (s.toList == [108, 111, 103]) = false := by rw [show ([108, 111, 103] : List UInt8) = wLog.data.toList from rfl, q1, decide_eq_false h1]
 clear q1
 have q2 := word_eq s wClaim
 rw [ByteArray.toList_eq wClaim] at q2
 by_cases h2 : s = wClaim
 ·have HS := Lib.hid (show shapeQ s = (1099511627776, 1099511627776, false) by unfold shapeQ; rw [if_neg h0, if_neg h1, if_pos h2])
  have d2 : (s.toList == [99, 108, 97, 105, 109]) = true := by rw [show ([99, 108, 97, 105, 109] : List UInt8) = wClaim.data.toList from rfl, q2, decide_eq_true h2]
  clear h0 h1 h2 q2
  go_enter Tryz.func128, Tryz.ntmps128
  go_wp2
  go_ret3
  rw [HS.out]
  exact ⟨rfl, rfl⟩
 have d2 : (s.toList == [99, 108, 97, 105, 109]) = false := by rw [show ([99, 108, 97, 105, 109] : List UInt8) = wClaim.data.toList from rfl, q2, decide_eq_false h2]
 clear q2
 have q3 := word_eq s wRaft
 rw [ByteArray.toList_eq wRaft] at q3
 by_cases h3 : s = wRaft
 ·have HS := Lib.hid (show shapeQ s = (1099511627776, 100, false) by unfold shapeQ; rw [if_neg h0, if_neg h1, if_neg h2, if_pos h3])
  have d3 : (s.toList == [114, 97, 102, 116]) = true := by rw [show ([114, 97, 102, 116] : List UInt8) = wRaft.data.toList from rfl, q3, decide_eq_true h3]
  clear h0 h1 h2 h3 q3
  go_enter Tryz.func128, Tryz.ntmps128
  go_wp2
  go_ret3
  rw [HS.out]
  exact ⟨rfl, rfl⟩
 have d3 : (s.toList == [114, 97, 102, 116]) = false := by rw [show ([114, 97, 102, 116] : List UInt8) = wRaft.data.toList from rfl, q3, decide_eq_false h3]
 clear q3
 have q4 := word_eq s wPay
 rw [ByteArray.toList_eq wPay] at q4
 by_cases h4 : s = wPay
 ·have HS := Lib.hid (show shapeQ s = (1099511627776, 1000000, false) by unfold shapeQ; rw [if_neg h0, if_neg h1, if_neg h2, if_neg h3, if_pos h4])
  have d4 : (s.toList == [112, 97, 121]) = true := by rw [show ([112, 97, 121] : List UInt8) = wPay.data.toList from rfl, q4, decide_eq_true h4]
  clear h0 h1 h2 h3 h4 q4
  go_enter Tryz.func128, Tryz.ntmps128
  go_wp2
  go_ret3
  rw [HS.out]
  exact ⟨rfl, rfl⟩
 have d4 : (s.toList == [112, 97, 121]) = false := by rw [show ([112, 97, 121] : List UInt8) = wPay.data.toList from rfl, q4, decide_eq_false h4]
 clear q4
 have q5 := word_eq s wStrike
 rw [ByteArray.toList_eq wStrike] at q5
 by_cases h5 : s = wStrike
 ·have HS := Lib.hid (show shapeQ s = (200, 0, false) by unfold shapeQ; rw [if_neg h0, if_neg h1, if_neg h2, if_neg h3, if_neg h4, if_pos h5])
  have d5 : (s.toList == [115, 116, 114, 105, 107, 101]) = true := by rw [show ([115, 116, 114, 105, 107, 101] : List UInt8) = wStrike.data.toList from rfl, q5, decide_eq_true h5]
  clear h0 h1 h2 h3 h4 h5 q5
  go_enter Tryz.func128, Tryz.ntmps128
  go_wp2
  go_ret3
  rw [HS.out]
  exact ⟨rfl, rfl⟩
 have d5 : (s.toList == [115, 116, 114, 105, 107, 101]) = false := by rw [show ([115, 116, 114, 105, 107, 101] : List UInt8) = wStrike.data.toList from rfl, q5, decide_eq_false h5]
 clear q5
 have HS := Lib.hid (show shapeQ s = (0, 0, false) by unfold shapeQ; rw [if_neg h0, if_neg h1, if_neg h2, if_neg h3, if_neg h4, if_neg h5])
 clear h0 h1 h2 h3 h4 h5
 go_enter Tryz.func128, Tryz.ntmps128
 go_wp2
 go_ret3
 rw [HS.out]
 exact ⟨rfl, rfl⟩
end Go.Proofs.YtcnpbcgkhhebaaaGreatDoor
/- The document: a line's four cells. -/
namespace Go.Proofs.YtcnpbcgkhhebaaaGreatDoor
open Go.RowKit

theorem fourC {w : World} {b : Nat} {c0 c1 c2 c3 v0 v1 v2 v3 : Value} (h : w.heap[b]? = some (.cells #[c0, c1, c2, c3] 61 (0, 0))) :
  ((((w.setCell ⟨b, 0, none⟩ v0).setCell ⟨b, 1, none⟩ v1).setCell ⟨b, 2, none⟩ v2).setCell ⟨b, 3, none⟩ v3).heap[b]? = some (.cells #[v0, v1, v2, v3] 61 (0, 0)) ∧
  w.grownBy ((((w.setCell ⟨b, 0, none⟩ v0).setCell ⟨b, 1, none⟩ v1).setCell ⟨b, 2, none⟩ v2).setCell ⟨b, 3, none⟩ v3) (some b) := by
 have h1 := heap_setCell_same w b 0 _ 61 v0 h
 have h2 := heap_setCell_same _ b 1 _ 61 v1 h1
 have h3 := heap_setCell_same _ b 2 _ 61 v2 h2
 have h4 := heap_setCell_same _ b 3 _ 61 v3 h3
 refine ⟨h4.trans (by simp), ?_⟩
 have g1 := grown_cell w b 0 v0
 have g2 := grown_cell (w.setCell ⟨b, 0, none⟩ v0) b 1 v1
 have g3 := grown_cell ((w.setCell ⟨b, 0, none⟩ v0).setCell ⟨b, 1, none⟩ v1) b 2 v2
 have g4 := grown_cell (((w.setCell ⟨b, 0, none⟩ v0).setCell ⟨b, 1, none⟩ v1).setCell ⟨b, 2, none⟩ v2) b 3 v3
 exact (((g1.andThen g2 (fun j e => .inr e)).andThen g3 (fun j e => .inr e)).andThen g4 (fun j e => .inr e))
set_option maxHeartbeats 400000 in
theorem lineD_ret {w : World} {b : Nat} {tmps : Array Value} {v0 v1 v2 v3 : Value} {r : Bool} {f : Nat × Nat} (h : w.heap[b]? = some (.cells #[v0, v1, v2, v3] 61 f)) (h4 : tmps.getD 4 undef = .pointer (some ⟨b, 0, none⟩)) (h5 : tmps.getD 5 undef = .bool r) :
  (results Tryz.f95 tmps).run Tryz.prog w = .ok (.tuple #[.agg #[v0, v1, v2, v3], .bool r]) w := by
 have c0 : w.cell? ⟨b, 0, none⟩ = some v0 := by rw [cell_of_row _ _ _ _ _ _ h]; rfl
 have c1 : w.cell? ⟨b, 1, none⟩ = some v1 := by rw [cell_of_row _ _ _ _ _ _ h]; rfl
 have c2 : w.cell? ⟨b, 2, none⟩ = some v2 := by rw [cell_of_row _ _ _ _ _ _ h]; rfl
 have c3 : w.cell? ⟨b, 3, none⟩ = some v3 := by rw [cell_of_row _ _ _ _ _ _ h]; rfl
 rw [results_cell_tmp (fn := Tryz.f95) rfl, h4, h5]
 go_simp
/-- The end of each way through parse: the line's cells are stored, and read. -/
theorem lineD_close {R : Ending → Prop} {w W : World} {b : Nat} {tmps : Array Value} {c0 c1 c2 c3 v0 v1 v2 v3 : Value} {r : Bool} (h : W.heap[b]? = some (.cells #[c0, c1, c2, c3] 61 (0, 0))) (h4 : tmps.getD 4 undef = .pointer (some ⟨b, 0, none⟩)) (h5 : tmps.getD 5 undef = .bool r)
  (hle : w.heap.size ≤ b) (hb : Below w.heap.size w W) (hq : R (.returned (.tuple #[.agg #[v0, v1, v2, v3], .bool r]))) :
  bodyPost Tryz.prog Tryz.f95 (fun e w' => R e ∧ Below w.heap.size w w') .ret { tmps := tmps, defers := [] }
   ((((W.setCell ⟨b, 0, none⟩ v0).setCell ⟨b, 1, none⟩ v1).setCell ⟨b, 2, none⟩ v2).setCell ⟨b, 3, none⟩ v3) := by
 have hf := fourC (v0 := v0) (v1 := v1) (v2 := v2) (v3 := v3) h
 refine bodyPost_ret (lineD_ret hf.1 h4 h5) rfl ⟨hq, hb.grown hf.2 hb.size (fun q hq => by cases hq; exact hle)⟩
theorem lineD_close2 {R : Ending → Prop} {w W : World} {b : Nat} {o : Obj} {tmps : Array Value} {c0 c1 c2 c3 v0 v1 v2 v3 : Value} {r : Bool} (h : W.heap[b]? = some (.cells #[c0, c1, c2, c3] 61 (0, 0))) (h4 : tmps.getD 4 undef = .pointer (some ⟨b, 0, none⟩)) (h5 : tmps.getD 5 undef = .bool r)
  (hle : w.heap.size ≤ b) (hb : Below w.heap.size w W) (hq : R (.returned (.tuple #[.agg #[v0, v1, v2, v3], .bool r]))) :
  bodyPost Tryz.prog Tryz.f95 (fun e w' => R e ∧ Below w.heap.size w w') .ret { tmps := tmps, defers := [] }
   (((((W.setCell ⟨b, 0, none⟩ v0).setCell ⟨b, 1, none⟩ v1).setCell ⟨b, 2, none⟩ v2).setCell ⟨b, 3, none⟩ v3).alloc o) := by
 have hf := fourC (v0 := v0) (v1 := v1) (v2 := v2) (v3 := v3) h
 have hlt := (Array.getElem?_eq_some_iff.1 hf.1).1
 have hbB : Below w.heap.size w ((((W.setCell ⟨b, 0, none⟩ v0).setCell ⟨b, 1, none⟩ v1).setCell ⟨b, 2, none⟩ v2).setCell ⟨b, 3, none⟩ v3) := hb.grown hf.2 hb.size (fun q hq => by cases hq; exact hle)
 refine bodyPost_ret (lineD_ret (((below_a1 _ o).block b hlt).trans hf.1) h4 h5) rfl ⟨hq, belowA hbB o⟩
theorem lineD_close3 {R : Ending → Prop} {w W : World} {b q : Nat} {u3 u2 : Value} {tmps : Array Value} {c0 c1 c2 c3 v0 v1 v2 v3 : Value} {r : Bool} (h : W.heap[b]? = some (.cells #[c0, c1, c2, c3] 61 (0, 0))) (hne : q ≠ b) (h4 : tmps.getD 4 undef = .pointer (some ⟨b, 0, none⟩)) (h5 : tmps.getD 5 undef = .bool r)
  (hle : w.heap.size ≤ b) (hlq : w.heap.size ≤ q) (hb : Below w.heap.size w W) (hq : R (.returned (.tuple #[.agg #[v0, v1, v2, v3], .bool r]))) :
  bodyPost Tryz.prog Tryz.f95 (fun e w' => R e ∧ Below w.heap.size w w') .ret { tmps := tmps, defers := [] }
   ((((((W.setCell ⟨q, 3, none⟩ u3).setCell ⟨q, 2, none⟩ u2).setCell ⟨b, 0, none⟩ v0).setCell ⟨b, 1, none⟩ v1).setCell ⟨b, 2, none⟩ v2).setCell ⟨b, 3, none⟩ v3) := by
 have k1 : (W.setCell ⟨q, 3, none⟩ u3).heap[b]? = some (.cells #[c0, c1, c2, c3] 61 (0, 0)) := (heap_setCell_other W _ b _ (fun e1 => hne e1.symm)).trans h
 have k2 : ((W.setCell ⟨q, 3, none⟩ u3).setCell ⟨q, 2, none⟩ u2).heap[b]? = some (.cells #[c0, c1, c2, c3] 61 (0, 0)) := (heap_setCell_other _ _ b _ (fun e1 => hne e1.symm)).trans k1
 have b1 := hb.grown (grown_cell W q 3 u3) hb.size (fun q' hq' => by cases hq'; exact hlq)
 have b2 := b1.grown (grown_cell _ q 2 u2) b1.size (fun q' hq' => by cases hq'; exact hlq)
 exact lineD_close k2 h4 h5 hle b2 hq
end Go.Proofs.YtcnpbcgkhhebaaaGreatDoor
/- The document: a line is parsed. -/
namespace Go.Proofs.YtcnpbcgkhhebaaaGreatDoor
open Go.RowKit

theorem dec2_any (n : Nat) (W : World) (h1 : n ≤ 9223372036854775807) : Calls Tryz.prog 46 #[.int .i64 n] W fun e w' => e = .returned (.string (decB n)) ∧ Below W.heap.size W w' := digits2_any n W h1
theorem pk_at {P : List ByteArray} {i : Nat} (h : i < P.length) : P[i] = pk P i := by unfold pk; rw [List.getElem?_eq_getElem h]; rfl
theorem prt_size (s : ByteArray) (i : Nat) : (pk (prtB 32 s) i).size ≤ s.size := by
 unfold pk
 by_cases h : i < (prtB 32 s).length
 ·rw [List.getElem?_eq_getElem h, Option.getD_some]
  exact part_size (by rw [partsB_map]; exact List.getElem_mem h)
 ·rw [List.getElem?_eq_none (by omega)]
  exact Nat.zero_le _
set_option maxRecDepth 100000 in
set_option maxHeartbeats 4000000 in
theorem parse_bad0 (s : ByteArray) (n : Nat) (P : List ByteArray) (w : World) (hs : s.size ≤ 100000) (hn : n ≤ 100000) (hP : prtB 32 s = P) (hL : 2 ≤ P.length) (h0 : pk P 0 ≠ decB n) :
  Calls Tryz.prog 95 #[.string s, .int .i64 n] w fun e w' => (∃ w0 o t l0, e = .returned (.tuple #[.agg #[.string w0, .int .i64 o, .int .i64 t, .string l0], .bool false])) ∧ Below w.heap.size w w' := by
 have CP := Lib.hid (fun W => parts2_any s 32 W (by omega))
 have CD := Lib.hid (fun W => dec2_any n W (by omega))
 have CS := Lib.hid (fun W => shape_any (pk P 1) W)
 have SZ := Lib.hid (fun i => prt_size s i)
 rw [hP] at CP SZ
 have BB := Lib.hid (below_a1 w (.cells #[.string ⟨#[]⟩, .int .i64 0, .int .i64 0, .string ⟨#[]⟩] 61))
 have HROW := Lib.hid (show (w.alloc (.cells #[.string ⟨#[]⟩, .int .i64 0, .int .i64 0, .string ⟨#[]⟩] 61)).heap[w.heap.size]? = some (.cells #[.string ⟨#[]⟩, .int .i64 0, .int .i64 0, .string ⟨#[]⟩] 61 (0, 0)) from heap_alloc_new _ _)
 go_enter Tryz.func95, Tryz.ntmps95
 go_wp2_with fail
 refine (CP.out _).mono ?_
 rintro e w1 ⟨⟨A, c, rfl, ho⟩, hb⟩
 replace BB := Lib.hid (below2 BB.out hb)
 replace HROW := Lib.hid ((hb.block w.heap.size (by rw [World.size_alloc]; omega)).trans HROW.out)
 have RD := Lib.hid (ho.rs encS)
 have hlo := ho.lt_
 have hz := hb.size
 clear hb ho
 have hcap : P.length ≤ c := RD.out.1
 have hmax : c ≤ 9223372036854775807 := RD.out.2.1
 rw [World.size_alloc] at hz
 obtain ⟨b, off, y0, hy0, rfl, hbb, d0⟩ := RD.out.atS (i := 0) (by omega)
 rw [pk_at (by omega)] at hy0
 rw [Nat.add_zero] at d0
 have z0 : y0.size ≤ 100000 := by have := SZ.out 0; rw [← hy0] at this; omega
 have HY0 := Lib.hid hy0
 clear hy0
 have hlb := hlo b rfl
 clear hlo
 rw [World.size_alloc] at hlb
 have hne : w.heap.size ≠ b := by omega
 have hne2 : b ≠ w.heap.size := by omega
 have hd : (y0.toList == (decB n).toList) = false := by have := word_eq y0 (decB n); rw [this]; exact decide_eq_false (by rw [HY0.out]; exact h0)
 have hl2 : decide ((P.length : Int) < 2) = false := decide_eq_false (by omega)
 have hl2n : ¬ (P.length : Int) < 2 := by omega
 have hl0 : 0 < P.length := by omega
 go_wp2_with fail
 refine wp_region_held_drew (S := fun W => Below w1.heap.size w1 W ∧ W.cell? ⟨b, off, none⟩ = some (.string y0)) (by kernel_rfl) ?_ (fun hHeld => ?_)
 ·first | exact ⟨Below.refl _ _, d0⟩ | exact ⟨belowD (Below.refl _ _), cB (belowD (Below.refl _ _)) d0⟩ | exact ⟨belowDN (Below.refl _ _) 1, d0⟩
 refine tk (i := 0) (v := ?_) rfl (Or.inl ⟨by rfl, ?_⟩) hHeld ?_
 rotate_left 1
 ·(intro w hSw; (try dsimp only at hSw); go_simp; try with_reducible rfl)
 try simp only [gA, Act.put]
 refine tk (i := 1) (v := ?_) rfl (Or.inl ⟨by rfl, ?_⟩) hHeld ?_
 rotate_left 1
 ·(intro w hSw; (try dsimp only at hSw); go_simp; try with_reducible rfl)
 try simp only [gA, Act.put]
 refine tk (i := 2) (v := ?_) rfl (Or.inl ⟨by rfl, ?_⟩) hHeld ?_
 rotate_left 1
 ·(intro w hSw; (try dsimp only at hSw); go_simp; try with_reducible rfl)
 try simp only [gA, Act.put]
 refine tk (i := 3) (v := ?_) rfl (Or.inl ⟨by rfl, ?_⟩) hHeld ?_
 rotate_left 1
 ·(intro w hSw; (try dsimp only at hSw); go_simp; try with_reducible rfl)
 try simp only [gA, Act.put]
 refine tk (i := 4) (v := ?_) rfl (Or.inl ⟨by rfl, ?_⟩) hHeld ?_
 rotate_left 1
 ·(intro w hSw; (try dsimp only at hSw); go_simp; try with_reducible rfl)
 try simp only [gA, Act.put]
 refine tk (i := 5) (v := ?_) rfl (Or.inl ⟨by rfl, ?_⟩) hHeld ?_
 rotate_left 1
 ·(intro w hSw; (try dsimp only at hSw); go_simp; try with_reducible rfl)
 try simp only [gA, Act.put]
 refine tk (i := 6) (v := ?_) rfl (Or.inl ⟨by rfl, ?_⟩) hHeld ?_
 rotate_left 1
 ·(intro w hSw; (try dsimp only at hSw); go_simp; try with_reducible rfl)
 try simp only [gA, Act.put]
 refine tk (i := 7) (v := ?_) rfl (Or.inl ⟨by rfl, ?_⟩) hHeld ?_
 rotate_left 1
 ·(intro w hSw; (try dsimp only at hSw); go_simp; try with_reducible rfl)
 try simp only [gA, Act.put]
 refine wpAnyH_ready (rs := [8]) (by kernel_rfl) (by simp) ?_
 refine AllReadyH.cons rfl (fun K hK => ?_) AllReadyH.nil
 go_simp
 go_at_call 46
 refine (CD.out _).mono ?_
 rintro e wq ⟨rfl, hbq⟩
 go_wp2_with fail
 refine hK.out _ _ ?_ (fun hHeld => ?_)
 ·exact ⟨below2 hHeld.1 hbq, cB hbq hHeld.2⟩
 clear hK K
 try simp only [gA, Act.put]
 refine tk (i := 9) (v := ?_) rfl (Or.inl ⟨by rfl, ?_⟩) hHeld ?_
 rotate_left 1
 ·(intro w hSw; (try dsimp only at hSw); go_simp; try with_reducible rfl)
 try simp only [gA, Act.put]
 refine tk (i := 10) (v := ?_) rfl (Or.inl ⟨by rfl, ?_⟩) hHeld ?_
 rotate_left 1
 ·(intro w hSw; (try dsimp only at hSw); go_simp; try with_reducible rfl)
 try simp only [gA, Act.put]
 refine wpAnyH_done (by kernel_rfl) ?_ _
 rotate_left 1
 all_goals
  replace d0 := hHeld.2
  replace BB := Lib.hid (below2 BB.out hHeld.1)
  replace HROW := Lib.hid ((hHeld.1.block w.heap.size (by omega)).trans HROW.out)
  have hzq := hHeld.1.size
  have hbl : b < wq.heap.size := by omega
  have hwl : w.heap.size < wq.heap.size := by omega
  have hwl2 : w.heap.size ≠ wq.heap.size := by omega
  have hbl2 : b ≠ wq.heap.size := by omega
  have r0 : wq.cell? ⟨w.heap.size, 0, none⟩ = some (.string ⟨#[]⟩) := by rw [cell_of_row _ _ _ _ _ _ HROW.out]; rfl
  have r1 : wq.cell? ⟨w.heap.size, 1, none⟩ = some (.int .i64 0) := by rw [cell_of_row _ _ _ _ _ _ HROW.out]; rfl
  have r2 : wq.cell? ⟨w.heap.size, 2, none⟩ = some (.int .i64 0) := by rw [cell_of_row _ _ _ _ _ _ HROW.out]; rfl
  have r3 : wq.cell? ⟨w.heap.size, 3, none⟩ = some (.string ⟨#[]⟩) := by rw [cell_of_row _ _ _ _ _ _ HROW.out]; rfl
  have fz : wq.frozen? ⟨w.heap.size, 0, none⟩ = false := by simp [World.frozen?, HROW.out]
  have fz1 : wq.frozen? ⟨w.heap.size, 1, none⟩ = false := by simp [World.frozen?, HROW.out]
  have fz2 : wq.frozen? ⟨w.heap.size, 2, none⟩ = false := by simp [World.frozen?, HROW.out]
  have fz3 : wq.frozen? ⟨w.heap.size, 3, none⟩ = false := by simp [World.frozen?, HROW.out]
  clear hHeld RD
  go_wp2
  exact lineD_close (R := fun e => ∃ w0 o t l0, e = .returned (.tuple #[.agg #[.string w0, .int .i64 o, .int .i64 t, .string l0], .bool false])) HROW.out rfl rfl (Nat.le_refl _) BB.out ⟨_, _, _, _, rfl⟩
set_option maxRecDepth 100000 in
set_option maxHeartbeats 4000000 in
theorem parse_shape0 (s : ByteArray) (n : Nat) (P : List ByteArray) (m2 : Int) (lt : Bool) (w : World) (hs : s.size ≤ 100000) (hn : n ≤ 100000) (hP : prtB 32 s = P) (hL : 2 ≤ P.length) (h0 : pk P 0 = decB n) (hsh : shapeQ (pk P 1) = (0, m2, lt)) :
  Calls Tryz.prog 95 #[.string s, .int .i64 n] w fun e w' => (∃ w0 o t l0, e = .returned (.tuple #[.agg #[.string w0, .int .i64 o, .int .i64 t, .string l0], .bool false])) ∧ Below w.heap.size w w' := by
 have CP := Lib.hid (fun W => parts2_any s 32 W (by omega))
 have CD := Lib.hid (fun W => dec2_any n W (by omega))
 have CS := Lib.hid (fun W => shape_any (pk P 1) W)
 have SZ := Lib.hid (fun i => prt_size s i)
 rw [hP] at CP SZ
 have BB := Lib.hid (below_a1 w (.cells #[.string ⟨#[]⟩, .int .i64 0, .int .i64 0, .string ⟨#[]⟩] 61))
 have HROW := Lib.hid (show (w.alloc (.cells #[.string ⟨#[]⟩, .int .i64 0, .int .i64 0, .string ⟨#[]⟩] 61)).heap[w.heap.size]? = some (.cells #[.string ⟨#[]⟩, .int .i64 0, .int .i64 0, .string ⟨#[]⟩] 61 (0, 0)) from heap_alloc_new _ _)
 go_enter Tryz.func95, Tryz.ntmps95
 go_wp2_with fail
 refine (CP.out _).mono ?_
 rintro e w1 ⟨⟨A, c, rfl, ho⟩, hb⟩
 replace BB := Lib.hid (below2 BB.out hb)
 replace HROW := Lib.hid ((hb.block w.heap.size (by rw [World.size_alloc]; omega)).trans HROW.out)
 have RD := Lib.hid (ho.rs encS)
 have hlo := ho.lt_
 have hz := hb.size
 clear hb ho
 have hcap : P.length ≤ c := RD.out.1
 have hmax : c ≤ 9223372036854775807 := RD.out.2.1
 rw [World.size_alloc] at hz
 obtain ⟨b, off, y0, hy0, rfl, hbb, d0⟩ := RD.out.atS (i := 0) (by omega)
 rw [pk_at (by omega)] at hy0
 rw [Nat.add_zero] at d0
 have z0 : y0.size ≤ 100000 := by have := SZ.out 0; rw [← hy0] at this; omega
 have HY0 := Lib.hid hy0
 clear hy0
 obtain ⟨b', off', y1, hy1, hee, -, d1⟩ := RD.out.atS (i := 1) (by omega)
 cases hee
 rw [pk_at (by omega)] at hy1
 have z1 : y1.size ≤ 100000 := by have := SZ.out 1; rw [← hy1] at this; omega
 have HY1 := Lib.hid hy1
 clear hy1
 have hlb := hlo b rfl
 clear hlo
 rw [World.size_alloc] at hlb
 have hne : w.heap.size ≠ b := by omega
 have hne2 : b ≠ w.heap.size := by omega
 have hd : (y0.toList == (decB n).toList) = true := by have := word_eq y0 (decB n); rw [this]; exact decide_eq_true (by rw [HY0.out]; exact h0)
 have hl2 : decide ((P.length : Int) < 2) = false := decide_eq_false (by omega)
 have hl2n : ¬ (P.length : Int) < 2 := by omega
 have hl0 : 0 < P.length := by omega
 have hl1 : 1 < P.length := by omega
 have hsh' : shapeQ y1 = (0, m2, lt) := by rw [HY1.out]; exact hsh
 replace CS := Lib.hid (fun W => shape_any y1 W)
 rw [hsh'] at CS
 clear hsh hsh'
 go_wp2_with fail
 refine wp_region_held_drew (S := fun W => Below w1.heap.size w1 W ∧ W.cell? ⟨b, off, none⟩ = some (.string y0)) (by kernel_rfl) ?_ (fun hHeld => ?_)
 ·first | exact ⟨Below.refl _ _, d0⟩ | exact ⟨belowD (Below.refl _ _), cB (belowD (Below.refl _ _)) d0⟩ | exact ⟨belowDN (Below.refl _ _) 1, d0⟩
 refine tk (i := 0) (v := ?_) rfl (Or.inl ⟨by rfl, ?_⟩) hHeld ?_
 rotate_left 1
 ·(intro w hSw; (try dsimp only at hSw); go_simp; try with_reducible rfl)
 try simp only [gA, Act.put]
 refine tk (i := 1) (v := ?_) rfl (Or.inl ⟨by rfl, ?_⟩) hHeld ?_
 rotate_left 1
 ·(intro w hSw; (try dsimp only at hSw); go_simp; try with_reducible rfl)
 try simp only [gA, Act.put]
 refine tk (i := 2) (v := ?_) rfl (Or.inl ⟨by rfl, ?_⟩) hHeld ?_
 rotate_left 1
 ·(intro w hSw; (try dsimp only at hSw); go_simp; try with_reducible rfl)
 try simp only [gA, Act.put]
 refine tk (i := 3) (v := ?_) rfl (Or.inl ⟨by rfl, ?_⟩) hHeld ?_
 rotate_left 1
 ·(intro w hSw; (try dsimp only at hSw); go_simp; try with_reducible rfl)
 try simp only [gA, Act.put]
 refine tk (i := 4) (v := ?_) rfl (Or.inl ⟨by rfl, ?_⟩) hHeld ?_
 rotate_left 1
 ·(intro w hSw; (try dsimp only at hSw); go_simp; try with_reducible rfl)
 try simp only [gA, Act.put]
 refine tk (i := 5) (v := ?_) rfl (Or.inl ⟨by rfl, ?_⟩) hHeld ?_
 rotate_left 1
 ·(intro w hSw; (try dsimp only at hSw); go_simp; try with_reducible rfl)
 try simp only [gA, Act.put]
 refine tk (i := 6) (v := ?_) rfl (Or.inl ⟨by rfl, ?_⟩) hHeld ?_
 rotate_left 1
 ·(intro w hSw; (try dsimp only at hSw); go_simp; try with_reducible rfl)
 try simp only [gA, Act.put]
 refine tk (i := 7) (v := ?_) rfl (Or.inl ⟨by rfl, ?_⟩) hHeld ?_
 rotate_left 1
 ·(intro w hSw; (try dsimp only at hSw); go_simp; try with_reducible rfl)
 try simp only [gA, Act.put]
 refine wpAnyH_ready (rs := [8]) (by kernel_rfl) (by simp) ?_
 refine AllReadyH.cons rfl (fun K hK => ?_) AllReadyH.nil
 go_simp
 go_at_call 46
 refine (CD.out _).mono ?_
 rintro e wq ⟨rfl, hbq⟩
 go_wp2_with fail
 refine hK.out _ _ ?_ (fun hHeld => ?_)
 ·exact ⟨below2 hHeld.1 hbq, cB hbq hHeld.2⟩
 clear hK K
 try simp only [gA, Act.put]
 refine tk (i := 9) (v := ?_) rfl (Or.inl ⟨by rfl, ?_⟩) hHeld ?_
 rotate_left 1
 ·(intro w hSw; (try dsimp only at hSw); go_simp; try with_reducible rfl)
 try simp only [gA, Act.put]
 refine tk (i := 10) (v := ?_) rfl (Or.inl ⟨by rfl, ?_⟩) hHeld ?_
 rotate_left 1
 ·(intro w hSw; (try dsimp only at hSw); go_simp; try with_reducible rfl)
 try simp only [gA, Act.put]
 refine wpAnyH_done (by kernel_rfl) ?_ _
 rotate_left 1
 all_goals
  replace d1 := cB hHeld.1 d1
  replace d0 := hHeld.2
  replace BB := Lib.hid (below2 BB.out hHeld.1)
  replace HROW := Lib.hid ((hHeld.1.block w.heap.size (by omega)).trans HROW.out)
  have hzq := hHeld.1.size
  have hbl : b < wq.heap.size := by omega
  have hwl : w.heap.size < wq.heap.size := by omega
  have hwl2 : w.heap.size ≠ wq.heap.size := by omega
  have hbl2 : b ≠ wq.heap.size := by omega
  have r0 : wq.cell? ⟨w.heap.size, 0, none⟩ = some (.string ⟨#[]⟩) := by rw [cell_of_row _ _ _ _ _ _ HROW.out]; rfl
  have r1 : wq.cell? ⟨w.heap.size, 1, none⟩ = some (.int .i64 0) := by rw [cell_of_row _ _ _ _ _ _ HROW.out]; rfl
  have r2 : wq.cell? ⟨w.heap.size, 2, none⟩ = some (.int .i64 0) := by rw [cell_of_row _ _ _ _ _ _ HROW.out]; rfl
  have r3 : wq.cell? ⟨w.heap.size, 3, none⟩ = some (.string ⟨#[]⟩) := by rw [cell_of_row _ _ _ _ _ _ HROW.out]; rfl
  have fz : wq.frozen? ⟨w.heap.size, 0, none⟩ = false := by simp [World.frozen?, HROW.out]
  have fz1 : wq.frozen? ⟨w.heap.size, 1, none⟩ = false := by simp [World.frozen?, HROW.out]
  have fz2 : wq.frozen? ⟨w.heap.size, 2, none⟩ = false := by simp [World.frozen?, HROW.out]
  have fz3 : wq.frozen? ⟨w.heap.size, 3, none⟩ = false := by simp [World.frozen?, HROW.out]
  clear hHeld RD
  go_wp2_with fail
  refine (CS.out _).mono ?_
  rintro e w3 ⟨rfl, rfl⟩
  go_wp2
  exact lineD_close2 (R := fun e => ∃ w0 o t l0, e = .returned (.tuple #[.agg #[.string w0, .int .i64 o, .int .i64 t, .string l0], .bool false])) HROW.out rfl rfl (Nat.le_refl _) BB.out ⟨_, _, _, _, rfl⟩
set_option maxRecDepth 100000 in
set_option maxHeartbeats 4000000 in
theorem parse_strike3 (s : ByteArray) (n : Nat) (P : List ByteArray) (m1 : Int) (w : World) (hs : s.size ≤ 100000) (hn : n ≤ 100000) (hP : prtB 32 s = P) (hL : P.length = 3) (h0 : pk P 0 = decB n) (hsh : shapeQ (pk P 1) = (m1, 0, false)) (hm : m1 ≠ 0) :
  Calls Tryz.prog 95 #[.string s, .int .i64 n] w fun e w' => e = .returned (.tuple #[.agg #[.string (pk P 1), .int .i64 (numV (pk P 2)), .int .i64 0, .string ⟨#[]⟩], .bool (okN (pk P 2) m1)]) ∧ Below w.heap.size w w' := by
 have CP := Lib.hid (fun W => parts2_any s 32 W (by omega))
 have CD := Lib.hid (fun W => dec2_any n W (by omega))
 have CS := Lib.hid (fun W => shape_any (pk P 1) W)
 have SZ := Lib.hid (fun i => prt_size s i)
 rw [hP] at CP SZ
 have BB := Lib.hid (below_a1 w (.cells #[.string ⟨#[]⟩, .int .i64 0, .int .i64 0, .string ⟨#[]⟩] 61))
 have HROW := Lib.hid (show (w.alloc (.cells #[.string ⟨#[]⟩, .int .i64 0, .int .i64 0, .string ⟨#[]⟩] 61)).heap[w.heap.size]? = some (.cells #[.string ⟨#[]⟩, .int .i64 0, .int .i64 0, .string ⟨#[]⟩] 61 (0, 0)) from heap_alloc_new _ _)
 go_enter Tryz.func95, Tryz.ntmps95
 go_wp2_with fail
 refine (CP.out _).mono ?_
 rintro e w1 ⟨⟨A, c, rfl, ho⟩, hb⟩
 rw [hL]
 replace BB := Lib.hid (below2 BB.out hb)
 replace HROW := Lib.hid ((hb.block w.heap.size (by rw [World.size_alloc]; omega)).trans HROW.out)
 have RD := Lib.hid (ho.rs encS)
 have hlo := ho.lt_
 have hz := hb.size
 clear hb ho
 have hcap : P.length ≤ c := RD.out.1
 have hmax : c ≤ 9223372036854775807 := RD.out.2.1
 rw [World.size_alloc] at hz
 obtain ⟨b, off, y0, hy0, rfl, hbb, d0⟩ := RD.out.atS (i := 0) (by omega)
 rw [pk_at (by omega)] at hy0
 rw [Nat.add_zero] at d0
 have z0 : y0.size ≤ 100000 := by have := SZ.out 0; rw [← hy0] at this; omega
 have HY0 := Lib.hid hy0
 clear hy0
 obtain ⟨b', off', y1, hy1, hee, -, d1⟩ := RD.out.atS (i := 1) (by omega)
 cases hee
 rw [pk_at (by omega)] at hy1
 have z1 : y1.size ≤ 100000 := by have := SZ.out 1; rw [← hy1] at this; omega
 have HY1 := Lib.hid hy1
 clear hy1
 obtain ⟨b', off', y2, hy2, hee, -, d2⟩ := RD.out.atS (i := 2) (by omega)
 cases hee
 rw [pk_at (by omega)] at hy2
 have z2 : y2.size ≤ 100000 := by have := SZ.out 2; rw [← hy2] at this; omega
 have HY2 := Lib.hid hy2
 clear hy2
 have hlb := hlo b rfl
 clear hlo
 rw [World.size_alloc] at hlb
 have hne : w.heap.size ≠ b := by omega
 have hne2 : b ≠ w.heap.size := by omega
 have hm1 : (m1 == 0) = false := by simp [hm]
 have hd : (y0.toList == (decB n).toList) = true := by have := word_eq y0 (decB n); rw [this]; exact decide_eq_true (by rw [HY0.out]; exact h0)
 have hl2 : decide ((P.length : Int) < 2) = false := decide_eq_false (by omega)
 have hl2n : ¬ (P.length : Int) < 2 := by omega
 have hl0 : 0 < P.length := by omega
 have hl1 : 1 < P.length := by omega
 have hsh' : shapeQ y1 = (m1, 0, false) := by rw [HY1.out]; exact hsh
 replace CS := Lib.hid (fun W => shape_any y1 W)
 rw [hsh'] at CS
 clear hsh hsh'
 go_wp2_with fail
 refine wp_region_held_drew (S := fun W => Below w1.heap.size w1 W ∧ W.cell? ⟨b, off, none⟩ = some (.string y0)) (by kernel_rfl) ?_ (fun hHeld => ?_)
 ·first | exact ⟨Below.refl _ _, d0⟩ | exact ⟨belowD (Below.refl _ _), cB (belowD (Below.refl _ _)) d0⟩ | exact ⟨belowDN (Below.refl _ _) 1, d0⟩
 refine tk (i := 0) (v := ?_) rfl (Or.inl ⟨by rfl, ?_⟩) hHeld ?_
 rotate_left 1
 ·(intro w hSw; (try dsimp only at hSw); go_simp; try with_reducible rfl)
 try simp only [gA, Act.put]
 refine tk (i := 1) (v := ?_) rfl (Or.inl ⟨by rfl, ?_⟩) hHeld ?_
 rotate_left 1
 ·(intro w hSw; (try dsimp only at hSw); go_simp; try with_reducible rfl)
 try simp only [gA, Act.put]
 refine tk (i := 2) (v := ?_) rfl (Or.inl ⟨by rfl, ?_⟩) hHeld ?_
 rotate_left 1
 ·(intro w hSw; (try dsimp only at hSw); go_simp; try with_reducible rfl)
 try simp only [gA, Act.put]
 refine tk (i := 3) (v := ?_) rfl (Or.inl ⟨by rfl, ?_⟩) hHeld ?_
 rotate_left 1
 ·(intro w hSw; (try dsimp only at hSw); go_simp; try with_reducible rfl)
 try simp only [gA, Act.put]
 refine tk (i := 4) (v := ?_) rfl (Or.inl ⟨by rfl, ?_⟩) hHeld ?_
 rotate_left 1
 ·(intro w hSw; (try dsimp only at hSw); go_simp; try with_reducible rfl)
 try simp only [gA, Act.put]
 refine tk (i := 5) (v := ?_) rfl (Or.inl ⟨by rfl, ?_⟩) hHeld ?_
 rotate_left 1
 ·(intro w hSw; (try dsimp only at hSw); go_simp; try with_reducible rfl)
 try simp only [gA, Act.put]
 refine tk (i := 6) (v := ?_) rfl (Or.inl ⟨by rfl, ?_⟩) hHeld ?_
 rotate_left 1
 ·(intro w hSw; (try dsimp only at hSw); go_simp; try with_reducible rfl)
 try simp only [gA, Act.put]
 refine tk (i := 7) (v := ?_) rfl (Or.inl ⟨by rfl, ?_⟩) hHeld ?_
 rotate_left 1
 ·(intro w hSw; (try dsimp only at hSw); go_simp; try with_reducible rfl)
 try simp only [gA, Act.put]
 refine wpAnyH_ready (rs := [8]) (by kernel_rfl) (by simp) ?_
 refine AllReadyH.cons rfl (fun K hK => ?_) AllReadyH.nil
 go_simp
 go_at_call 46
 refine (CD.out _).mono ?_
 rintro e wq ⟨rfl, hbq⟩
 go_wp2_with fail
 refine hK.out _ _ ?_ (fun hHeld => ?_)
 ·exact ⟨below2 hHeld.1 hbq, cB hbq hHeld.2⟩
 clear hK K
 try simp only [gA, Act.put]
 refine tk (i := 9) (v := ?_) rfl (Or.inl ⟨by rfl, ?_⟩) hHeld ?_
 rotate_left 1
 ·(intro w hSw; (try dsimp only at hSw); go_simp; try with_reducible rfl)
 try simp only [gA, Act.put]
 refine tk (i := 10) (v := ?_) rfl (Or.inl ⟨by rfl, ?_⟩) hHeld ?_
 rotate_left 1
 ·(intro w hSw; (try dsimp only at hSw); go_simp; try with_reducible rfl)
 try simp only [gA, Act.put]
 refine wpAnyH_done (by kernel_rfl) ?_ _
 rotate_left 1
 all_goals
  replace d1 := cB hHeld.1 d1
  replace d2 := cB hHeld.1 d2
  replace d0 := hHeld.2
  replace BB := Lib.hid (below2 BB.out hHeld.1)
  replace HROW := Lib.hid ((hHeld.1.block w.heap.size (by omega)).trans HROW.out)
  have hzq := hHeld.1.size
  have hbl : b < wq.heap.size := by omega
  have hwl : w.heap.size < wq.heap.size := by omega
  have hwl2 : w.heap.size ≠ wq.heap.size := by omega
  have hbl2 : b ≠ wq.heap.size := by omega
  have r0 : wq.cell? ⟨w.heap.size, 0, none⟩ = some (.string ⟨#[]⟩) := by rw [cell_of_row _ _ _ _ _ _ HROW.out]; rfl
  have r1 : wq.cell? ⟨w.heap.size, 1, none⟩ = some (.int .i64 0) := by rw [cell_of_row _ _ _ _ _ _ HROW.out]; rfl
  have r2 : wq.cell? ⟨w.heap.size, 2, none⟩ = some (.int .i64 0) := by rw [cell_of_row _ _ _ _ _ _ HROW.out]; rfl
  have r3 : wq.cell? ⟨w.heap.size, 3, none⟩ = some (.string ⟨#[]⟩) := by rw [cell_of_row _ _ _ _ _ _ HROW.out]; rfl
  have fz : wq.frozen? ⟨w.heap.size, 0, none⟩ = false := by simp [World.frozen?, HROW.out]
  have fz1 : wq.frozen? ⟨w.heap.size, 1, none⟩ = false := by simp [World.frozen?, HROW.out]
  have fz2 : wq.frozen? ⟨w.heap.size, 2, none⟩ = false := by simp [World.frozen?, HROW.out]
  have fz3 : wq.frozen? ⟨w.heap.size, 3, none⟩ = false := by simp [World.frozen?, HROW.out]
  clear hHeld RD
  go_wp2_with fail
  refine (CS.out _).mono ?_
  rintro e w3 ⟨rfl, rfl⟩
  go_wp2_with fail
  refine (numberTo_any y2 m1 _ (by omega)).mono ?_
  rintro e w4 ⟨rfl, rfl⟩
  obtain ⟨r, hr⟩ : ∃ r, okN y2 m1 = r := ⟨_, rfl⟩
  rw [hr]
  have HR := Lib.hid hr
  clear hr
  cases r with
  | true =>
   go_wp2
   all_goals exact lineD_close2 (R := fun e => e = .returned (.tuple #[.agg #[.string (pk P 1), .int .i64 (numV (pk P 2)), .int .i64 0, .string ⟨#[]⟩], .bool (okN (pk P 2) m1)])) HROW.out rfl rfl (Nat.le_refl _) BB.out (by rw [← HY1.out, ← HY2.out, HR.out])
  | false =>
   go_wp2
   all_goals exact lineD_close2 (R := fun e => e = .returned (.tuple #[.agg #[.string (pk P 1), .int .i64 (numV (pk P 2)), .int .i64 0, .string ⟨#[]⟩], .bool (okN (pk P 2) m1)])) HROW.out rfl rfl (Nat.le_refl _) BB.out (by rw [← HY1.out, ← HY2.out, HR.out])
set_option maxRecDepth 100000 in
set_option maxHeartbeats 4000000 in
theorem parse_two2 (s : ByteArray) (n : Nat) (P : List ByteArray) (m1 m2 : Int) (lt : Bool) (w : World) (hs : s.size ≤ 100000) (hn : n ≤ 100000) (hP : prtB 32 s = P) (hL : P.length = 2) (h0 : pk P 0 = decB n) (hsh : shapeQ (pk P 1) = (m1, m2, lt)) (hm : m1 ≠ 0) :
  Calls Tryz.prog 95 #[.string s, .int .i64 n] w fun e w' => (∃ w0 o t l0, e = .returned (.tuple #[.agg #[.string w0, .int .i64 o, .int .i64 t, .string l0], .bool false])) ∧ Below w.heap.size w w' := by
 have CP := Lib.hid (fun W => parts2_any s 32 W (by omega))
 have CD := Lib.hid (fun W => dec2_any n W (by omega))
 have CS := Lib.hid (fun W => shape_any (pk P 1) W)
 have SZ := Lib.hid (fun i => prt_size s i)
 rw [hP] at CP SZ
 have BB := Lib.hid (below_a1 w (.cells #[.string ⟨#[]⟩, .int .i64 0, .int .i64 0, .string ⟨#[]⟩] 61))
 have HROW := Lib.hid (show (w.alloc (.cells #[.string ⟨#[]⟩, .int .i64 0, .int .i64 0, .string ⟨#[]⟩] 61)).heap[w.heap.size]? = some (.cells #[.string ⟨#[]⟩, .int .i64 0, .int .i64 0, .string ⟨#[]⟩] 61 (0, 0)) from heap_alloc_new _ _)
 go_enter Tryz.func95, Tryz.ntmps95
 go_wp2_with fail
 refine (CP.out _).mono ?_
 rintro e w1 ⟨⟨A, c, rfl, ho⟩, hb⟩
 rw [hL]
 replace BB := Lib.hid (below2 BB.out hb)
 replace HROW := Lib.hid ((hb.block w.heap.size (by rw [World.size_alloc]; omega)).trans HROW.out)
 have RD := Lib.hid (ho.rs encS)
 have hlo := ho.lt_
 have hz := hb.size
 clear hb ho
 have hcap : P.length ≤ c := RD.out.1
 have hmax : c ≤ 9223372036854775807 := RD.out.2.1
 rw [World.size_alloc] at hz
 obtain ⟨b, off, y0, hy0, rfl, hbb, d0⟩ := RD.out.atS (i := 0) (by omega)
 rw [pk_at (by omega)] at hy0
 rw [Nat.add_zero] at d0
 have z0 : y0.size ≤ 100000 := by have := SZ.out 0; rw [← hy0] at this; omega
 have HY0 := Lib.hid hy0
 clear hy0
 obtain ⟨b', off', y1, hy1, hee, -, d1⟩ := RD.out.atS (i := 1) (by omega)
 cases hee
 rw [pk_at (by omega)] at hy1
 have z1 : y1.size ≤ 100000 := by have := SZ.out 1; rw [← hy1] at this; omega
 have HY1 := Lib.hid hy1
 clear hy1
 have hlb := hlo b rfl
 clear hlo
 rw [World.size_alloc] at hlb
 have hne : w.heap.size ≠ b := by omega
 have hne2 : b ≠ w.heap.size := by omega
 have hm1 : (m1 == 0) = false := by simp [hm]
 have hd : (y0.toList == (decB n).toList) = true := by have := word_eq y0 (decB n); rw [this]; exact decide_eq_true (by rw [HY0.out]; exact h0)
 have hl2 : decide ((P.length : Int) < 2) = false := decide_eq_false (by omega)
 have hl2n : ¬ (P.length : Int) < 2 := by omega
 have hl0 : 0 < P.length := by omega
 have hl1 : 1 < P.length := by omega
 have hsh' : shapeQ y1 = (m1, m2, lt) := by rw [HY1.out]; exact hsh
 replace CS := Lib.hid (fun W => shape_any y1 W)
 rw [hsh'] at CS
 clear hsh hsh'
 go_wp2_with fail
 refine wp_region_held_drew (S := fun W => Below w1.heap.size w1 W ∧ W.cell? ⟨b, off, none⟩ = some (.string y0)) (by kernel_rfl) ?_ (fun hHeld => ?_)
 ·first | exact ⟨Below.refl _ _, d0⟩ | exact ⟨belowD (Below.refl _ _), cB (belowD (Below.refl _ _)) d0⟩ | exact ⟨belowDN (Below.refl _ _) 1, d0⟩
 refine tk (i := 0) (v := ?_) rfl (Or.inl ⟨by rfl, ?_⟩) hHeld ?_
 rotate_left 1
 ·(intro w hSw; (try dsimp only at hSw); go_simp; try with_reducible rfl)
 try simp only [gA, Act.put]
 refine tk (i := 1) (v := ?_) rfl (Or.inl ⟨by rfl, ?_⟩) hHeld ?_
 rotate_left 1
 ·(intro w hSw; (try dsimp only at hSw); go_simp; try with_reducible rfl)
 try simp only [gA, Act.put]
 refine tk (i := 2) (v := ?_) rfl (Or.inl ⟨by rfl, ?_⟩) hHeld ?_
 rotate_left 1
 ·(intro w hSw; (try dsimp only at hSw); go_simp; try with_reducible rfl)
 try simp only [gA, Act.put]
 refine tk (i := 3) (v := ?_) rfl (Or.inl ⟨by rfl, ?_⟩) hHeld ?_
 rotate_left 1
 ·(intro w hSw; (try dsimp only at hSw); go_simp; try with_reducible rfl)
 try simp only [gA, Act.put]
 refine tk (i := 4) (v := ?_) rfl (Or.inl ⟨by rfl, ?_⟩) hHeld ?_
 rotate_left 1
 ·(intro w hSw; (try dsimp only at hSw); go_simp; try with_reducible rfl)
 try simp only [gA, Act.put]
 refine tk (i := 5) (v := ?_) rfl (Or.inl ⟨by rfl, ?_⟩) hHeld ?_
 rotate_left 1
 ·(intro w hSw; (try dsimp only at hSw); go_simp; try with_reducible rfl)
 try simp only [gA, Act.put]
 refine tk (i := 6) (v := ?_) rfl (Or.inl ⟨by rfl, ?_⟩) hHeld ?_
 rotate_left 1
 ·(intro w hSw; (try dsimp only at hSw); go_simp; try with_reducible rfl)
 try simp only [gA, Act.put]
 refine tk (i := 7) (v := ?_) rfl (Or.inl ⟨by rfl, ?_⟩) hHeld ?_
 rotate_left 1
 ·(intro w hSw; (try dsimp only at hSw); go_simp; try with_reducible rfl)
 try simp only [gA, Act.put]
 refine wpAnyH_ready (rs := [8]) (by kernel_rfl) (by simp) ?_
 refine AllReadyH.cons rfl (fun K hK => ?_) AllReadyH.nil
 go_simp
 go_at_call 46
 refine (CD.out _).mono ?_
 rintro e wq ⟨rfl, hbq⟩
 go_wp2_with fail
 refine hK.out _ _ ?_ (fun hHeld => ?_)
 ·exact ⟨below2 hHeld.1 hbq, cB hbq hHeld.2⟩
 clear hK K
 try simp only [gA, Act.put]
 refine tk (i := 9) (v := ?_) rfl (Or.inl ⟨by rfl, ?_⟩) hHeld ?_
 rotate_left 1
 ·(intro w hSw; (try dsimp only at hSw); go_simp; try with_reducible rfl)
 try simp only [gA, Act.put]
 refine tk (i := 10) (v := ?_) rfl (Or.inl ⟨by rfl, ?_⟩) hHeld ?_
 rotate_left 1
 ·(intro w hSw; (try dsimp only at hSw); go_simp; try with_reducible rfl)
 try simp only [gA, Act.put]
 refine wpAnyH_done (by kernel_rfl) ?_ _
 rotate_left 1
 all_goals
  replace d1 := cB hHeld.1 d1
  replace d0 := hHeld.2
  replace BB := Lib.hid (below2 BB.out hHeld.1)
  replace HROW := Lib.hid ((hHeld.1.block w.heap.size (by omega)).trans HROW.out)
  have hzq := hHeld.1.size
  have hbl : b < wq.heap.size := by omega
  have hwl : w.heap.size < wq.heap.size := by omega
  have hwl2 : w.heap.size ≠ wq.heap.size := by omega
  have hbl2 : b ≠ wq.heap.size := by omega
  have r0 : wq.cell? ⟨w.heap.size, 0, none⟩ = some (.string ⟨#[]⟩) := by rw [cell_of_row _ _ _ _ _ _ HROW.out]; rfl
  have r1 : wq.cell? ⟨w.heap.size, 1, none⟩ = some (.int .i64 0) := by rw [cell_of_row _ _ _ _ _ _ HROW.out]; rfl
  have r2 : wq.cell? ⟨w.heap.size, 2, none⟩ = some (.int .i64 0) := by rw [cell_of_row _ _ _ _ _ _ HROW.out]; rfl
  have r3 : wq.cell? ⟨w.heap.size, 3, none⟩ = some (.string ⟨#[]⟩) := by rw [cell_of_row _ _ _ _ _ _ HROW.out]; rfl
  have fz : wq.frozen? ⟨w.heap.size, 0, none⟩ = false := by simp [World.frozen?, HROW.out]
  have fz1 : wq.frozen? ⟨w.heap.size, 1, none⟩ = false := by simp [World.frozen?, HROW.out]
  have fz2 : wq.frozen? ⟨w.heap.size, 2, none⟩ = false := by simp [World.frozen?, HROW.out]
  have fz3 : wq.frozen? ⟨w.heap.size, 3, none⟩ = false := by simp [World.frozen?, HROW.out]
  clear hHeld RD
  go_wp2_with fail
  refine (CS.out _).mono ?_
  rintro e w3 ⟨rfl, rfl⟩
  go_wp2
  all_goals exact lineD_close2 (R := fun e => ∃ w0 o t l0, e = .returned (.tuple #[.agg #[.string w0, .int .i64 o, .int .i64 t, .string l0], .bool false])) HROW.out rfl rfl (Nat.le_refl _) BB.out ⟨_, _, _, _, rfl⟩
set_option maxRecDepth 100000 in
set_option maxHeartbeats 4000000 in
theorem parse_two3 (s : ByteArray) (n : Nat) (P : List ByteArray) (m1 m2 : Int) (w : World) (hs : s.size ≤ 100000) (hn : n ≤ 100000) (hP : prtB 32 s = P) (hL : P.length = 3) (h0 : pk P 0 = decB n) (hsh : shapeQ (pk P 1) = (m1, m2, false)) (hm : m1 ≠ 0) (hm2 : 0 < m2) :
  Calls Tryz.prog 95 #[.string s, .int .i64 n] w fun e w' => (∃ w0 o t l0, e = .returned (.tuple #[.agg #[.string w0, .int .i64 o, .int .i64 t, .string l0], .bool false])) ∧ Below w.heap.size w w' := by
 have CP := Lib.hid (fun W => parts2_any s 32 W (by omega))
 have CD := Lib.hid (fun W => dec2_any n W (by omega))
 have CS := Lib.hid (fun W => shape_any (pk P 1) W)
 have SZ := Lib.hid (fun i => prt_size s i)
 rw [hP] at CP SZ
 have BB := Lib.hid (below_a1 w (.cells #[.string ⟨#[]⟩, .int .i64 0, .int .i64 0, .string ⟨#[]⟩] 61))
 have HROW := Lib.hid (show (w.alloc (.cells #[.string ⟨#[]⟩, .int .i64 0, .int .i64 0, .string ⟨#[]⟩] 61)).heap[w.heap.size]? = some (.cells #[.string ⟨#[]⟩, .int .i64 0, .int .i64 0, .string ⟨#[]⟩] 61 (0, 0)) from heap_alloc_new _ _)
 go_enter Tryz.func95, Tryz.ntmps95
 go_wp2_with fail
 refine (CP.out _).mono ?_
 rintro e w1 ⟨⟨A, c, rfl, ho⟩, hb⟩
 rw [hL]
 replace BB := Lib.hid (below2 BB.out hb)
 replace HROW := Lib.hid ((hb.block w.heap.size (by rw [World.size_alloc]; omega)).trans HROW.out)
 have RD := Lib.hid (ho.rs encS)
 have hlo := ho.lt_
 have hz := hb.size
 clear hb ho
 have hcap : P.length ≤ c := RD.out.1
 have hmax : c ≤ 9223372036854775807 := RD.out.2.1
 rw [World.size_alloc] at hz
 obtain ⟨b, off, y0, hy0, rfl, hbb, d0⟩ := RD.out.atS (i := 0) (by omega)
 rw [pk_at (by omega)] at hy0
 rw [Nat.add_zero] at d0
 have z0 : y0.size ≤ 100000 := by have := SZ.out 0; rw [← hy0] at this; omega
 have HY0 := Lib.hid hy0
 clear hy0
 obtain ⟨b', off', y1, hy1, hee, -, d1⟩ := RD.out.atS (i := 1) (by omega)
 cases hee
 rw [pk_at (by omega)] at hy1
 have z1 : y1.size ≤ 100000 := by have := SZ.out 1; rw [← hy1] at this; omega
 have HY1 := Lib.hid hy1
 clear hy1
 obtain ⟨b', off', y2, hy2, hee, -, d2⟩ := RD.out.atS (i := 2) (by omega)
 cases hee
 rw [pk_at (by omega)] at hy2
 have z2 : y2.size ≤ 100000 := by have := SZ.out 2; rw [← hy2] at this; omega
 have HY2 := Lib.hid hy2
 clear hy2
 have hlb := hlo b rfl
 clear hlo
 rw [World.size_alloc] at hlb
 have hne : w.heap.size ≠ b := by omega
 have hne2 : b ≠ w.heap.size := by omega
 have hm1 : (m1 == 0) = false := by simp [hm]
 have hm2d : decide (0 < m2) = true := decide_eq_true hm2
 have hd : (y0.toList == (decB n).toList) = true := by have := word_eq y0 (decB n); rw [this]; exact decide_eq_true (by rw [HY0.out]; exact h0)
 have hl2 : decide ((P.length : Int) < 2) = false := decide_eq_false (by omega)
 have hl2n : ¬ (P.length : Int) < 2 := by omega
 have hl0 : 0 < P.length := by omega
 have hl1 : 1 < P.length := by omega
 have hsh' : shapeQ y1 = (m1, m2, false) := by rw [HY1.out]; exact hsh
 replace CS := Lib.hid (fun W => shape_any y1 W)
 rw [hsh'] at CS
 clear hsh hsh'
 go_wp2_with fail
 refine wp_region_held_drew (S := fun W => Below w1.heap.size w1 W ∧ W.cell? ⟨b, off, none⟩ = some (.string y0)) (by kernel_rfl) ?_ (fun hHeld => ?_)
 ·first | exact ⟨Below.refl _ _, d0⟩ | exact ⟨belowD (Below.refl _ _), cB (belowD (Below.refl _ _)) d0⟩ | exact ⟨belowDN (Below.refl _ _) 1, d0⟩
 refine tk (i := 0) (v := ?_) rfl (Or.inl ⟨by rfl, ?_⟩) hHeld ?_
 rotate_left 1
 ·(intro w hSw; (try dsimp only at hSw); go_simp; try with_reducible rfl)
 try simp only [gA, Act.put]
 refine tk (i := 1) (v := ?_) rfl (Or.inl ⟨by rfl, ?_⟩) hHeld ?_
 rotate_left 1
 ·(intro w hSw; (try dsimp only at hSw); go_simp; try with_reducible rfl)
 try simp only [gA, Act.put]
 refine tk (i := 2) (v := ?_) rfl (Or.inl ⟨by rfl, ?_⟩) hHeld ?_
 rotate_left 1
 ·(intro w hSw; (try dsimp only at hSw); go_simp; try with_reducible rfl)
 try simp only [gA, Act.put]
 refine tk (i := 3) (v := ?_) rfl (Or.inl ⟨by rfl, ?_⟩) hHeld ?_
 rotate_left 1
 ·(intro w hSw; (try dsimp only at hSw); go_simp; try with_reducible rfl)
 try simp only [gA, Act.put]
 refine tk (i := 4) (v := ?_) rfl (Or.inl ⟨by rfl, ?_⟩) hHeld ?_
 rotate_left 1
 ·(intro w hSw; (try dsimp only at hSw); go_simp; try with_reducible rfl)
 try simp only [gA, Act.put]
 refine tk (i := 5) (v := ?_) rfl (Or.inl ⟨by rfl, ?_⟩) hHeld ?_
 rotate_left 1
 ·(intro w hSw; (try dsimp only at hSw); go_simp; try with_reducible rfl)
 try simp only [gA, Act.put]
 refine tk (i := 6) (v := ?_) rfl (Or.inl ⟨by rfl, ?_⟩) hHeld ?_
 rotate_left 1
 ·(intro w hSw; (try dsimp only at hSw); go_simp; try with_reducible rfl)
 try simp only [gA, Act.put]
 refine tk (i := 7) (v := ?_) rfl (Or.inl ⟨by rfl, ?_⟩) hHeld ?_
 rotate_left 1
 ·(intro w hSw; (try dsimp only at hSw); go_simp; try with_reducible rfl)
 try simp only [gA, Act.put]
 refine wpAnyH_ready (rs := [8]) (by kernel_rfl) (by simp) ?_
 refine AllReadyH.cons rfl (fun K hK => ?_) AllReadyH.nil
 go_simp
 go_at_call 46
 refine (CD.out _).mono ?_
 rintro e wq ⟨rfl, hbq⟩
 go_wp2_with fail
 refine hK.out _ _ ?_ (fun hHeld => ?_)
 ·exact ⟨below2 hHeld.1 hbq, cB hbq hHeld.2⟩
 clear hK K
 try simp only [gA, Act.put]
 refine tk (i := 9) (v := ?_) rfl (Or.inl ⟨by rfl, ?_⟩) hHeld ?_
 rotate_left 1
 ·(intro w hSw; (try dsimp only at hSw); go_simp; try with_reducible rfl)
 try simp only [gA, Act.put]
 refine tk (i := 10) (v := ?_) rfl (Or.inl ⟨by rfl, ?_⟩) hHeld ?_
 rotate_left 1
 ·(intro w hSw; (try dsimp only at hSw); go_simp; try with_reducible rfl)
 try simp only [gA, Act.put]
 refine wpAnyH_done (by kernel_rfl) ?_ _
 rotate_left 1
 all_goals
  replace d1 := cB hHeld.1 d1
  replace d2 := cB hHeld.1 d2
  replace d0 := hHeld.2
  replace BB := Lib.hid (below2 BB.out hHeld.1)
  replace HROW := Lib.hid ((hHeld.1.block w.heap.size (by omega)).trans HROW.out)
  have hzq := hHeld.1.size
  have hbl : b < wq.heap.size := by omega
  have hwl : w.heap.size < wq.heap.size := by omega
  have hwl2 : w.heap.size ≠ wq.heap.size := by omega
  have hbl2 : b ≠ wq.heap.size := by omega
  have r0 : wq.cell? ⟨w.heap.size, 0, none⟩ = some (.string ⟨#[]⟩) := by rw [cell_of_row _ _ _ _ _ _ HROW.out]; rfl
  have r1 : wq.cell? ⟨w.heap.size, 1, none⟩ = some (.int .i64 0) := by rw [cell_of_row _ _ _ _ _ _ HROW.out]; rfl
  have r2 : wq.cell? ⟨w.heap.size, 2, none⟩ = some (.int .i64 0) := by rw [cell_of_row _ _ _ _ _ _ HROW.out]; rfl
  have r3 : wq.cell? ⟨w.heap.size, 3, none⟩ = some (.string ⟨#[]⟩) := by rw [cell_of_row _ _ _ _ _ _ HROW.out]; rfl
  have fz : wq.frozen? ⟨w.heap.size, 0, none⟩ = false := by simp [World.frozen?, HROW.out]
  have fz1 : wq.frozen? ⟨w.heap.size, 1, none⟩ = false := by simp [World.frozen?, HROW.out]
  have fz2 : wq.frozen? ⟨w.heap.size, 2, none⟩ = false := by simp [World.frozen?, HROW.out]
  have fz3 : wq.frozen? ⟨w.heap.size, 3, none⟩ = false := by simp [World.frozen?, HROW.out]
  clear hHeld RD
  go_wp2_with fail
  refine (CS.out _).mono ?_
  rintro e w3 ⟨rfl, rfl⟩
  go_wp2_with fail
  refine (numberTo_any y2 m1 _ (by omega)).mono ?_
  rintro e w4 ⟨rfl, rfl⟩
  go_wp2
  all_goals exact lineD_close2 (R := fun e => ∃ w0 o t l0, e = .returned (.tuple #[.agg #[.string w0, .int .i64 o, .int .i64 t, .string l0], .bool false])) HROW.out rfl rfl (Nat.le_refl _) BB.out ⟨_, _, _, _, rfl⟩
end Go.Proofs.YtcnpbcgkhhebaaaGreatDoor
/- The document: a line is parsed (lt3, two4, strikeL, one). -/
namespace Go.Proofs.YtcnpbcgkhhebaaaGreatDoor
open Go.RowKit

set_option maxRecDepth 100000 in
set_option maxHeartbeats 4000000 in
theorem parse_lt3 (s : ByteArray) (n : Nat) (P : List ByteArray) (m1 m2 : Int) (w : World) (hs : s.size ≤ 100000) (hn : n ≤ 100000) (hP : prtB 32 s = P) (hL : P.length = 3) (h0 : pk P 0 = decB n) (hsh : shapeQ (pk P 1) = (m1, m2, true)) (hm : m1 ≠ 0) :
  Calls Tryz.prog 95 #[.string s, .int .i64 n] w fun e w' => (∃ w0 o t l0, e = .returned (.tuple #[.agg #[.string w0, .int .i64 o, .int .i64 t, .string l0], .bool false])) ∧ Below w.heap.size w w' := by
 have CP := Lib.hid (fun W => parts2_any s 32 W (by omega))
 have CD := Lib.hid (fun W => dec2_any n W (by omega))
 have CS := Lib.hid (fun W => shape_any (pk P 1) W)
 have SZ := Lib.hid (fun i => prt_size s i)
 rw [hP] at CP SZ
 have BB := Lib.hid (below_a1 w (.cells #[.string ⟨#[]⟩, .int .i64 0, .int .i64 0, .string ⟨#[]⟩] 61))
 have HROW := Lib.hid (show (w.alloc (.cells #[.string ⟨#[]⟩, .int .i64 0, .int .i64 0, .string ⟨#[]⟩] 61)).heap[w.heap.size]? = some (.cells #[.string ⟨#[]⟩, .int .i64 0, .int .i64 0, .string ⟨#[]⟩] 61 (0, 0)) from heap_alloc_new _ _)
 go_enter Tryz.func95, Tryz.ntmps95
 go_wp2_with fail
 refine (CP.out _).mono ?_
 rintro e w1 ⟨⟨A, c, rfl, ho⟩, hb⟩
 rw [hL]
 replace BB := Lib.hid (below2 BB.out hb)
 replace HROW := Lib.hid ((hb.block w.heap.size (by rw [World.size_alloc]; omega)).trans HROW.out)
 have RD := Lib.hid (ho.rs encS)
 have hlo := ho.lt_
 have hz := hb.size
 clear hb ho
 have hcap : P.length ≤ c := RD.out.1
 have hmax : c ≤ 9223372036854775807 := RD.out.2.1
 rw [World.size_alloc] at hz
 obtain ⟨b, off, y0, hy0, rfl, hbb, d0⟩ := RD.out.atS (i := 0) (by omega)
 rw [pk_at (by omega)] at hy0
 rw [Nat.add_zero] at d0
 have z0 : y0.size ≤ 100000 := by have := SZ.out 0; rw [← hy0] at this; omega
 have HY0 := Lib.hid hy0
 clear hy0
 obtain ⟨b', off', y1, hy1, hee, -, d1⟩ := RD.out.atS (i := 1) (by omega)
 cases hee
 rw [pk_at (by omega)] at hy1
 have z1 : y1.size ≤ 100000 := by have := SZ.out 1; rw [← hy1] at this; omega
 have HY1 := Lib.hid hy1
 clear hy1
 obtain ⟨b', off', y2, hy2, hee, -, d2⟩ := RD.out.atS (i := 2) (by omega)
 cases hee
 rw [pk_at (by omega)] at hy2
 have z2 : y2.size ≤ 100000 := by have := SZ.out 2; rw [← hy2] at this; omega
 have HY2 := Lib.hid hy2
 clear hy2
 have hlb := hlo b rfl
 clear hlo
 rw [World.size_alloc] at hlb
 have hne : w.heap.size ≠ b := by omega
 have hne2 : b ≠ w.heap.size := by omega
 have hm1 : (m1 == 0) = false := by simp [hm]
 have hd : (y0.toList == (decB n).toList) = true := by have := word_eq y0 (decB n); rw [this]; exact decide_eq_true (by rw [HY0.out]; exact h0)
 have hl2 : decide ((P.length : Int) < 2) = false := decide_eq_false (by omega)
 have hl2n : ¬ (P.length : Int) < 2 := by omega
 have hl0 : 0 < P.length := by omega
 have hl1 : 1 < P.length := by omega
 have hsh' : shapeQ y1 = (m1, m2, true) := by rw [HY1.out]; exact hsh
 replace CS := Lib.hid (fun W => shape_any y1 W)
 rw [hsh'] at CS
 clear hsh hsh'
 go_wp2_with fail
 refine wp_region_held_drew (S := fun W => Below w1.heap.size w1 W ∧ W.cell? ⟨b, off, none⟩ = some (.string y0)) (by kernel_rfl) ?_ (fun hHeld => ?_)
 ·first | exact ⟨Below.refl _ _, d0⟩ | exact ⟨belowD (Below.refl _ _), cB (belowD (Below.refl _ _)) d0⟩ | exact ⟨belowDN (Below.refl _ _) 1, d0⟩
 refine tk (i := 0) (v := ?_) rfl (Or.inl ⟨by rfl, ?_⟩) hHeld ?_
 rotate_left 1
 ·(intro w hSw; (try dsimp only at hSw); go_simp; try with_reducible rfl)
 try simp only [gA, Act.put]
 refine tk (i := 1) (v := ?_) rfl (Or.inl ⟨by rfl, ?_⟩) hHeld ?_
 rotate_left 1
 ·(intro w hSw; (try dsimp only at hSw); go_simp; try with_reducible rfl)
 try simp only [gA, Act.put]
 refine tk (i := 2) (v := ?_) rfl (Or.inl ⟨by rfl, ?_⟩) hHeld ?_
 rotate_left 1
 ·(intro w hSw; (try dsimp only at hSw); go_simp; try with_reducible rfl)
 try simp only [gA, Act.put]
 refine tk (i := 3) (v := ?_) rfl (Or.inl ⟨by rfl, ?_⟩) hHeld ?_
 rotate_left 1
 ·(intro w hSw; (try dsimp only at hSw); go_simp; try with_reducible rfl)
 try simp only [gA, Act.put]
 refine tk (i := 4) (v := ?_) rfl (Or.inl ⟨by rfl, ?_⟩) hHeld ?_
 rotate_left 1
 ·(intro w hSw; (try dsimp only at hSw); go_simp; try with_reducible rfl)
 try simp only [gA, Act.put]
 refine tk (i := 5) (v := ?_) rfl (Or.inl ⟨by rfl, ?_⟩) hHeld ?_
 rotate_left 1
 ·(intro w hSw; (try dsimp only at hSw); go_simp; try with_reducible rfl)
 try simp only [gA, Act.put]
 refine tk (i := 6) (v := ?_) rfl (Or.inl ⟨by rfl, ?_⟩) hHeld ?_
 rotate_left 1
 ·(intro w hSw; (try dsimp only at hSw); go_simp; try with_reducible rfl)
 try simp only [gA, Act.put]
 refine tk (i := 7) (v := ?_) rfl (Or.inl ⟨by rfl, ?_⟩) hHeld ?_
 rotate_left 1
 ·(intro w hSw; (try dsimp only at hSw); go_simp; try with_reducible rfl)
 try simp only [gA, Act.put]
 refine wpAnyH_ready (rs := [8]) (by kernel_rfl) (by simp) ?_
 refine AllReadyH.cons rfl (fun K hK => ?_) AllReadyH.nil
 go_simp
 go_at_call 46
 refine (CD.out _).mono ?_
 rintro e wq ⟨rfl, hbq⟩
 go_wp2_with fail
 refine hK.out _ _ ?_ (fun hHeld => ?_)
 ·exact ⟨below2 hHeld.1 hbq, cB hbq hHeld.2⟩
 clear hK K
 try simp only [gA, Act.put]
 refine tk (i := 9) (v := ?_) rfl (Or.inl ⟨by rfl, ?_⟩) hHeld ?_
 rotate_left 1
 ·(intro w hSw; (try dsimp only at hSw); go_simp; try with_reducible rfl)
 try simp only [gA, Act.put]
 refine tk (i := 10) (v := ?_) rfl (Or.inl ⟨by rfl, ?_⟩) hHeld ?_
 rotate_left 1
 ·(intro w hSw; (try dsimp only at hSw); go_simp; try with_reducible rfl)
 try simp only [gA, Act.put]
 refine wpAnyH_done (by kernel_rfl) ?_ _
 rotate_left 1
 all_goals
  replace d1 := cB hHeld.1 d1
  replace d2 := cB hHeld.1 d2
  replace d0 := hHeld.2
  replace BB := Lib.hid (below2 BB.out hHeld.1)
  replace HROW := Lib.hid ((hHeld.1.block w.heap.size (by omega)).trans HROW.out)
  have hzq := hHeld.1.size
  have hbl : b < wq.heap.size := by omega
  have hwl : w.heap.size < wq.heap.size := by omega
  have hwl2 : w.heap.size ≠ wq.heap.size := by omega
  have hbl2 : b ≠ wq.heap.size := by omega
  have r0 : wq.cell? ⟨w.heap.size, 0, none⟩ = some (.string ⟨#[]⟩) := by rw [cell_of_row _ _ _ _ _ _ HROW.out]; rfl
  have r1 : wq.cell? ⟨w.heap.size, 1, none⟩ = some (.int .i64 0) := by rw [cell_of_row _ _ _ _ _ _ HROW.out]; rfl
  have r2 : wq.cell? ⟨w.heap.size, 2, none⟩ = some (.int .i64 0) := by rw [cell_of_row _ _ _ _ _ _ HROW.out]; rfl
  have r3 : wq.cell? ⟨w.heap.size, 3, none⟩ = some (.string ⟨#[]⟩) := by rw [cell_of_row _ _ _ _ _ _ HROW.out]; rfl
  have fz : wq.frozen? ⟨w.heap.size, 0, none⟩ = false := by simp [World.frozen?, HROW.out]
  have fz1 : wq.frozen? ⟨w.heap.size, 1, none⟩ = false := by simp [World.frozen?, HROW.out]
  have fz2 : wq.frozen? ⟨w.heap.size, 2, none⟩ = false := by simp [World.frozen?, HROW.out]
  have fz3 : wq.frozen? ⟨w.heap.size, 3, none⟩ = false := by simp [World.frozen?, HROW.out]
  clear hHeld RD
  go_wp2_with fail
  refine (CS.out _).mono ?_
  rintro e w3 ⟨rfl, rfl⟩
  go_wp2_with fail
  refine (numberTo_any y2 m1 _ (by omega)).mono ?_
  rintro e w4 ⟨rfl, rfl⟩
  go_wp2
  all_goals exact lineD_close2 (R := fun e => ∃ w0 o t l0, e = .returned (.tuple #[.agg #[.string w0, .int .i64 o, .int .i64 t, .string l0], .bool false])) HROW.out rfl rfl (Nat.le_refl _) BB.out ⟨_, _, _, _, rfl⟩
set_option maxRecDepth 100000 in
set_option maxHeartbeats 4000000 in
theorem parse_two4 (s : ByteArray) (n : Nat) (P : List ByteArray) (m1 m2 : Int) (w : World) (hs : s.size ≤ 100000) (hn : n ≤ 100000) (hP : prtB 32 s = P) (hL : P.length = 4) (h0 : pk P 0 = decB n) (hsh : shapeQ (pk P 1) = (m1, m2, false)) (hm : m1 ≠ 0) (hm2 : 0 < m2) :
  Calls Tryz.prog 95 #[.string s, .int .i64 n] w fun e w' => e = .returned (.tuple #[.agg #[.string (pk P 1), .int .i64 (numV (pk P 2)), .int .i64 (numV (pk P 3)), .string ⟨#[]⟩], .bool (okN (pk P 2) m1 && okN (pk P 3) m2)]) ∧ Below w.heap.size w w' := by
 have CP := Lib.hid (fun W => parts2_any s 32 W (by omega))
 have CD := Lib.hid (fun W => dec2_any n W (by omega))
 have CS := Lib.hid (fun W => shape_any (pk P 1) W)
 have SZ := Lib.hid (fun i => prt_size s i)
 rw [hP] at CP SZ
 have BB := Lib.hid (below_a1 w (.cells #[.string ⟨#[]⟩, .int .i64 0, .int .i64 0, .string ⟨#[]⟩] 61))
 have HROW := Lib.hid (show (w.alloc (.cells #[.string ⟨#[]⟩, .int .i64 0, .int .i64 0, .string ⟨#[]⟩] 61)).heap[w.heap.size]? = some (.cells #[.string ⟨#[]⟩, .int .i64 0, .int .i64 0, .string ⟨#[]⟩] 61 (0, 0)) from heap_alloc_new _ _)
 go_enter Tryz.func95, Tryz.ntmps95
 go_wp2_with fail
 refine (CP.out _).mono ?_
 rintro e w1 ⟨⟨A, c, rfl, ho⟩, hb⟩
 rw [hL]
 replace BB := Lib.hid (below2 BB.out hb)
 replace HROW := Lib.hid ((hb.block w.heap.size (by rw [World.size_alloc]; omega)).trans HROW.out)
 have RD := Lib.hid (ho.rs encS)
 have hlo := ho.lt_
 have hz := hb.size
 clear hb ho
 have hcap : P.length ≤ c := RD.out.1
 have hmax : c ≤ 9223372036854775807 := RD.out.2.1
 rw [World.size_alloc] at hz
 obtain ⟨b, off, y0, hy0, rfl, hbb, d0⟩ := RD.out.atS (i := 0) (by omega)
 rw [pk_at (by omega)] at hy0
 rw [Nat.add_zero] at d0
 have z0 : y0.size ≤ 100000 := by have := SZ.out 0; rw [← hy0] at this; omega
 have HY0 := Lib.hid hy0
 clear hy0
 obtain ⟨b', off', y1, hy1, hee, -, d1⟩ := RD.out.atS (i := 1) (by omega)
 cases hee
 rw [pk_at (by omega)] at hy1
 have z1 : y1.size ≤ 100000 := by have := SZ.out 1; rw [← hy1] at this; omega
 have HY1 := Lib.hid hy1
 clear hy1
 obtain ⟨b', off', y2, hy2, hee, -, d2⟩ := RD.out.atS (i := 2) (by omega)
 cases hee
 rw [pk_at (by omega)] at hy2
 have z2 : y2.size ≤ 100000 := by have := SZ.out 2; rw [← hy2] at this; omega
 have HY2 := Lib.hid hy2
 clear hy2
 obtain ⟨b', off', y3, hy3, hee, -, d3⟩ := RD.out.atS (i := 3) (by omega)
 cases hee
 rw [pk_at (by omega)] at hy3
 have z3 : y3.size ≤ 100000 := by have := SZ.out 3; rw [← hy3] at this; omega
 have HY3 := Lib.hid hy3
 clear hy3
 have hlb := hlo b rfl
 clear hlo
 rw [World.size_alloc] at hlb
 have hne : w.heap.size ≠ b := by omega
 have hne2 : b ≠ w.heap.size := by omega
 have hm1 : (m1 == 0) = false := by simp [hm]
 have hm2d : decide (0 < m2) = true := decide_eq_true hm2
 have hd : (y0.toList == (decB n).toList) = true := by have := word_eq y0 (decB n); rw [this]; exact decide_eq_true (by rw [HY0.out]; exact h0)
 have hl2 : decide ((P.length : Int) < 2) = false := decide_eq_false (by omega)
 have hl2n : ¬ (P.length : Int) < 2 := by omega
 have hl0 : 0 < P.length := by omega
 have hl1 : 1 < P.length := by omega
 have hsh' : shapeQ y1 = (m1, m2, false) := by rw [HY1.out]; exact hsh
 replace CS := Lib.hid (fun W => shape_any y1 W)
 rw [hsh'] at CS
 clear hsh hsh'
 go_wp2_with fail
 refine wp_region_held_drew (S := fun W => Below w1.heap.size w1 W ∧ W.cell? ⟨b, off, none⟩ = some (.string y0)) (by kernel_rfl) ?_ (fun hHeld => ?_)
 ·first | exact ⟨Below.refl _ _, d0⟩ | exact ⟨belowD (Below.refl _ _), cB (belowD (Below.refl _ _)) d0⟩ | exact ⟨belowDN (Below.refl _ _) 1, d0⟩
 refine tk (i := 0) (v := ?_) rfl (Or.inl ⟨by rfl, ?_⟩) hHeld ?_
 rotate_left 1
 ·(intro w hSw; (try dsimp only at hSw); go_simp; try with_reducible rfl)
 try simp only [gA, Act.put]
 refine tk (i := 1) (v := ?_) rfl (Or.inl ⟨by rfl, ?_⟩) hHeld ?_
 rotate_left 1
 ·(intro w hSw; (try dsimp only at hSw); go_simp; try with_reducible rfl)
 try simp only [gA, Act.put]
 refine tk (i := 2) (v := ?_) rfl (Or.inl ⟨by rfl, ?_⟩) hHeld ?_
 rotate_left 1
 ·(intro w hSw; (try dsimp only at hSw); go_simp; try with_reducible rfl)
 try simp only [gA, Act.put]
 refine tk (i := 3) (v := ?_) rfl (Or.inl ⟨by rfl, ?_⟩) hHeld ?_
 rotate_left 1
 ·(intro w hSw; (try dsimp only at hSw); go_simp; try with_reducible rfl)
 try simp only [gA, Act.put]
 refine tk (i := 4) (v := ?_) rfl (Or.inl ⟨by rfl, ?_⟩) hHeld ?_
 rotate_left 1
 ·(intro w hSw; (try dsimp only at hSw); go_simp; try with_reducible rfl)
 try simp only [gA, Act.put]
 refine tk (i := 5) (v := ?_) rfl (Or.inl ⟨by rfl, ?_⟩) hHeld ?_
 rotate_left 1
 ·(intro w hSw; (try dsimp only at hSw); go_simp; try with_reducible rfl)
 try simp only [gA, Act.put]
 refine tk (i := 6) (v := ?_) rfl (Or.inl ⟨by rfl, ?_⟩) hHeld ?_
 rotate_left 1
 ·(intro w hSw; (try dsimp only at hSw); go_simp; try with_reducible rfl)
 try simp only [gA, Act.put]
 refine tk (i := 7) (v := ?_) rfl (Or.inl ⟨by rfl, ?_⟩) hHeld ?_
 rotate_left 1
 ·(intro w hSw; (try dsimp only at hSw); go_simp; try with_reducible rfl)
 try simp only [gA, Act.put]
 refine wpAnyH_ready (rs := [8]) (by kernel_rfl) (by simp) ?_
 refine AllReadyH.cons rfl (fun K hK => ?_) AllReadyH.nil
 go_simp
 go_at_call 46
 refine (CD.out _).mono ?_
 rintro e wq ⟨rfl, hbq⟩
 go_wp2_with fail
 refine hK.out _ _ ?_ (fun hHeld => ?_)
 ·exact ⟨below2 hHeld.1 hbq, cB hbq hHeld.2⟩
 clear hK K
 try simp only [gA, Act.put]
 refine tk (i := 9) (v := ?_) rfl (Or.inl ⟨by rfl, ?_⟩) hHeld ?_
 rotate_left 1
 ·(intro w hSw; (try dsimp only at hSw); go_simp; try with_reducible rfl)
 try simp only [gA, Act.put]
 refine tk (i := 10) (v := ?_) rfl (Or.inl ⟨by rfl, ?_⟩) hHeld ?_
 rotate_left 1
 ·(intro w hSw; (try dsimp only at hSw); go_simp; try with_reducible rfl)
 try simp only [gA, Act.put]
 refine wpAnyH_done (by kernel_rfl) ?_ _
 rotate_left 1
 all_goals
  replace d1 := cB hHeld.1 d1
  replace d2 := cB hHeld.1 d2
  replace d3 := cB hHeld.1 d3
  replace d0 := hHeld.2
  replace BB := Lib.hid (below2 BB.out hHeld.1)
  replace HROW := Lib.hid ((hHeld.1.block w.heap.size (by omega)).trans HROW.out)
  have hzq := hHeld.1.size
  have hbl : b < wq.heap.size := by omega
  have hwl : w.heap.size < wq.heap.size := by omega
  have hwl2 : w.heap.size ≠ wq.heap.size := by omega
  have hbl2 : b ≠ wq.heap.size := by omega
  have r0 : wq.cell? ⟨w.heap.size, 0, none⟩ = some (.string ⟨#[]⟩) := by rw [cell_of_row _ _ _ _ _ _ HROW.out]; rfl
  have r1 : wq.cell? ⟨w.heap.size, 1, none⟩ = some (.int .i64 0) := by rw [cell_of_row _ _ _ _ _ _ HROW.out]; rfl
  have r2 : wq.cell? ⟨w.heap.size, 2, none⟩ = some (.int .i64 0) := by rw [cell_of_row _ _ _ _ _ _ HROW.out]; rfl
  have r3 : wq.cell? ⟨w.heap.size, 3, none⟩ = some (.string ⟨#[]⟩) := by rw [cell_of_row _ _ _ _ _ _ HROW.out]; rfl
  have fz : wq.frozen? ⟨w.heap.size, 0, none⟩ = false := by simp [World.frozen?, HROW.out]
  have fz1 : wq.frozen? ⟨w.heap.size, 1, none⟩ = false := by simp [World.frozen?, HROW.out]
  have fz2 : wq.frozen? ⟨w.heap.size, 2, none⟩ = false := by simp [World.frozen?, HROW.out]
  have fz3 : wq.frozen? ⟨w.heap.size, 3, none⟩ = false := by simp [World.frozen?, HROW.out]
  clear hHeld RD
  go_wp2_with fail
  refine (CS.out _).mono ?_
  rintro e w3 ⟨rfl, rfl⟩
  go_wp2_with fail
  refine (numberTo_any y2 m1 _ (by omega)).mono ?_
  rintro e w4 ⟨rfl, rfl⟩
  obtain ⟨r, hr⟩ : ∃ r, okN y2 m1 = r := ⟨_, rfl⟩
  rw [hr]
  have HR := Lib.hid hr
  clear hr
  have HN := Lib.hid (fun W => numberTo_any y3 m2 W (by omega))
  obtain ⟨q, hq⟩ : ∃ q, okN y3 m2 = q := ⟨_, rfl⟩
  rw [hq] at HN
  have HQ := Lib.hid hq
  clear hq
  cases r with
  | true =>
   go_wp2_with fail
   all_goals
    refine (HN.out _).mono ?_
    rintro e w5 ⟨rfl, rfl⟩
    cases q with
    | true =>
     go_wp2
     all_goals exact lineD_close2 (R := fun e => e = .returned (.tuple #[.agg #[.string (pk P 1), .int .i64 (numV (pk P 2)), .int .i64 (numV (pk P 3)), .string ⟨#[]⟩], .bool (okN (pk P 2) m1 && okN (pk P 3) m2)])) HROW.out rfl rfl (Nat.le_refl _) BB.out (by rw [← HY1.out, ← HY2.out, ← HY3.out, HR.out, HQ.out]; rfl)
    | false =>
     go_wp2
     all_goals exact lineD_close2 (R := fun e => e = .returned (.tuple #[.agg #[.string (pk P 1), .int .i64 (numV (pk P 2)), .int .i64 (numV (pk P 3)), .string ⟨#[]⟩], .bool (okN (pk P 2) m1 && okN (pk P 3) m2)])) HROW.out rfl rfl (Nat.le_refl _) BB.out (by rw [← HY1.out, ← HY2.out, ← HY3.out, HR.out, HQ.out]; rfl)
  | false =>
   go_wp2_with fail
   all_goals
    refine (HN.out _).mono ?_
    rintro e w5 ⟨rfl, rfl⟩
    cases q with
    | true =>
     go_wp2
     all_goals exact lineD_close2 (R := fun e => e = .returned (.tuple #[.agg #[.string (pk P 1), .int .i64 (numV (pk P 2)), .int .i64 (numV (pk P 3)), .string ⟨#[]⟩], .bool (okN (pk P 2) m1 && okN (pk P 3) m2)])) HROW.out rfl rfl (Nat.le_refl _) BB.out (by rw [← HY1.out, ← HY2.out, ← HY3.out, HR.out, HQ.out]; rfl)
    | false =>
     go_wp2
     all_goals exact lineD_close2 (R := fun e => e = .returned (.tuple #[.agg #[.string (pk P 1), .int .i64 (numV (pk P 2)), .int .i64 (numV (pk P 3)), .string ⟨#[]⟩], .bool (okN (pk P 2) m1 && okN (pk P 3) m2)])) HROW.out rfl rfl (Nat.le_refl _) BB.out (by rw [← HY1.out, ← HY2.out, ← HY3.out, HR.out, HQ.out]; rfl)
set_option maxRecDepth 100000 in
set_option maxHeartbeats 4000000 in
theorem parse_strikeL (s : ByteArray) (n : Nat) (P : List ByteArray) (m1 : Int) (w : World) (hs : s.size ≤ 100000) (hn : n ≤ 100000) (hP : prtB 32 s = P) (hL : 4 ≤ P.length) (h0 : pk P 0 = decB n) (hsh : shapeQ (pk P 1) = (m1, 0, false)) (hm : m1 ≠ 0) :
  Calls Tryz.prog 95 #[.string s, .int .i64 n] w fun e w' => (∃ w0 o t l0, e = .returned (.tuple #[.agg #[.string w0, .int .i64 o, .int .i64 t, .string l0], .bool false])) ∧ Below w.heap.size w w' := by
 have CP := Lib.hid (fun W => parts2_any s 32 W (by omega))
 have CD := Lib.hid (fun W => dec2_any n W (by omega))
 have CS := Lib.hid (fun W => shape_any (pk P 1) W)
 have SZ := Lib.hid (fun i => prt_size s i)
 rw [hP] at CP SZ
 have BB := Lib.hid (below_a1 w (.cells #[.string ⟨#[]⟩, .int .i64 0, .int .i64 0, .string ⟨#[]⟩] 61))
 have HROW := Lib.hid (show (w.alloc (.cells #[.string ⟨#[]⟩, .int .i64 0, .int .i64 0, .string ⟨#[]⟩] 61)).heap[w.heap.size]? = some (.cells #[.string ⟨#[]⟩, .int .i64 0, .int .i64 0, .string ⟨#[]⟩] 61 (0, 0)) from heap_alloc_new _ _)
 go_enter Tryz.func95, Tryz.ntmps95
 go_wp2_with fail
 refine (CP.out _).mono ?_
 rintro e w1 ⟨⟨A, c, rfl, ho⟩, hb⟩
 obtain ⟨L, hLe⟩ : ∃ L, P.length = L + 4 := ⟨P.length - 4, by omega⟩
 rw [hLe]
 replace BB := Lib.hid (below2 BB.out hb)
 replace HROW := Lib.hid ((hb.block w.heap.size (by rw [World.size_alloc]; omega)).trans HROW.out)
 have RD := Lib.hid (ho.rs encS)
 have hlo := ho.lt_
 have hz := hb.size
 clear hb ho
 have hcap : P.length ≤ c := RD.out.1
 have hmax : c ≤ 9223372036854775807 := RD.out.2.1
 rw [World.size_alloc] at hz
 obtain ⟨b, off, y0, hy0, rfl, hbb, d0⟩ := RD.out.atS (i := 0) (by omega)
 rw [pk_at (by omega)] at hy0
 rw [Nat.add_zero] at d0
 have z0 : y0.size ≤ 100000 := by have := SZ.out 0; rw [← hy0] at this; omega
 have HY0 := Lib.hid hy0
 clear hy0
 obtain ⟨b', off', y1, hy1, hee, -, d1⟩ := RD.out.atS (i := 1) (by omega)
 cases hee
 rw [pk_at (by omega)] at hy1
 have z1 : y1.size ≤ 100000 := by have := SZ.out 1; rw [← hy1] at this; omega
 have HY1 := Lib.hid hy1
 clear hy1
 obtain ⟨b', off', y2, hy2, hee, -, d2⟩ := RD.out.atS (i := 2) (by omega)
 cases hee
 rw [pk_at (by omega)] at hy2
 have z2 : y2.size ≤ 100000 := by have := SZ.out 2; rw [← hy2] at this; omega
 have HY2 := Lib.hid hy2
 clear hy2
 have hlb := hlo b rfl
 clear hlo
 rw [World.size_alloc] at hlb
 have hne : w.heap.size ≠ b := by omega
 have hne2 : b ≠ w.heap.size := by omega
 have hm1 : (m1 == 0) = false := by simp [hm]
 have hd : (y0.toList == (decB n).toList) = true := by have := word_eq y0 (decB n); rw [this]; exact decide_eq_true (by rw [HY0.out]; exact h0)
 have hl2 : decide ((L : Int) + 4 < 2) = false := decide_eq_false (by omega)
 have hl2n : ¬ (L : Int) + 4 < 2 := by omega
 have g0 : (0 : Int) < (L : Int) + 4 := by omega
 have g1 : (1 : Int) < (L : Int) + 4 := by omega
 have g2 : (2 : Int) ≤ (L : Int) + 4 := by omega
 have hl0 : 0 < P.length := by omega
 have hl1 : 1 < P.length := by omega
 have hsh' : shapeQ y1 = (m1, 0, false) := by rw [HY1.out]; exact hsh
 replace CS := Lib.hid (fun W => shape_any y1 W)
 rw [hsh'] at CS
 clear hsh hsh'
 go_wp2_with fail
 refine wp_region_held_drew (S := fun W => Below w1.heap.size w1 W ∧ W.cell? ⟨b, off, none⟩ = some (.string y0)) (by kernel_rfl) ?_ (fun hHeld => ?_)
 ·first | exact ⟨Below.refl _ _, d0⟩ | exact ⟨belowD (Below.refl _ _), cB (belowD (Below.refl _ _)) d0⟩ | exact ⟨belowDN (Below.refl _ _) 1, d0⟩
 refine tk (i := 0) (v := ?_) rfl (Or.inl ⟨by rfl, ?_⟩) hHeld ?_
 rotate_left 1
 ·(intro w hSw; (try dsimp only at hSw); go_simp; try with_reducible rfl)
 try simp only [gA, Act.put]
 refine tk (i := 1) (v := ?_) rfl (Or.inl ⟨by rfl, ?_⟩) hHeld ?_
 rotate_left 1
 ·(intro w hSw; (try dsimp only at hSw); go_simp; try with_reducible rfl)
 try simp only [gA, Act.put]
 refine tk (i := 2) (v := ?_) rfl (Or.inl ⟨by rfl, ?_⟩) hHeld ?_
 rotate_left 1
 ·(intro w hSw; (try dsimp only at hSw); go_simp; try with_reducible rfl)
 try simp only [gA, Act.put]
 refine tk (i := 3) (v := ?_) rfl (Or.inl ⟨by rfl, ?_⟩) hHeld ?_
 rotate_left 1
 ·(intro w hSw; (try dsimp only at hSw); go_simp; try with_reducible rfl)
 try simp only [gA, Act.put]
 refine tk (i := 4) (v := ?_) rfl (Or.inl ⟨by rfl, ?_⟩) hHeld ?_
 rotate_left 1
 ·(intro w hSw; (try dsimp only at hSw); go_simp; try with_reducible rfl)
 try simp only [gA, Act.put]
 refine tk (i := 5) (v := ?_) rfl (Or.inl ⟨by rfl, ?_⟩) hHeld ?_
 rotate_left 1
 ·(intro w hSw; (try dsimp only at hSw); go_simp; try with_reducible rfl)
 try simp only [gA, Act.put]
 refine tk (i := 6) (v := ?_) rfl (Or.inl ⟨by rfl, ?_⟩) hHeld ?_
 rotate_left 1
 ·(intro w hSw; (try dsimp only at hSw); go_simp; try with_reducible rfl)
 try simp only [gA, Act.put]
 refine tk (i := 7) (v := ?_) rfl (Or.inl ⟨by rfl, ?_⟩) hHeld ?_
 rotate_left 1
 ·(intro w hSw; (try dsimp only at hSw); go_simp; try with_reducible rfl)
 try simp only [gA, Act.put]
 refine wpAnyH_ready (rs := [8]) (by kernel_rfl) (by simp) ?_
 refine AllReadyH.cons rfl (fun K hK => ?_) AllReadyH.nil
 go_simp
 go_at_call 46
 refine (CD.out _).mono ?_
 rintro e wq ⟨rfl, hbq⟩
 go_wp2_with fail
 refine hK.out _ _ ?_ (fun hHeld => ?_)
 ·exact ⟨below2 hHeld.1 hbq, cB hbq hHeld.2⟩
 clear hK K
 try simp only [gA, Act.put]
 refine tk (i := 9) (v := ?_) rfl (Or.inl ⟨by rfl, ?_⟩) hHeld ?_
 rotate_left 1
 ·(intro w hSw; (try dsimp only at hSw); go_simp; try with_reducible rfl)
 try simp only [gA, Act.put]
 refine tk (i := 10) (v := ?_) rfl (Or.inl ⟨by rfl, ?_⟩) hHeld ?_
 rotate_left 1
 ·(intro w hSw; (try dsimp only at hSw); go_simp; try with_reducible rfl)
 try simp only [gA, Act.put]
 refine wpAnyH_done (by kernel_rfl) ?_ _
 rotate_left 1
 all_goals
  replace d1 := cB hHeld.1 d1
  replace d2 := cB hHeld.1 d2
  replace d0 := hHeld.2
  replace BB := Lib.hid (below2 BB.out hHeld.1)
  replace HROW := Lib.hid ((hHeld.1.block w.heap.size (by omega)).trans HROW.out)
  have hzq := hHeld.1.size
  have hbl : b < wq.heap.size := by omega
  have hwl : w.heap.size < wq.heap.size := by omega
  have hwl2 : w.heap.size ≠ wq.heap.size := by omega
  have hbl2 : b ≠ wq.heap.size := by omega
  have r0 : wq.cell? ⟨w.heap.size, 0, none⟩ = some (.string ⟨#[]⟩) := by rw [cell_of_row _ _ _ _ _ _ HROW.out]; rfl
  have r1 : wq.cell? ⟨w.heap.size, 1, none⟩ = some (.int .i64 0) := by rw [cell_of_row _ _ _ _ _ _ HROW.out]; rfl
  have r2 : wq.cell? ⟨w.heap.size, 2, none⟩ = some (.int .i64 0) := by rw [cell_of_row _ _ _ _ _ _ HROW.out]; rfl
  have r3 : wq.cell? ⟨w.heap.size, 3, none⟩ = some (.string ⟨#[]⟩) := by rw [cell_of_row _ _ _ _ _ _ HROW.out]; rfl
  have fz : wq.frozen? ⟨w.heap.size, 0, none⟩ = false := by simp [World.frozen?, HROW.out]
  have fz1 : wq.frozen? ⟨w.heap.size, 1, none⟩ = false := by simp [World.frozen?, HROW.out]
  have fz2 : wq.frozen? ⟨w.heap.size, 2, none⟩ = false := by simp [World.frozen?, HROW.out]
  have fz3 : wq.frozen? ⟨w.heap.size, 3, none⟩ = false := by simp [World.frozen?, HROW.out]
  clear hHeld RD
  go_wp2_with fail
  refine (CS.out _).mono ?_
  rintro e w3 ⟨rfl, rfl⟩
  go_wp2_with fail
  refine (numberTo_any y2 m1 _ (by omega)).mono ?_
  rintro e w4 ⟨rfl, rfl⟩
  obtain ⟨r, hr⟩ : ∃ r, okN y2 m1 = r := ⟨_, rfl⟩
  rw [hr]
  clear hr
  cases r with
  | true =>
   go_wp2
   all_goals exact lineD_close2 (R := fun e => ∃ w0 o t l0, e = .returned (.tuple #[.agg #[.string w0, .int .i64 o, .int .i64 t, .string l0], .bool false])) HROW.out rfl rfl (Nat.le_refl _) BB.out ⟨_, _, _, _, rfl⟩
  | false =>
   go_wp2
   all_goals exact lineD_close2 (R := fun e => ∃ w0 o t l0, e = .returned (.tuple #[.agg #[.string w0, .int .i64 o, .int .i64 t, .string l0], .bool false])) HROW.out rfl rfl (Nat.le_refl _) BB.out ⟨_, _, _, _, rfl⟩
set_option maxRecDepth 100000 in
set_option maxHeartbeats 4000000 in
theorem parse_one (s : ByteArray) (n : Nat) (P : List ByteArray) (w : World) (hs : s.size ≤ 100000) (hn : n ≤ 100000) (hP : prtB 32 s = P) (hL : P.length = 1) :
  Calls Tryz.prog 95 #[.string s, .int .i64 n] w fun e w' => (∃ w0 o t l0, e = .returned (.tuple #[.agg #[.string w0, .int .i64 o, .int .i64 t, .string l0], .bool false])) ∧ Below w.heap.size w w' := by
 have CP := Lib.hid (fun W => parts2_any s 32 W (by omega))
 have CD := Lib.hid (fun W => dec2_any n W (by omega))
 have CS := Lib.hid (fun W => shape_any (pk P 1) W)
 have SZ := Lib.hid (fun i => prt_size s i)
 rw [hP] at CP SZ
 have BB := Lib.hid (below_a1 w (.cells #[.string ⟨#[]⟩, .int .i64 0, .int .i64 0, .string ⟨#[]⟩] 61))
 have HROW := Lib.hid (show (w.alloc (.cells #[.string ⟨#[]⟩, .int .i64 0, .int .i64 0, .string ⟨#[]⟩] 61)).heap[w.heap.size]? = some (.cells #[.string ⟨#[]⟩, .int .i64 0, .int .i64 0, .string ⟨#[]⟩] 61 (0, 0)) from heap_alloc_new _ _)
 go_enter Tryz.func95, Tryz.ntmps95
 go_wp2_with fail
 refine (CP.out _).mono ?_
 rintro e w1 ⟨⟨A, c, rfl, ho⟩, hb⟩
 rw [hL]
 replace BB := Lib.hid (below2 BB.out hb)
 replace HROW := Lib.hid ((hb.block w.heap.size (by rw [World.size_alloc]; omega)).trans HROW.out)
 have RD := Lib.hid (ho.rs encS)
 have hlo := ho.lt_
 have hz := hb.size
 clear hb ho
 have hcap : P.length ≤ c := RD.out.1
 have hmax : c ≤ 9223372036854775807 := RD.out.2.1
 rw [World.size_alloc] at hz
 go_wp2_with fail
 refine wp_region_held_drew (S := fun W => Below w1.heap.size w1 W) (by kernel_rfl) ?_ (fun hHeld => ?_)
 ·first | exact Below.refl _ _ | exact belowD (Below.refl _ _)
 refine tk (i := 0) (v := ?_) rfl (Or.inl ⟨by rfl, ?_⟩) hHeld ?_
 rotate_left 1
 ·(intro w hSw; (try dsimp only at hSw); go_simp; try with_reducible rfl)
 try simp only [gA, Act.put]
 refine tk (i := 1) (v := ?_) rfl (Or.inl ⟨by rfl, ?_⟩) hHeld ?_
 rotate_left 1
 ·(intro w hSw; (try dsimp only at hSw); go_simp; try with_reducible rfl)
 try simp only [gA, Act.put]
 refine tk (i := 2) (v := ?_) rfl (Or.inl ⟨by rfl, ?_⟩) hHeld ?_
 rotate_left 1
 ·(intro w hSw; (try dsimp only at hSw); go_simp; try with_reducible rfl)
 try simp only [gA, Act.put]
 refine tk (i := 3) (v := ?_) rfl (Or.inl ⟨by rfl, ?_⟩) hHeld ?_
 rotate_left 1
 ·(intro w hSw; (try dsimp only at hSw); go_simp; try with_reducible rfl)
 try simp only [gA, Act.put]
 refine wpAnyH_take (i := 4) (v := undef) rfl (by kernel_rfl) (by kernel_rfl) (by kernel_rfl) (fun _ _ _ h => h) (Or.inr ⟨by go_simp, rfl⟩) hHeld ?_
 try simp only [gA, Act.put]
 refine wpAnyH_take (i := 5) (v := undef) rfl (by kernel_rfl) (by kernel_rfl) (by kernel_rfl) (fun _ _ _ h => h) (Or.inr ⟨by go_simp, rfl⟩) hHeld ?_
 try simp only [gA, Act.put]
 refine wpAnyH_take (i := 6) (v := undef) rfl (by kernel_rfl) (by kernel_rfl) (by kernel_rfl) (fun _ _ _ h => h) (Or.inr ⟨by go_simp, rfl⟩) hHeld ?_
 try simp only [gA, Act.put]
 refine wpAnyH_take (i := 7) (v := undef) rfl (by kernel_rfl) (by kernel_rfl) (by kernel_rfl) (fun _ _ _ h => h) (Or.inr ⟨by go_simp, rfl⟩) hHeld ?_
 try simp only [gA, Act.put]
 refine wpAnyH_take (i := 8) (v := undef) rfl (by kernel_rfl) (by kernel_rfl) (by kernel_rfl) (fun _ _ _ h => h) (Or.inr ⟨by go_simp, rfl⟩) hHeld ?_
 try simp only [gA, Act.put]
 refine wpAnyH_take (i := 9) (v := undef) rfl (by kernel_rfl) (by kernel_rfl) (by kernel_rfl) (fun _ _ _ h => h) (Or.inr ⟨by go_simp, rfl⟩) hHeld ?_
 try simp only [gA, Act.put]
 refine tk (i := 10) (v := ?_) rfl (Or.inl ⟨by rfl, ?_⟩) hHeld ?_
 rotate_left 1
 ·(intro w hSw; (try dsimp only at hSw); go_simp; try with_reducible rfl)
 try simp only [gA, Act.put]
 refine wpAnyH_done (by kernel_rfl) ?_ _
 rotate_left 1
 all_goals
  have r0 : w1.drew.cell? ⟨w.heap.size, 0, none⟩ = some (.string ⟨#[]⟩) := by rw [cell_of_row _ _ _ _ _ _ (show w1.drew.heap[w.heap.size]? = _ from HROW.out)]; rfl
  have s0 : w1.cell? ⟨w.heap.size, 0, none⟩ = some (.string ⟨#[]⟩) := by rw [cell_of_row _ _ _ _ _ _ HROW.out]; rfl
  have gz0 : w1.frozen? ⟨w.heap.size, 0, none⟩ = false := by simp [World.frozen?, HROW.out]
  have fz0 : w1.drew.frozen? ⟨w.heap.size, 0, none⟩ = false := by simp [World.frozen?, show w1.drew.heap[w.heap.size]? = _ from HROW.out]
  have r1 : w1.drew.cell? ⟨w.heap.size, 1, none⟩ = some (.int .i64 0) := by rw [cell_of_row _ _ _ _ _ _ (show w1.drew.heap[w.heap.size]? = _ from HROW.out)]; rfl
  have s1 : w1.cell? ⟨w.heap.size, 1, none⟩ = some (.int .i64 0) := by rw [cell_of_row _ _ _ _ _ _ HROW.out]; rfl
  have gz1 : w1.frozen? ⟨w.heap.size, 1, none⟩ = false := by simp [World.frozen?, HROW.out]
  have fz1 : w1.drew.frozen? ⟨w.heap.size, 1, none⟩ = false := by simp [World.frozen?, show w1.drew.heap[w.heap.size]? = _ from HROW.out]
  have r2 : w1.drew.cell? ⟨w.heap.size, 2, none⟩ = some (.int .i64 0) := by rw [cell_of_row _ _ _ _ _ _ (show w1.drew.heap[w.heap.size]? = _ from HROW.out)]; rfl
  have s2 : w1.cell? ⟨w.heap.size, 2, none⟩ = some (.int .i64 0) := by rw [cell_of_row _ _ _ _ _ _ HROW.out]; rfl
  have gz2 : w1.frozen? ⟨w.heap.size, 2, none⟩ = false := by simp [World.frozen?, HROW.out]
  have fz2 : w1.drew.frozen? ⟨w.heap.size, 2, none⟩ = false := by simp [World.frozen?, show w1.drew.heap[w.heap.size]? = _ from HROW.out]
  have r3 : w1.drew.cell? ⟨w.heap.size, 3, none⟩ = some (.string ⟨#[]⟩) := by rw [cell_of_row _ _ _ _ _ _ (show w1.drew.heap[w.heap.size]? = _ from HROW.out)]; rfl
  have s3 : w1.cell? ⟨w.heap.size, 3, none⟩ = some (.string ⟨#[]⟩) := by rw [cell_of_row _ _ _ _ _ _ HROW.out]; rfl
  have gz3 : w1.frozen? ⟨w.heap.size, 3, none⟩ = false := by simp [World.frozen?, HROW.out]
  have fz3 : w1.drew.frozen? ⟨w.heap.size, 3, none⟩ = false := by simp [World.frozen?, show w1.drew.heap[w.heap.size]? = _ from HROW.out]
  go_wp2
  all_goals exact lineD_close (R := fun e => ∃ w0 o t l0, e = .returned (.tuple #[.agg #[.string w0, .int .i64 o, .int .i64 t, .string l0], .bool false])) (show w1.drew.heap[w.heap.size]? = _ from HROW.out) rfl rfl (Nat.le_refl _) (belowD BB.out) ⟨_, _, _, _, rfl⟩
end Go.Proofs.YtcnpbcgkhhebaaaGreatDoor
/- The document: a line is parsed (twoL). -/
namespace Go.Proofs.YtcnpbcgkhhebaaaGreatDoor
open Go.RowKit

set_option maxRecDepth 100000 in
set_option maxHeartbeats 4000000 in
theorem parse_twoL (s : ByteArray) (n : Nat) (P : List ByteArray) (m1 m2 : Int) (w : World) (hs : s.size ≤ 100000) (hn : n ≤ 100000) (hP : prtB 32 s = P) (hL : 5 ≤ P.length) (h0 : pk P 0 = decB n) (hsh : shapeQ (pk P 1) = (m1, m2, false)) (hm : m1 ≠ 0) (hm2 : 0 < m2) :
  Calls Tryz.prog 95 #[.string s, .int .i64 n] w fun e w' => (∃ w0 o t l0, e = .returned (.tuple #[.agg #[.string w0, .int .i64 o, .int .i64 t, .string l0], .bool false])) ∧ Below w.heap.size w w' := by
 have CP := Lib.hid (fun W => parts2_any s 32 W (by omega))
 have CD := Lib.hid (fun W => dec2_any n W (by omega))
 have CS := Lib.hid (fun W => shape_any (pk P 1) W)
 have SZ := Lib.hid (fun i => prt_size s i)
 rw [hP] at CP SZ
 have BB := Lib.hid (below_a1 w (.cells #[.string ⟨#[]⟩, .int .i64 0, .int .i64 0, .string ⟨#[]⟩] 61))
 have HROW := Lib.hid (show (w.alloc (.cells #[.string ⟨#[]⟩, .int .i64 0, .int .i64 0, .string ⟨#[]⟩] 61)).heap[w.heap.size]? = some (.cells #[.string ⟨#[]⟩, .int .i64 0, .int .i64 0, .string ⟨#[]⟩] 61 (0, 0)) from heap_alloc_new _ _)
 go_enter Tryz.func95, Tryz.ntmps95
 go_wp2_with fail
 refine (CP.out _).mono ?_
 rintro e w1 ⟨⟨A, c, rfl, ho⟩, hb⟩
 obtain ⟨L, hLe⟩ : ∃ L, P.length = L + 5 := ⟨P.length - 5, by omega⟩
 rw [hLe]
 replace BB := Lib.hid (below2 BB.out hb)
 replace HROW := Lib.hid ((hb.block w.heap.size (by rw [World.size_alloc]; omega)).trans HROW.out)
 have RD := Lib.hid (ho.rs encS)
 have hlo := ho.lt_
 have hz := hb.size
 clear hb ho
 have hcap : P.length ≤ c := RD.out.1
 have hmax : c ≤ 9223372036854775807 := RD.out.2.1
 rw [World.size_alloc] at hz
 obtain ⟨b, off, y0, hy0, rfl, hbb, d0⟩ := RD.out.atS (i := 0) (by omega)
 rw [pk_at (by omega)] at hy0
 rw [Nat.add_zero] at d0
 have z0 : y0.size ≤ 100000 := by have := SZ.out 0; rw [← hy0] at this; omega
 have HY0 := Lib.hid hy0
 clear hy0
 obtain ⟨b', off', y1, hy1, hee, -, d1⟩ := RD.out.atS (i := 1) (by omega)
 cases hee
 rw [pk_at (by omega)] at hy1
 have z1 : y1.size ≤ 100000 := by have := SZ.out 1; rw [← hy1] at this; omega
 have HY1 := Lib.hid hy1
 clear hy1
 obtain ⟨b', off', y2, hy2, hee, -, d2⟩ := RD.out.atS (i := 2) (by omega)
 cases hee
 rw [pk_at (by omega)] at hy2
 have z2 : y2.size ≤ 100000 := by have := SZ.out 2; rw [← hy2] at this; omega
 have HY2 := Lib.hid hy2
 clear hy2
 obtain ⟨b', off', y3, hy3, hee, -, d3⟩ := RD.out.atS (i := 3) (by omega)
 cases hee
 rw [pk_at (by omega)] at hy3
 have z3 : y3.size ≤ 100000 := by have := SZ.out 3; rw [← hy3] at this; omega
 have HY3 := Lib.hid hy3
 clear hy3
 have hlb := hlo b rfl
 clear hlo
 rw [World.size_alloc] at hlb
 have hne : w.heap.size ≠ b := by omega
 have hne2 : b ≠ w.heap.size := by omega
 have hm1 : (m1 == 0) = false := by simp [hm]
 have hm2d : decide (0 < m2) = true := decide_eq_true hm2
 have hd : (y0.toList == (decB n).toList) = true := by have := word_eq y0 (decB n); rw [this]; exact decide_eq_true (by rw [HY0.out]; exact h0)
 have hl2 : decide ((L : Int) + 5 < 2) = false := decide_eq_false (by omega)
 have hl2n : ¬ (L : Int) + 5 < 2 := by omega
 have g0 : (0 : Int) < (L : Int) + 5 := by omega
 have g1 : (1 : Int) < (L : Int) + 5 := by omega
 have g2 : (2 : Int) ≤ (L : Int) + 5 := by omega
 have hl0 : 0 < P.length := by omega
 have hl1 : 1 < P.length := by omega
 have hsh' : shapeQ y1 = (m1, m2, false) := by rw [HY1.out]; exact hsh
 replace CS := Lib.hid (fun W => shape_any y1 W)
 rw [hsh'] at CS
 clear hsh hsh'
 go_wp2_with fail
 refine wp_region_held_drew (S := fun W => Below w1.heap.size w1 W ∧ W.cell? ⟨b, off, none⟩ = some (.string y0)) (by kernel_rfl) ?_ (fun hHeld => ?_)
 ·first | exact ⟨Below.refl _ _, d0⟩ | exact ⟨belowD (Below.refl _ _), cB (belowD (Below.refl _ _)) d0⟩ | exact ⟨belowDN (Below.refl _ _) 1, d0⟩
 refine tk (i := 0) (v := ?_) rfl (Or.inl ⟨by rfl, ?_⟩) hHeld ?_
 rotate_left 1
 ·(intro w hSw; (try dsimp only at hSw); go_simp; try with_reducible rfl)
 try simp only [gA, Act.put]
 refine tk (i := 1) (v := ?_) rfl (Or.inl ⟨by rfl, ?_⟩) hHeld ?_
 rotate_left 1
 ·(intro w hSw; (try dsimp only at hSw); go_simp; try with_reducible rfl)
 try simp only [gA, Act.put]
 refine tk (i := 2) (v := ?_) rfl (Or.inl ⟨by rfl, ?_⟩) hHeld ?_
 rotate_left 1
 ·(intro w hSw; (try dsimp only at hSw); go_simp; try with_reducible rfl)
 try simp only [gA, Act.put]
 refine tk (i := 3) (v := ?_) rfl (Or.inl ⟨by rfl, ?_⟩) hHeld ?_
 rotate_left 1
 ·(intro w hSw; (try dsimp only at hSw); go_simp; try with_reducible rfl)
 try simp only [gA, Act.put]
 refine tk (i := 4) (v := ?_) rfl (Or.inl ⟨by rfl, ?_⟩) hHeld ?_
 rotate_left 1
 ·(intro w hSw; (try dsimp only at hSw); go_simp; try with_reducible rfl)
 try simp only [gA, Act.put]
 refine tk (i := 5) (v := ?_) rfl (Or.inl ⟨by rfl, ?_⟩) hHeld ?_
 rotate_left 1
 ·(intro w hSw; (try dsimp only at hSw); go_simp; try with_reducible rfl)
 try simp only [gA, Act.put]
 refine tk (i := 6) (v := ?_) rfl (Or.inl ⟨by rfl, ?_⟩) hHeld ?_
 rotate_left 1
 ·(intro w hSw; (try dsimp only at hSw); go_simp; try with_reducible rfl)
 try simp only [gA, Act.put]
 refine tk (i := 7) (v := ?_) rfl (Or.inl ⟨by rfl, ?_⟩) hHeld ?_
 rotate_left 1
 ·(intro w hSw; (try dsimp only at hSw); go_simp; try with_reducible rfl)
 try simp only [gA, Act.put]
 refine wpAnyH_ready (rs := [8]) (by kernel_rfl) (by simp) ?_
 refine AllReadyH.cons rfl (fun K hK => ?_) AllReadyH.nil
 go_simp
 go_at_call 46
 refine (CD.out _).mono ?_
 rintro e wq ⟨rfl, hbq⟩
 go_wp2_with fail
 refine hK.out _ _ ?_ (fun hHeld => ?_)
 ·exact ⟨below2 hHeld.1 hbq, cB hbq hHeld.2⟩
 clear hK K
 try simp only [gA, Act.put]
 refine tk (i := 9) (v := ?_) rfl (Or.inl ⟨by rfl, ?_⟩) hHeld ?_
 rotate_left 1
 ·(intro w hSw; (try dsimp only at hSw); go_simp; try with_reducible rfl)
 try simp only [gA, Act.put]
 refine tk (i := 10) (v := ?_) rfl (Or.inl ⟨by rfl, ?_⟩) hHeld ?_
 rotate_left 1
 ·(intro w hSw; (try dsimp only at hSw); go_simp; try with_reducible rfl)
 try simp only [gA, Act.put]
 refine wpAnyH_done (by kernel_rfl) ?_ _
 rotate_left 1
 all_goals
  replace d1 := cB hHeld.1 d1
  replace d2 := cB hHeld.1 d2
  replace d3 := cB hHeld.1 d3
  replace d0 := hHeld.2
  replace BB := Lib.hid (below2 BB.out hHeld.1)
  replace HROW := Lib.hid ((hHeld.1.block w.heap.size (by omega)).trans HROW.out)
  have hzq := hHeld.1.size
  have hbl : b < wq.heap.size := by omega
  have hwl : w.heap.size < wq.heap.size := by omega
  have hwl2 : w.heap.size ≠ wq.heap.size := by omega
  have hbl2 : b ≠ wq.heap.size := by omega
  have r0 : wq.cell? ⟨w.heap.size, 0, none⟩ = some (.string ⟨#[]⟩) := by rw [cell_of_row _ _ _ _ _ _ HROW.out]; rfl
  have r1 : wq.cell? ⟨w.heap.size, 1, none⟩ = some (.int .i64 0) := by rw [cell_of_row _ _ _ _ _ _ HROW.out]; rfl
  have r2 : wq.cell? ⟨w.heap.size, 2, none⟩ = some (.int .i64 0) := by rw [cell_of_row _ _ _ _ _ _ HROW.out]; rfl
  have r3 : wq.cell? ⟨w.heap.size, 3, none⟩ = some (.string ⟨#[]⟩) := by rw [cell_of_row _ _ _ _ _ _ HROW.out]; rfl
  have fz : wq.frozen? ⟨w.heap.size, 0, none⟩ = false := by simp [World.frozen?, HROW.out]
  have fz1 : wq.frozen? ⟨w.heap.size, 1, none⟩ = false := by simp [World.frozen?, HROW.out]
  have fz2 : wq.frozen? ⟨w.heap.size, 2, none⟩ = false := by simp [World.frozen?, HROW.out]
  have fz3 : wq.frozen? ⟨w.heap.size, 3, none⟩ = false := by simp [World.frozen?, HROW.out]
  clear hHeld RD
  go_wp2_with fail
  refine (CS.out _).mono ?_
  rintro e w3 ⟨rfl, rfl⟩
  go_wp2_with fail
  refine (numberTo_any y2 m1 _ (by omega)).mono ?_
  rintro e w4 ⟨rfl, rfl⟩
  obtain ⟨r, hr⟩ : ∃ r, okN y2 m1 = r := ⟨_, rfl⟩
  rw [hr]
  clear hr
  have HN := Lib.hid (fun W => numberTo_any y3 m2 W (by omega))
  obtain ⟨q, hq⟩ : ∃ q, okN y3 m2 = q := ⟨_, rfl⟩
  rw [hq] at HN
  clear hq
  cases r with
  | true =>
   go_wp2_with fail
   all_goals
    refine (HN.out _).mono ?_
    rintro e w5 ⟨rfl, rfl⟩
    cases q with
    | true =>
     go_wp2
     all_goals exact lineD_close2 (R := fun e => ∃ w0 o t l0, e = .returned (.tuple #[.agg #[.string w0, .int .i64 o, .int .i64 t, .string l0], .bool false])) HROW.out rfl rfl (Nat.le_refl _) BB.out ⟨_, _, _, _, rfl⟩
    | false =>
     go_wp2
     all_goals exact lineD_close2 (R := fun e => ∃ w0 o t l0, e = .returned (.tuple #[.agg #[.string w0, .int .i64 o, .int .i64 t, .string l0], .bool false])) HROW.out rfl rfl (Nat.le_refl _) BB.out ⟨_, _, _, _, rfl⟩
  | false =>
   go_wp2_with fail
   all_goals
    refine (HN.out _).mono ?_
    rintro e w5 ⟨rfl, rfl⟩
    cases q with
    | true =>
     go_wp2
     all_goals exact lineD_close2 (R := fun e => ∃ w0 o t l0, e = .returned (.tuple #[.agg #[.string w0, .int .i64 o, .int .i64 t, .string l0], .bool false])) HROW.out rfl rfl (Nat.le_refl _) BB.out ⟨_, _, _, _, rfl⟩
    | false =>
     go_wp2
     all_goals exact lineD_close2 (R := fun e => ∃ w0 o t l0, e = .returned (.tuple #[.agg #[.string w0, .int .i64 o, .int .i64 t, .string l0], .bool false])) HROW.out rfl rfl (Nat.le_refl _) BB.out ⟨_, _, _, _, rfl⟩
end Go.Proofs.YtcnpbcgkhhebaaaGreatDoor
/- The document: a line is parsed (mark4, log4). -/
namespace Go.Proofs.YtcnpbcgkhhebaaaGreatDoor
open Go.RowKit

set_option maxRecDepth 100000 in
set_option maxHeartbeats 4000000 in
theorem parse_mark4 (s : ByteArray) (n : Nat) (P : List ByteArray) (m1 : Int) (lg : Bool) (mt : ByteArray) (mb : Bool) (w : World) (hs : s.size ≤ 100000) (hn : n ≤ 100000) (hP : prtB 32 s = P) (hL : P.length = 4) (h0 : pk P 0 = decB n) (hsh : shapeQ (pk P 1) = (m1, 0, true)) (hm : m1 ≠ 0) (hlg0 : ((pk P 1).toList == [108, 111, 103]) = lg) (hmt : (if pk P 3 = bDs then bNo else pk P 3) = mt) (hmb : (if pk P 3 = bDs then lg else okM (pk P 3)) = mb) :
  Calls Tryz.prog 95 #[.string s, .int .i64 n] w fun e w' => e = .returned (.tuple #[.agg #[.string (pk P 1), .int .i64 (numV (pk P 2)), .int .i64 0, .string mt], .bool (okN (pk P 2) m1 && mb)]) ∧ Below w.heap.size w w' := by
 have CP := Lib.hid (fun W => parts2_any s 32 W (by omega))
 have CD := Lib.hid (fun W => dec2_any n W (by omega))
 have CS := Lib.hid (fun W => shape_any (pk P 1) W)
 have SZ := Lib.hid (fun i => prt_size s i)
 rw [hP] at CP SZ
 have BB := Lib.hid (below_a1 w (.cells #[.string ⟨#[]⟩, .int .i64 0, .int .i64 0, .string ⟨#[]⟩] 61))
 have HROW := Lib.hid (show (w.alloc (.cells #[.string ⟨#[]⟩, .int .i64 0, .int .i64 0, .string ⟨#[]⟩] 61)).heap[w.heap.size]? = some (.cells #[.string ⟨#[]⟩, .int .i64 0, .int .i64 0, .string ⟨#[]⟩] 61 (0, 0)) from heap_alloc_new _ _)
 go_enter Tryz.func95, Tryz.ntmps95
 go_wp2_with fail
 refine (CP.out _).mono ?_
 rintro e w1 ⟨⟨A, c, rfl, ho⟩, hb⟩
 rw [hL]
 replace BB := Lib.hid (below2 BB.out hb)
 replace HROW := Lib.hid ((hb.block w.heap.size (by rw [World.size_alloc]; omega)).trans HROW.out)
 have RD := Lib.hid (ho.rs encS)
 have hlo := ho.lt_
 have hz := hb.size
 clear hb ho
 have hcap : P.length ≤ c := RD.out.1
 have hmax : c ≤ 9223372036854775807 := RD.out.2.1
 rw [World.size_alloc] at hz
 obtain ⟨b, off, y0, hy0, rfl, hbb, d0⟩ := RD.out.atS (i := 0) (by omega)
 rw [pk_at (by omega)] at hy0
 rw [Nat.add_zero] at d0
 have z0 : y0.size ≤ 100000 := by have := SZ.out 0; rw [← hy0] at this; omega
 have HY0 := Lib.hid hy0
 clear hy0
 obtain ⟨b', off', y1, hy1, hee, -, d1⟩ := RD.out.atS (i := 1) (by omega)
 cases hee
 rw [pk_at (by omega)] at hy1
 have z1 : y1.size ≤ 100000 := by have := SZ.out 1; rw [← hy1] at this; omega
 have HY1 := Lib.hid hy1
 clear hy1
 obtain ⟨b', off', y2, hy2, hee, -, d2⟩ := RD.out.atS (i := 2) (by omega)
 cases hee
 rw [pk_at (by omega)] at hy2
 have z2 : y2.size ≤ 100000 := by have := SZ.out 2; rw [← hy2] at this; omega
 have HY2 := Lib.hid hy2
 clear hy2
 obtain ⟨b', off', y3, hy3, hee, -, d3⟩ := RD.out.atS (i := 3) (by omega)
 cases hee
 rw [pk_at (by omega)] at hy3
 have z3 : y3.size ≤ 100000 := by have := SZ.out 3; rw [← hy3] at this; omega
 have HY3 := Lib.hid hy3
 clear hy3
 have hlb := hlo b rfl
 clear hlo
 rw [World.size_alloc] at hlb
 have hne : w.heap.size ≠ b := by omega
 have hne2 : b ≠ w.heap.size := by omega
 have HMT := Lib.hid hmt
 have HMB := Lib.hid hmb
 clear hmt hmb
 have hm1 : (m1 == 0) = false := by simp [hm]
 have hlg : (y1.toList == [108, 111, 103]) = lg := by rw [HY1.out]; exact hlg0
 have MK := Lib.hid (fun W => marked_any y3 lg W (by omega))
 rw [HY3.out, HMT.out, HMB.out] at MK
 rw [← HY3.out] at MK
 have hd : (y0.toList == (decB n).toList) = true := by have := word_eq y0 (decB n); rw [this]; exact decide_eq_true (by rw [HY0.out]; exact h0)
 have hl2 : decide ((P.length : Int) < 2) = false := decide_eq_false (by omega)
 have hl2n : ¬ (P.length : Int) < 2 := by omega
 have hl0 : 0 < P.length := by omega
 have hl1 : 1 < P.length := by omega
 have hsh' : shapeQ y1 = (m1, 0, true) := by rw [HY1.out]; exact hsh
 replace CS := Lib.hid (fun W => shape_any y1 W)
 rw [hsh'] at CS
 clear hsh hsh'
 go_wp2_with fail
 refine wp_region_held_drew (S := fun W => Below w1.heap.size w1 W ∧ W.cell? ⟨b, off, none⟩ = some (.string y0)) (by kernel_rfl) ?_ (fun hHeld => ?_)
 ·first | exact ⟨Below.refl _ _, d0⟩ | exact ⟨belowD (Below.refl _ _), cB (belowD (Below.refl _ _)) d0⟩ | exact ⟨belowDN (Below.refl _ _) 1, d0⟩
 refine tk (i := 0) (v := ?_) rfl (Or.inl ⟨by rfl, ?_⟩) hHeld ?_
 rotate_left 1
 ·(intro w hSw; (try dsimp only at hSw); go_simp; try with_reducible rfl)
 try simp only [gA, Act.put]
 refine tk (i := 1) (v := ?_) rfl (Or.inl ⟨by rfl, ?_⟩) hHeld ?_
 rotate_left 1
 ·(intro w hSw; (try dsimp only at hSw); go_simp; try with_reducible rfl)
 try simp only [gA, Act.put]
 refine tk (i := 2) (v := ?_) rfl (Or.inl ⟨by rfl, ?_⟩) hHeld ?_
 rotate_left 1
 ·(intro w hSw; (try dsimp only at hSw); go_simp; try with_reducible rfl)
 try simp only [gA, Act.put]
 refine tk (i := 3) (v := ?_) rfl (Or.inl ⟨by rfl, ?_⟩) hHeld ?_
 rotate_left 1
 ·(intro w hSw; (try dsimp only at hSw); go_simp; try with_reducible rfl)
 try simp only [gA, Act.put]
 refine tk (i := 4) (v := ?_) rfl (Or.inl ⟨by rfl, ?_⟩) hHeld ?_
 rotate_left 1
 ·(intro w hSw; (try dsimp only at hSw); go_simp; try with_reducible rfl)
 try simp only [gA, Act.put]
 refine tk (i := 5) (v := ?_) rfl (Or.inl ⟨by rfl, ?_⟩) hHeld ?_
 rotate_left 1
 ·(intro w hSw; (try dsimp only at hSw); go_simp; try with_reducible rfl)
 try simp only [gA, Act.put]
 refine tk (i := 6) (v := ?_) rfl (Or.inl ⟨by rfl, ?_⟩) hHeld ?_
 rotate_left 1
 ·(intro w hSw; (try dsimp only at hSw); go_simp; try with_reducible rfl)
 try simp only [gA, Act.put]
 refine tk (i := 7) (v := ?_) rfl (Or.inl ⟨by rfl, ?_⟩) hHeld ?_
 rotate_left 1
 ·(intro w hSw; (try dsimp only at hSw); go_simp; try with_reducible rfl)
 try simp only [gA, Act.put]
 refine wpAnyH_ready (rs := [8]) (by kernel_rfl) (by simp) ?_
 refine AllReadyH.cons rfl (fun K hK => ?_) AllReadyH.nil
 go_simp
 go_at_call 46
 refine (CD.out _).mono ?_
 rintro e wq ⟨rfl, hbq⟩
 go_wp2_with fail
 refine hK.out _ _ ?_ (fun hHeld => ?_)
 ·exact ⟨below2 hHeld.1 hbq, cB hbq hHeld.2⟩
 clear hK K
 try simp only [gA, Act.put]
 refine tk (i := 9) (v := ?_) rfl (Or.inl ⟨by rfl, ?_⟩) hHeld ?_
 rotate_left 1
 ·(intro w hSw; (try dsimp only at hSw); go_simp; try with_reducible rfl)
 try simp only [gA, Act.put]
 refine tk (i := 10) (v := ?_) rfl (Or.inl ⟨by rfl, ?_⟩) hHeld ?_
 rotate_left 1
 ·(intro w hSw; (try dsimp only at hSw); go_simp; try with_reducible rfl)
 try simp only [gA, Act.put]
 refine wpAnyH_done (by kernel_rfl) ?_ _
 rotate_left 1
 all_goals
  replace d1 := cB hHeld.1 d1
  replace d2 := cB hHeld.1 d2
  replace d3 := cB hHeld.1 d3
  replace d0 := hHeld.2
  replace BB := Lib.hid (below2 BB.out hHeld.1)
  replace HROW := Lib.hid ((hHeld.1.block w.heap.size (by omega)).trans HROW.out)
  have hzq := hHeld.1.size
  have hbl : b < wq.heap.size := by omega
  have hwl : w.heap.size < wq.heap.size := by omega
  have hwl2 : w.heap.size ≠ wq.heap.size := by omega
  have hbl2 : b ≠ wq.heap.size := by omega
  have r0 : wq.cell? ⟨w.heap.size, 0, none⟩ = some (.string ⟨#[]⟩) := by rw [cell_of_row _ _ _ _ _ _ HROW.out]; rfl
  have r1 : wq.cell? ⟨w.heap.size, 1, none⟩ = some (.int .i64 0) := by rw [cell_of_row _ _ _ _ _ _ HROW.out]; rfl
  have r2 : wq.cell? ⟨w.heap.size, 2, none⟩ = some (.int .i64 0) := by rw [cell_of_row _ _ _ _ _ _ HROW.out]; rfl
  have r3 : wq.cell? ⟨w.heap.size, 3, none⟩ = some (.string ⟨#[]⟩) := by rw [cell_of_row _ _ _ _ _ _ HROW.out]; rfl
  have fz : wq.frozen? ⟨w.heap.size, 0, none⟩ = false := by simp [World.frozen?, HROW.out]
  have fz1 : wq.frozen? ⟨w.heap.size, 1, none⟩ = false := by simp [World.frozen?, HROW.out]
  have fz2 : wq.frozen? ⟨w.heap.size, 2, none⟩ = false := by simp [World.frozen?, HROW.out]
  have fz3 : wq.frozen? ⟨w.heap.size, 3, none⟩ = false := by simp [World.frozen?, HROW.out]
  clear hHeld RD
  go_wp2_with fail
  refine (CS.out _).mono ?_
  rintro e w3 ⟨rfl, rfl⟩
  go_wp2_with fail
  refine (numberTo_any y2 m1 _ (by omega)).mono ?_
  rintro e w4 ⟨rfl, rfl⟩
  go_upto_region 17 with fail
  refine wp_region_held_drew (S := fun W => Below (wq.alloc (.cells #[.string y1, .int .i64 (numV y2), .int .i64 0, .string ⟨#[]⟩] 61)).heap.size (wq.alloc (.cells #[.string y1, .int .i64 (numV y2), .int .i64 0, .string ⟨#[]⟩] 61)) W ∧ W.cell? ⟨b, off + 3, none⟩ = some (.string y3) ∧ W.cell? ⟨wq.heap.size, 0, none⟩ = some (.string y1)) (by kernel_rfl) ?_ (fun hHeld => ?_)
  ·first | exact ⟨Below.refl _ _, by go_simp, by go_simp⟩ | exact ⟨belowD (Below.refl _ _), by go_simp, by go_simp⟩
  refine tk (i := 0) (v := ?_) rfl (Or.inl ⟨by rfl, ?_⟩) hHeld ?_
  rotate_left 1
  ·(intro w hSw; (try dsimp only at hSw); go_simp; try with_reducible rfl)
  try simp only [gA, Act.put]
  refine tk (i := 1) (v := ?_) rfl (Or.inl ⟨by rfl, ?_⟩) hHeld ?_
  rotate_left 1
  ·(intro w hSw; (try dsimp only at hSw); go_simp; try with_reducible rfl)
  try simp only [gA, Act.put]
  refine tk (i := 2) (v := ?_) rfl (Or.inl ⟨by rfl, ?_⟩) hHeld ?_
  rotate_left 1
  ·(intro w hSw; (try dsimp only at hSw); go_simp; try with_reducible rfl)
  try simp only [gA, Act.put]
  refine tk (i := 3) (v := ?_) rfl (Or.inl ⟨by rfl, ?_⟩) hHeld ?_
  rotate_left 1
  ·(intro w hSw; (try dsimp only at hSw); go_simp; try with_reducible rfl)
  try simp only [gA, Act.put]
  refine tk (i := 4) (v := ?_) rfl (Or.inl ⟨by rfl, ?_⟩) hHeld ?_
  rotate_left 1
  ·(intro w hSw; (try dsimp only at hSw); go_simp; try with_reducible rfl)
  try simp only [gA, Act.put]
  refine tk (i := 5) (v := ?_) rfl (Or.inl ⟨by rfl, ?_⟩) hHeld ?_
  rotate_left 1
  ·(intro w hSw; (try dsimp only at hSw); go_simp; try with_reducible rfl)
  try simp only [gA, Act.put]
  refine wpAnyH_ready (rs := [6]) (by kernel_rfl) (by simp) ?_
  refine AllReadyH.cons rfl (fun K hK => ?_) AllReadyH.nil
  go_simp
  go_at_call 130
  refine (MK.out _).mono ?_
  rintro e wm ⟨rfl, hbm⟩
  go_wp2_with fail
  refine hK.out _ _ ?_ (fun hHeld => ?_)
  ·exact ⟨below2 hHeld.1 hbm, cB hbm hHeld.2.1, cB hbm hHeld.2.2⟩
  clear hK K
  try simp only [gA, Act.put]
  refine tk (i := 7) (v := ?_) rfl (Or.inl ⟨by rfl, ?_⟩) hHeld ?_
  rotate_left 1
  ·(intro w hSw; (try dsimp only at hSw); go_simp; try with_reducible rfl)
  try simp only [gA, Act.put]
  refine tk (i := 8) (v := ?_) rfl (Or.inl ⟨by rfl, ?_⟩) hHeld ?_
  rotate_left 1
  ·(intro w hSw; (try dsimp only at hSw); go_simp; try with_reducible rfl)
  try simp only [gA, Act.put]
  refine tk (i := 9) (v := ?_) rfl (Or.inl ⟨by rfl, ?_⟩) hHeld ?_
  rotate_left 1
  ·(intro w hSw; (try dsimp only at hSw); go_simp; try with_reducible rfl)
  try simp only [gA, Act.put]
  refine tk (i := 10) (v := ?_) rfl (Or.inl ⟨by rfl, ?_⟩) hHeld ?_
  rotate_left 1
  ·(intro w hSw; (try dsimp only at hSw); go_simp; try with_reducible rfl)
  try simp only [gA, Act.put]
  refine tk (i := 11) (v := ?_) rfl (Or.inl ⟨by rfl, ?_⟩) hHeld ?_
  rotate_left 1
  ·(intro w hSw; (try dsimp only at hSw); go_simp; try with_reducible rfl)
  try simp only [gA, Act.put]
  refine wpAnyH_done (by kernel_rfl) ?_ _
  rotate_left 1
  all_goals
   have X := Lib.hid ((hHeld.1.block wq.heap.size (by rw [World.size_alloc]; omega)).trans (heap_alloc_new wq (.cells #[.string y1, .int .i64 (numV y2), .int .i64 0, .string ⟨#[]⟩] 61)))
   replace HROW := Lib.hid ((hHeld.1.block w.heap.size (by rw [World.size_alloc]; omega)).trans (((below_a1 wq (.cells #[.string y1, .int .i64 (numV y2), .int .i64 0, .string ⟨#[]⟩] 61)).block w.heap.size hwl).trans HROW.out))
   replace BB := Lib.hid (below2 (belowA BB.out (.cells #[.string y1, .int .i64 (numV y2), .int .i64 0, .string ⟨#[]⟩] 61)) hHeld.1)
   clear r0 r1 r2 r3 fz fz1 fz2 fz3
   have r0 : wm.cell? ⟨w.heap.size, 0, none⟩ = some (.string ⟨#[]⟩) := by rw [cell_of_row _ _ _ _ _ _ HROW.out]; rfl
   have fz0 : wm.frozen? ⟨w.heap.size, 0, none⟩ = false := by simp [World.frozen?, HROW.out]
   have x0 : wm.cell? ⟨wq.heap.size, 0, none⟩ = some (.string y1) := by rw [cell_of_row _ _ _ _ _ _ X.out]; rfl
   have fx0 : wm.frozen? ⟨wq.heap.size, 0, none⟩ = false := by simp [World.frozen?, X.out]
   have r1 : wm.cell? ⟨w.heap.size, 1, none⟩ = some (.int .i64 0) := by rw [cell_of_row _ _ _ _ _ _ HROW.out]; rfl
   have fz1 : wm.frozen? ⟨w.heap.size, 1, none⟩ = false := by simp [World.frozen?, HROW.out]
   have x1 : wm.cell? ⟨wq.heap.size, 1, none⟩ = some (.int .i64 (numV y2)) := by rw [cell_of_row _ _ _ _ _ _ X.out]; rfl
   have fx1 : wm.frozen? ⟨wq.heap.size, 1, none⟩ = false := by simp [World.frozen?, X.out]
   have r2 : wm.cell? ⟨w.heap.size, 2, none⟩ = some (.int .i64 0) := by rw [cell_of_row _ _ _ _ _ _ HROW.out]; rfl
   have fz2 : wm.frozen? ⟨w.heap.size, 2, none⟩ = false := by simp [World.frozen?, HROW.out]
   have x2 : wm.cell? ⟨wq.heap.size, 2, none⟩ = some (.int .i64 0) := by rw [cell_of_row _ _ _ _ _ _ X.out]; rfl
   have fx2 : wm.frozen? ⟨wq.heap.size, 2, none⟩ = false := by simp [World.frozen?, X.out]
   have r3 : wm.cell? ⟨w.heap.size, 3, none⟩ = some (.string ⟨#[]⟩) := by rw [cell_of_row _ _ _ _ _ _ HROW.out]; rfl
   have fz3 : wm.frozen? ⟨w.heap.size, 3, none⟩ = false := by simp [World.frozen?, HROW.out]
   have x3 : wm.cell? ⟨wq.heap.size, 3, none⟩ = some (.string ⟨#[]⟩) := by rw [cell_of_row _ _ _ _ _ _ X.out]; rfl
   have fx3 : wm.frozen? ⟨wq.heap.size, 3, none⟩ = false := by simp [World.frozen?, X.out]
   have hqm : wq.heap.size < wm.heap.size := by have := hHeld.1.size; rw [World.size_alloc] at this; omega
   have hne7 : wq.heap.size ≠ w.heap.size := by omega
   have hne8 : wq.heap.size ≠ b := by omega
   clear hHeld
   obtain ⟨r, hr⟩ : ∃ r, okN y2 m1 = r := ⟨_, rfl⟩
   rw [hr]
   have HR := Lib.hid hr
   clear hr HMB HMT
   cases r with
   | true =>
    cases mb with
    | true =>
     go_wp2
     all_goals exact lineD_close (R := fun e => e = .returned (.tuple #[.agg #[.string (pk P 1), .int .i64 (numV (pk P 2)), .int .i64 0, .string mt], .bool (okN (pk P 2) m1)])) ((heap_setCell_other wm _ w.heap.size _ (fun e1 => hne7 e1.symm)).trans HROW.out) rfl rfl (Nat.le_refl _) (BB.out.grown (grown_cell wm wq.heap.size 3 _) BB.out.size (fun q hq => by cases hq; omega)) (by rw [← HY1.out, ← HY2.out, HR.out]; try rfl)
    | false =>
     go_wp2
     all_goals exact lineD_close (R := fun e => e = .returned (.tuple #[.agg #[.string (pk P 1), .int .i64 (numV (pk P 2)), .int .i64 0, .string mt], .bool false])) ((heap_setCell_other wm _ w.heap.size _ (fun e1 => hne7 e1.symm)).trans HROW.out) rfl rfl (Nat.le_refl _) (BB.out.grown (grown_cell wm wq.heap.size 3 _) BB.out.size (fun q hq => by cases hq; omega)) (by rw [← HY1.out, ← HY2.out]; try rfl)
   | false =>
    go_wp2
    all_goals exact lineD_close (R := fun e => e = .returned (.tuple #[.agg #[.string (pk P 1), .int .i64 (numV (pk P 2)), .int .i64 0, .string mt], .bool (okN (pk P 2) m1 && mb)])) ((heap_setCell_other wm _ w.heap.size _ (fun e1 => hne7 e1.symm)).trans HROW.out) rfl rfl (Nat.le_refl _) (BB.out.grown (grown_cell wm wq.heap.size 3 _) BB.out.size (fun q hq => by cases hq; omega)) (by rw [← HY1.out, ← HY2.out, HR.out]; try rfl)
set_option maxRecDepth 100000 in
set_option maxHeartbeats 4000000 in
theorem parse_log4 (s : ByteArray) (n : Nat) (P : List ByteArray) (m1 m2 : Int) (lg : Bool) (mt : ByteArray) (mb : Bool) (w : World) (hs : s.size ≤ 100000) (hn : n ≤ 100000) (hP : prtB 32 s = P) (hL : P.length = 4) (h0 : pk P 0 = decB n) (hsh : shapeQ (pk P 1) = (m1, m2, true)) (hm : m1 ≠ 0) (hm2 : 0 < m2) (hlg0 : ((pk P 1).toList == [108, 111, 103]) = lg) (hmt : (if pk P 3 = bDs then bNo else pk P 3) = mt) (hmb : (if pk P 3 = bDs then lg else okM (pk P 3)) = mb) :
  Calls Tryz.prog 95 #[.string s, .int .i64 n] w fun e w' => (∃ w0 o t l0, e = .returned (.tuple #[.agg #[.string w0, .int .i64 o, .int .i64 t, .string l0], .bool false])) ∧ Below w.heap.size w w' := by
 have CP := Lib.hid (fun W => parts2_any s 32 W (by omega))
 have CD := Lib.hid (fun W => dec2_any n W (by omega))
 have CS := Lib.hid (fun W => shape_any (pk P 1) W)
 have SZ := Lib.hid (fun i => prt_size s i)
 rw [hP] at CP SZ
 have BB := Lib.hid (below_a1 w (.cells #[.string ⟨#[]⟩, .int .i64 0, .int .i64 0, .string ⟨#[]⟩] 61))
 have HROW := Lib.hid (show (w.alloc (.cells #[.string ⟨#[]⟩, .int .i64 0, .int .i64 0, .string ⟨#[]⟩] 61)).heap[w.heap.size]? = some (.cells #[.string ⟨#[]⟩, .int .i64 0, .int .i64 0, .string ⟨#[]⟩] 61 (0, 0)) from heap_alloc_new _ _)
 go_enter Tryz.func95, Tryz.ntmps95
 go_wp2_with fail
 refine (CP.out _).mono ?_
 rintro e w1 ⟨⟨A, c, rfl, ho⟩, hb⟩
 rw [hL]
 replace BB := Lib.hid (below2 BB.out hb)
 replace HROW := Lib.hid ((hb.block w.heap.size (by rw [World.size_alloc]; omega)).trans HROW.out)
 have RD := Lib.hid (ho.rs encS)
 have hlo := ho.lt_
 have hz := hb.size
 clear hb ho
 have hcap : P.length ≤ c := RD.out.1
 have hmax : c ≤ 9223372036854775807 := RD.out.2.1
 rw [World.size_alloc] at hz
 obtain ⟨b, off, y0, hy0, rfl, hbb, d0⟩ := RD.out.atS (i := 0) (by omega)
 rw [pk_at (by omega)] at hy0
 rw [Nat.add_zero] at d0
 have z0 : y0.size ≤ 100000 := by have := SZ.out 0; rw [← hy0] at this; omega
 have HY0 := Lib.hid hy0
 clear hy0
 obtain ⟨b', off', y1, hy1, hee, -, d1⟩ := RD.out.atS (i := 1) (by omega)
 cases hee
 rw [pk_at (by omega)] at hy1
 have z1 : y1.size ≤ 100000 := by have := SZ.out 1; rw [← hy1] at this; omega
 have HY1 := Lib.hid hy1
 clear hy1
 obtain ⟨b', off', y2, hy2, hee, -, d2⟩ := RD.out.atS (i := 2) (by omega)
 cases hee
 rw [pk_at (by omega)] at hy2
 have z2 : y2.size ≤ 100000 := by have := SZ.out 2; rw [← hy2] at this; omega
 have HY2 := Lib.hid hy2
 clear hy2
 obtain ⟨b', off', y3, hy3, hee, -, d3⟩ := RD.out.atS (i := 3) (by omega)
 cases hee
 rw [pk_at (by omega)] at hy3
 have z3 : y3.size ≤ 100000 := by have := SZ.out 3; rw [← hy3] at this; omega
 have HY3 := Lib.hid hy3
 clear hy3
 have hlb := hlo b rfl
 clear hlo
 rw [World.size_alloc] at hlb
 have hne : w.heap.size ≠ b := by omega
 have hne2 : b ≠ w.heap.size := by omega
 have HMT := Lib.hid hmt
 have HMB := Lib.hid hmb
 clear hmt hmb
 have hm1 : (m1 == 0) = false := by simp [hm]
 have hlg : (y1.toList == [108, 111, 103]) = lg := by rw [HY1.out]; exact hlg0
 have MK := Lib.hid (fun W => marked_any y3 lg W (by omega))
 rw [HY3.out, HMT.out, HMB.out] at MK
 rw [← HY3.out] at MK
 have hm2d : decide (0 < m2) = true := decide_eq_true hm2
 have hd : (y0.toList == (decB n).toList) = true := by have := word_eq y0 (decB n); rw [this]; exact decide_eq_true (by rw [HY0.out]; exact h0)
 have hl2 : decide ((P.length : Int) < 2) = false := decide_eq_false (by omega)
 have hl2n : ¬ (P.length : Int) < 2 := by omega
 have hl0 : 0 < P.length := by omega
 have hl1 : 1 < P.length := by omega
 have hsh' : shapeQ y1 = (m1, m2, true) := by rw [HY1.out]; exact hsh
 replace CS := Lib.hid (fun W => shape_any y1 W)
 rw [hsh'] at CS
 clear hsh hsh'
 go_wp2_with fail
 refine wp_region_held_drew (S := fun W => Below w1.heap.size w1 W ∧ W.cell? ⟨b, off, none⟩ = some (.string y0)) (by kernel_rfl) ?_ (fun hHeld => ?_)
 ·first | exact ⟨Below.refl _ _, d0⟩ | exact ⟨belowD (Below.refl _ _), cB (belowD (Below.refl _ _)) d0⟩ | exact ⟨belowDN (Below.refl _ _) 1, d0⟩
 refine tk (i := 0) (v := ?_) rfl (Or.inl ⟨by rfl, ?_⟩) hHeld ?_
 rotate_left 1
 ·(intro w hSw; (try dsimp only at hSw); go_simp; try with_reducible rfl)
 try simp only [gA, Act.put]
 refine tk (i := 1) (v := ?_) rfl (Or.inl ⟨by rfl, ?_⟩) hHeld ?_
 rotate_left 1
 ·(intro w hSw; (try dsimp only at hSw); go_simp; try with_reducible rfl)
 try simp only [gA, Act.put]
 refine tk (i := 2) (v := ?_) rfl (Or.inl ⟨by rfl, ?_⟩) hHeld ?_
 rotate_left 1
 ·(intro w hSw; (try dsimp only at hSw); go_simp; try with_reducible rfl)
 try simp only [gA, Act.put]
 refine tk (i := 3) (v := ?_) rfl (Or.inl ⟨by rfl, ?_⟩) hHeld ?_
 rotate_left 1
 ·(intro w hSw; (try dsimp only at hSw); go_simp; try with_reducible rfl)
 try simp only [gA, Act.put]
 refine tk (i := 4) (v := ?_) rfl (Or.inl ⟨by rfl, ?_⟩) hHeld ?_
 rotate_left 1
 ·(intro w hSw; (try dsimp only at hSw); go_simp; try with_reducible rfl)
 try simp only [gA, Act.put]
 refine tk (i := 5) (v := ?_) rfl (Or.inl ⟨by rfl, ?_⟩) hHeld ?_
 rotate_left 1
 ·(intro w hSw; (try dsimp only at hSw); go_simp; try with_reducible rfl)
 try simp only [gA, Act.put]
 refine tk (i := 6) (v := ?_) rfl (Or.inl ⟨by rfl, ?_⟩) hHeld ?_
 rotate_left 1
 ·(intro w hSw; (try dsimp only at hSw); go_simp; try with_reducible rfl)
 try simp only [gA, Act.put]
 refine tk (i := 7) (v := ?_) rfl (Or.inl ⟨by rfl, ?_⟩) hHeld ?_
 rotate_left 1
 ·(intro w hSw; (try dsimp only at hSw); go_simp; try with_reducible rfl)
 try simp only [gA, Act.put]
 refine wpAnyH_ready (rs := [8]) (by kernel_rfl) (by simp) ?_
 refine AllReadyH.cons rfl (fun K hK => ?_) AllReadyH.nil
 go_simp
 go_at_call 46
 refine (CD.out _).mono ?_
 rintro e wq ⟨rfl, hbq⟩
 go_wp2_with fail
 refine hK.out _ _ ?_ (fun hHeld => ?_)
 ·exact ⟨below2 hHeld.1 hbq, cB hbq hHeld.2⟩
 clear hK K
 try simp only [gA, Act.put]
 refine tk (i := 9) (v := ?_) rfl (Or.inl ⟨by rfl, ?_⟩) hHeld ?_
 rotate_left 1
 ·(intro w hSw; (try dsimp only at hSw); go_simp; try with_reducible rfl)
 try simp only [gA, Act.put]
 refine tk (i := 10) (v := ?_) rfl (Or.inl ⟨by rfl, ?_⟩) hHeld ?_
 rotate_left 1
 ·(intro w hSw; (try dsimp only at hSw); go_simp; try with_reducible rfl)
 try simp only [gA, Act.put]
 refine wpAnyH_done (by kernel_rfl) ?_ _
 rotate_left 1
 all_goals
  replace d1 := cB hHeld.1 d1
  replace d2 := cB hHeld.1 d2
  replace d3 := cB hHeld.1 d3
  replace d0 := hHeld.2
  replace BB := Lib.hid (below2 BB.out hHeld.1)
  replace HROW := Lib.hid ((hHeld.1.block w.heap.size (by omega)).trans HROW.out)
  have hzq := hHeld.1.size
  have hbl : b < wq.heap.size := by omega
  have hwl : w.heap.size < wq.heap.size := by omega
  have hwl2 : w.heap.size ≠ wq.heap.size := by omega
  have hbl2 : b ≠ wq.heap.size := by omega
  have r0 : wq.cell? ⟨w.heap.size, 0, none⟩ = some (.string ⟨#[]⟩) := by rw [cell_of_row _ _ _ _ _ _ HROW.out]; rfl
  have r1 : wq.cell? ⟨w.heap.size, 1, none⟩ = some (.int .i64 0) := by rw [cell_of_row _ _ _ _ _ _ HROW.out]; rfl
  have r2 : wq.cell? ⟨w.heap.size, 2, none⟩ = some (.int .i64 0) := by rw [cell_of_row _ _ _ _ _ _ HROW.out]; rfl
  have r3 : wq.cell? ⟨w.heap.size, 3, none⟩ = some (.string ⟨#[]⟩) := by rw [cell_of_row _ _ _ _ _ _ HROW.out]; rfl
  have fz : wq.frozen? ⟨w.heap.size, 0, none⟩ = false := by simp [World.frozen?, HROW.out]
  have fz1 : wq.frozen? ⟨w.heap.size, 1, none⟩ = false := by simp [World.frozen?, HROW.out]
  have fz2 : wq.frozen? ⟨w.heap.size, 2, none⟩ = false := by simp [World.frozen?, HROW.out]
  have fz3 : wq.frozen? ⟨w.heap.size, 3, none⟩ = false := by simp [World.frozen?, HROW.out]
  clear hHeld RD
  go_wp2_with fail
  refine (CS.out _).mono ?_
  rintro e w3 ⟨rfl, rfl⟩
  go_wp2_with fail
  refine (numberTo_any y2 m1 _ (by omega)).mono ?_
  rintro e w4 ⟨rfl, rfl⟩
  go_upto_region 17 with fail
  refine wp_region_held_drew (S := fun W => Below (wq.alloc (.cells #[.string y1, .int .i64 (numV y2), .int .i64 0, .string ⟨#[]⟩] 61)).heap.size (wq.alloc (.cells #[.string y1, .int .i64 (numV y2), .int .i64 0, .string ⟨#[]⟩] 61)) W ∧ W.cell? ⟨b, off + 3, none⟩ = some (.string y3) ∧ W.cell? ⟨wq.heap.size, 0, none⟩ = some (.string y1)) (by kernel_rfl) ?_ (fun hHeld => ?_)
  ·first | exact ⟨Below.refl _ _, by go_simp, by go_simp⟩ | exact ⟨belowD (Below.refl _ _), by go_simp, by go_simp⟩
  refine tk (i := 0) (v := ?_) rfl (Or.inl ⟨by rfl, ?_⟩) hHeld ?_
  rotate_left 1
  ·(intro w hSw; (try dsimp only at hSw); go_simp; try with_reducible rfl)
  try simp only [gA, Act.put]
  refine tk (i := 1) (v := ?_) rfl (Or.inl ⟨by rfl, ?_⟩) hHeld ?_
  rotate_left 1
  ·(intro w hSw; (try dsimp only at hSw); go_simp; try with_reducible rfl)
  try simp only [gA, Act.put]
  refine tk (i := 2) (v := ?_) rfl (Or.inl ⟨by rfl, ?_⟩) hHeld ?_
  rotate_left 1
  ·(intro w hSw; (try dsimp only at hSw); go_simp; try with_reducible rfl)
  try simp only [gA, Act.put]
  refine tk (i := 3) (v := ?_) rfl (Or.inl ⟨by rfl, ?_⟩) hHeld ?_
  rotate_left 1
  ·(intro w hSw; (try dsimp only at hSw); go_simp; try with_reducible rfl)
  try simp only [gA, Act.put]
  refine tk (i := 4) (v := ?_) rfl (Or.inl ⟨by rfl, ?_⟩) hHeld ?_
  rotate_left 1
  ·(intro w hSw; (try dsimp only at hSw); go_simp; try with_reducible rfl)
  try simp only [gA, Act.put]
  refine tk (i := 5) (v := ?_) rfl (Or.inl ⟨by rfl, ?_⟩) hHeld ?_
  rotate_left 1
  ·(intro w hSw; (try dsimp only at hSw); go_simp; try with_reducible rfl)
  try simp only [gA, Act.put]
  refine wpAnyH_ready (rs := [6]) (by kernel_rfl) (by simp) ?_
  refine AllReadyH.cons rfl (fun K hK => ?_) AllReadyH.nil
  go_simp
  go_at_call 130
  refine (MK.out _).mono ?_
  rintro e wm ⟨rfl, hbm⟩
  go_wp2_with fail
  refine hK.out _ _ ?_ (fun hHeld => ?_)
  ·exact ⟨below2 hHeld.1 hbm, cB hbm hHeld.2.1, cB hbm hHeld.2.2⟩
  clear hK K
  try simp only [gA, Act.put]
  refine tk (i := 7) (v := ?_) rfl (Or.inl ⟨by rfl, ?_⟩) hHeld ?_
  rotate_left 1
  ·(intro w hSw; (try dsimp only at hSw); go_simp; try with_reducible rfl)
  try simp only [gA, Act.put]
  refine tk (i := 8) (v := ?_) rfl (Or.inl ⟨by rfl, ?_⟩) hHeld ?_
  rotate_left 1
  ·(intro w hSw; (try dsimp only at hSw); go_simp; try with_reducible rfl)
  try simp only [gA, Act.put]
  refine tk (i := 9) (v := ?_) rfl (Or.inl ⟨by rfl, ?_⟩) hHeld ?_
  rotate_left 1
  ·(intro w hSw; (try dsimp only at hSw); go_simp; try with_reducible rfl)
  try simp only [gA, Act.put]
  refine tk (i := 10) (v := ?_) rfl (Or.inl ⟨by rfl, ?_⟩) hHeld ?_
  rotate_left 1
  ·(intro w hSw; (try dsimp only at hSw); go_simp; try with_reducible rfl)
  try simp only [gA, Act.put]
  refine tk (i := 11) (v := ?_) rfl (Or.inl ⟨by rfl, ?_⟩) hHeld ?_
  rotate_left 1
  ·(intro w hSw; (try dsimp only at hSw); go_simp; try with_reducible rfl)
  try simp only [gA, Act.put]
  refine wpAnyH_done (by kernel_rfl) ?_ _
  rotate_left 1
  all_goals
   have X := Lib.hid ((hHeld.1.block wq.heap.size (by rw [World.size_alloc]; omega)).trans (heap_alloc_new wq (.cells #[.string y1, .int .i64 (numV y2), .int .i64 0, .string ⟨#[]⟩] 61)))
   replace HROW := Lib.hid ((hHeld.1.block w.heap.size (by rw [World.size_alloc]; omega)).trans (((below_a1 wq (.cells #[.string y1, .int .i64 (numV y2), .int .i64 0, .string ⟨#[]⟩] 61)).block w.heap.size hwl).trans HROW.out))
   replace BB := Lib.hid (below2 (belowA BB.out (.cells #[.string y1, .int .i64 (numV y2), .int .i64 0, .string ⟨#[]⟩] 61)) hHeld.1)
   clear r0 r1 r2 r3 fz fz1 fz2 fz3
   have r0 : wm.cell? ⟨w.heap.size, 0, none⟩ = some (.string ⟨#[]⟩) := by rw [cell_of_row _ _ _ _ _ _ HROW.out]; rfl
   have fz0 : wm.frozen? ⟨w.heap.size, 0, none⟩ = false := by simp [World.frozen?, HROW.out]
   have x0 : wm.cell? ⟨wq.heap.size, 0, none⟩ = some (.string y1) := by rw [cell_of_row _ _ _ _ _ _ X.out]; rfl
   have fx0 : wm.frozen? ⟨wq.heap.size, 0, none⟩ = false := by simp [World.frozen?, X.out]
   have r1 : wm.cell? ⟨w.heap.size, 1, none⟩ = some (.int .i64 0) := by rw [cell_of_row _ _ _ _ _ _ HROW.out]; rfl
   have fz1 : wm.frozen? ⟨w.heap.size, 1, none⟩ = false := by simp [World.frozen?, HROW.out]
   have x1 : wm.cell? ⟨wq.heap.size, 1, none⟩ = some (.int .i64 (numV y2)) := by rw [cell_of_row _ _ _ _ _ _ X.out]; rfl
   have fx1 : wm.frozen? ⟨wq.heap.size, 1, none⟩ = false := by simp [World.frozen?, X.out]
   have r2 : wm.cell? ⟨w.heap.size, 2, none⟩ = some (.int .i64 0) := by rw [cell_of_row _ _ _ _ _ _ HROW.out]; rfl
   have fz2 : wm.frozen? ⟨w.heap.size, 2, none⟩ = false := by simp [World.frozen?, HROW.out]
   have x2 : wm.cell? ⟨wq.heap.size, 2, none⟩ = some (.int .i64 0) := by rw [cell_of_row _ _ _ _ _ _ X.out]; rfl
   have fx2 : wm.frozen? ⟨wq.heap.size, 2, none⟩ = false := by simp [World.frozen?, X.out]
   have r3 : wm.cell? ⟨w.heap.size, 3, none⟩ = some (.string ⟨#[]⟩) := by rw [cell_of_row _ _ _ _ _ _ HROW.out]; rfl
   have fz3 : wm.frozen? ⟨w.heap.size, 3, none⟩ = false := by simp [World.frozen?, HROW.out]
   have x3 : wm.cell? ⟨wq.heap.size, 3, none⟩ = some (.string ⟨#[]⟩) := by rw [cell_of_row _ _ _ _ _ _ X.out]; rfl
   have fx3 : wm.frozen? ⟨wq.heap.size, 3, none⟩ = false := by simp [World.frozen?, X.out]
   have hqm : wq.heap.size < wm.heap.size := by have := hHeld.1.size; rw [World.size_alloc] at this; omega
   have hne7 : wq.heap.size ≠ w.heap.size := by omega
   have hne8 : wq.heap.size ≠ b := by omega
   clear hHeld
   obtain ⟨r, hr⟩ : ∃ r, okN y2 m1 = r := ⟨_, rfl⟩
   rw [hr]
   clear hr HMB HMT
   cases r with
   | true =>
    cases mb with
    | true =>
     go_wp2
     all_goals exact lineD_close (R := fun e => ∃ w0 o t l0, e = .returned (.tuple #[.agg #[.string w0, .int .i64 o, .int .i64 t, .string l0], .bool false])) ((heap_setCell_other wm _ w.heap.size _ (fun e1 => hne7 e1.symm)).trans HROW.out) rfl rfl (Nat.le_refl _) (BB.out.grown (grown_cell wm wq.heap.size 3 _) BB.out.size (fun q hq => by cases hq; omega)) ⟨_, _, _, _, rfl⟩
    | false =>
     go_wp2
     all_goals exact lineD_close (R := fun e => ∃ w0 o t l0, e = .returned (.tuple #[.agg #[.string w0, .int .i64 o, .int .i64 t, .string l0], .bool false])) ((heap_setCell_other wm _ w.heap.size _ (fun e1 => hne7 e1.symm)).trans HROW.out) rfl rfl (Nat.le_refl _) (BB.out.grown (grown_cell wm wq.heap.size 3 _) BB.out.size (fun q hq => by cases hq; omega)) ⟨_, _, _, _, rfl⟩
   | false =>
    go_wp2
    all_goals exact lineD_close (R := fun e => ∃ w0 o t l0, e = .returned (.tuple #[.agg #[.string w0, .int .i64 o, .int .i64 t, .string l0], .bool false])) ((heap_setCell_other wm _ w.heap.size _ (fun e1 => hne7 e1.symm)).trans HROW.out) rfl rfl (Nat.le_refl _) (BB.out.grown (grown_cell wm wq.heap.size 3 _) BB.out.size (fun q hq => by cases hq; omega)) ⟨_, _, _, _, rfl⟩
end Go.Proofs.YtcnpbcgkhhebaaaGreatDoor
/- The document: a line is parsed (markL). -/
namespace Go.Proofs.YtcnpbcgkhhebaaaGreatDoor
open Go.RowKit

set_option maxRecDepth 100000 in
set_option maxHeartbeats 4000000 in
theorem parse_markL (s : ByteArray) (n : Nat) (P : List ByteArray) (m1 : Int) (lg : Bool) (mt : ByteArray) (mb : Bool) (w : World) (hs : s.size ≤ 100000) (hn : n ≤ 100000) (hP : prtB 32 s = P) (hL : 5 ≤ P.length) (h0 : pk P 0 = decB n) (hsh : shapeQ (pk P 1) = (m1, 0, true)) (hm : m1 ≠ 0) (hlg0 : ((pk P 1).toList == [108, 111, 103]) = lg) (hmt : (if pk P 3 = bDs then bNo else pk P 3) = mt) (hmb : (if pk P 3 = bDs then lg else okM (pk P 3)) = mb) :
  Calls Tryz.prog 95 #[.string s, .int .i64 n] w fun e w' => (∃ w0 o t l0, e = .returned (.tuple #[.agg #[.string w0, .int .i64 o, .int .i64 t, .string l0], .bool false])) ∧ Below w.heap.size w w' := by
 have CP := Lib.hid (fun W => parts2_any s 32 W (by omega))
 have CD := Lib.hid (fun W => dec2_any n W (by omega))
 have CS := Lib.hid (fun W => shape_any (pk P 1) W)
 have SZ := Lib.hid (fun i => prt_size s i)
 rw [hP] at CP SZ
 have BB := Lib.hid (below_a1 w (.cells #[.string ⟨#[]⟩, .int .i64 0, .int .i64 0, .string ⟨#[]⟩] 61))
 have HROW := Lib.hid (show (w.alloc (.cells #[.string ⟨#[]⟩, .int .i64 0, .int .i64 0, .string ⟨#[]⟩] 61)).heap[w.heap.size]? = some (.cells #[.string ⟨#[]⟩, .int .i64 0, .int .i64 0, .string ⟨#[]⟩] 61 (0, 0)) from heap_alloc_new _ _)
 go_enter Tryz.func95, Tryz.ntmps95
 go_wp2_with fail
 refine (CP.out _).mono ?_
 rintro e w1 ⟨⟨A, c, rfl, ho⟩, hb⟩
 obtain ⟨L, hLe⟩ : ∃ L, P.length = L + 5 := ⟨P.length - 5, by omega⟩
 rw [hLe]
 replace BB := Lib.hid (below2 BB.out hb)
 replace HROW := Lib.hid ((hb.block w.heap.size (by rw [World.size_alloc]; omega)).trans HROW.out)
 have RD := Lib.hid (ho.rs encS)
 have hlo := ho.lt_
 have hz := hb.size
 clear hb ho
 have hcap : P.length ≤ c := RD.out.1
 have hmax : c ≤ 9223372036854775807 := RD.out.2.1
 rw [World.size_alloc] at hz
 obtain ⟨b, off, y0, hy0, rfl, hbb, d0⟩ := RD.out.atS (i := 0) (by omega)
 rw [pk_at (by omega)] at hy0
 rw [Nat.add_zero] at d0
 have z0 : y0.size ≤ 100000 := by have := SZ.out 0; rw [← hy0] at this; omega
 have HY0 := Lib.hid hy0
 clear hy0
 obtain ⟨b', off', y1, hy1, hee, -, d1⟩ := RD.out.atS (i := 1) (by omega)
 cases hee
 rw [pk_at (by omega)] at hy1
 have z1 : y1.size ≤ 100000 := by have := SZ.out 1; rw [← hy1] at this; omega
 have HY1 := Lib.hid hy1
 clear hy1
 obtain ⟨b', off', y2, hy2, hee, -, d2⟩ := RD.out.atS (i := 2) (by omega)
 cases hee
 rw [pk_at (by omega)] at hy2
 have z2 : y2.size ≤ 100000 := by have := SZ.out 2; rw [← hy2] at this; omega
 have HY2 := Lib.hid hy2
 clear hy2
 obtain ⟨b', off', y3, hy3, hee, -, d3⟩ := RD.out.atS (i := 3) (by omega)
 cases hee
 rw [pk_at (by omega)] at hy3
 have z3 : y3.size ≤ 100000 := by have := SZ.out 3; rw [← hy3] at this; omega
 have HY3 := Lib.hid hy3
 clear hy3
 have hlb := hlo b rfl
 clear hlo
 rw [World.size_alloc] at hlb
 have hne : w.heap.size ≠ b := by omega
 have hne2 : b ≠ w.heap.size := by omega
 have HMT := Lib.hid hmt
 have HMB := Lib.hid hmb
 clear hmt hmb
 have hm1 : (m1 == 0) = false := by simp [hm]
 have hlg : (y1.toList == [108, 111, 103]) = lg := by rw [HY1.out]; exact hlg0
 have MK := Lib.hid (fun W => marked_any y3 lg W (by omega))
 rw [HY3.out, HMT.out, HMB.out] at MK
 rw [← HY3.out] at MK
 have hd : (y0.toList == (decB n).toList) = true := by have := word_eq y0 (decB n); rw [this]; exact decide_eq_true (by rw [HY0.out]; exact h0)
 have hl2 : decide ((L : Int) + 5 < 2) = false := decide_eq_false (by omega)
 have hl2n : ¬ (L : Int) + 5 < 2 := by omega
 have g0 : (0 : Int) < (L : Int) + 5 := by omega
 have g1 : (1 : Int) < (L : Int) + 5 := by omega
 have g2 : (2 : Int) ≤ (L : Int) + 5 := by omega
 have g3 : (0 : Int) < (L : Int) + 2 := by omega
 have hl0 : 0 < P.length := by omega
 have hl1 : 1 < P.length := by omega
 have hsh' : shapeQ y1 = (m1, 0, true) := by rw [HY1.out]; exact hsh
 replace CS := Lib.hid (fun W => shape_any y1 W)
 rw [hsh'] at CS
 clear hsh hsh'
 go_wp2_with fail
 refine wp_region_held_drew (S := fun W => Below w1.heap.size w1 W ∧ W.cell? ⟨b, off, none⟩ = some (.string y0)) (by kernel_rfl) ?_ (fun hHeld => ?_)
 ·first | exact ⟨Below.refl _ _, d0⟩ | exact ⟨belowD (Below.refl _ _), cB (belowD (Below.refl _ _)) d0⟩ | exact ⟨belowDN (Below.refl _ _) 1, d0⟩
 refine tk (i := 0) (v := ?_) rfl (Or.inl ⟨by rfl, ?_⟩) hHeld ?_
 rotate_left 1
 ·(intro w hSw; (try dsimp only at hSw); go_simp; try with_reducible rfl)
 try simp only [gA, Act.put]
 refine tk (i := 1) (v := ?_) rfl (Or.inl ⟨by rfl, ?_⟩) hHeld ?_
 rotate_left 1
 ·(intro w hSw; (try dsimp only at hSw); go_simp; try with_reducible rfl)
 try simp only [gA, Act.put]
 refine tk (i := 2) (v := ?_) rfl (Or.inl ⟨by rfl, ?_⟩) hHeld ?_
 rotate_left 1
 ·(intro w hSw; (try dsimp only at hSw); go_simp; try with_reducible rfl)
 try simp only [gA, Act.put]
 refine tk (i := 3) (v := ?_) rfl (Or.inl ⟨by rfl, ?_⟩) hHeld ?_
 rotate_left 1
 ·(intro w hSw; (try dsimp only at hSw); go_simp; try with_reducible rfl)
 try simp only [gA, Act.put]
 refine tk (i := 4) (v := ?_) rfl (Or.inl ⟨by rfl, ?_⟩) hHeld ?_
 rotate_left 1
 ·(intro w hSw; (try dsimp only at hSw); go_simp; try with_reducible rfl)
 try simp only [gA, Act.put]
 refine tk (i := 5) (v := ?_) rfl (Or.inl ⟨by rfl, ?_⟩) hHeld ?_
 rotate_left 1
 ·(intro w hSw; (try dsimp only at hSw); go_simp; try with_reducible rfl)
 try simp only [gA, Act.put]
 refine tk (i := 6) (v := ?_) rfl (Or.inl ⟨by rfl, ?_⟩) hHeld ?_
 rotate_left 1
 ·(intro w hSw; (try dsimp only at hSw); go_simp; try with_reducible rfl)
 try simp only [gA, Act.put]
 refine tk (i := 7) (v := ?_) rfl (Or.inl ⟨by rfl, ?_⟩) hHeld ?_
 rotate_left 1
 ·(intro w hSw; (try dsimp only at hSw); go_simp; try with_reducible rfl)
 try simp only [gA, Act.put]
 refine wpAnyH_ready (rs := [8]) (by kernel_rfl) (by simp) ?_
 refine AllReadyH.cons rfl (fun K hK => ?_) AllReadyH.nil
 go_simp
 go_at_call 46
 refine (CD.out _).mono ?_
 rintro e wq ⟨rfl, hbq⟩
 go_wp2_with fail
 refine hK.out _ _ ?_ (fun hHeld => ?_)
 ·exact ⟨below2 hHeld.1 hbq, cB hbq hHeld.2⟩
 clear hK K
 try simp only [gA, Act.put]
 refine tk (i := 9) (v := ?_) rfl (Or.inl ⟨by rfl, ?_⟩) hHeld ?_
 rotate_left 1
 ·(intro w hSw; (try dsimp only at hSw); go_simp; try with_reducible rfl)
 try simp only [gA, Act.put]
 refine tk (i := 10) (v := ?_) rfl (Or.inl ⟨by rfl, ?_⟩) hHeld ?_
 rotate_left 1
 ·(intro w hSw; (try dsimp only at hSw); go_simp; try with_reducible rfl)
 try simp only [gA, Act.put]
 refine wpAnyH_done (by kernel_rfl) ?_ _
 rotate_left 1
 all_goals
  replace d1 := cB hHeld.1 d1
  replace d2 := cB hHeld.1 d2
  replace d3 := cB hHeld.1 d3
  replace d0 := hHeld.2
  replace BB := Lib.hid (below2 BB.out hHeld.1)
  replace HROW := Lib.hid ((hHeld.1.block w.heap.size (by omega)).trans HROW.out)
  have hzq := hHeld.1.size
  have hbl : b < wq.heap.size := by omega
  have hwl : w.heap.size < wq.heap.size := by omega
  have hwl2 : w.heap.size ≠ wq.heap.size := by omega
  have hbl2 : b ≠ wq.heap.size := by omega
  have r0 : wq.cell? ⟨w.heap.size, 0, none⟩ = some (.string ⟨#[]⟩) := by rw [cell_of_row _ _ _ _ _ _ HROW.out]; rfl
  have r1 : wq.cell? ⟨w.heap.size, 1, none⟩ = some (.int .i64 0) := by rw [cell_of_row _ _ _ _ _ _ HROW.out]; rfl
  have r2 : wq.cell? ⟨w.heap.size, 2, none⟩ = some (.int .i64 0) := by rw [cell_of_row _ _ _ _ _ _ HROW.out]; rfl
  have r3 : wq.cell? ⟨w.heap.size, 3, none⟩ = some (.string ⟨#[]⟩) := by rw [cell_of_row _ _ _ _ _ _ HROW.out]; rfl
  have fz : wq.frozen? ⟨w.heap.size, 0, none⟩ = false := by simp [World.frozen?, HROW.out]
  have fz1 : wq.frozen? ⟨w.heap.size, 1, none⟩ = false := by simp [World.frozen?, HROW.out]
  have fz2 : wq.frozen? ⟨w.heap.size, 2, none⟩ = false := by simp [World.frozen?, HROW.out]
  have fz3 : wq.frozen? ⟨w.heap.size, 3, none⟩ = false := by simp [World.frozen?, HROW.out]
  clear hHeld RD
  go_wp2_with fail
  refine (CS.out _).mono ?_
  rintro e w3 ⟨rfl, rfl⟩
  go_wp2_with fail
  refine (numberTo_any y2 m1 _ (by omega)).mono ?_
  rintro e w4 ⟨rfl, rfl⟩
  go_upto_region 17 with fail
  refine wp_region_held_drew (S := fun W => Below (wq.alloc (.cells #[.string y1, .int .i64 (numV y2), .int .i64 0, .string ⟨#[]⟩] 61)).heap.size (wq.alloc (.cells #[.string y1, .int .i64 (numV y2), .int .i64 0, .string ⟨#[]⟩] 61)) W ∧ W.cell? ⟨b, off + 3, none⟩ = some (.string y3) ∧ W.cell? ⟨wq.heap.size, 0, none⟩ = some (.string y1)) (by kernel_rfl) ?_ (fun hHeld => ?_)
  ·first | exact ⟨Below.refl _ _, by go_simp, by go_simp⟩ | exact ⟨belowD (Below.refl _ _), by go_simp, by go_simp⟩
  refine tk (i := 0) (v := ?_) rfl (Or.inl ⟨by rfl, ?_⟩) hHeld ?_
  rotate_left 1
  ·(intro w hSw; (try dsimp only at hSw); go_simp; try with_reducible rfl)
  try simp only [gA, Act.put]
  refine tk (i := 1) (v := ?_) rfl (Or.inl ⟨by rfl, ?_⟩) hHeld ?_
  rotate_left 1
  ·(intro w hSw; (try dsimp only at hSw); go_simp; try with_reducible rfl)
  try simp only [gA, Act.put]
  refine tk (i := 2) (v := ?_) rfl (Or.inl ⟨by rfl, ?_⟩) hHeld ?_
  rotate_left 1
  ·(intro w hSw; (try dsimp only at hSw); go_simp; try with_reducible rfl)
  try simp only [gA, Act.put]
  refine tk (i := 3) (v := ?_) rfl (Or.inl ⟨by rfl, ?_⟩) hHeld ?_
  rotate_left 1
  ·(intro w hSw; (try dsimp only at hSw); go_simp; try with_reducible rfl)
  try simp only [gA, Act.put]
  refine tk (i := 4) (v := ?_) rfl (Or.inl ⟨by rfl, ?_⟩) hHeld ?_
  rotate_left 1
  ·(intro w hSw; (try dsimp only at hSw); go_simp; try with_reducible rfl)
  try simp only [gA, Act.put]
  refine tk (i := 5) (v := ?_) rfl (Or.inl ⟨by rfl, ?_⟩) hHeld ?_
  rotate_left 1
  ·(intro w hSw; (try dsimp only at hSw); go_simp; try with_reducible rfl)
  try simp only [gA, Act.put]
  refine wpAnyH_ready (rs := [6]) (by kernel_rfl) (by simp) ?_
  refine AllReadyH.cons rfl (fun K hK => ?_) AllReadyH.nil
  go_simp
  go_at_call 130
  refine (MK.out _).mono ?_
  rintro e wm ⟨rfl, hbm⟩
  go_wp2_with fail
  refine hK.out _ _ ?_ (fun hHeld => ?_)
  ·exact ⟨below2 hHeld.1 hbm, cB hbm hHeld.2.1, cB hbm hHeld.2.2⟩
  clear hK K
  try simp only [gA, Act.put]
  refine tk (i := 7) (v := ?_) rfl (Or.inl ⟨by rfl, ?_⟩) hHeld ?_
  rotate_left 1
  ·(intro w hSw; (try dsimp only at hSw); go_simp; try with_reducible rfl)
  try simp only [gA, Act.put]
  refine tk (i := 8) (v := ?_) rfl (Or.inl ⟨by rfl, ?_⟩) hHeld ?_
  rotate_left 1
  ·(intro w hSw; (try dsimp only at hSw); go_simp; try with_reducible rfl)
  try simp only [gA, Act.put]
  refine tk (i := 9) (v := ?_) rfl (Or.inl ⟨by rfl, ?_⟩) hHeld ?_
  rotate_left 1
  ·(intro w hSw; (try dsimp only at hSw); go_simp; try with_reducible rfl)
  try simp only [gA, Act.put]
  refine tk (i := 10) (v := ?_) rfl (Or.inl ⟨by rfl, ?_⟩) hHeld ?_
  rotate_left 1
  ·(intro w hSw; (try dsimp only at hSw); go_simp; try with_reducible rfl)
  try simp only [gA, Act.put]
  refine tk (i := 11) (v := ?_) rfl (Or.inl ⟨by rfl, ?_⟩) hHeld ?_
  rotate_left 1
  ·(intro w hSw; (try dsimp only at hSw); go_simp; try with_reducible rfl)
  try simp only [gA, Act.put]
  refine wpAnyH_done (by kernel_rfl) ?_ _
  rotate_left 1
  all_goals
   have X := Lib.hid ((hHeld.1.block wq.heap.size (by rw [World.size_alloc]; omega)).trans (heap_alloc_new wq (.cells #[.string y1, .int .i64 (numV y2), .int .i64 0, .string ⟨#[]⟩] 61)))
   replace HROW := Lib.hid ((hHeld.1.block w.heap.size (by rw [World.size_alloc]; omega)).trans (((below_a1 wq (.cells #[.string y1, .int .i64 (numV y2), .int .i64 0, .string ⟨#[]⟩] 61)).block w.heap.size hwl).trans HROW.out))
   replace BB := Lib.hid (below2 (belowA BB.out (.cells #[.string y1, .int .i64 (numV y2), .int .i64 0, .string ⟨#[]⟩] 61)) hHeld.1)
   clear r0 r1 r2 r3 fz fz1 fz2 fz3
   have r0 : wm.cell? ⟨w.heap.size, 0, none⟩ = some (.string ⟨#[]⟩) := by rw [cell_of_row _ _ _ _ _ _ HROW.out]; rfl
   have fz0 : wm.frozen? ⟨w.heap.size, 0, none⟩ = false := by simp [World.frozen?, HROW.out]
   have x0 : wm.cell? ⟨wq.heap.size, 0, none⟩ = some (.string y1) := by rw [cell_of_row _ _ _ _ _ _ X.out]; rfl
   have fx0 : wm.frozen? ⟨wq.heap.size, 0, none⟩ = false := by simp [World.frozen?, X.out]
   have r1 : wm.cell? ⟨w.heap.size, 1, none⟩ = some (.int .i64 0) := by rw [cell_of_row _ _ _ _ _ _ HROW.out]; rfl
   have fz1 : wm.frozen? ⟨w.heap.size, 1, none⟩ = false := by simp [World.frozen?, HROW.out]
   have x1 : wm.cell? ⟨wq.heap.size, 1, none⟩ = some (.int .i64 (numV y2)) := by rw [cell_of_row _ _ _ _ _ _ X.out]; rfl
   have fx1 : wm.frozen? ⟨wq.heap.size, 1, none⟩ = false := by simp [World.frozen?, X.out]
   have r2 : wm.cell? ⟨w.heap.size, 2, none⟩ = some (.int .i64 0) := by rw [cell_of_row _ _ _ _ _ _ HROW.out]; rfl
   have fz2 : wm.frozen? ⟨w.heap.size, 2, none⟩ = false := by simp [World.frozen?, HROW.out]
   have x2 : wm.cell? ⟨wq.heap.size, 2, none⟩ = some (.int .i64 0) := by rw [cell_of_row _ _ _ _ _ _ X.out]; rfl
   have fx2 : wm.frozen? ⟨wq.heap.size, 2, none⟩ = false := by simp [World.frozen?, X.out]
   have r3 : wm.cell? ⟨w.heap.size, 3, none⟩ = some (.string ⟨#[]⟩) := by rw [cell_of_row _ _ _ _ _ _ HROW.out]; rfl
   have fz3 : wm.frozen? ⟨w.heap.size, 3, none⟩ = false := by simp [World.frozen?, HROW.out]
   have x3 : wm.cell? ⟨wq.heap.size, 3, none⟩ = some (.string ⟨#[]⟩) := by rw [cell_of_row _ _ _ _ _ _ X.out]; rfl
   have fx3 : wm.frozen? ⟨wq.heap.size, 3, none⟩ = false := by simp [World.frozen?, X.out]
   have hqm : wq.heap.size < wm.heap.size := by have := hHeld.1.size; rw [World.size_alloc] at this; omega
   have hne7 : wq.heap.size ≠ w.heap.size := by omega
   have hne8 : wq.heap.size ≠ b := by omega
   clear hHeld
   obtain ⟨r, hr⟩ : ∃ r, okN y2 m1 = r := ⟨_, rfl⟩
   rw [hr]
   clear hr HMB HMT
   cases r with
   | true =>
    cases mb with
    | true =>
     go_wp2
     all_goals exact lineD_close (R := fun e => ∃ w0 o t l0, e = .returned (.tuple #[.agg #[.string w0, .int .i64 o, .int .i64 t, .string l0], .bool false])) ((heap_setCell_other wm _ w.heap.size _ (fun e1 => hne7 e1.symm)).trans HROW.out) rfl rfl (Nat.le_refl _) (BB.out.grown (grown_cell wm wq.heap.size 3 _) BB.out.size (fun q hq => by cases hq; omega)) ⟨_, _, _, _, rfl⟩
    | false =>
     go_wp2
     all_goals exact lineD_close (R := fun e => ∃ w0 o t l0, e = .returned (.tuple #[.agg #[.string w0, .int .i64 o, .int .i64 t, .string l0], .bool false])) ((heap_setCell_other wm _ w.heap.size _ (fun e1 => hne7 e1.symm)).trans HROW.out) rfl rfl (Nat.le_refl _) (BB.out.grown (grown_cell wm wq.heap.size 3 _) BB.out.size (fun q hq => by cases hq; omega)) ⟨_, _, _, _, rfl⟩
   | false =>
    go_wp2
    all_goals exact lineD_close (R := fun e => ∃ w0 o t l0, e = .returned (.tuple #[.agg #[.string w0, .int .i64 o, .int .i64 t, .string l0], .bool false])) ((heap_setCell_other wm _ w.heap.size _ (fun e1 => hne7 e1.symm)).trans HROW.out) rfl rfl (Nat.le_refl _) (BB.out.grown (grown_cell wm wq.heap.size 3 _) BB.out.size (fun q hq => by cases hq; omega)) ⟨_, _, _, _, rfl⟩
end Go.Proofs.YtcnpbcgkhhebaaaGreatDoor
/- The document: a line is parsed (log5). -/
namespace Go.Proofs.YtcnpbcgkhhebaaaGreatDoor
open Go.RowKit

set_option maxRecDepth 100000 in
set_option maxHeartbeats 4000000 in
theorem parse_log5 (s : ByteArray) (n : Nat) (P : List ByteArray) (m1 m2 : Int) (lg : Bool) (mt : ByteArray) (mb : Bool) (w : World) (hs : s.size ≤ 100000) (hn : n ≤ 100000) (hP : prtB 32 s = P) (hL : P.length = 5) (h0 : pk P 0 = decB n) (hsh : shapeQ (pk P 1) = (m1, m2, true)) (hm : m1 ≠ 0) (hm2 : 0 < m2) (hlg0 : ((pk P 1).toList == [108, 111, 103]) = lg) (hmt : (if pk P 3 = bDs then bNo else pk P 3) = mt) (hmb : (if pk P 3 = bDs then lg else okM (pk P 3)) = mb) :
  Calls Tryz.prog 95 #[.string s, .int .i64 n] w fun e w' => e = .returned (.tuple #[.agg #[.string (pk P 1), .int .i64 (numV (pk P 2)), .int .i64 (numV (pk P 4)), .string mt], .bool (okN (pk P 2) m1 && mb && okN (pk P 4) m2)]) ∧ Below w.heap.size w w' := by
 have CP := Lib.hid (fun W => parts2_any s 32 W (by omega))
 have CD := Lib.hid (fun W => dec2_any n W (by omega))
 have CS := Lib.hid (fun W => shape_any (pk P 1) W)
 have SZ := Lib.hid (fun i => prt_size s i)
 rw [hP] at CP SZ
 have BB := Lib.hid (below_a1 w (.cells #[.string ⟨#[]⟩, .int .i64 0, .int .i64 0, .string ⟨#[]⟩] 61))
 have HROW := Lib.hid (show (w.alloc (.cells #[.string ⟨#[]⟩, .int .i64 0, .int .i64 0, .string ⟨#[]⟩] 61)).heap[w.heap.size]? = some (.cells #[.string ⟨#[]⟩, .int .i64 0, .int .i64 0, .string ⟨#[]⟩] 61 (0, 0)) from heap_alloc_new _ _)
 go_enter Tryz.func95, Tryz.ntmps95
 go_wp2_with fail
 refine (CP.out _).mono ?_
 rintro e w1 ⟨⟨A, c, rfl, ho⟩, hb⟩
 rw [hL]
 replace BB := Lib.hid (below2 BB.out hb)
 replace HROW := Lib.hid ((hb.block w.heap.size (by rw [World.size_alloc]; omega)).trans HROW.out)
 have RD := Lib.hid (ho.rs encS)
 have hlo := ho.lt_
 have hz := hb.size
 clear hb ho
 have hcap : P.length ≤ c := RD.out.1
 have hmax : c ≤ 9223372036854775807 := RD.out.2.1
 rw [World.size_alloc] at hz
 obtain ⟨b, off, y0, hy0, rfl, hbb, d0⟩ := RD.out.atS (i := 0) (by omega)
 rw [pk_at (by omega)] at hy0
 rw [Nat.add_zero] at d0
 have z0 : y0.size ≤ 100000 := by have := SZ.out 0; rw [← hy0] at this; omega
 have HY0 := Lib.hid hy0
 clear hy0
 obtain ⟨b', off', y1, hy1, hee, -, d1⟩ := RD.out.atS (i := 1) (by omega)
 cases hee
 rw [pk_at (by omega)] at hy1
 have z1 : y1.size ≤ 100000 := by have := SZ.out 1; rw [← hy1] at this; omega
 have HY1 := Lib.hid hy1
 clear hy1
 obtain ⟨b', off', y2, hy2, hee, -, d2⟩ := RD.out.atS (i := 2) (by omega)
 cases hee
 rw [pk_at (by omega)] at hy2
 have z2 : y2.size ≤ 100000 := by have := SZ.out 2; rw [← hy2] at this; omega
 have HY2 := Lib.hid hy2
 clear hy2
 obtain ⟨b', off', y3, hy3, hee, -, d3⟩ := RD.out.atS (i := 3) (by omega)
 cases hee
 rw [pk_at (by omega)] at hy3
 have z3 : y3.size ≤ 100000 := by have := SZ.out 3; rw [← hy3] at this; omega
 have HY3 := Lib.hid hy3
 clear hy3
 obtain ⟨b', off', y4, hy4, hee, -, d4⟩ := RD.out.atS (i := 4) (by omega)
 cases hee
 rw [pk_at (by omega)] at hy4
 have z4 : y4.size ≤ 100000 := by have := SZ.out 4; rw [← hy4] at this; omega
 have HY4 := Lib.hid hy4
 clear hy4
 have hlb := hlo b rfl
 clear hlo
 rw [World.size_alloc] at hlb
 have hne : w.heap.size ≠ b := by omega
 have hne2 : b ≠ w.heap.size := by omega
 have HMT := Lib.hid hmt
 have HMB := Lib.hid hmb
 clear hmt hmb
 have hm1 : (m1 == 0) = false := by simp [hm]
 have hlg : (y1.toList == [108, 111, 103]) = lg := by rw [HY1.out]; exact hlg0
 have MK := Lib.hid (fun W => marked_any y3 lg W (by omega))
 rw [HY3.out, HMT.out, HMB.out] at MK
 rw [← HY3.out] at MK
 have hm2d : decide (0 < m2) = true := decide_eq_true hm2
 have hd : (y0.toList == (decB n).toList) = true := by have := word_eq y0 (decB n); rw [this]; exact decide_eq_true (by rw [HY0.out]; exact h0)
 have hl2 : decide ((P.length : Int) < 2) = false := decide_eq_false (by omega)
 have hl2n : ¬ (P.length : Int) < 2 := by omega
 have hl0 : 0 < P.length := by omega
 have hl1 : 1 < P.length := by omega
 have hsh' : shapeQ y1 = (m1, m2, true) := by rw [HY1.out]; exact hsh
 replace CS := Lib.hid (fun W => shape_any y1 W)
 rw [hsh'] at CS
 clear hsh hsh'
 go_wp2_with fail
 refine wp_region_held_drew (S := fun W => Below w1.heap.size w1 W ∧ W.cell? ⟨b, off, none⟩ = some (.string y0)) (by kernel_rfl) ?_ (fun hHeld => ?_)
 ·first | exact ⟨Below.refl _ _, d0⟩ | exact ⟨belowD (Below.refl _ _), cB (belowD (Below.refl _ _)) d0⟩ | exact ⟨belowDN (Below.refl _ _) 1, d0⟩
 refine tk (i := 0) (v := ?_) rfl (Or.inl ⟨by rfl, ?_⟩) hHeld ?_
 rotate_left 1
 ·(intro w hSw; (try dsimp only at hSw); go_simp; try with_reducible rfl)
 try simp only [gA, Act.put]
 refine tk (i := 1) (v := ?_) rfl (Or.inl ⟨by rfl, ?_⟩) hHeld ?_
 rotate_left 1
 ·(intro w hSw; (try dsimp only at hSw); go_simp; try with_reducible rfl)
 try simp only [gA, Act.put]
 refine tk (i := 2) (v := ?_) rfl (Or.inl ⟨by rfl, ?_⟩) hHeld ?_
 rotate_left 1
 ·(intro w hSw; (try dsimp only at hSw); go_simp; try with_reducible rfl)
 try simp only [gA, Act.put]
 refine tk (i := 3) (v := ?_) rfl (Or.inl ⟨by rfl, ?_⟩) hHeld ?_
 rotate_left 1
 ·(intro w hSw; (try dsimp only at hSw); go_simp; try with_reducible rfl)
 try simp only [gA, Act.put]
 refine tk (i := 4) (v := ?_) rfl (Or.inl ⟨by rfl, ?_⟩) hHeld ?_
 rotate_left 1
 ·(intro w hSw; (try dsimp only at hSw); go_simp; try with_reducible rfl)
 try simp only [gA, Act.put]
 refine tk (i := 5) (v := ?_) rfl (Or.inl ⟨by rfl, ?_⟩) hHeld ?_
 rotate_left 1
 ·(intro w hSw; (try dsimp only at hSw); go_simp; try with_reducible rfl)
 try simp only [gA, Act.put]
 refine tk (i := 6) (v := ?_) rfl (Or.inl ⟨by rfl, ?_⟩) hHeld ?_
 rotate_left 1
 ·(intro w hSw; (try dsimp only at hSw); go_simp; try with_reducible rfl)
 try simp only [gA, Act.put]
 refine tk (i := 7) (v := ?_) rfl (Or.inl ⟨by rfl, ?_⟩) hHeld ?_
 rotate_left 1
 ·(intro w hSw; (try dsimp only at hSw); go_simp; try with_reducible rfl)
 try simp only [gA, Act.put]
 refine wpAnyH_ready (rs := [8]) (by kernel_rfl) (by simp) ?_
 refine AllReadyH.cons rfl (fun K hK => ?_) AllReadyH.nil
 go_simp
 go_at_call 46
 refine (CD.out _).mono ?_
 rintro e wq ⟨rfl, hbq⟩
 go_wp2_with fail
 refine hK.out _ _ ?_ (fun hHeld => ?_)
 ·exact ⟨below2 hHeld.1 hbq, cB hbq hHeld.2⟩
 clear hK K
 try simp only [gA, Act.put]
 refine tk (i := 9) (v := ?_) rfl (Or.inl ⟨by rfl, ?_⟩) hHeld ?_
 rotate_left 1
 ·(intro w hSw; (try dsimp only at hSw); go_simp; try with_reducible rfl)
 try simp only [gA, Act.put]
 refine tk (i := 10) (v := ?_) rfl (Or.inl ⟨by rfl, ?_⟩) hHeld ?_
 rotate_left 1
 ·(intro w hSw; (try dsimp only at hSw); go_simp; try with_reducible rfl)
 try simp only [gA, Act.put]
 refine wpAnyH_done (by kernel_rfl) ?_ _
 rotate_left 1
 all_goals
  replace d1 := cB hHeld.1 d1
  replace d2 := cB hHeld.1 d2
  replace d3 := cB hHeld.1 d3
  replace d4 := cB hHeld.1 d4
  replace d0 := hHeld.2
  replace BB := Lib.hid (below2 BB.out hHeld.1)
  replace HROW := Lib.hid ((hHeld.1.block w.heap.size (by omega)).trans HROW.out)
  have hzq := hHeld.1.size
  have hbl : b < wq.heap.size := by omega
  have hwl : w.heap.size < wq.heap.size := by omega
  have hwl2 : w.heap.size ≠ wq.heap.size := by omega
  have hbl2 : b ≠ wq.heap.size := by omega
  have r0 : wq.cell? ⟨w.heap.size, 0, none⟩ = some (.string ⟨#[]⟩) := by rw [cell_of_row _ _ _ _ _ _ HROW.out]; rfl
  have r1 : wq.cell? ⟨w.heap.size, 1, none⟩ = some (.int .i64 0) := by rw [cell_of_row _ _ _ _ _ _ HROW.out]; rfl
  have r2 : wq.cell? ⟨w.heap.size, 2, none⟩ = some (.int .i64 0) := by rw [cell_of_row _ _ _ _ _ _ HROW.out]; rfl
  have r3 : wq.cell? ⟨w.heap.size, 3, none⟩ = some (.string ⟨#[]⟩) := by rw [cell_of_row _ _ _ _ _ _ HROW.out]; rfl
  have fz : wq.frozen? ⟨w.heap.size, 0, none⟩ = false := by simp [World.frozen?, HROW.out]
  have fz1 : wq.frozen? ⟨w.heap.size, 1, none⟩ = false := by simp [World.frozen?, HROW.out]
  have fz2 : wq.frozen? ⟨w.heap.size, 2, none⟩ = false := by simp [World.frozen?, HROW.out]
  have fz3 : wq.frozen? ⟨w.heap.size, 3, none⟩ = false := by simp [World.frozen?, HROW.out]
  clear hHeld RD
  go_wp2_with fail
  refine (CS.out _).mono ?_
  rintro e w3 ⟨rfl, rfl⟩
  go_wp2_with fail
  refine (numberTo_any y2 m1 _ (by omega)).mono ?_
  rintro e w4 ⟨rfl, rfl⟩
  go_upto_region 17 with fail
  refine wp_region_held_drew (S := fun W => Below (wq.alloc (.cells #[.string y1, .int .i64 (numV y2), .int .i64 0, .string ⟨#[]⟩] 61)).heap.size (wq.alloc (.cells #[.string y1, .int .i64 (numV y2), .int .i64 0, .string ⟨#[]⟩] 61)) W ∧ W.cell? ⟨b, off + 3, none⟩ = some (.string y3) ∧ W.cell? ⟨wq.heap.size, 0, none⟩ = some (.string y1)) (by kernel_rfl) ?_ (fun hHeld => ?_)
  ·first | exact ⟨Below.refl _ _, by go_simp, by go_simp⟩ | exact ⟨belowD (Below.refl _ _), by go_simp, by go_simp⟩
  refine tk (i := 0) (v := ?_) rfl (Or.inl ⟨by rfl, ?_⟩) hHeld ?_
  rotate_left 1
  ·(intro w hSw; (try dsimp only at hSw); go_simp; try with_reducible rfl)
  try simp only [gA, Act.put]
  refine tk (i := 1) (v := ?_) rfl (Or.inl ⟨by rfl, ?_⟩) hHeld ?_
  rotate_left 1
  ·(intro w hSw; (try dsimp only at hSw); go_simp; try with_reducible rfl)
  try simp only [gA, Act.put]
  refine tk (i := 2) (v := ?_) rfl (Or.inl ⟨by rfl, ?_⟩) hHeld ?_
  rotate_left 1
  ·(intro w hSw; (try dsimp only at hSw); go_simp; try with_reducible rfl)
  try simp only [gA, Act.put]
  refine tk (i := 3) (v := ?_) rfl (Or.inl ⟨by rfl, ?_⟩) hHeld ?_
  rotate_left 1
  ·(intro w hSw; (try dsimp only at hSw); go_simp; try with_reducible rfl)
  try simp only [gA, Act.put]
  refine tk (i := 4) (v := ?_) rfl (Or.inl ⟨by rfl, ?_⟩) hHeld ?_
  rotate_left 1
  ·(intro w hSw; (try dsimp only at hSw); go_simp; try with_reducible rfl)
  try simp only [gA, Act.put]
  refine tk (i := 5) (v := ?_) rfl (Or.inl ⟨by rfl, ?_⟩) hHeld ?_
  rotate_left 1
  ·(intro w hSw; (try dsimp only at hSw); go_simp; try with_reducible rfl)
  try simp only [gA, Act.put]
  refine wpAnyH_ready (rs := [6]) (by kernel_rfl) (by simp) ?_
  refine AllReadyH.cons rfl (fun K hK => ?_) AllReadyH.nil
  go_simp
  go_at_call 130
  refine (MK.out _).mono ?_
  rintro e wm ⟨rfl, hbm⟩
  go_wp2_with fail
  refine hK.out _ _ ?_ (fun hHeld => ?_)
  ·exact ⟨below2 hHeld.1 hbm, cB hbm hHeld.2.1, cB hbm hHeld.2.2⟩
  clear hK K
  try simp only [gA, Act.put]
  refine tk (i := 7) (v := ?_) rfl (Or.inl ⟨by rfl, ?_⟩) hHeld ?_
  rotate_left 1
  ·(intro w hSw; (try dsimp only at hSw); go_simp; try with_reducible rfl)
  try simp only [gA, Act.put]
  refine tk (i := 8) (v := ?_) rfl (Or.inl ⟨by rfl, ?_⟩) hHeld ?_
  rotate_left 1
  ·(intro w hSw; (try dsimp only at hSw); go_simp; try with_reducible rfl)
  try simp only [gA, Act.put]
  refine tk (i := 9) (v := ?_) rfl (Or.inl ⟨by rfl, ?_⟩) hHeld ?_
  rotate_left 1
  ·(intro w hSw; (try dsimp only at hSw); go_simp; try with_reducible rfl)
  try simp only [gA, Act.put]
  refine tk (i := 10) (v := ?_) rfl (Or.inl ⟨by rfl, ?_⟩) hHeld ?_
  rotate_left 1
  ·(intro w hSw; (try dsimp only at hSw); go_simp; try with_reducible rfl)
  try simp only [gA, Act.put]
  refine tk (i := 11) (v := ?_) rfl (Or.inl ⟨by rfl, ?_⟩) hHeld ?_
  rotate_left 1
  ·(intro w hSw; (try dsimp only at hSw); go_simp; try with_reducible rfl)
  try simp only [gA, Act.put]
  refine wpAnyH_done (by kernel_rfl) ?_ _
  rotate_left 1
  all_goals
   have X := Lib.hid ((hHeld.1.block wq.heap.size (by rw [World.size_alloc]; omega)).trans (heap_alloc_new wq (.cells #[.string y1, .int .i64 (numV y2), .int .i64 0, .string ⟨#[]⟩] 61)))
   replace HROW := Lib.hid ((hHeld.1.block w.heap.size (by rw [World.size_alloc]; omega)).trans (((below_a1 wq (.cells #[.string y1, .int .i64 (numV y2), .int .i64 0, .string ⟨#[]⟩] 61)).block w.heap.size hwl).trans HROW.out))
   replace BB := Lib.hid (below2 (belowA BB.out (.cells #[.string y1, .int .i64 (numV y2), .int .i64 0, .string ⟨#[]⟩] 61)) hHeld.1)
   replace d4 := cB hHeld.1 (cB (below_a1 wq (.cells #[.string y1, .int .i64 (numV y2), .int .i64 0, .string ⟨#[]⟩] 61)) d4)
   clear r0 r1 r2 r3 fz fz1 fz2 fz3
   have r0 : wm.cell? ⟨w.heap.size, 0, none⟩ = some (.string ⟨#[]⟩) := by rw [cell_of_row _ _ _ _ _ _ HROW.out]; rfl
   have fz0 : wm.frozen? ⟨w.heap.size, 0, none⟩ = false := by simp [World.frozen?, HROW.out]
   have x0 : wm.cell? ⟨wq.heap.size, 0, none⟩ = some (.string y1) := by rw [cell_of_row _ _ _ _ _ _ X.out]; rfl
   have fx0 : wm.frozen? ⟨wq.heap.size, 0, none⟩ = false := by simp [World.frozen?, X.out]
   have r1 : wm.cell? ⟨w.heap.size, 1, none⟩ = some (.int .i64 0) := by rw [cell_of_row _ _ _ _ _ _ HROW.out]; rfl
   have fz1 : wm.frozen? ⟨w.heap.size, 1, none⟩ = false := by simp [World.frozen?, HROW.out]
   have x1 : wm.cell? ⟨wq.heap.size, 1, none⟩ = some (.int .i64 (numV y2)) := by rw [cell_of_row _ _ _ _ _ _ X.out]; rfl
   have fx1 : wm.frozen? ⟨wq.heap.size, 1, none⟩ = false := by simp [World.frozen?, X.out]
   have r2 : wm.cell? ⟨w.heap.size, 2, none⟩ = some (.int .i64 0) := by rw [cell_of_row _ _ _ _ _ _ HROW.out]; rfl
   have fz2 : wm.frozen? ⟨w.heap.size, 2, none⟩ = false := by simp [World.frozen?, HROW.out]
   have x2 : wm.cell? ⟨wq.heap.size, 2, none⟩ = some (.int .i64 0) := by rw [cell_of_row _ _ _ _ _ _ X.out]; rfl
   have fx2 : wm.frozen? ⟨wq.heap.size, 2, none⟩ = false := by simp [World.frozen?, X.out]
   have r3 : wm.cell? ⟨w.heap.size, 3, none⟩ = some (.string ⟨#[]⟩) := by rw [cell_of_row _ _ _ _ _ _ HROW.out]; rfl
   have fz3 : wm.frozen? ⟨w.heap.size, 3, none⟩ = false := by simp [World.frozen?, HROW.out]
   have x3 : wm.cell? ⟨wq.heap.size, 3, none⟩ = some (.string ⟨#[]⟩) := by rw [cell_of_row _ _ _ _ _ _ X.out]; rfl
   have fx3 : wm.frozen? ⟨wq.heap.size, 3, none⟩ = false := by simp [World.frozen?, X.out]
   have hqm : wq.heap.size < wm.heap.size := by have := hHeld.1.size; rw [World.size_alloc] at this; omega
   have hne7 : wq.heap.size ≠ w.heap.size := by omega
   have hne8 : wq.heap.size ≠ b := by omega
   clear hHeld
   obtain ⟨r, hr⟩ : ∃ r, okN y2 m1 = r := ⟨_, rfl⟩
   rw [hr]
   have HR := Lib.hid hr
   have HN := Lib.hid (fun W => numberTo_any y4 m2 W (by omega))
   obtain ⟨q, hq⟩ : ∃ q, okN y4 m2 = q := ⟨_, rfl⟩
   rw [hq] at HN
   have HQ := Lib.hid hq
   clear hr hq HMB HMT MK
   cases r with
   | true =>
    cases mb with
    | true =>
     go_wp2_with fail
     all_goals
      refine (HN.out _).mono ?_
      rintro e w5 ⟨rfl, rfl⟩
      cases q with
      | true =>
       go_wp2
       all_goals exact lineD_close3 (R := fun e => e = .returned (.tuple #[.agg #[.string (pk P 1), .int .i64 (numV (pk P 2)), .int .i64 (numV (pk P 4)), .string mt], .bool (okN (pk P 2) m1 && okN (pk P 4) m2)])) HROW.out hne7 rfl rfl (Nat.le_refl _) (by omega) BB.out (by rw [← HY1.out, ← HY2.out, ← HY4.out, HR.out, HQ.out]; try rfl)
      | false =>
       go_wp2
       all_goals exact lineD_close3 (R := fun e => e = .returned (.tuple #[.agg #[.string (pk P 1), .int .i64 (numV (pk P 2)), .int .i64 (numV (pk P 4)), .string mt], .bool (okN (pk P 2) m1 && okN (pk P 4) m2)])) HROW.out hne7 rfl rfl (Nat.le_refl _) (by omega) BB.out (by rw [← HY1.out, ← HY2.out, ← HY4.out, HR.out, HQ.out]; try rfl)
    | false =>
     go_wp2_with fail
     all_goals
      refine (HN.out _).mono ?_
      rintro e w5 ⟨rfl, rfl⟩
      cases q with
      | true =>
       go_wp2
       all_goals exact lineD_close3 (R := fun e => e = .returned (.tuple #[.agg #[.string (pk P 1), .int .i64 (numV (pk P 2)), .int .i64 (numV (pk P 4)), .string mt], .bool false])) HROW.out hne7 rfl rfl (Nat.le_refl _) (by omega) BB.out (by rw [← HY1.out, ← HY2.out, ← HY4.out]; try rfl)
      | false =>
       go_wp2
       all_goals exact lineD_close3 (R := fun e => e = .returned (.tuple #[.agg #[.string (pk P 1), .int .i64 (numV (pk P 2)), .int .i64 (numV (pk P 4)), .string mt], .bool false])) HROW.out hne7 rfl rfl (Nat.le_refl _) (by omega) BB.out (by rw [← HY1.out, ← HY2.out, ← HY4.out]; try rfl)
   | false =>
    cases mb with
    | true =>
     go_wp2_with fail
     all_goals
      refine (HN.out _).mono ?_
      rintro e w5 ⟨rfl, rfl⟩
      cases q with
      | true =>
       go_wp2
       all_goals exact lineD_close3 (R := fun e => e = .returned (.tuple #[.agg #[.string (pk P 1), .int .i64 (numV (pk P 2)), .int .i64 (numV (pk P 4)), .string mt], .bool (okN (pk P 2) m1 && okN (pk P 4) m2)])) HROW.out hne7 rfl rfl (Nat.le_refl _) (by omega) BB.out (by rw [← HY1.out, ← HY2.out, ← HY4.out, HR.out, HQ.out]; try rfl)
      | false =>
       go_wp2
       all_goals exact lineD_close3 (R := fun e => e = .returned (.tuple #[.agg #[.string (pk P 1), .int .i64 (numV (pk P 2)), .int .i64 (numV (pk P 4)), .string mt], .bool (okN (pk P 2) m1 && okN (pk P 4) m2)])) HROW.out hne7 rfl rfl (Nat.le_refl _) (by omega) BB.out (by rw [← HY1.out, ← HY2.out, ← HY4.out, HR.out, HQ.out]; try rfl)
    | false =>
     go_wp2_with fail
     all_goals
      refine (HN.out _).mono ?_
      rintro e w5 ⟨rfl, rfl⟩
      cases q with
      | true =>
       go_wp2
       all_goals exact lineD_close3 (R := fun e => e = .returned (.tuple #[.agg #[.string (pk P 1), .int .i64 (numV (pk P 2)), .int .i64 (numV (pk P 4)), .string mt], .bool false])) HROW.out hne7 rfl rfl (Nat.le_refl _) (by omega) BB.out (by rw [← HY1.out, ← HY2.out, ← HY4.out]; try rfl)
      | false =>
       go_wp2
       all_goals exact lineD_close3 (R := fun e => e = .returned (.tuple #[.agg #[.string (pk P 1), .int .i64 (numV (pk P 2)), .int .i64 (numV (pk P 4)), .string mt], .bool false])) HROW.out hne7 rfl rfl (Nat.le_refl _) (by omega) BB.out (by rw [← HY1.out, ← HY2.out, ← HY4.out]; try rfl)
end Go.Proofs.YtcnpbcgkhhebaaaGreatDoor
/- The document: a line is parsed (logL). -/
namespace Go.Proofs.YtcnpbcgkhhebaaaGreatDoor
open Go.RowKit

set_option maxRecDepth 100000 in
set_option maxHeartbeats 4000000 in
theorem parse_logL (s : ByteArray) (n : Nat) (P : List ByteArray) (m1 m2 : Int) (lg : Bool) (mt : ByteArray) (mb : Bool) (w : World) (hs : s.size ≤ 100000) (hn : n ≤ 100000) (hP : prtB 32 s = P) (hL : 6 ≤ P.length) (h0 : pk P 0 = decB n) (hsh : shapeQ (pk P 1) = (m1, m2, true)) (hm : m1 ≠ 0) (hm2 : 0 < m2) (hlg0 : ((pk P 1).toList == [108, 111, 103]) = lg) (hmt : (if pk P 3 = bDs then bNo else pk P 3) = mt) (hmb : (if pk P 3 = bDs then lg else okM (pk P 3)) = mb) :
  Calls Tryz.prog 95 #[.string s, .int .i64 n] w fun e w' => (∃ w0 o t l0, e = .returned (.tuple #[.agg #[.string w0, .int .i64 o, .int .i64 t, .string l0], .bool false])) ∧ Below w.heap.size w w' := by
 have CP := Lib.hid (fun W => parts2_any s 32 W (by omega))
 have CD := Lib.hid (fun W => dec2_any n W (by omega))
 have CS := Lib.hid (fun W => shape_any (pk P 1) W)
 have SZ := Lib.hid (fun i => prt_size s i)
 rw [hP] at CP SZ
 have BB := Lib.hid (below_a1 w (.cells #[.string ⟨#[]⟩, .int .i64 0, .int .i64 0, .string ⟨#[]⟩] 61))
 have HROW := Lib.hid (show (w.alloc (.cells #[.string ⟨#[]⟩, .int .i64 0, .int .i64 0, .string ⟨#[]⟩] 61)).heap[w.heap.size]? = some (.cells #[.string ⟨#[]⟩, .int .i64 0, .int .i64 0, .string ⟨#[]⟩] 61 (0, 0)) from heap_alloc_new _ _)
 go_enter Tryz.func95, Tryz.ntmps95
 go_wp2_with fail
 refine (CP.out _).mono ?_
 rintro e w1 ⟨⟨A, c, rfl, ho⟩, hb⟩
 obtain ⟨L, hLe⟩ : ∃ L, P.length = L + 6 := ⟨P.length - 6, by omega⟩
 rw [hLe]
 replace BB := Lib.hid (below2 BB.out hb)
 replace HROW := Lib.hid ((hb.block w.heap.size (by rw [World.size_alloc]; omega)).trans HROW.out)
 have RD := Lib.hid (ho.rs encS)
 have hlo := ho.lt_
 have hz := hb.size
 clear hb ho
 have hcap : P.length ≤ c := RD.out.1
 have hmax : c ≤ 9223372036854775807 := RD.out.2.1
 rw [World.size_alloc] at hz
 obtain ⟨b, off, y0, hy0, rfl, hbb, d0⟩ := RD.out.atS (i := 0) (by omega)
 rw [pk_at (by omega)] at hy0
 rw [Nat.add_zero] at d0
 have z0 : y0.size ≤ 100000 := by have := SZ.out 0; rw [← hy0] at this; omega
 have HY0 := Lib.hid hy0
 clear hy0
 obtain ⟨b', off', y1, hy1, hee, -, d1⟩ := RD.out.atS (i := 1) (by omega)
 cases hee
 rw [pk_at (by omega)] at hy1
 have z1 : y1.size ≤ 100000 := by have := SZ.out 1; rw [← hy1] at this; omega
 have HY1 := Lib.hid hy1
 clear hy1
 obtain ⟨b', off', y2, hy2, hee, -, d2⟩ := RD.out.atS (i := 2) (by omega)
 cases hee
 rw [pk_at (by omega)] at hy2
 have z2 : y2.size ≤ 100000 := by have := SZ.out 2; rw [← hy2] at this; omega
 have HY2 := Lib.hid hy2
 clear hy2
 obtain ⟨b', off', y3, hy3, hee, -, d3⟩ := RD.out.atS (i := 3) (by omega)
 cases hee
 rw [pk_at (by omega)] at hy3
 have z3 : y3.size ≤ 100000 := by have := SZ.out 3; rw [← hy3] at this; omega
 have HY3 := Lib.hid hy3
 clear hy3
 obtain ⟨b', off', y4, hy4, hee, -, d4⟩ := RD.out.atS (i := 4) (by omega)
 cases hee
 rw [pk_at (by omega)] at hy4
 have z4 : y4.size ≤ 100000 := by have := SZ.out 4; rw [← hy4] at this; omega
 have HY4 := Lib.hid hy4
 clear hy4
 have hlb := hlo b rfl
 clear hlo
 rw [World.size_alloc] at hlb
 have hne : w.heap.size ≠ b := by omega
 have hne2 : b ≠ w.heap.size := by omega
 have HMT := Lib.hid hmt
 have HMB := Lib.hid hmb
 clear hmt hmb
 have hm1 : (m1 == 0) = false := by simp [hm]
 have hlg : (y1.toList == [108, 111, 103]) = lg := by rw [HY1.out]; exact hlg0
 have MK := Lib.hid (fun W => marked_any y3 lg W (by omega))
 rw [HY3.out, HMT.out, HMB.out] at MK
 rw [← HY3.out] at MK
 have hm2d : decide (0 < m2) = true := decide_eq_true hm2
 have hd : (y0.toList == (decB n).toList) = true := by have := word_eq y0 (decB n); rw [this]; exact decide_eq_true (by rw [HY0.out]; exact h0)
 have hl2 : decide ((L : Int) + 6 < 2) = false := decide_eq_false (by omega)
 have hl2n : ¬ (L : Int) + 6 < 2 := by omega
 have g0 : (0 : Int) < (L : Int) + 6 := by omega
 have g1 : (1 : Int) < (L : Int) + 6 := by omega
 have g2 : (2 : Int) ≤ (L : Int) + 6 := by omega
 have g3 : (0 : Int) < (L : Int) + 3 := by omega
 have hl0 : 0 < P.length := by omega
 have hl1 : 1 < P.length := by omega
 have hsh' : shapeQ y1 = (m1, m2, true) := by rw [HY1.out]; exact hsh
 replace CS := Lib.hid (fun W => shape_any y1 W)
 rw [hsh'] at CS
 clear hsh hsh'
 go_wp2_with fail
 refine wp_region_held_drew (S := fun W => Below w1.heap.size w1 W ∧ W.cell? ⟨b, off, none⟩ = some (.string y0)) (by kernel_rfl) ?_ (fun hHeld => ?_)
 ·first | exact ⟨Below.refl _ _, d0⟩ | exact ⟨belowD (Below.refl _ _), cB (belowD (Below.refl _ _)) d0⟩ | exact ⟨belowDN (Below.refl _ _) 1, d0⟩
 refine tk (i := 0) (v := ?_) rfl (Or.inl ⟨by rfl, ?_⟩) hHeld ?_
 rotate_left 1
 ·(intro w hSw; (try dsimp only at hSw); go_simp; try with_reducible rfl)
 try simp only [gA, Act.put]
 refine tk (i := 1) (v := ?_) rfl (Or.inl ⟨by rfl, ?_⟩) hHeld ?_
 rotate_left 1
 ·(intro w hSw; (try dsimp only at hSw); go_simp; try with_reducible rfl)
 try simp only [gA, Act.put]
 refine tk (i := 2) (v := ?_) rfl (Or.inl ⟨by rfl, ?_⟩) hHeld ?_
 rotate_left 1
 ·(intro w hSw; (try dsimp only at hSw); go_simp; try with_reducible rfl)
 try simp only [gA, Act.put]
 refine tk (i := 3) (v := ?_) rfl (Or.inl ⟨by rfl, ?_⟩) hHeld ?_
 rotate_left 1
 ·(intro w hSw; (try dsimp only at hSw); go_simp; try with_reducible rfl)
 try simp only [gA, Act.put]
 refine tk (i := 4) (v := ?_) rfl (Or.inl ⟨by rfl, ?_⟩) hHeld ?_
 rotate_left 1
 ·(intro w hSw; (try dsimp only at hSw); go_simp; try with_reducible rfl)
 try simp only [gA, Act.put]
 refine tk (i := 5) (v := ?_) rfl (Or.inl ⟨by rfl, ?_⟩) hHeld ?_
 rotate_left 1
 ·(intro w hSw; (try dsimp only at hSw); go_simp; try with_reducible rfl)
 try simp only [gA, Act.put]
 refine tk (i := 6) (v := ?_) rfl (Or.inl ⟨by rfl, ?_⟩) hHeld ?_
 rotate_left 1
 ·(intro w hSw; (try dsimp only at hSw); go_simp; try with_reducible rfl)
 try simp only [gA, Act.put]
 refine tk (i := 7) (v := ?_) rfl (Or.inl ⟨by rfl, ?_⟩) hHeld ?_
 rotate_left 1
 ·(intro w hSw; (try dsimp only at hSw); go_simp; try with_reducible rfl)
 try simp only [gA, Act.put]
 refine wpAnyH_ready (rs := [8]) (by kernel_rfl) (by simp) ?_
 refine AllReadyH.cons rfl (fun K hK => ?_) AllReadyH.nil
 go_simp
 go_at_call 46
 refine (CD.out _).mono ?_
 rintro e wq ⟨rfl, hbq⟩
 go_wp2_with fail
 refine hK.out _ _ ?_ (fun hHeld => ?_)
 ·exact ⟨below2 hHeld.1 hbq, cB hbq hHeld.2⟩
 clear hK K
 try simp only [gA, Act.put]
 refine tk (i := 9) (v := ?_) rfl (Or.inl ⟨by rfl, ?_⟩) hHeld ?_
 rotate_left 1
 ·(intro w hSw; (try dsimp only at hSw); go_simp; try with_reducible rfl)
 try simp only [gA, Act.put]
 refine tk (i := 10) (v := ?_) rfl (Or.inl ⟨by rfl, ?_⟩) hHeld ?_
 rotate_left 1
 ·(intro w hSw; (try dsimp only at hSw); go_simp; try with_reducible rfl)
 try simp only [gA, Act.put]
 refine wpAnyH_done (by kernel_rfl) ?_ _
 rotate_left 1
 all_goals
  replace d1 := cB hHeld.1 d1
  replace d2 := cB hHeld.1 d2
  replace d3 := cB hHeld.1 d3
  replace d4 := cB hHeld.1 d4
  replace d0 := hHeld.2
  replace BB := Lib.hid (below2 BB.out hHeld.1)
  replace HROW := Lib.hid ((hHeld.1.block w.heap.size (by omega)).trans HROW.out)
  have hzq := hHeld.1.size
  have hbl : b < wq.heap.size := by omega
  have hwl : w.heap.size < wq.heap.size := by omega
  have hwl2 : w.heap.size ≠ wq.heap.size := by omega
  have hbl2 : b ≠ wq.heap.size := by omega
  have r0 : wq.cell? ⟨w.heap.size, 0, none⟩ = some (.string ⟨#[]⟩) := by rw [cell_of_row _ _ _ _ _ _ HROW.out]; rfl
  have r1 : wq.cell? ⟨w.heap.size, 1, none⟩ = some (.int .i64 0) := by rw [cell_of_row _ _ _ _ _ _ HROW.out]; rfl
  have r2 : wq.cell? ⟨w.heap.size, 2, none⟩ = some (.int .i64 0) := by rw [cell_of_row _ _ _ _ _ _ HROW.out]; rfl
  have r3 : wq.cell? ⟨w.heap.size, 3, none⟩ = some (.string ⟨#[]⟩) := by rw [cell_of_row _ _ _ _ _ _ HROW.out]; rfl
  have fz : wq.frozen? ⟨w.heap.size, 0, none⟩ = false := by simp [World.frozen?, HROW.out]
  have fz1 : wq.frozen? ⟨w.heap.size, 1, none⟩ = false := by simp [World.frozen?, HROW.out]
  have fz2 : wq.frozen? ⟨w.heap.size, 2, none⟩ = false := by simp [World.frozen?, HROW.out]
  have fz3 : wq.frozen? ⟨w.heap.size, 3, none⟩ = false := by simp [World.frozen?, HROW.out]
  clear hHeld RD
  go_wp2_with fail
  refine (CS.out _).mono ?_
  rintro e w3 ⟨rfl, rfl⟩
  go_wp2_with fail
  refine (numberTo_any y2 m1 _ (by omega)).mono ?_
  rintro e w4 ⟨rfl, rfl⟩
  go_upto_region 17 with fail
  refine wp_region_held_drew (S := fun W => Below (wq.alloc (.cells #[.string y1, .int .i64 (numV y2), .int .i64 0, .string ⟨#[]⟩] 61)).heap.size (wq.alloc (.cells #[.string y1, .int .i64 (numV y2), .int .i64 0, .string ⟨#[]⟩] 61)) W ∧ W.cell? ⟨b, off + 3, none⟩ = some (.string y3) ∧ W.cell? ⟨wq.heap.size, 0, none⟩ = some (.string y1)) (by kernel_rfl) ?_ (fun hHeld => ?_)
  ·first | exact ⟨Below.refl _ _, by go_simp, by go_simp⟩ | exact ⟨belowD (Below.refl _ _), by go_simp, by go_simp⟩
  refine tk (i := 0) (v := ?_) rfl (Or.inl ⟨by rfl, ?_⟩) hHeld ?_
  rotate_left 1
  ·(intro w hSw; (try dsimp only at hSw); go_simp; try with_reducible rfl)
  try simp only [gA, Act.put]
  refine tk (i := 1) (v := ?_) rfl (Or.inl ⟨by rfl, ?_⟩) hHeld ?_
  rotate_left 1
  ·(intro w hSw; (try dsimp only at hSw); go_simp; try with_reducible rfl)
  try simp only [gA, Act.put]
  refine tk (i := 2) (v := ?_) rfl (Or.inl ⟨by rfl, ?_⟩) hHeld ?_
  rotate_left 1
  ·(intro w hSw; (try dsimp only at hSw); go_simp; try with_reducible rfl)
  try simp only [gA, Act.put]
  refine tk (i := 3) (v := ?_) rfl (Or.inl ⟨by rfl, ?_⟩) hHeld ?_
  rotate_left 1
  ·(intro w hSw; (try dsimp only at hSw); go_simp; try with_reducible rfl)
  try simp only [gA, Act.put]
  refine tk (i := 4) (v := ?_) rfl (Or.inl ⟨by rfl, ?_⟩) hHeld ?_
  rotate_left 1
  ·(intro w hSw; (try dsimp only at hSw); go_simp; try with_reducible rfl)
  try simp only [gA, Act.put]
  refine tk (i := 5) (v := ?_) rfl (Or.inl ⟨by rfl, ?_⟩) hHeld ?_
  rotate_left 1
  ·(intro w hSw; (try dsimp only at hSw); go_simp; try with_reducible rfl)
  try simp only [gA, Act.put]
  refine wpAnyH_ready (rs := [6]) (by kernel_rfl) (by simp) ?_
  refine AllReadyH.cons rfl (fun K hK => ?_) AllReadyH.nil
  go_simp
  go_at_call 130
  refine (MK.out _).mono ?_
  rintro e wm ⟨rfl, hbm⟩
  go_wp2_with fail
  refine hK.out _ _ ?_ (fun hHeld => ?_)
  ·exact ⟨below2 hHeld.1 hbm, cB hbm hHeld.2.1, cB hbm hHeld.2.2⟩
  clear hK K
  try simp only [gA, Act.put]
  refine tk (i := 7) (v := ?_) rfl (Or.inl ⟨by rfl, ?_⟩) hHeld ?_
  rotate_left 1
  ·(intro w hSw; (try dsimp only at hSw); go_simp; try with_reducible rfl)
  try simp only [gA, Act.put]
  refine tk (i := 8) (v := ?_) rfl (Or.inl ⟨by rfl, ?_⟩) hHeld ?_
  rotate_left 1
  ·(intro w hSw; (try dsimp only at hSw); go_simp; try with_reducible rfl)
  try simp only [gA, Act.put]
  refine tk (i := 9) (v := ?_) rfl (Or.inl ⟨by rfl, ?_⟩) hHeld ?_
  rotate_left 1
  ·(intro w hSw; (try dsimp only at hSw); go_simp; try with_reducible rfl)
  try simp only [gA, Act.put]
  refine tk (i := 10) (v := ?_) rfl (Or.inl ⟨by rfl, ?_⟩) hHeld ?_
  rotate_left 1
  ·(intro w hSw; (try dsimp only at hSw); go_simp; try with_reducible rfl)
  try simp only [gA, Act.put]
  refine tk (i := 11) (v := ?_) rfl (Or.inl ⟨by rfl, ?_⟩) hHeld ?_
  rotate_left 1
  ·(intro w hSw; (try dsimp only at hSw); go_simp; try with_reducible rfl)
  try simp only [gA, Act.put]
  refine wpAnyH_done (by kernel_rfl) ?_ _
  rotate_left 1
  all_goals
   have X := Lib.hid ((hHeld.1.block wq.heap.size (by rw [World.size_alloc]; omega)).trans (heap_alloc_new wq (.cells #[.string y1, .int .i64 (numV y2), .int .i64 0, .string ⟨#[]⟩] 61)))
   replace HROW := Lib.hid ((hHeld.1.block w.heap.size (by rw [World.size_alloc]; omega)).trans (((below_a1 wq (.cells #[.string y1, .int .i64 (numV y2), .int .i64 0, .string ⟨#[]⟩] 61)).block w.heap.size hwl).trans HROW.out))
   replace BB := Lib.hid (below2 (belowA BB.out (.cells #[.string y1, .int .i64 (numV y2), .int .i64 0, .string ⟨#[]⟩] 61)) hHeld.1)
   replace d4 := cB hHeld.1 (cB (below_a1 wq (.cells #[.string y1, .int .i64 (numV y2), .int .i64 0, .string ⟨#[]⟩] 61)) d4)
   clear r0 r1 r2 r3 fz fz1 fz2 fz3
   have r0 : wm.cell? ⟨w.heap.size, 0, none⟩ = some (.string ⟨#[]⟩) := by rw [cell_of_row _ _ _ _ _ _ HROW.out]; rfl
   have fz0 : wm.frozen? ⟨w.heap.size, 0, none⟩ = false := by simp [World.frozen?, HROW.out]
   have x0 : wm.cell? ⟨wq.heap.size, 0, none⟩ = some (.string y1) := by rw [cell_of_row _ _ _ _ _ _ X.out]; rfl
   have fx0 : wm.frozen? ⟨wq.heap.size, 0, none⟩ = false := by simp [World.frozen?, X.out]
   have r1 : wm.cell? ⟨w.heap.size, 1, none⟩ = some (.int .i64 0) := by rw [cell_of_row _ _ _ _ _ _ HROW.out]; rfl
   have fz1 : wm.frozen? ⟨w.heap.size, 1, none⟩ = false := by simp [World.frozen?, HROW.out]
   have x1 : wm.cell? ⟨wq.heap.size, 1, none⟩ = some (.int .i64 (numV y2)) := by rw [cell_of_row _ _ _ _ _ _ X.out]; rfl
   have fx1 : wm.frozen? ⟨wq.heap.size, 1, none⟩ = false := by simp [World.frozen?, X.out]
   have r2 : wm.cell? ⟨w.heap.size, 2, none⟩ = some (.int .i64 0) := by rw [cell_of_row _ _ _ _ _ _ HROW.out]; rfl
   have fz2 : wm.frozen? ⟨w.heap.size, 2, none⟩ = false := by simp [World.frozen?, HROW.out]
   have x2 : wm.cell? ⟨wq.heap.size, 2, none⟩ = some (.int .i64 0) := by rw [cell_of_row _ _ _ _ _ _ X.out]; rfl
   have fx2 : wm.frozen? ⟨wq.heap.size, 2, none⟩ = false := by simp [World.frozen?, X.out]
   have r3 : wm.cell? ⟨w.heap.size, 3, none⟩ = some (.string ⟨#[]⟩) := by rw [cell_of_row _ _ _ _ _ _ HROW.out]; rfl
   have fz3 : wm.frozen? ⟨w.heap.size, 3, none⟩ = false := by simp [World.frozen?, HROW.out]
   have x3 : wm.cell? ⟨wq.heap.size, 3, none⟩ = some (.string ⟨#[]⟩) := by rw [cell_of_row _ _ _ _ _ _ X.out]; rfl
   have fx3 : wm.frozen? ⟨wq.heap.size, 3, none⟩ = false := by simp [World.frozen?, X.out]
   have hqm : wq.heap.size < wm.heap.size := by have := hHeld.1.size; rw [World.size_alloc] at this; omega
   have hne7 : wq.heap.size ≠ w.heap.size := by omega
   have hne8 : wq.heap.size ≠ b := by omega
   clear hHeld
   obtain ⟨r, hr⟩ : ∃ r, okN y2 m1 = r := ⟨_, rfl⟩
   rw [hr]
   have HN := Lib.hid (fun W => numberTo_any y4 m2 W (by omega))
   obtain ⟨q, hq⟩ : ∃ q, okN y4 m2 = q := ⟨_, rfl⟩
   rw [hq] at HN
   clear hr hq HMB HMT MK
   cases r with
   | true =>
    cases mb with
    | true =>
     go_wp2_with fail
     all_goals
      refine (HN.out _).mono ?_
      rintro e w5 ⟨rfl, rfl⟩
      cases q with
      | true =>
       go_wp2
       all_goals exact lineD_close3 (R := fun e => ∃ w0 o t l0, e = .returned (.tuple #[.agg #[.string w0, .int .i64 o, .int .i64 t, .string l0], .bool false])) HROW.out hne7 rfl rfl (Nat.le_refl _) (by omega) BB.out ⟨_, _, _, _, rfl⟩
      | false =>
       go_wp2
       all_goals exact lineD_close3 (R := fun e => ∃ w0 o t l0, e = .returned (.tuple #[.agg #[.string w0, .int .i64 o, .int .i64 t, .string l0], .bool false])) HROW.out hne7 rfl rfl (Nat.le_refl _) (by omega) BB.out ⟨_, _, _, _, rfl⟩
    | false =>
     go_wp2_with fail
     all_goals
      refine (HN.out _).mono ?_
      rintro e w5 ⟨rfl, rfl⟩
      cases q with
      | true =>
       go_wp2
       all_goals exact lineD_close3 (R := fun e => ∃ w0 o t l0, e = .returned (.tuple #[.agg #[.string w0, .int .i64 o, .int .i64 t, .string l0], .bool false])) HROW.out hne7 rfl rfl (Nat.le_refl _) (by omega) BB.out ⟨_, _, _, _, rfl⟩
      | false =>
       go_wp2
       all_goals exact lineD_close3 (R := fun e => ∃ w0 o t l0, e = .returned (.tuple #[.agg #[.string w0, .int .i64 o, .int .i64 t, .string l0], .bool false])) HROW.out hne7 rfl rfl (Nat.le_refl _) (by omega) BB.out ⟨_, _, _, _, rfl⟩
   | false =>
    cases mb with
    | true =>
     go_wp2_with fail
     all_goals
      refine (HN.out _).mono ?_
      rintro e w5 ⟨rfl, rfl⟩
      cases q with
      | true =>
       go_wp2
       all_goals exact lineD_close3 (R := fun e => ∃ w0 o t l0, e = .returned (.tuple #[.agg #[.string w0, .int .i64 o, .int .i64 t, .string l0], .bool false])) HROW.out hne7 rfl rfl (Nat.le_refl _) (by omega) BB.out ⟨_, _, _, _, rfl⟩
      | false =>
       go_wp2
       all_goals exact lineD_close3 (R := fun e => ∃ w0 o t l0, e = .returned (.tuple #[.agg #[.string w0, .int .i64 o, .int .i64 t, .string l0], .bool false])) HROW.out hne7 rfl rfl (Nat.le_refl _) (by omega) BB.out ⟨_, _, _, _, rfl⟩
    | false =>
     go_wp2_with fail
     all_goals
      refine (HN.out _).mono ?_
      rintro e w5 ⟨rfl, rfl⟩
      cases q with
      | true =>
       go_wp2
       all_goals exact lineD_close3 (R := fun e => ∃ w0 o t l0, e = .returned (.tuple #[.agg #[.string w0, .int .i64 o, .int .i64 t, .string l0], .bool false])) HROW.out hne7 rfl rfl (Nat.le_refl _) (by omega) BB.out ⟨_, _, _, _, rfl⟩
      | false =>
       go_wp2
       all_goals exact lineD_close3 (R := fun e => ∃ w0 o t l0, e = .returned (.tuple #[.agg #[.string w0, .int .i64 o, .int .i64 t, .string l0], .bool false])) HROW.out hne7 rfl rfl (Nat.le_refl _) (by omega) BB.out ⟨_, _, _, _, rfl⟩
end Go.Proofs.YtcnpbcgkhhebaaaGreatDoor
/- The document: a line is parsed: the same line. -/
namespace Go.Proofs.YtcnpbcgkhhebaaaGreatDoor
open Go.RowKit

def ParsD (L : Option Ln) (e : Ending) : Prop := ∃ (w0 l0 : ByteArray) (o t : Int), e = .returned (.tuple #[.agg #[.string w0, .int .i64 o, .int .i64 t, .string l0], .bool L.isSome]) ∧ ∀ x, L = some x → w0 = x.word ∧ o = x.one ∧ t = x.two ∧ l0 = x.letters
theorem pars_no {L : Option Ln} {e : Ending} (hL : L = none) (he : ∃ w0 o t l0, e = .returned (.tuple #[.agg #[.string w0, .int .i64 o, .int .i64 t, .string l0], .bool false])) : ParsD L e := by
 obtain ⟨w0, o, t, l0, rfl⟩ := he
 subst hL
 exact ⟨w0, l0, o, t, rfl, fun x h => by cases h⟩
theorem pars_ok {L : Option Ln} {e : Ending} {x : Ln} {b : Bool} (hL : L = if b then some x else none) (he : e = .returned (.tuple #[.agg #[.string x.word, .int .i64 x.one, .int .i64 x.two, .string x.letters], .bool b])) : ParsD L e := by
 subst he hL
 cases b with
 | false => exact ⟨_, _, _, _, rfl, fun y h => by cases h⟩
 | true => exact ⟨_, _, _, _, rfl, fun y h => by cases h; exact ⟨rfl, rfl, rfl, rfl⟩⟩
theorem lineS_P {s : ByteArray} {n : Int} {a : ByteArray} {Q : List ByteArray} (h : prtB 32 s = a :: Q) : ∃ T, lineS s n = if a = decB n then coreQ Q T else none := by
 unfold prtB at h
 rw [lineS_core]
 match hp : parts 32 s.data.toList with
 | [] => rw [hp] at h; cases h
 | b :: q =>
  rw [hp, List.map_cons] at h
  injection h with h1 h2
  refine ⟨mkB (Lib.join q [32]), ?_⟩
  simp only
  rw [core_Q, h2]
  by_cases hb : b = Lib.itoa n
  ·rw [if_pos hb, if_pos (by rw [← h1, hb]; rfl)]
  ·rw [if_neg hb, if_neg (show ¬ a = decB n from fun e => hb (mkB_inj (h1.trans e)))]
theorem coreQ_no {w : ByteArray} (R : List ByteArray) (t : ByteArray) (h : w ≠ wMark ∧ w ≠ wLog ∧ w ≠ wClaim ∧ w ≠ wRaft ∧ w ≠ wPay ∧ w ≠ wStrike) : coreQ (w :: R) t = none := by
 obtain ⟨h1, h2, h3, h4, h5, h6⟩ := h
 match R with
 | [] => rfl
 | [a] => simp [coreQ, h6]
 | [a, b] => simp [coreQ, h1, h3, h4, h5]
 | [a, b, c] => simp [coreQ, h2]
 | a :: b :: c :: d :: r => rfl
theorem shape_cases (w : ByteArray) : (w = wMark ∧ shapeQ w = (1099511627776, 0, true)) ∨ (w = wLog ∧ shapeQ w = (1099511627776, 10000, true)) ∨ (w = wClaim ∧ shapeQ w = (1099511627776, 1099511627776, false)) ∨ (w = wRaft ∧ shapeQ w = (1099511627776, 100, false)) ∨ (w = wPay ∧ shapeQ w = (1099511627776, 1000000, false)) ∨ (w = wStrike ∧ shapeQ w = (200, 0, false)) ∨ ((w ≠ wMark ∧ w ≠ wLog ∧ w ≠ wClaim ∧ w ≠ wRaft ∧ w ≠ wPay ∧ w ≠ wStrike) ∧ shapeQ w = (0, 0, false)) := by
 unfold shapeQ
 by_cases h1 : w = wMark
 ·exact .inl ⟨h1, by rw [if_pos h1]⟩
 rw [if_neg h1]
 by_cases h2 : w = wLog
 ·exact .inr (.inl ⟨h2, by rw [if_pos h2]⟩)
 rw [if_neg h2]
 by_cases h3 : w = wClaim
 ·exact .inr (.inr (.inl ⟨h3, by rw [if_pos h3]⟩))
 rw [if_neg h3]
 by_cases h4 : w = wRaft
 ·exact .inr (.inr (.inr (.inl ⟨h4, by rw [if_pos h4]⟩)))
 rw [if_neg h4]
 by_cases h5 : w = wPay
 ·exact .inr (.inr (.inr (.inr (.inl ⟨h5, by rw [if_pos h5]⟩))))
 rw [if_neg h5]
 by_cases h6 : w = wStrike
 ·exact .inr (.inr (.inr (.inr (.inr (.inl ⟨h6, by rw [if_pos h6]⟩)))))
 rw [if_neg h6]
 exact .inr (.inr (.inr (.inr (.inr (.inr ⟨⟨h1, h2, h3, h4, h5, h6⟩, rfl⟩)))))
def twoM (wd : ByteArray) (R : List ByteArray) (T : ByteArray) (m1 m2 : Int) : Option Ln := match R with | [x, y] => twoQ wd x y T m1 m2 | _ => none
theorem two_any {s : ByteArray} {n : Nat} {a wd : ByteArray} {R : List ByteArray} {m1 m2 : Int} {L : Option Ln} {T : ByteArray} (w : World) (hs : s.size ≤ 100000) (hn : n ≤ 100000) (hP : prtB 32 s = a :: wd :: R) (h0 : a = decB n) (hsh : shapeQ wd = (m1, m2, false)) (h1 : m1 ≠ 0) (h2 : 0 < m2)
  (hL : L = twoM wd R T m1 m2) :
  Calls Tryz.prog 95 #[.string s, .int .i64 n] w fun e w' => ParsD L e ∧ Below w.heap.size w w' := by
 match R with
 | [] => exact (parse_two2 s n _ m1 m2 false w hs hn hP rfl h0 hsh h1).mono fun e w' ⟨he, hb⟩ => ⟨pars_no hL he, hb⟩
 | [x] => exact (parse_two3 s n _ m1 m2 w hs hn hP rfl h0 hsh h1 h2).mono fun e w' ⟨he, hb⟩ => ⟨pars_no hL he, hb⟩
 | [x, y] => exact (parse_two4 s n _ m1 m2 w hs hn hP rfl h0 hsh h1 h2).mono fun e w' ⟨he, hb⟩ => ⟨pars_ok (x := ⟨wd, numV x, numV y, bNo, T⟩) hL he, hb⟩
 | x :: y :: z :: r => exact (parse_twoL s n _ m1 m2 w hs hn hP (by simp) h0 hsh h1 h2).mono fun e w' ⟨he, hb⟩ => ⟨pars_no hL he, hb⟩
theorem parse2_any (s : ByteArray) (n : Nat) (w : World) (hs : s.size ≤ 100000) (hn : n ≤ 100000) :
  Calls Tryz.prog 95 #[.string s, .int .i64 n] w fun e w' => ParsD (lineS s n) e ∧ Below w.heap.size w w' := by
 match hP : prtB 32 s with
 | [] => exact absurd hP (by unfold prtB; rw [List.map_eq_nil_iff]; exact parts_ne _ _)
 | [a] =>
  obtain ⟨T, hT⟩ := lineS_P (n := n) hP
  refine (parse_one s n _ w hs hn hP rfl).mono fun e w' ⟨he, hb⟩ => ⟨pars_no ?_ he, hb⟩
  rw [hT]
  split <;> rfl
 | a :: wd :: R =>
  obtain ⟨T, hT⟩ := lineS_P (n := n) hP
  by_cases h0 : a = decB n
  ·rw [if_pos h0] at hT
   rcases shape_cases wd with ⟨hw, hsh⟩ | ⟨hw, hsh⟩ | ⟨hw, hsh⟩ | ⟨hw, hsh⟩ | ⟨hw, hsh⟩ | ⟨hw, hsh⟩ | ⟨hw, hsh⟩
   ·-- mark
    have hlg : (wd.toList == [108, 111, 103]) = false := by rw [hw, ByteArray.toList_eq]; decide
    match R with
    | [] => exact (parse_two2 s n _ _ _ true w hs hn hP rfl h0 hsh (by decide)).mono fun e w' ⟨he, hb⟩ => ⟨pars_no (by rw [hT]; rfl) he, hb⟩
    | [x] => exact (parse_lt3 s n _ _ _ w hs hn hP rfl h0 hsh (by decide)).mono fun e w' ⟨he, hb⟩ => ⟨pars_no (by rw [hT, hw]; rfl) he, hb⟩
    | [x, y] =>
     refine (parse_mark4 s n _ _ false _ _ w hs hn hP rfl h0 hsh (by decide) hlg rfl rfl).mono fun e w' ⟨he, hb⟩ => ⟨?_, hb⟩
     by_cases hy : y = bDs
     ·have hb2 : (if pk [a, wd, x, y] 3 = bDs then false else okM (pk [a, wd, x, y] 3)) = false := if_pos hy
      rw [hb2, Bool.and_false] at he
      refine pars_no ?_ ⟨_, _, _, _, he⟩
      rw [hT, hw, coreQ_mark]
      have : okM bDs = false := by unfold okM; rw [ByteArray.toList_eq]; decide
      rw [hy, this, Bool.and_false]
      rfl
     ·have hb2 : (if pk [a, wd, x, y] 3 = bDs then false else okM (pk [a, wd, x, y] 3)) = okM y := if_neg hy
      have hb3 : (if pk [a, wd, x, y] 3 = bDs then bNo else pk [a, wd, x, y] 3) = y := if_neg hy
      rw [hb2, hb3] at he
      refine pars_ok (x := ⟨wd, numV x, 0, y, T⟩) ?_ he
      rw [hT, hw, coreQ_mark]
      rfl
    | x :: y :: z :: r =>
     refine (parse_markL s n _ _ false _ _ w hs hn hP (by simp) h0 hsh (by decide) hlg rfl rfl).mono fun e w' ⟨he, hb⟩ => ⟨pars_no ?_ he, hb⟩
     rw [hT, hw]
     match r with
     | [] => simp [coreQ, show ¬ wMark = wLog by decide]
     | u :: r => rfl
   ·-- log
    have hlg : (wd.toList == [108, 111, 103]) = true := by rw [hw, ByteArray.toList_eq]; decide
    match R with
    | [] => exact (parse_two2 s n _ _ _ true w hs hn hP rfl h0 hsh (by decide)).mono fun e w' ⟨he, hb⟩ => ⟨pars_no (by rw [hT]; rfl) he, hb⟩
    | [x] => exact (parse_lt3 s n _ _ _ w hs hn hP rfl h0 hsh (by decide)).mono fun e w' ⟨he, hb⟩ => ⟨pars_no (by rw [hT, hw]; rfl) he, hb⟩
    | [x, y] =>
     refine (parse_log4 s n _ _ _ true _ _ w hs hn hP rfl h0 hsh (by decide) (by decide) hlg rfl rfl).mono fun e w' ⟨he, hb⟩ => ⟨pars_no ?_ he, hb⟩
     rw [hT, hw]
     rfl
    | [x, y, z] =>
     refine (parse_log5 s n _ _ _ true _ _ w hs hn hP rfl h0 hsh (by decide) (by decide) hlg rfl rfl).mono fun e w' ⟨he, hb⟩ => ⟨?_, hb⟩
     have hb2 : (if pk [a, wd, x, y, z] 3 = bDs then true else okM (pk [a, wd, x, y, z] 3)) = (decide (y = bDs) || okM y) := by
      show (if y = bDs then true else okM y) = _
      by_cases hy : y = bDs
      ·rw [if_pos hy, decide_eq_true hy]; rfl
      ·rw [if_neg hy, decide_eq_false hy]; rfl
     have hb3 : (if pk [a, wd, x, y, z] 3 = bDs then bNo else pk [a, wd, x, y, z] 3) = if y = bDs then bNo else y := rfl
     rw [hb2, hb3] at he
     refine pars_ok (x := ⟨wd, numV x, numV z, if y = bDs then bNo else y, T⟩) (b := okN x 1099511627776 && (decide (y = bDs) || okM y) && okN z 10000) ?_ he
     rw [hT, hw, coreQ_log, Bool.and_right_comm]
    | x :: y :: z :: u :: r =>
     refine (parse_logL s n _ _ _ true _ _ w hs hn hP (by simp) h0 hsh (by decide) (by decide) hlg rfl rfl).mono fun e w' ⟨he, hb⟩ => ⟨pars_no ?_ he, hb⟩
     rw [hT]
     rfl
   ·refine two_any (T := T) w hs hn hP h0 hsh (by decide) (by decide) ?_
    rw [hT, hw]
    match R with
    | [] => rfl
    | [x] => rfl
    | [x, y] => exact coreQ_claim x y T
    | [x, y, z] => rfl
    | x :: y :: z :: u :: r => rfl
   ·refine two_any (T := T) w hs hn hP h0 hsh (by decide) (by decide) ?_
    rw [hT, hw]
    match R with
    | [] => rfl
    | [x] => rfl
    | [x, y] => exact coreQ_raft x y T
    | [x, y, z] => rfl
    | x :: y :: z :: u :: r => rfl
   ·refine two_any (T := T) w hs hn hP h0 hsh (by decide) (by decide) ?_
    rw [hT, hw]
    match R with
    | [] => rfl
    | [x] => rfl
    | [x, y] => exact coreQ_pay x y T
    | [x, y, z] => rfl
    | x :: y :: z :: u :: r => rfl
   ·-- strike
    match R with
    | [] => exact (parse_two2 s n _ _ _ false w hs hn hP rfl h0 hsh (by decide)).mono fun e w' ⟨he, hb⟩ => ⟨pars_no (by rw [hT]; rfl) he, hb⟩
    | [x] =>
     refine (parse_strike3 s n _ _ w hs hn hP rfl h0 hsh (by decide)).mono fun e w' ⟨he, hb⟩ => ⟨pars_ok (x := ⟨wd, numV x, 0, bNo, T⟩) ?_ he, hb⟩
     rw [hT, hw, coreQ_strike]
     rfl
    | x :: y :: r =>
     refine (parse_strikeL s n _ _ w hs hn hP (by simp) h0 hsh (by decide)).mono fun e w' ⟨he, hb⟩ => ⟨pars_no ?_ he, hb⟩
     rw [hT, hw]
     match r with
     | [] => rfl
     | [z] => rfl
     | z :: u :: r => rfl
   ·exact (parse_shape0 s n _ _ _ w hs hn hP (by simp) h0 hsh).mono fun e w' ⟨he, hb⟩ => ⟨pars_no (by rw [hT]; exact coreQ_no R T hw) he, hb⟩
  ·exact (parse_bad0 s n _ w hs hn hP (by simp) h0).mono fun e w' ⟨he, hb⟩ => ⟨pars_no (by rw [hT, if_neg h0]) he, hb⟩
end Go.Proofs.YtcnpbcgkhhebaaaGreatDoor
/- The laws of a text, in plain data: the plain book, a strike, the first lines. -/
namespace Go.Proofs.YtcnpbcgkhhebaaaGreatDoor
open Go.RowKit

theorem valid_play {text : ByteArray} {l : List Ln} (h : parseS text = (l, 0)) : Valid (playE l).os (playE l).ls := (good_playE l).valid fun x hx => ((parse_iff.1 h).2.1 x hx).full
def oneTo (n : Nat) : List Int := (List.range n).map fun i : Nat => (i : Int) + 1
theorem plus1_enum (L : List Ln) : plus1 (enumE 0 L) = oneTo L.length := by
 apply List.ext_getElem?
 intro i
 unfold plus1 oneTo
 rw [List.getElem?_map, List.getElem?_map]
 by_cases hi : i < L.length
 ·have h1 := enumE_fst L 0 i hi
  rw [List.getElem?_range hi]
  cases hq : (enumE 0 L)[i]? with
  | none => rw [hq] at h1; cases h1
  | some q =>
   rw [hq] at h1
   have h2 : q.1 = 0 + i := Option.some.inj h1
   show some ((q.1 : Int) + 1) = some ((i : Int) + 1)
   rw [h2, Nat.zero_add]
 ·rw [List.getElem?_eq_none (by rw [enumE_len]; omega), List.getElem?_eq_none (by rw [List.length_range]; omega)]
  rfl
theorem enum_text (L : List Ln) : (enumE 0 L).map (·.2.text) = L.map (·.text) := by
 have h := congrArg (List.map (·.text)) (enumE_snd L 0)
 rw [List.map_map] at h
 exact h
/-- What the plain book of a text says. -/
structure Booked (text p : ByteArray) (l L : List Ln) : Prop where
 book : plainS text = (p, 0)
 len : p.size ≤ text.size
 parse : parseS p = (L, 0)
 num : L.length = (playE l).eff.length
 os : (playE L).os = (playE l).os
 ls : (playE L).ls = (playE l).ls
 errs : (playE L).errs = List.replicate L.length 0
 eff : plus1 (playE L).eff = oneTo L.length
 own : plainS p = (p, 0)
theorem booked {text : ByteArray} {l : List Ln} (h : parseS text = (l, 0)) : Booked text (textB ((playE l).eff.map (·.2.text))) l ((playE l).eff.map (·.2)) := by
 obtain ⟨h1, h2, h3⟩ := plain_book h
 have hl : ((playE l).eff.map (·.2)).length = (playE l).eff.length := List.length_map _
 refine ⟨plain_form h, h1, h2, hl, by rw [h3], by rw [h3], by rw [h3, hl], by rw [h3]; exact plus1_enum _, ?_⟩
 rw [plain_form h2, h3]
 show (textB ((enumE 0 ((playE l).eff.map (·.2))).map (·.2.text)), (0 : Int)) = _
 rw [enum_text, List.map_map]
 rfl

/-- A line that was just done, or refused, is struck; and struck again. -/
theorem struck {l : List Ln} {y x : Ln} (hy : y.word ≠ wStrike) (hx : x.word = wStrike) (hx1 : x.one = (l.length : Int) + 1) :
  (playE (l ++ [y] ++ [x] ++ [x])).os = (playE l).os ∧ (playE (l ++ [y] ++ [x] ++ [x])).ls = (playE l).ls ∧
  ∃ e : Int, (playE (l ++ [y] ++ [x] ++ [x])).errs = (playE l).errs ++ [e] ++ [if e = 0 then 0 else 5] ++ [5] := by
 have hg := good_playE l
 have he := playE_errs l
 rw [playE_snoc, playE_snoc, playE_snoc]
 obtain ⟨p, hp⟩ : ∃ p, playE l = p := ⟨_, rfl⟩
 rw [hp] at hg he ⊢
 have hx2 : x.one - 1 = (l.length : Int) := by omega
 have hnone : p.eff.any (fun q => decide ((q.1 : Int) = (l.length : Int))) = false := by
  rw [List.any_eq_false]
  intro q hq
  have := hg.lt q hq
  simp
  omega
 -- a strike of a line that is not in effect
 have no : ∀ r : Pl, r.os = p.os → r.ls = p.ls → r.eff = p.eff → l.length < r.errs.length → stepE r x = ⟨p.os, p.ls, p.eff, r.errs ++ [5]⟩ := by
  intro r h1 h2 h3 h4
  unfold stepE
  rw [if_pos hx, hx2]
  have : strikeE r (l.length : Int) = (p.os, p.ls, p.eff, 5) := by
   unfold strikeE
   rw [if_neg (by omega), h3, if_pos hnone, h1, h2]
  rw [this]
 by_cases h0 : (doS p.os p.ls y).2.2 = 0
 ·have s1 : stepE p y = ⟨(doS p.os p.ls y).1, (doS p.os p.ls y).2.1, p.eff ++ [(l.length, y)], p.errs ++ [0]⟩ := by
   unfold stepE
   rw [if_neg hy, if_pos h0, h0, he]
  have hb : butE (p.eff ++ [(l.length, y)]) (l.length : Int) = p.eff := by
   unfold butE
   rw [List.filter_append, List.filter_eq_self.2]
   ·simp
   ·intro q hq
    have := hg.lt q hq
    simp
    omega
  have s2 : stepE (stepE p y) x = ⟨p.os, p.ls, p.eff, p.errs ++ [0] ++ [0]⟩ := by
   rw [s1]
   unfold stepE
   rw [if_pos hx, hx2]
   have : strikeE ⟨(doS p.os p.ls y).1, (doS p.os p.ls y).2.1, p.eff ++ [(l.length, y)], p.errs ++ [0]⟩ (l.length : Int) = (p.os, p.ls, p.eff, 0) := by
    unfold strikeE
    simp only [List.length_append, List.length_cons, List.length_nil]
    rw [if_neg (by omega), if_neg (by simp), hb, hg.again]
   rw [this]
  rw [no _ (by rw [s2]) (by rw [s2]) (by rw [s2]) (by rw [s2]; simp; omega), s2]
  exact ⟨rfl, rfl, 0, by simp⟩
 ·obtain ⟨e1, e2⟩ := do_refused _ _ _ h0
  have s1 : stepE p y = ⟨p.os, p.ls, p.eff, p.errs ++ [(doS p.os p.ls y).2.2]⟩ := by
   unfold stepE
   rw [if_neg hy, if_neg h0, e1, e2]
  have s2 : stepE (stepE p y) x = ⟨p.os, p.ls, p.eff, p.errs ++ [(doS p.os p.ls y).2.2] ++ [5]⟩ := by
   rw [no (stepE p y) (by rw [s1]) (by rw [s1]) (by rw [s1]) (by rw [s1]; simp; omega), s1]
  rw [no _ (by rw [s2]) (by rw [s2]) (by rw [s2]) (by rw [s2]; simp; omega), s2]
  exact ⟨rfl, rfl, (doS p.os p.ls y).2.2, by rw [if_neg h0]⟩

/-- The first lines of a text. -/
def headN : Nat → List UInt8 → List UInt8
 | _, [] => []
 | 0, _ :: _ => []
 | k + 1, c :: r => c :: headN (if c = 10 then k else k + 1) r
theorem headN_zero (l : List UInt8) : headN 0 l = [] := by cases l <;> rfl
theorem headN_line (k : Nat) (rest : List UInt8) : ∀ p : List UInt8, (10 : UInt8) ∉ p → headN (k + 1) (p ++ 10 :: rest) = p ++ 10 :: headN k rest
 | [], _ => by rw [List.nil_append, headN, if_pos rfl, List.nil_append]
 | c :: p, h => by
  have hc : ¬ c = 10 := fun e => h (by rw [e]; exact List.mem_cons_self)
  rw [List.cons_append, headN, if_neg hc, headN_line k rest p fun e => h (List.mem_cons_of_mem _ e), List.cons_append]
theorem headN_textL : ∀ (xs : List ByteArray) (m k : Nat), (∀ x ∈ xs, (10 : UInt8) ∉ x.data.toList) → headN k (textL m xs) = textL m (xs.take k)
 | [], m, k, _ => by rw [List.take_nil]; cases k <;> rfl
 | x :: r, m, 0, _ => by rw [headN_zero, List.take_zero]; rfl
 | x :: r, m, k + 1, h => by
  rw [List.take_succ_cons, textL_cons, textL_cons, headN_line _ _ _ (no_nl (h x List.mem_cons_self)), headN_textL r (m + 1) k fun y hy => h y (List.mem_cons_of_mem _ hy)]
def headB (text : ByteArray) (k : Nat) : ByteArray := mkB (headN k text.data.toList)
theorem headN_len : ∀ (k : Nat) (l : List UInt8), (headN k l).length ≤ l.length
 | _, [] => by cases ‹Nat› <;> simp [headN]
 | 0, _ :: _ => by simp [headN]
 | k + 1, c :: r => by
  rw [headN, List.length_cons, List.length_cons]
  have := headN_len (if c = 10 then k else k + 1) r
  omega
theorem head_parse {text : ByteArray} {l : List Ln} (h : parseS text = (l, 0)) (k : Nat) : parseS (headB text k) = (l.take k, 0) := by
 obtain ⟨h1, h2, h3, h4⟩ := parse_iff.1 h
 have e : headB text k = textB ((l.take k).map (·.text)) := by
  apply bx
  unfold headB
  rw [mkB_data, h1, headN_textL _ _ _ (line_nl h2), List.map_take]
  rfl
 have hs : (headB text k).size ≤ 8000 := by
  unfold headB
  rw [mkB_size]
  have := headN_len k text.data.toList
  have h5 : text.data.toList.length = text.size := by simp
  omega
 rw [e] at hs ⊢
 exact parse_text (fun x hx => h2 x (List.mem_of_mem_take hx)) (by rw [List.length_take]; omega) hs
/-- Either the last line was done, or nothing was changed. -/
theorem last_line {l : List Ln} {k : Nat} (hk : k < l.length) : (playE (l.take (k + 1))).errs[k]? = some 0 ∨ ((playE (l.take k)).os = (playE (l.take (k + 1))).os ∧ (playE (l.take k)).ls = (playE (l.take (k + 1))).ls) := by
 rw [playE_take hk]
 have he := playE_errs (l.take k)
 rw [List.length_take, Nat.min_eq_left (by omega)] at he
 by_cases h : (stepE (playE (l.take k)) l[k]).errs[(playE (l.take k)).errs.length]? = some 0
 ·rw [he] at h
  exact .inl h
 ·obtain ⟨e1, e2, _⟩ := step_refused h
  exact .inr ⟨e1.symm, e2.symm⟩
end Go.Proofs.YtcnpbcgkhhebaaaGreatDoor
/- The laws' small functions: how many lines, the first lines, one more line. -/
namespace Go.Proofs.YtcnpbcgkhhebaaaGreatDoor
open Go.RowKit

set_option maxHeartbeats 1000000 in
theorem lines_any (t : ByteArray) (w : World) (hs : t.size ≤ 1000000) :
  Calls Tryz.prog 44 #[.string t] w fun e w' => e = .returned (.int .i64 (nLines t)) ∧ Below w.heap.size w w' := by
 have CP := Lib.hid (fun W => parts2_any t 10 W hs)
 obtain ⟨xs, hxs⟩ : ∃ xs, prtB 10 t = xs := ⟨_, rfl⟩
 have hl : xs.length = nLines t + 1 := by
  have h1 : xs.length = (parts 10 t.data.toList).length := by rw [← hxs]; unfold prtB; rw [List.length_map]
  have h2 : 0 < (parts 10 t.data.toList).length := List.length_pos_iff.2 (parts_ne _ _)
  unfold nLines
  omega
 have hn : nLines t ≤ 1000000 := by
  have := parts_cnt 10 t.data.toList
  have h5 : t.data.toList.length = t.size := by simp
  unfold nLines
  omega
 obtain ⟨n, hn2⟩ : ∃ n, nLines t = n := ⟨_, rfl⟩
 rw [hn2] at hl hn
 rw [hxs] at CP
 have HN := Lib.hid hn2
 clear hxs hn2
 go_enter Tryz.func44, Tryz.ntmps44
 go_wp2_with fail
 refine (CP.out _).mono ?_
 rintro e w1 ⟨⟨A, c, rfl, ho⟩, hb⟩
 rw [hl]
 clear ho
 have HB := Lib.hid hb
 clear hb
 go_wp2
 go_ret
 rw [HN.out]
 exact ⟨rfl, HB.out⟩

theorem head_step {k i m : Nat} {s : ByteArray} (h : headN k s.data.toList = s.data.toList.take i ++ headN (m + 1) (s.data.toList.drop i)) (hi : i < s.size) : headN k s.data.toList = s.data.toList.take (i + 1) ++ headN (if s[i] = 10 then m else m + 1) (s.data.toList.drop (i + 1)) := by
 have htk : s.data.toList.take (i + 1) = s.data.toList.take i ++ [s[i]] := by
  rw [List.take_succ_eq_append_getElem (by simpa using hi)]
  rfl
 rw [h, drop_data s i hi, headN, htk, List.append_assoc]
 rfl
set_option maxRecDepth 100000 in
set_option maxHeartbeats 2000000 in
theorem head_any (t : ByteArray) (k : Nat) (w : World) (hs : t.size ≤ 1000000) (hk : k ≤ 1000000) :
  Calls Tryz.prog 47 #[.string t, .int .i64 k] w fun e w' => e = .returned (.string (headB t k)) ∧ Below w.heap.size w w' := by
 go_enter Tryz.func47, Tryz.ntmps47
 go_wp2
 go_loopg [1, 5] t.size (fun gg s1 s5 wr => ∃ i m : Nat, i ≤ t.size ∧ t.size - i ≤ gg ∧ s5 = .int .i64 i ∧ s1 = .int .i64 m ∧ m ≤ 1000000 ∧ Hid (Below w.heap.size w wr) ∧ Hid (headN k t.data.toList = t.data.toList.take i ++ headN m (t.data.toList.drop i)))
 case atStart => exact ⟨0, k, Nat.zero_le _, by omega, rfl, rfl, hk, Below.refl _ _, (show headN k t.data.toList = [] ++ headN k (t.data.toList.drop 0) from by rw [List.drop_zero]; rfl)⟩
 case round =>
  obtain ⟨i, m, hi, hg, rfl, rfl, hm, BW, HH⟩ := hrel
  by_cases hlt : i < t.size
  ·have hli : (i : Int) < (t.size : Int) := by omega
   have hi0 : (0 : Int) ≤ (i : Int) := by omega
   cases m with
   | zero =>
    have hd : (((0 : Nat) : Int) == 0) = true := rfl
    have HE := Lib.hid (show headB t k = t.extract 0 i from by
     apply ByteArray.ext
     apply Array.ext'
     rw [extract_list, List.drop_zero, Nat.sub_zero]
     unfold headB
     rw [mkB_data, HH.out, headN_zero, List.append_nil])
    clear hd
    go_wp2
    go_ret
    rw [HE.out]
    exact ⟨rfl, BW.out⟩
   | succ m =>
    have hd : (((m + 1 : Nat) : Int) == 0) = false := by rw [beq_eq_false_iff_ne]; omega
    have hd2 : ((m : Int) + 1 == 0) = false := by rw [beq_eq_false_iff_ne]; omega
    have hst := head_step HH.out hlt
    by_cases hc : t[i] = 10
    ·have hdc : (((t[i].toNat : Nat) : Int) == 10) = true := by rw [hc]; rfl
     rw [if_pos hc] at hst
     have HS := Lib.hid hst
     clear hst hc
     go_wp2
     go_roundg (t.size - (i + 1))
     case measure => omega
     case rel => exact ⟨i + 1, m, by omega, by omega, by go_num, by first | rfl | (congr 1; omega), by omega, BW.out, HS.out⟩
    ·have hdc : (((t[i].toNat : Nat) : Int) == 10) = false := by
      rw [beq_eq_false_iff_ne]
      intro e
      exact hc (UInt8.toNat_inj.1 (by have : (10 : UInt8).toNat = 10 := rfl; omega))
     rw [if_neg hc] at hst
     have HS := Lib.hid hst
     clear hst hc
     go_wp2
     go_roundg (t.size - (i + 1))
     case measure => omega
     case rel => exact ⟨i + 1, m + 1, by omega, by omega, by go_num, by first | rfl | (congr 1; omega), by omega, BW.out, HS.out⟩
  ·have hli : ¬ (i : Int) < (t.size : Int) := by omega
   have HE := Lib.hid (show headB t k = t from by
    apply bx
    unfold headB
    rw [mkB_data, HH.out, List.take_of_length_le (by simp; omega), List.drop_eq_nil_of_le (by simp; omega)]
    cases m <;> simp [headN])
   go_wp2
   go_ret
   rw [HE.out]
   exact ⟨rfl, BW.out⟩

set_option maxRecDepth 100000 in
set_option maxHeartbeats 2000000 in
theorem added_any (t x : ByteArray) (w : World) (hs : t.size ≤ 100000) (hx : x.size ≤ 100000) :
  Calls Tryz.prog 50 #[.string t, .string x] w fun e w' => e = .returned (.tuple #[.string (addB t x), .bool (decide (nLines t < 200) && decide (t.size ≤ 7900))]) ∧ Below w.heap.size w w' := by
 have CL := Lib.hid (fun W => lines_any t W (by omega))
 have hn : nLines t ≤ 1000000 := by
  have := parts_cnt 10 t.data.toList
  have h5 : t.data.toList.length = t.size := by simp
  unfold nLines
  omega
 have CD := Lib.hid (fun W => digits2_any (nLines t + 1) W (by omega))
 have hib : (decB ((nLines t : Int) + 1)).size ≤ 21 := by
  rw [decB_len]
  exact Lib.itoa_length_le _ (by omega) (by omega)
 have hae : addB t x = t ++ decB ((nLines t : Int) + 1) ++ ⟨#[32]⟩ ++ x ++ ⟨#[10]⟩ := rfl
 rw [hae]
 obtain ⟨n, hn2⟩ : ∃ n, nLines t = n := ⟨_, rfl⟩
 rw [hn2] at CL CD hn hib ⊢
 rw [Int.natCast_add, show ((1 : Nat) : Int) = 1 from rfl] at CD
 obtain ⟨ib, hibd⟩ : ∃ ib, decB ((n : Int) + 1) = ib := ⟨_, rfl⟩
 rw [hibd] at CD hib ⊢
 have hkw : IntKind.i64.wrap ((n : Int) + 1) = (n : Int) + 1 := by rw [IntKind.wrap_i64]; omega
 have hs1 : ¬ 9223372036854775807 < t.size + ib.size := by omega
 have hs2 : ¬ 9223372036854775807 < t.size + ib.size + 1 := by omega
 have hs3 : ¬ 9223372036854775807 < t.size + ib.size + 1 + x.size := by omega
 have hs4 : ¬ 9223372036854775807 < t.size + ib.size + 1 + x.size + 1 := by omega
 clear hae hn2 hibd
 by_cases h2 : n < 200
 ·have hd2 : decide ((n : Int) < 200) = true := decide_eq_true (by omega)
  have H2 := Lib.hid (decide_eq_true h2)
  have hd3 : decide ((t.size : Int) ≤ 7900) = decide (t.size ≤ 7900) := decide_eq_decide.2 (by omega)
  obtain ⟨q, hq⟩ : ∃ q, decide (t.size ≤ 7900) = q := ⟨_, rfl⟩
  rw [hq] at hd3 ⊢
  clear hq
  go_enter Tryz.func50, Tryz.ntmps50
  go_wp2_with fail
  refine (CL.out _).mono ?_
  rintro e w1 ⟨rfl, hb⟩
  have HB := Lib.hid hb
  clear hb
  go_wp2_with fail
  refine (CD.out _).mono ?_
  rintro e w2 ⟨rfl, hb⟩
  replace HB := Lib.hid (below2 HB.out hb)
  clear hb
  go_wp2
  go_ret2
  rw [H2.out]
  exact ⟨rfl, HB.out⟩
 ·have hd2 : decide ((n : Int) < 200) = false := decide_eq_false (by omega)
  have H2 := Lib.hid (decide_eq_false h2)
  go_enter Tryz.func50, Tryz.ntmps50
  go_wp2_with fail
  refine (CL.out _).mono ?_
  rintro e w1 ⟨rfl, hb⟩
  have HB := Lib.hid hb
  clear hb
  go_wp2_with fail
  refine (CD.out _).mono ?_
  rintro e w2 ⟨rfl, hb⟩
  replace HB := Lib.hid (below2 HB.out hb)
  clear hb
  go_wp2
  go_ret2
  rw [H2.out]
  exact ⟨rfl, HB.out⟩
end Go.Proofs.YtcnpbcgkhhebaaaGreatDoor
/- The document: the lines of a text: the same lines, without their own texts. -/
namespace Go.Proofs.YtcnpbcgkhhebaaaGreatDoor
open Go.RowKit

def eD (x : Ln) : List Value := [.string x.word, .int .i64 x.one, .int .i64 x.two, .string x.letters]
theorem encD : Enc eD 4 := ⟨fun _ => rfl, fun x u h => by simp [eD] at h; rcases h with rfl | rfl | rfl | rfl <;> rfl⟩
theorem e61 : EInfo 57 61 (.agg #[.string ByteArray.empty, .int .i64 0, .int .i64 0, .string ByteArray.empty]) 4 48 := ⟨Tryz.underlying57, by kernel_rfl, rfl, by omega⟩
theorem four_D {w : World} {b : Nat} {x : Ln} (h0 : w.cell? ⟨b, 0, none⟩ = some (.string x.word)) (h1 : w.cell? ⟨b, 1, none⟩ = some (.int .i64 x.one)) (h2 : w.cell? ⟨b, 2, none⟩ = some (.int .i64 x.two)) (h3 : w.cell? ⟨b, 3, none⟩ = some (.string x.letters)) :
  ∀ j u, (eD x)[j]? = some u → w.cell? ⟨b, j, none⟩ = some u := by
 intro j u hj
 match j with
 | 0 => simp [eD] at hj; subst hj; exact h0
 | 1 => simp [eD] at hj; subst hj; exact h1
 | 2 => simp [eD] at hj; subst hj; exact h2
 | 3 => simp [eD] at hj; subst hj; exact h3
 | j + 4 => simp [eD] at hj
theorem Rd.atD {w : World} {A : Option Addr} {c : Nat} {xs : List Ln} (h : Rd eD 4 w A c xs) {i : Nat} (hi : i < xs.length) : ∃ b off y, y = xs[i] ∧ A = some ⟨b, off, none⟩ ∧ b < w.heap.size ∧
  w.cell? ⟨b, off + i * 4, none⟩ = some (.string y.word) := by
 obtain ⟨b, off, e, hb, hc⟩ := h.at_ hi
 exact ⟨b, off, xs[i], rfl, e, hb, by have := hc 0 (.string xs[i].word) rfl; rwa [Nat.add_zero] at this⟩

/-- The lines but the last part, one after the other. -/
theorem lineL_at : ∀ (ps : List (List UInt8)) (n i : Nat) (l1 : List Ln), i + 1 < ps.length → lineL n ps = (lineL (n + i) (ps.drop i)).map (l1 ++ ·) → lineL n ps = match lineS (mkB ((ps[i]?).getD [])) ((n : Int) + i + 1) with
   | none => none
   | some x => (lineL (n + (i + 1)) (ps.drop (i + 1))).map ((l1 ++ [x]) ++ ·) := by
 intro ps n i l1 hi h
 obtain ⟨p, q, r, hp⟩ : ∃ p q r, ps.drop i = p :: q :: r := by
  match hq : ps.drop i with
  | [] => have := congrArg List.length hq; rw [List.length_drop] at this; simp at this; omega
  | [a] => have := congrArg List.length hq; rw [List.length_drop] at this; simp at this; omega
  | a :: b :: r => exact ⟨a, b, r, rfl⟩
 have h1 : ps[i]? = some p := by
  have := List.getElem?_drop (xs := ps) (i := i) (j := 0)
  rw [hp, List.getElem?_cons_zero, Nat.add_zero] at this
  exact this.symm
 have h2 : ps.drop (i + 1) = q :: r := by
  rw [← List.drop_drop, hp]
  rfl
 rw [h, hp, lineL, h1, h2, Option.getD_some]
 have e : ((n + i : Nat) : Int) + 1 = (n : Int) + i + 1 := by omega
 rw [e]
 show (match lineS (mkB p) ((n : Int) + i + 1) with | none => none | some x => _).map _ = _
 cases lineS (mkB p) ((n : Int) + i + 1) with
 | none => rfl
 | some x =>
  simp only [Option.map_map]
  rw [show n + i + 1 = n + (i + 1) from rfl]
  congr 1
  funext z
  simp
theorem lineL_none : ∀ (ps : List (List UInt8)) (n : Nat), ps.getLast? ≠ some [] → lineL n ps = none
 | [], n, _ => rfl
 | [p], n, h => by
  rw [lineL, if_neg]
  intro e
  exact h (by rw [e]; rfl)
 | p :: q :: r, n, h => by
  rw [lineL]
  split
  ·rfl
  ·rw [lineL_none (q :: r) (n + 1) (by rw [List.getLast?_cons_cons] at h; exact h)]
   rfl
theorem lineL_one (n : Nat) : lineL n [[]] = some [] := rfl

set_option maxRecDepth 100000 in
set_option maxHeartbeats 4000000 in
theorem lines2_any (text : ByteArray) (w : World) (hs : text.size ≤ 9223372036854775807) :
  Calls Tryz.prog 45 #[.string text] w fun e w' => OwnR2 eD 61 4 w.heap.size w' e (parseS text).1 (parseS text).2 ∧ Below w.heap.size w w' := by
 by_cases h8 : 8000 < text.size
 ·have hd8 : decide (8000 < text.size) = true := decide_eq_true h8
  have hd8i : decide (8000 < (text.size : Int)) = true := decide_eq_true (by omega)
  have hp : parseS text = ([], 7) := by unfold parseS; rw [if_pos h8]
  have HP := Lib.hid hp
  clear hp
  go_enter Tryz.func45, Tryz.ntmps45
  go_wp2
  go_ret2
  rw [HP.out]
  exact ⟨Own.ret2 (v := .slice none 0 0) (Own.nil_ _ _ _ _ _) rfl, Below.refl _ _⟩
 have hd8 : decide (8000 < text.size) = false := decide_eq_false h8
 have hd8i : decide (8000 < (text.size : Int)) = false := decide_eq_false (by omega)
 have hp : parseS text = match lineL 0 (parts 10 text.data.toList) with | none => ([], 8) | some l => if 200 < l.length then ([], 6) else (l, 0) := by unfold parseS; exact if_neg h8
 have CP := Lib.hid (fun W => parts2_any text 10 W (by omega))
 have hpc := parts_cnt 10 text.data.toList
 have hz5 : text.data.toList.length = text.size := by simp
 have hsum := parts_sum 10 text.data.toList
 have hsz : ∀ q ∈ parts 10 text.data.toList, q.length ≤ 8000 := fun q hq => by
  have := mem_part hq
  omega
 obtain ⟨ps, hps⟩ : ∃ ps, parts 10 text.data.toList = ps := ⟨_, rfl⟩
 have hprt : prtB 10 text = ps.map mkB := by unfold prtB; rw [hps]
 have hne : ps ≠ [] := by rw [← hps]; exact parts_ne _ _
 rw [hps] at hp hpc hsz
 rw [hprt] at CP
 obtain ⟨N, hN⟩ : ∃ N, ps.length = N + 1 := ⟨ps.length - 1, by have := List.length_pos_iff.2 hne; omega⟩
 have HP := Lib.hid hp
 have HSZ := Lib.hid hsz
 have HPN := Lib.hid hN
 have hlen : (ps.map mkB).length = N + 1 := by rw [List.length_map, hN]
 have hNs : N ≤ 8000 := by omega
 clear hp hprt hps hpc hsum hsz hz5 hne hN
 go_enter Tryz.func45, Tryz.ntmps45
 go_wp2_with fail
 refine (CP.out _).mono ?_
 rintro e w1 ⟨⟨A, c, rfl, ho⟩, hb⟩
 have RD := Lib.hid (ho.rs encS)
 rw [hlen]
 have hcap : N + 1 ≤ c := by have := (ho.rs encS).1; omega
 have hmax : c ≤ 9223372036854775807 := (ho.rs encS).2.1
 clear ho CP
 obtain ⟨b, off, z, hz, rfl, hbb, dz⟩ := RD.out.atS (i := N) (by omega)
 have hzl : z = mkB ((ps[N]?).getD []) := by
  rw [hz, List.getElem_map, List.getElem?_eq_getElem (by have := HPN.out; omega), Option.getD_some]
 have HZ := Lib.hid hzl
 clear hz hzl
 have HB := Lib.hid hb
 clear hb
 cases he : z.toList.isEmpty with
 | false =>
  have hn : lineL 0 ps = none := by
   refine lineL_none _ _ fun e => ?_
   rw [List.getLast?_eq_getElem?, HPN.out, Nat.add_sub_cancel] at e
   have h1 := HZ.out
   rw [e, Option.getD_some] at h1
   rw [h1, mkB_toList] at he
   cases he
  have HN := Lib.hid hn
  clear hn
  go_wp2
  go_ret2
  rw [HP.out, HN.out]
  exact ⟨Own.ret2 (v := .slice none 0 0) (Own.nil_ _ _ _ _ _) rfl, HB.out⟩
 | true =>
  have hlast : ps[N]? = some [] := by
   have h1 := HZ.out
   rw [List.getElem?_eq_getElem (by have := HPN.out; omega), Option.getD_some] at h1
   rw [h1, mkB_toList, List.isEmpty_iff] at he
   rw [List.getElem?_eq_getElem (by have := HPN.out; omega), he]
  have HLAST := Lib.hid hlast
  have HE := Lib.hid he
  clear hlast
  go_wp2
  clear dz he
  go_loopg [5, 6] N (fun gg s5 s6 wr => ∃ (k : Nat) (l : List Ln), k ≤ N ∧ N - k ≤ gg ∧ s6 = .int .i64 k ∧ l.length = k ∧ Hid (lineL 0 ps = (lineL (0 + k) (ps.drop k)).map (l ++ ·)) ∧ Hid (Below w1.heap.size w1 wr) ∧ Hid (Own eD 61 4 w1.heap.size wr s5 l))
  case atStart => exact ⟨0, [], Nat.zero_le _, by omega, rfl, rfl, (show lineL 0 ps = (lineL (0 + 0) (ps.drop 0)).map ([] ++ ·) from by simp), Below.refl _ _, Own.nil_ _ _ _ _ _⟩
  case round =>
   obtain ⟨k, l, hk, hg, rfl, hkl, LL, BW, OW⟩ := hrel
   have hll8 : l.length ≤ 8000 := by omega
   have HKL := Lib.hid hkl
   clear hkl
   by_cases hlt : k < N
   ·have hli : (k : Int) + 1 < (N : Int) + 1 := by omega
    have hli2 : (k : Int) < (N : Int) + 1 := by omega
    have hli3 : (k : Int) < (N : Int) := by omega
    have hk0 : (0 : Int) ≤ (k : Int) := by omega
    have hstep := lineL_at ps 0 k l (by have := HPN.out; omega) LL.out
    obtain ⟨b2, off2, y, hy, hee, -, d0⟩ := (RD.out.below BW.out).atS (i := k) (by omega)
    cases hee
    have hyl : y = mkB ((ps[k]?).getD []) := by
     rw [hy, List.getElem_map, List.getElem?_eq_getElem (by have := HPN.out; omega), Option.getD_some]
    have hysz : y.size ≤ 8000 := by
     rw [hyl, List.getElem?_eq_getElem (by have := HPN.out; omega), Option.getD_some, mkB_size]
     exact HSZ.out _ (List.getElem_mem _)
    rw [← hyl] at hstep
    have hpl := fun W => parse2_any y (k + 1) W (by omega) (by omega)
    have hi1 : ((0 : Nat) : Int) + (k : Int) + 1 = ((k + 1 : Nat) : Int) := by omega
    rw [hi1] at hstep
    obtain ⟨L, hLd⟩ : ∃ L, lineS y ((k + 1 : Nat) : Int) = L := ⟨_, rfl⟩
    rw [hLd] at hstep hpl
    rw [Int.natCast_add, show ((1 : Nat) : Int) = 1 from rfl] at hpl
    have ST := Lib.hid hstep
    have PL := Lib.hid hpl
    clear hstep hpl hLd hi1 hy hyl LL
    obtain ⟨A, c2, rfl⟩ := OW.out.sl
    cases L with
    | none =>
     simp only [ParsD, Option.isSome_none] at PL
     go_wp2_with fail
     refine (PL.out _).mono ?_
     rintro e w2 ⟨⟨w0, l0, o, t, rfl, -⟩, hb2⟩
     have BW2 := Lib.hid (below2 BW.out hb2)
     clear hb2 PL
     go_wp2
     go_ret2
     rw [HP.out, ST.out]
     exact ⟨Own.ret2 (v := .slice none 0 0) (Own.nil_ _ _ _ _ _) rfl, below2 HB.out (belowA BW2.out _)⟩
    | some x =>
     obtain ⟨word, one, two, letters, tx⟩ := x
     simp only [ParsD, Option.isSome_some] at PL
     go_wp2_with fail
     refine (PL.out _).mono ?_
     rintro e w2 ⟨⟨w0, l0, o, t, rfl, hx⟩, hb2⟩
     have hx4 := hx _ rfl
     simp only at hx4
     obtain ⟨rfl, rfl, rfl, rfl⟩ := hx4
     clear hx
     have BW2 := Lib.hid (below2 BW.out hb2)
     have OW2 := Lib.hid (OW.out.below hb2)
     clear hb2 PL OW
     go_wp2_with (at_builtin; apply stop_)
     unfold Hid
     refine wpList_push e61 encD rfl _ _ rfl rfl (OW2.out.below (below_a2 w2 (.cells #[.string w0, .int .i64 o, .int .i64 t, .string l0] 61) (.cells #[.string w0, .int .i64 o, .int .i64 t, .string l0] 61))) (w2.heap.size + 1) 1 ⟨w0, o, t, l0, tx⟩ rfl (four_D (by go_simp) (by go_simp) (by go_simp) (by go_simp)) (by omega) (by omega) (by have := BW2.out.size; simp only [World.size_alloc] at this ⊢; omega) ?_
     intro v' w' hown' hgr hlk
     have HOWN := Lib.hid hown'
     have BW3 := Lib.hid ((belowA (belowA BW2.out (.cells #[.string w0, .int .i64 o, .int .i64 t, .string l0] 61)) (.cells #[.string w0, .int .i64 o, .int .i64 t, .string l0] 61)).grown hgr (by have := BW2.out.size; simp only [World.size_alloc] at this ⊢; omega) (fun q hq => (OW2.out.lt_ _ hq).1))
     clear hown' hgr hlk
     go_wp2
     go_roundg (N - (k + 1))
     case measure => omega
     case rel => exact ⟨k + 1, l ++ [⟨w0, o, t, l0, tx⟩], by omega, by omega, by go_num, by have := HKL.out; simp; omega, (show Hid _ from ST), BW3, HOWN⟩
   ·have hli : ¬ (k : Int) + 1 < (N : Int) + 1 := by omega
    have hli2 : ¬ (k : Int) < (N : Int) := by omega
    have hll : lineL 0 ps = some l := by
     have hkN : k = N := by omega
     have hd : ps.drop N = [[]] := by
      rw [List.drop_eq_getElem_cons (by have := HPN.out; omega), List.drop_eq_nil_of_le (by have := HPN.out; omega)]
      have := HLAST.out
      rw [List.getElem?_eq_getElem (by have := HPN.out; omega)] at this
      rw [Option.some.inj this]
     rw [LL.out, hkN, hd, lineL_one]
     simp
    have HLL := Lib.hid hll
    clear hll LL
    obtain ⟨A, c2, rfl⟩ := OW.out.sl
    have OW2 := Lib.hid (show Own eD 61 4 w.heap.size wr _ l from OW.out.mono (by have := HB.out.size; omega))
    by_cases h2 : 200 < l.length
    ·have hd2 : decide (200 < l.length) = true := decide_eq_true h2
     have hd2i : decide (200 < (l.length : Int)) = true := decide_eq_true (by omega)
     have H2 := Lib.hid h2
     go_wp2
     go_ret2
     rw [HP.out, HLL.out]
     simp only
     rw [if_pos H2.out]
     exact ⟨Own.ret2 (v := .slice none 0 0) (Own.nil_ _ _ _ _ _) rfl, below2 HB.out BW.out⟩
    ·have hd2 : decide (200 < l.length) = false := decide_eq_false h2
     have hd2i : decide (200 < (l.length : Int)) = false := decide_eq_false (by omega)
     have H2 := Lib.hid h2
     go_wp2
     go_ret2
     rw [HP.out, HLL.out]
     simp only
     rw [if_neg H2.out]
     exact ⟨Own.ret2 OW2.out rfl, below2 HB.out BW.out⟩

/-- Is a text a text? -/
def fineS (text : ByteArray) : Bool := decide (text.size ≤ 8000) && decide ((parseS text).2 = 0)
theorem fine_cases (text : ByteArray) : fineS text = false ∨ (fineS text = true ∧ ∃ l, parseS text = (l, 0)) := by
 cases h : fineS text with
 | false => exact .inl rfl
 | true =>
  refine .inr ⟨rfl, (parseS text).1, ?_⟩
  unfold fineS at h
  rw [Bool.and_eq_true, decide_eq_true_eq, decide_eq_true_eq] at h
  rw [← h.2]
set_option maxHeartbeats 2000000 in
theorem fine_any (text : ByteArray) (w : World) (hs : text.size ≤ 9223372036854775807) :
  Calls Tryz.prog 43 #[.string text] w fun e w' => e = .returned (.bool (fineS text)) ∧ Below w.heap.size w w' := by
 by_cases h8 : text.size ≤ 8000
 ·have hi : ¬ 8000 < (text.size : Int) := by omega
  have hd8i : decide (8000 < (text.size : Int)) = false := decide_eq_false hi
  have hd8 : decide (8000 < text.size) = false := decide_eq_false (by omega)
  have HF := Lib.hid (show fineS text = decide ((parseS text).2 = 0) by unfold fineS; rw [decide_eq_true h8]; rfl)
  have CL := Lib.hid (fun W => lines2_any text W hs)
  obtain ⟨r, hr⟩ : ∃ r, parseS text = r := ⟨_, rfl⟩
  obtain ⟨l, k⟩ := r
  rw [hr] at CL HF
  clear hr
  by_cases hk : k = 0
  ·subst hk
   go_enter Tryz.func43, Tryz.ntmps43
   go_wp2_with fail
   refine (CL.out _).mono ?_
   rintro e w1 ⟨⟨A, c, rfl, -⟩, hb⟩
   have HB := Lib.hid hb
   clear hb
   go_wp2
   go_ret
   rw [HF.out]
   exact ⟨rfl, HB.out⟩
  ·have hkd : (k == 0) = false := by rw [beq_eq_false_iff_ne]; exact hk
   have HK := Lib.hid (decide_eq_false hk)
   go_enter Tryz.func43, Tryz.ntmps43
   go_wp2_with fail
   refine (CL.out _).mono ?_
   rintro e w1 ⟨⟨A, c, rfl, -⟩, hb⟩
   have HB := Lib.hid hb
   clear hb
   go_wp2
   go_ret
   rw [HF.out]
   exact ⟨by rw [HK.out] <;> rfl, HB.out⟩
 ·have hi : 8000 < (text.size : Int) := by omega
  have hd8i : decide (8000 < (text.size : Int)) = true := decide_eq_true hi
  have hd8 : decide (8000 < text.size) = true := decide_eq_true (by omega)
  have HF := Lib.hid (show fineS text = false by unfold fineS; rw [decide_eq_false h8]; rfl)
  go_enter Tryz.func43, Tryz.ntmps43
  go_wp2
  go_ret
  rw [HF.out]
  exact ⟨rfl, Below.refl _ _⟩
end Go.Proofs.YtcnpbcgkhhebaaaGreatDoor
