/- Made and copied lists of numbers; Worn. -/
import Derived.Test.YtcnpbcgkhhebaaaGreatDoorMi1
import Derived.ChangeKeysEq
import Derived.Shelf.Strings.SlTrimAscii
import Derived.Laws.ResultCell
namespace Go.Proofs.YtcnpbcgkhhebaaaGreatDoor
open Go.RowKit

theorem made_zero (n : Nat) : (madeCells (Value.int .i64 0).cells n).toList = (List.replicate n (0 : Int)).map (Value.int .i64) := by
 apply List.ext_getElem?
 intro j
 by_cases hj : j < n
 ·simp [madeCells, hj, Value.cells, Nat.mod_one]
 ·rw [List.getElem?_eq_none (by simp [madeCells]; omega), List.getElem?_eq_none (by simp; omega)]

theorem run_makeI {T e : TypeId} {bytes : Nat} (hE : EInfo T e (.int .i64 0) 1 bytes) (w : World) (n : Nat) (hn : n ≤ 1000000) (hb : bytes ≤ 1000) :
  ∃ w', (Instr.makeSlice T (.int .i64 n) (.int .i64 n)).run Tryz.prog w = .ok (.slice (some ⟨w.heap.size, 0, none⟩) n n) w' ∧ Own eI e 1 w.heap.size w' (.slice (some ⟨w.heap.size, 0, none⟩) n n) (List.replicate n 0) ∧ Below w.heap.size w w' ∧ w'.heap.size = w.heap.size + 1 := by
 obtain ⟨i0, hi, h1, h2, h3⟩ := info_parts hE.inf
 have hbn : i0.bytes * n ≤ 1000 * 1000000 := by rw [h3]; exact Nat.mul_le_mul hb hn
 have hb' : (i0.bytes : Int) * (n : Int) ≤ 281474976710656 := by
  have h : ((i0.bytes * n : Nat) : Int) ≤ 281474976710656 := by omega
  rwa [Int.natCast_mul] at h
 have hr := run_make (P := Tryz.prog) w T e i0 (.int .i64 0) hE.ut hi h1 .i64 .i64 n n (by omega) (Int.le_refl _) hb' (by omega)
 simp only [Int.toNat_natCast, h2, Nat.mul_one] at hr
 refine ⟨_, hr, ⟨by rw [flat_len encI], .inr ⟨w.heap.size, n, _, by simp, Nat.le_refl _, heap_alloc_new _ _, by simp, by simp only [maxLen]; omega, by simp [madeCells], ?_⟩⟩, below_a1 _ _, by simp⟩
 rw [flat_I, List.length_replicate, Nat.mul_one, List.take_of_length_le (by simp [madeCells]), made_zero]

theorem run_copyI {T e : TypeId} {bytes base : Nat} {w : World} {v : Value} {A : Option Addr} {c : Nat} {zs xs : List Int} (hE : EInfo T e (.int .i64 0) 1 bytes) (ty : TypeId)
  (hown : Own eI e 1 base w v zs) (hz : zs.length = xs.length) (hr : Rd eI 1 w A c xs) :
  ∃ w', (Builtin.copy_ #[T, T] ty #[v, .slice A xs.length c]).run Tryz.prog w = .ok (.int .i64 xs.length) w' ∧ Own eI e 1 base w' v xs ∧ w.grownBy w' v.ownBlock := by
 have h0 := hown
 obtain ⟨i0, hi, h1, h2, h3⟩ := info_parts hE.inf
 have hsz : (Tryz.prog.info? e).map (·.size) = some 1 := by rw [hi]; simp [h2]
 by_cases hx : xs = []
 ·subst hx
  have hz0 : zs = [] := List.eq_nil_of_length_eq_zero hz
  subst hz0
  obtain ⟨A', c', rfl⟩ := hown.sl
  exact ⟨w, run_copy_none (P := Tryz.prog) w T T ty e _ _ _ _ _ _ hE.ut hsz (by simp), h0, grown_of (Below.refl _ _) _⟩
 ·have hpos : 0 < xs.length := List.length_pos_iff.2 hx
  obtain ⟨hl, hown⟩ := hown
  rcases hown with ⟨rfl, hn⟩ | ⟨g, cap, cur, rfl, hb, hg, hc1, hc2, hcs, ht⟩
  ·omega
  ·obtain ⟨b, off, rfl, hbl, hc⟩ := hr.2.2 hpos
   have hrun := run_copy_row (P := Tryz.prog) w T T ty e g 0 zs.length cap ⟨b, off, none⟩ xs.length c cur e (xs.map (Value.int .i64)) hE.ut hsz hg (by simp [hz]) (by
    intro j u hj
    rw [List.getElem?_map, Option.map_eq_some_iff] at hj
    obtain ⟨x, hxj, rfl⟩ := hj
    have := hc j x hxj 0 _ rfl
    rw [Addr.add_lit]
    rwa [Nat.mul_one] at this) (by simp; omega) (by intro v hv; obtain ⟨x, _, rfl⟩ := List.mem_map.1 hv; rfl)
   rw [List.length_map] at hrun
   refine ⟨_, hrun, ⟨by rw [flat_len encI], .inr ⟨g, cap, _, by rw [hz], hb, setRow_heap w g _ _ e _ hg, by omega, hc2, ?_, ?_⟩⟩, ⟨rfl, rfl, rfl, by simp [World.setRow], fun k hk hne => setRow_other w g k _ (fun e => hne (by rw [e]; rfl))⟩⟩
   ·simp; omega
   ·rw [flat_I, Nat.mul_one]
    simp

def wornE (os : List Ow) (ls : List Lg) (seen : ByteArray) : List Int × Int :=
 if checkS os ls ≠ 0 then ([], checkS os ls) else if isSeenB seen then (wornS os seen, 0) else ([], 8)

theorem rise_pw {os : List Ow} (h : riseB os = true) : Rising os := by
 rw [riseB_iff] at h
 have key : ∀ (d i : Nat) (hj : i + d + 1 < os.length), (os[i]'(by omega)).num < (os[i + d + 1]'hj).num := by
  intro d
  induction d with
  | zero => intro i hj; exact h i hj
  | succ d ih =>
   intro i hj
   have h1 := ih i (by omega)
   have h2 := h (i + d + 1) (by omega)
   have : os[i + (d + 1) + 1]'hj = os[i + d + 1 + 1]'(by omega) := by congr 1
   rw [this]
   exact Int.lt_trans h1 h2
 rw [Rising, List.pairwise_iff_getElem]
 intro i j hi hj hij
 simp only [List.length_map] at hi hj
 simp only [List.getElem_map]
 have := key (j - i - 1) i (by omega)
 have e : os[i + (j - i - 1) + 1]'(by omega) = os[j] := by congr 1; omega
 rw [e] at this
 exact this

set_option maxRecDepth 100000 in
set_option maxHeartbeats 1000000 in
theorem wornE_any (A : Option Addr) (c : Nat) (os : List Ow) (A2 : Option Addr) (c2 : Nat) (ls : List Lg) (seen : ByteArray) (w : World) (hr : Rd eO 3 w A c os) (hr2 : Rd eL 5 w A2 c2 ls) :
  Calls Tryz.prog 36 #[.agg #[.slice A os.length c, .slice A2 ls.length c2], .string seen] w fun e w' => OwnR2 eI 2 1 w.heap.size w' e (wornE os ls seen).1 (wornE os ls seen).2 ∧ Below w.heap.size w w' := by
 have HR := Lib.hid hr
 have HR2 := Lib.hid hr2
 clear hr hr2
 have hcon := open_any A c os A2 c2 ls (w.alloc (.cells #[.slice A os.length c, .slice A2 ls.length c2] 26)) HR.out.go HR2.out.go
 by_cases h0 : checkS os ls = 0
 ·have H0 := Lib.hid h0
  have OK1 := Lib.hid (checkS_ok h0)
  have OK2 := Lib.hid (checkO_ok (checkS_ok h0).2.2.2.2.2.2)
  go_enter Tryz.func36, Tryz.ntmps36
  go_wp2_with fail
  refine hcon.mono ?_
  rintro e w1 ⟨_, h2, hb1⟩
  obtain ⟨g, rfl, A1, c1, A3, c3, hg, hgl, o1, o2⟩ := h2 h0
  have hln := checkS_len h0
  clear h2 hcon h0
  have q0 : w1.cell? ⟨g, 0, none⟩ = some (.slice A1 os.length c1) := by rw [cell_of_row _ _ _ _ _ _ hg]; rfl
  have R1 := Lib.hid (o1.rs encO)
  have HB := Lib.hid (below2 (below_a1 _ _) hb1)
  clear hg hgl o1 o2 hb1
  go_wp2_with fail
  refine (isSeen_any seen _).mono ?_
  rintro e w2 ⟨rfl, hb2⟩
  have q2 := cB hb2 q0
  have R12 := Lib.hid (R1.out.below hb2)
  have HB2 := Lib.hid (below2 HB.out hb2)
  clear hb2 q0 R1 HB
  cases hs : isSeenB seen with
  | false =>
   have HS := Lib.hid hs
   clear hs
   go_wp2
   go_ret2
   refine ⟨Own.ret2 (v := .slice none 0 0) ?_ ?_, HB2.out⟩
   ·rw [wornE, if_neg (fun h => h H0.out), HS.out]; exact Own.nil_ _ _ _ _ _
   ·rw [wornE, if_neg (fun h => h H0.out), HS.out]; rfl
  | true =>
   have HS := Lib.hid hs
   clear hs
   have hwo := worn_any seen g 0 A1 c1 os w2 q2 R12.out (by omega) OK2.out.2.1 (rise_pw OK2.out.1) (fun x hx => asc_of_not_odd (Bool.eq_false_iff.2 fun h => (List.any_eq_false.1 OK1.out.2.2.1 x hx) h)) (asc_of_seen HS.out)
   go_wp2_with fail
   refine hwo.mono ?_
   clear hwo
   rintro e w3 ⟨⟨A4, c4, rfl, o4⟩, hb3⟩
   have hlw : (wornS os seen).length ≤ 20 := by
    unfold wornS; rw [List.length_map]; exact Nat.le_trans (List.length_filter_le _ _) hln.1
   have HB3 := Lib.hid (below2 HB2.out hb3)
   have O4 := Lib.hid o4
   clear o4 hb3 q2 R12
   have hWE : wornE os ls seen = (wornS os seen, 0) := by rw [wornE, if_neg (fun h => h H0.out), HS.out]; rfl
   have WE := Lib.hid hWE
   clear hWE
   generalize wornS os seen = xs at O4 hlw WE
   obtain ⟨w4, hmk, o5, hb5, hs5⟩ := run_makeI e2 w3 xs.length (by omega) (by omega)
   have O5 := Lib.hid o5
   have O42 := Lib.hid (O4.out.below hb5)
   have HB5 := Lib.hid (below2 HB3.out hb5)
   have h35 := HB3.out.size
   clear o5 hb5
   obtain ⟨w5, hcp, ho, hg⟩ := run_copyI e2 3 O5.out (xs := xs) (by simp) (O42.out.rs encI)
   have O6 := Lib.hid ho
   have HB6 := Lib.hid (HB5.out.grown hg HB5.out.size (fun q hq => by have := (O5.out.lt_ _ hq).1; omega))
   clear ho hg
   go_wp2
   go_ret2
   rw [WE.out]
   exact ⟨Own.ret2 (O6.out.mono h35) rfl, HB6.out⟩
 ·have H0 := Lib.hid h0
  obtain ⟨r, hr⟩ : ∃ r, checkS os ls = r := ⟨_, rfl⟩
  have HRr := Lib.hid hr
  have hd : (checkS os ls != 0) = true := by simp [h0]
  go_enter Tryz.func36, Tryz.ntmps36
  go_wp2_with fail
  refine hcon.mono ?_
  rintro e w1 ⟨h1, _, hb1⟩
  rw [h1 h0, hr]
  rw [hr] at hd
  clear h1 hcon h0 hr
  go_wp2
  go_ret2
  refine ⟨Own.ret2 (v := .slice none 0 0) ?_ ?_, below2 (below_a1 _ _) hb1⟩
  ·rw [wornE, if_pos H0.out]; exact Own.nil_ _ _ _ _ _
  ·rw [wornE, if_pos H0.out, HRr.out]; rfl
end Go.Proofs.YtcnpbcgkhhebaaaGreatDoor
/- The lines' work as plain functions; owners kept in order. -/
namespace Go.Proofs.YtcnpbcgkhhebaaaGreatDoor
open Go.RowKit Go.Sort Go.Lib

instance : Inhabited Ow := ⟨⟨0, ByteArray.empty, 0⟩⟩
instance : Inhabited Lg := ⟨⟨0, ByteArray.empty, 0, 0, false⟩⟩

structure Ln where
 word : ByteArray
 one : Int
 two : Int
 letters : ByteArray
 text : ByteArray
def eN (x : Ln) : List Value := [.string x.word, .int .i64 x.one, .int .i64 x.two, .string x.letters, .string x.text]
theorem encN : Enc eN 5 := ⟨fun _ => rfl, fun x u h => by simp [eN] at h; rcases h with rfl | rfl | rfl | rfl | rfl <;> rfl⟩

/-- An owner put in its place. -/
def ins (y : Ow) : List Ow → List Ow
 | [] => [y]
 | x :: xs => if y.num < x.num then y :: x :: xs else x :: ins y xs
theorem ins_perm (y : Ow) : ∀ os : List Ow, (ins y os).Perm (os ++ [y])
 | [] => .refl _
 | x :: xs => by
  unfold ins
  split
  ·exact (List.perm_append_comm (l₁ := [y]) (l₂ := x :: xs))
  ·exact (ins_perm y xs).cons x
theorem ins_rising (y : Ow) : ∀ os : List Ow, Rising os → (∀ x ∈ os, x.num ≠ y.num) → Rising (ins y os)
 | [], _, _ => by simp [ins, Rising]
 | x :: xs, h, hn => by
  have h' := h
  unfold Rising at h
  rw [List.map_cons, List.pairwise_cons] at h
  unfold ins
  split
  ·rename_i hy
   unfold Rising
   rw [List.map_cons, List.pairwise_cons]
   refine ⟨fun a ha => ?_, h'⟩
   rw [List.map_cons, List.mem_cons] at ha
   rcases ha with rfl | ha
   ·exact hy
   ·exact Int.lt_trans hy (h.1 a ha)
  ·rename_i hy
   unfold Rising
   rw [List.map_cons, List.pairwise_cons]
   refine ⟨fun a ha => ?_, ins_rising y xs h.2 (fun z hz => hn z (List.mem_cons_of_mem _ hz))⟩
   obtain ⟨z, hz, rfl⟩ := List.mem_map.1 ha
   rcases List.mem_append.1 ((ins_perm y xs).mem_iff.1 hz) with hz | hz
   ·exact h.1 _ (List.mem_map_of_mem hz)
   ·rw [List.mem_singleton] at hz
    subst hz
    have := hn x List.mem_cons_self
    omega
theorem ins_len (y : Ow) (os : List Ow) : (ins y os).length = os.length + 1 := by rw [(ins_perm y os).length_eq]; simp

/-- Sorted owners are these alone. -/
theorem ins_sorted {y : Ow} {os d : List Ow} (h : Rising os) (hn : ∀ x ∈ os, x.num ≠ y.num) (hp : d.Perm (os ++ [y])) (hs : d.Pairwise fun a b => a.num ≤ b.num) : d = ins y os := by
 have hr := ins_rising y os h hn
 have hp2 : d.Perm (ins y os) := hp.trans (ins_perm y os).symm
 have hinj : ∀ a ∈ ins y os, ∀ b ∈ ins y os, a.num = b.num → a = b := by
  intro a ha b hb e
  obtain ⟨i, hi, rfl⟩ := List.getElem_of_mem ha
  obtain ⟨j, hj, rfl⟩ := List.getElem_of_mem hb
  rw [Rising, List.pairwise_iff_getElem] at hr
  simp only [List.length_map, List.getElem_map] at hr
  rcases Nat.lt_trichotomy i j with hij | rfl | hij
  ·have := hr i j hi hj hij; omega
  ·rfl
  ·have := hr j i hj hi hij; omega
 refine List.Perm.eq_of_pairwise (le := fun a b : Ow => a.num ≤ b.num) (fun a b ha hb h1 h2 => hinj a (hp2.mem_iff.1 ha) b hb (Int.le_antisymm h1 h2)) hs ?_ hp2
 rw [Rising, List.pairwise_map] at hr
 exact hr.imp fun h => Int.le_of_lt h

theorem flatK_list {α : Type} [Inhabited α] {enc : α → List Value} {k : Nat} (he : Enc enc k) (hk : 0 < k) (d : Array α) : (flatK enc k d).toList = d.toList.flatMap enc := by
 apply List.ext_getElem?
 intro t
 by_cases ht : t < d.size * k
 ·have hd : t / k < d.size := Nat.div_lt_of_lt_mul (by rw [Nat.mul_comm]; exact ht)
  have hm : t % k < k := Nat.mod_lt _ hk
  have hsum : t / k * k + t % k = t := Nat.div_add_mod' t k
  have hx : d.toList[t / k]? = some d[t / k] := by simp [hd]
  have hu : (enc d[t / k])[t % k]? = some ((enc d[t / k])[t % k]'(by rw [he.len]; exact hm)) := List.getElem?_eq_getElem _
  have h1 := flat_get he d.toList (t / k) _ hx (t % k) _ hu
  rw [hsum] at h1
  rw [h1, List.getElem?_eq_getElem (by simpa using ht)]
  congr 1
  simp only [flatK, Array.getElem_toList, Array.getElem_map, Array.getElem_range]
  rw [getElem!_pos d _ hd, getElem!_pos _ _ (by rw [he.len]; exact hm)]
 ·rw [List.getElem?_eq_none (by simpa using ht), List.getElem?_eq_none (by rw [flat_len he]; simpa using ht)]

theorem cmp_lt (x y : Ow) : ltOf (fun x y : Ow => Lib.compareInt x.num y.num) x y = decide (x.num < y.num) := by
 unfold ltOf Lib.compareInt
 by_cases h1 : x.num < y.num
 ·simp [h1]
 ·by_cases h2 : y.num < x.num <;> simp [h1, h2]
theorem swoO : SWO (ltOf fun x y : Ow => Lib.compareInt x.num y.num) where
 irrefl x := by rw [cmp_lt]; simp
 trans x y z h1 h2 := by rw [cmp_lt] at *; simp at *; omega
 ntrans x y z h1 h2 := by rw [cmp_lt] at *; simp at *; omega

set_option maxHeartbeats 1000000 in
theorem cmpO_any (x y : Ow) (W : World) : Calls Tryz.prog 164 #[.agg (eO x).toArray, .agg (eO y).toArray] W fun e w' => e = .returned (.int .i64 (Lib.compareInt x.num y.num)) ∧ ∃ q os', w' = grow (W.drewN q) os' := by
 have hcon := fun W' => AnyG.cmp_Compare_int Tryz.cmpInt x.num y.num W'
 change ∀ W', Calls Tryz.prog 165 _ _ _ at hcon
 generalize Lib.compareInt x.num y.num = r at hcon ⊢
 obtain ⟨n1, m1, p1⟩ := x
 obtain ⟨n2, m2, p2⟩ := y
 simp only [eO] at hcon ⊢
 go_enter Tryz.func164, Tryz.ntmps164
 go_wp2_with (go_at_call 165; refine (hcon _).mono ?_; rintro e w' ⟨rfl, rfl⟩)
 go_ret
 exact ⟨rfl, 0, _, by rw [alloc_eq_grow, alloc_eq_grow, grow_grow]; rfl⟩
theorem isAgg73 (w : World) : (isAgg 73).run Tryz.prog w = .ok true w := by kernel_rfl
theorem size73 (w : World) : (sizeOf 73).run Tryz.prog w = .ok 3 w := by kernel_rfl

/-- slices.SortFunc on owners of the call's own. -/
theorem sortO_any (base g cap : Nat) (d : List Ow) (w : World) (h : Own eO 73 3 base w (.slice (some ⟨g, 0, none⟩) d.length cap) d) (hn : d.length ≤ 1000000) :
  Calls Tryz.prog 163 #[.slice (some ⟨g, 0, none⟩) d.length cap, .func (.func 164) #[] #[]] w fun e w' => e = .returned (.tuple #[]) ∧ ∃ d' : List Ow, d'.Perm d ∧ (d'.Pairwise fun a b => a.num ≤ b.num) ∧ Own eO 73 3 base w' (.slice (some ⟨g, 0, none⟩) d'.length cap) d' ∧ w.grownBy w' (some g) := by
 obtain ⟨hl, h⟩ := h
 rcases h with ⟨h0, _⟩ | ⟨g', cap', cur, hv, hb, hg, hc1, hc2, hs, ht⟩
 ·cases h0
 ·injection hv with e1 e2 e3
  injection e1 with e1
  injection e1 with e1
  subst e1 e3
  have hlt : g < w.heap.size := (Array.getElem?_eq_some_iff.1 hg).1
  have hfl : (flatK eO 3 d.toArray).toList = d.flatMap eO := flatK_list encO (by omega) d.toArray
  have hH : HoldsK eO 3 w g 0 d.toArray := by
   intro j hj
   refine ⟨?_, by simp [World.frozen?, hg]⟩
   have hj2 : j < d.length * 3 := by simpa using hj
   have h1 : (cur.toList.take (d.length * 3))[j]? = (flatK eO 3 d.toArray).toList[j]? := by rw [ht, hfl]
   rw [List.getElem?_take_of_lt hj2] at h1
   simp only [World.cell?, hg, Nat.zero_add]
   simp only [Option.isSome_none, Bool.false_eq_true, if_false]
   rw [← Array.getElem?_toList, h1, Array.getElem?_toList, Array.getElem?_eq_getElem hj, getElem!_pos (flatK eO 3 d.toArray) j hj]
   rfl
  have eg : ∀ args w, (callFunc 164 args).run Tryz.prog w = .ok (.enter 164 args) w := enters_of Tryz.func164 (by kernel_rfl) rfl
  have hcon := AnyQ.slices_SortFunc Tryz.sortOw 3 isAgg73 size73 eO (fun _ => rfl) (fun x v hv => encO.one x v hv) (fun x y => Lib.compareInt x.num y.num) swoO 164 #[] g 0 cap d.toArray w eg (fun _ _ _ _ x y => cmpO_any x y _) hH hlt (by simp; omega)
  change Calls Tryz.prog 163 _ _ _ at hcon
  have hsz : d.toArray.size = d.length := by simp
  rw [hsz] at hcon
  refine hcon.mono ?_
  rintro e w' ⟨rfl, d', n, os, hp, hso, rfl⟩
  have hdl : d'.size = d.length := by rw [hp.1, hsz]
  have hfl' : (flatK eO 3 d').toList = d'.toList.flatMap eO := flatK_list encO (by omega) d'
  refine ⟨rfl, d'.toList, ?_, ?_, ⟨by rw [flat_len encO], .inr ⟨g, cap, putCells id 0 (flatK eO 3 d') cur, by simp [hdl], hb, ?_, by simp [hdl]; exact hc1, hc2, by simp [putCells, hs], ?_⟩⟩, ⟨rfl, rfl, rfl, by simp [sortWorldK, putRowK], fun k hk hne => ?_⟩⟩
  ·have := hp.2.2
   rwa [← hdl, Array.extract_size, hdl, ← hsz, Array.extract_size] at this
  ·rw [List.pairwise_iff_getElem]
   intro i j hi hj hij
   simp only [Array.length_toList] at hi hj
   have h1 := hso i j (Nat.zero_le _) hij (by omega)
   rw [cmp_lt, getElem!_pos d' _ hj, getElem!_pos d' _ hi] at h1
   simp only [decide_eq_false_iff_not] at h1
   simp only [Array.getElem_toList]
   omega
  ·show (sortWorldK eO 3 w g 0 n d' os).heap[g]? = _
   unfold sortWorldK putRowK
   rw [heap_grow_old _ _ (by simpa using hlt)]
   simp [putRow, mapBlock, Sort.ahead, Array.getElem?_modify, hg, onCells]
  ·rw [← hfl']
   have hln : d'.toList.length * 3 = (flatK eO 3 d').toList.length := by simp
   rw [hln]
   have h2 := take_put (α := Value) id cur (flatK eO 3 d').toList (by simp [hs, hdl]; exact Nat.mul_le_mul_right 3 hc1)
   simpa using h2
  ·show (sortWorldK eO 3 w g 0 n d' os).heap[k]? = _
   unfold sortWorldK putRowK
   rw [heap_grow_old _ _ (by simpa using hk)]
   have : g ≠ k := fun e => hne (by rw [e])
   simp [putRow, mapBlock, Sort.ahead, Array.getElem?_modify, this]
end Go.Proofs.YtcnpbcgkhhebaaaGreatDoor
/- Frames for what changes an office in place; an office as data; the lines' work. -/
namespace Go.Proofs.YtcnpbcgkhhebaaaGreatDoor
open Go.RowKit

/-- What stands: all below base; above it all but block ob and the rows of owners and logs. -/
structure Kt (base ob : Nat) (w w' : World) : Prop where
 os : w'.os = w.os
 tape : w'.tape = w.tape
 output : w'.output = w.output
 size : w.heap.size ≤ w'.heap.size
 block : ∀ k o, w.heap[k]? = some o → (k < base ∨ (k ≠ ob ∧ ∀ cs e f, o = .cells cs e f → e ≠ 73 ∧ e ≠ 69)) → w'.heap[k]? = some o
theorem Kt.refl (base ob : Nat) (w : World) : Kt base ob w w := ⟨rfl, rfl, rfl, Nat.le_refl _, fun _ _ h _ => h⟩
theorem Kt.trans {base ob : Nat} {a b c : World} (h : Kt base ob a b) (k : Kt base ob b c) : Kt base ob a c :=
 ⟨k.os.trans h.os, k.tape.trans h.tape, k.output.trans h.output, Nat.le_trans h.size k.size, fun i o ho hc => k.block i o (h.block i o ho hc) hc⟩
theorem Kt.grown {base ob : Nat} {w0 w w' : World} {row : Option Nat} (h : Kt base ob w0 w) (hg : w.grownBy w' row) (hr : ∀ g, row = some g → base ≤ g ∧ (g = ob ∨ ∃ cs e f, w.heap[g]? = some (.cells cs e f) ∧ (e = 73 ∨ e = 69))) : Kt base ob w0 w' := by
 refine h.trans ⟨hg.os, hg.tape, hg.output, hg.size, fun k o ho hc => ?_⟩
 rw [hg.block k (Array.getElem?_eq_some_iff.1 ho).1 ?_]
 ·exact ho
 ·intro e
  obtain ⟨h1, h2⟩ := hr k e.symm
  rcases hc with hc | ⟨hc1, hc2⟩
  ·omega
  ·rcases h2 with rfl | ⟨cs, e2, f, hk, he⟩
   ·exact hc1 rfl
   ·rw [ho] at hk
    cases hk
    have := hc2 cs e2 f rfl
    rcases he with rfl | rfl
    ·exact this.1 rfl
    ·exact this.2 rfl
theorem Kt.below {base ob : Nat} {w0 w w' : World} (h : Kt base ob w0 w) (hb : Below w.heap.size w w') : Kt base ob w0 w' := h.grown (grown_of hb none) (by simp)
theorem Kt.toBelow {base ob : Nat} {w w' : World} (h : Kt base ob w w') (hb : base ≤ w.heap.size) : Below base w w' := ⟨h.os, h.tape, h.output, h.size, fun k hk => by
 have hlt : k < w.heap.size := by omega
 rw [h.block k _ (Array.getElem?_eq_getElem hlt) (.inl hk), Array.getElem?_eq_getElem hlt]⟩

theorem Own.blk {α : Type} {enc : α → List Value} {e sz base : Nat} {w : World} {v : Value} {xs : List α} (h : Own enc e sz base w v xs) : ∀ g, v.ownBlock = some g → base ≤ g ∧ ∃ cs, w.heap[g]? = some (.cells cs e (0, 0)) := by
 obtain ⟨_, ⟨rfl, _⟩ | ⟨g, cap, cur, rfl, hb, hg, _⟩⟩ := h
 ·intro g hg; cases hg
 ·intro g' hg'
  simp only [Value.ownBlock, Option.some.injEq] at hg'
  subst hg'
  exact ⟨hb, _, hg⟩
/-- What the call owns of another kind stands. -/
theorem Own.kt {α : Type} {enc : α → List Value} {e sz base base' ob t : Nat} {w w' : World} {v : Value} {xs : List α} {cs : Array Value} {f : Nat × Nat} (h : Own enc e sz base w v xs) (hk : Kt base' ob w w') (he : e ≠ 73 ∧ e ≠ 69) (ho : w.heap[ob]? = some (.cells cs t f)) (ht : t ≠ e) : Own enc e sz base w' v xs := by
 have h0 := h
 obtain ⟨hl, h⟩ := h
 rcases h with h | ⟨g, cap, cur, rfl, hb, hg, r⟩
 ·exact ⟨hl, .inl h⟩
 ·refine ⟨hl, .inr ⟨g, cap, cur, rfl, hb, hk.block g _ hg (.inr ⟨?_, ?_⟩), r⟩⟩
  ·intro e1
   subst e1
   rw [hg] at ho
   cases ho
   exact ht rfl
  ·intro cs' e' f' h1
   cases h1
   exact he

theorem flat_set {α : Type} {enc : α → List Value} {sz : Nat} (he : Enc enc sz) {x' : α} {j : Nat} {u : Value} : ∀ (xs : List α) (i : Nat) (hi : i < xs.length), enc x' = (enc xs[i]).set j u → j < sz → (xs.set i x').flatMap enc = (xs.flatMap enc).set (i * sz + j) u
 | [], _, hi, _, _ => by simp at hi
 | x :: xs, 0, _, hx, hj => by
  simp only [List.set_cons_zero, List.flatMap_cons, List.getElem_cons_zero] at hx ⊢
  rw [List.set_append_left _ _ (by rw [he.len]; omega), hx, Nat.zero_mul, Nat.zero_add]
 | x :: xs, i + 1, hi, hx, hj => by
  simp only [List.set_cons_succ, List.flatMap_cons, List.getElem_cons_succ] at hx ⊢
  rw [List.set_append_right _ _ (by rw [he.len, Nat.succ_mul]; omega), flat_set he xs i (by simpa using hi) hx hj, he.len, show (i + 1) * sz + j - sz = i * sz + j by rw [Nat.succ_mul]; omega]

/-- One cell of one element is written. -/
theorem Own.set_ {α : Type} {enc : α → List Value} {e sz base : Nat} {w : World} {v : Value} {xs : List α} (h : Own enc e sz base w v xs) (he : Enc enc sz) {i j : Nat} {u : Value} {x' : α} (hi : i < xs.length) (hx : enc x' = (enc xs[i]).set j u) (hj : j < sz) :
  ∃ g cap, v = .slice (some ⟨g, 0, none⟩) xs.length cap ∧ base ≤ g ∧ (∃ cs, w.heap[g]? = some (.cells cs e (0, 0))) ∧ w.frozen? ⟨g, i * sz + j, none⟩ = false ∧ Own enc e sz base (w.setCell ⟨g, i * sz + j, none⟩ u) v (xs.set i x') ∧ w.grownBy (w.setCell ⟨g, i * sz + j, none⟩ u) (some g) := by
 obtain ⟨hl, h⟩ := h
 rcases h with ⟨_, h0⟩ | ⟨g, cap, cur, rfl, hb, hg, hc1, hc2, hs, ht⟩
 ·omega
 ·have hlt : g < w.heap.size := (Array.getElem?_eq_some_iff.1 hg).1
  refine ⟨g, cap, rfl, hb, ⟨_, hg⟩, by simp [World.frozen?, hg], ⟨by rw [flat_len he, List.length_set], .inr ⟨g, cap, _, by rw [List.length_set], hb, heap_setCell_same w g _ cur e u hg, by rw [List.length_set]; exact hc1, hc2, by simpa using hs, ?_⟩⟩, ⟨rfl, rfl, rfl, by simp [World.setCell], fun k hk hne => heap_setCell_other w _ k u (fun e1 => hne (by rw [e1]))⟩⟩
  rw [List.length_set, flat_set he xs i hi hx hj, ← ht, Array.toList_setIfInBounds, List.take_set]

/-- The office in block ob holds os and ls, in memory of the call's own. -/
structure Off0 (base : Nat) (w : World) (ob : Nat) (rest : List Value) (t : TypeId) (v1 v2 : Value) (os : List Ow) (ls : List Lg) : Prop where
 row : w.heap[ob]? = some (.cells (v1 :: v2 :: rest).toArray t (0, 0))
 le : base ≤ ob
 o1 : Own eO 73 3 base w v1 os
 o2 : Own eL 69 5 base w v2 ls
 ty : t ≠ 73 ∧ t ≠ 69 ∧ t ≠ 3 ∧ t ≠ 28
section
variable {base ob : Nat} {w w' : World} {rest : List Value} {t : TypeId} {v1 v2 : Value} {os : List Ow} {ls : List Lg}
theorem Off0.q0 (h : Off0 base w ob rest t v1 v2 os ls) : w.cell? ⟨ob, 0, none⟩ = some v1 := by rw [cell_of_row _ _ _ _ _ _ h.row]; rfl
theorem Off0.q1 (h : Off0 base w ob rest t v1 v2 os ls) : w.cell? ⟨ob, 1, none⟩ = some v2 := by rw [cell_of_row _ _ _ _ _ _ h.row]; rfl
theorem Off0.lt (h : Off0 base w ob rest t v1 v2 os ls) : ob < w.heap.size := (Array.getElem?_eq_some_iff.1 h.row).1
theorem Off0.fz (h : Off0 base w ob rest t v1 v2 os ls) (j : Nat) : w.frozen? ⟨ob, j, none⟩ = false := by simp [World.frozen?, h.row]
theorem Off0.below (h : Off0 base w ob rest t v1 v2 os ls) (hb : Below w.heap.size w w') : Off0 base w' ob rest t v1 v2 os ls := ⟨(hb.block _ h.lt).trans h.row, h.le, h.o1.below hb, h.o2.below hb, h.ty⟩
theorem Off0.ne1 (h : Off0 base w ob rest t v1 v2 os ls) : v1.ownBlock ≠ some ob := fun e => by
 obtain ⟨_, cs, hc⟩ := h.o1.blk _ e
 rw [h.row] at hc
 cases hc
 exact h.ty.1 rfl
theorem Off0.ne2 (h : Off0 base w ob rest t v1 v2 os ls) : v2.ownBlock ≠ some ob := fun e => by
 obtain ⟨_, cs, hc⟩ := h.o2.blk _ e
 rw [h.row] at hc
 cases hc
 exact h.ty.2.1 rfl
theorem ne_of_kind {α β : Type} {enc : α → List Value} {enc2 : β → List Value} {e e2 sz sz2 base base2 : Nat} {v1 v2 : Value} {xs : List α} {ys : List β} (h : Own enc e sz base w v1 xs) (h2 : Own enc2 e2 sz2 base2 w v2 ys) (hne : e ≠ e2) : v1.ownBlock = none ∨ v1.ownBlock ≠ v2.ownBlock := by
 cases hq : v1.ownBlock with
 | none => exact .inl rfl
 | some g =>
  refine .inr fun e1 => ?_
  obtain ⟨_, cs, hc⟩ := h.blk _ hq
  obtain ⟨_, cs2, hc2⟩ := h2.blk _ e1.symm
  rw [hc] at hc2
  cases hc2
  exact hne rfl
theorem Own.kept' {α : Type} {enc : α → List Value} {e sz base : Nat} {w w' : World} {v : Value} {xs : List α} {row : Option Nat} (h : Own enc e sz base w v xs) (hg : w.grownBy w' row) (hne : v.ownBlock = none ∨ v.ownBlock ≠ row) : Own enc e sz base w' v xs := h.kept hg hne
theorem Off0.kept_ (h : Off0 base w ob rest t v1 v2 os ls) {row : Option Nat} (hg : w.grownBy w' row) (h0 : row ≠ some ob) (h1 : row ≠ v1.ownBlock) (h2 : row ≠ v2.ownBlock) : Off0 base w' ob rest t v1 v2 os ls :=
 ⟨(hg.block ob h.lt (Ne.symm h0)).trans h.row, h.le, h.o1.kept hg (.inr (Ne.symm h1)), h.o2.kept hg (.inr (Ne.symm h2)), h.ty⟩
/-- The owners' row turns. -/
theorem Off0.own1 (h : Off0 base w ob rest t v1 v2 os ls) {os' : List Ow} (ho : Own eO 73 3 base w' v1 os') (hg : w.grownBy w' v1.ownBlock) : Off0 base w' ob rest t v1 v2 os' ls :=
 ⟨(hg.block ob h.lt (fun e => h.ne1 e.symm)).trans h.row, h.le, ho, h.o2.kept hg (ne_of_kind h.o2 h.o1 (by decide)), h.ty⟩
theorem Off0.own2 (h : Off0 base w ob rest t v1 v2 os ls) {ls' : List Lg} (ho : Own eL 69 5 base w' v2 ls') (hg : w.grownBy w' v2.ownBlock) : Off0 base w' ob rest t v1 v2 os ls' :=
 ⟨(hg.block ob h.lt (fun e => h.ne2 e.symm)).trans h.row, h.le, h.o1.kept hg (ne_of_kind h.o1 h.o2 (by decide)), ho, h.ty⟩
theorem Kt.own1 (h : Off0 base w ob rest t v1 v2 os ls) (hg : w.grownBy w' v1.ownBlock) : Kt base ob w w' := (Kt.refl _ _ _).grown hg fun g hq => by
 obtain ⟨h1, cs, h2⟩ := h.o1.blk g hq
 exact ⟨h1, .inr ⟨cs, 73, _, h2, .inl rfl⟩⟩
theorem Kt.own2 (h : Off0 base w ob rest t v1 v2 os ls) (hg : w.grownBy w' v2.ownBlock) : Kt base ob w w' := (Kt.refl _ _ _).grown hg fun g hq => by
 obtain ⟨h1, cs, h2⟩ := h.o2.blk g hq
 exact ⟨h1, .inr ⟨cs, 69, _, h2, .inr rfl⟩⟩
/-- A slice is laid into the office. -/
theorem grown_cell (w : World) (ob j : Nat) (u : Value) : w.grownBy (w.setCell ⟨ob, j, none⟩ u) (some ob) := ⟨rfl, rfl, rfl, by simp [World.setCell], fun k hk hne => heap_setCell_other w _ k u (fun e1 => hne (by rw [e1]))⟩
theorem Off0.put1 (hrow : w.heap[ob]? = some (.cells (v1 :: v2 :: rest).toArray t (0, 0))) (hle : base ≤ ob) (hty : t ≠ 73 ∧ t ≠ 69 ∧ t ≠ 3 ∧ t ≠ 28) {v1' : Value} {os' : List Ow} (h1 : Own eO 73 3 base w v1' os') (h2 : Own eL 69 5 base w v2 ls) : Off0 base (w.setCell ⟨ob, 0, none⟩ v1') ob rest t v1' v2 os' ls := by
 have hk : ∀ {α : Type} {enc : α → List Value} {e sz : Nat} {v : Value} {xs : List α}, Own enc e sz base w v xs → t ≠ e → v.ownBlock ≠ some ob := fun h hne e1 => by
  obtain ⟨_, cs, hc⟩ := h.blk _ e1
  rw [hrow] at hc
  cases hc
  exact hne rfl
 refine ⟨?_, hle, h1.kept (grown_cell w ob 0 v1') (.inr (hk h1 hty.1)), h2.kept (grown_cell w ob 0 v1') (.inr (hk h2 hty.2.1)), hty⟩
 rw [heap_setCell_same w ob 0 _ t v1' hrow]
 simp
theorem Off0.put2 (hrow : w.heap[ob]? = some (.cells (v1 :: v2 :: rest).toArray t (0, 0))) (hle : base ≤ ob) (hty : t ≠ 73 ∧ t ≠ 69 ∧ t ≠ 3 ∧ t ≠ 28) {v2' : Value} {ls' : List Lg} (h1 : Own eO 73 3 base w v1 os) (h2 : Own eL 69 5 base w v2' ls') : Off0 base (w.setCell ⟨ob, 1, none⟩ v2') ob rest t v1 v2' os ls' := by
 have hk : ∀ {α : Type} {enc : α → List Value} {e sz : Nat} {v : Value} {xs : List α}, Own enc e sz base w v xs → t ≠ e → v.ownBlock ≠ some ob := fun h hne e1 => by
  obtain ⟨_, cs, hc⟩ := h.blk _ e1
  rw [hrow] at hc
  cases hc
  exact hne rfl
 refine ⟨?_, hle, h1.kept (grown_cell w ob 1 v2') (.inr (hk h1 hty.1)), h2.kept (grown_cell w ob 1 v2') (.inr (hk h2 hty.2.1)), hty⟩
 rw [heap_setCell_same w ob 1 _ t v2' hrow]
 simp
theorem Kt.cell (base ob : Nat) (w : World) (j : Nat) (u : Value) (h : base ≤ ob) : Kt base ob w (w.setCell ⟨ob, j, none⟩ u) := (Kt.refl _ _ _).grown (grown_cell w ob j u) fun g hq => by cases hq; exact ⟨h, .inl rfl⟩
end

theorem run_push {α : Type} {enc : α → List Value} {T e sz bytes base : Nat} {z : Value} {w : World} {v : Value} {xs : List α} (hE : EInfo T e z sz bytes) (he : Enc enc sz) (ty : TypeId)
  (hown : Own enc e sz base w v xs) (nb c : Nat) (y : α) (hc : ∀ j u, (enc y)[j]? = some u → w.cell? ⟨nb, j, none⟩ = some u)
  (hby : (xs.length + 1) * bytes ≤ 140737488355328) (hn : xs.length < 9223372036854775807) (hbase : base ≤ w.heap.size) :
  ∃ A' c' w', (Builtin.append_ #[T, T] ty #[v, .slice (some ⟨nb, 0, none⟩) 1 c]).run Tryz.prog w = .ok (.slice A' (xs.length + 1) c') w' ∧ Own enc e sz base w' (.slice A' (xs.length + 1) c') (xs ++ [y]) ∧ w.grownBy w' v.ownBlock := by
 obtain ⟨i0, hi, h1, h2, h3⟩ := info_parts hE.inf
 obtain ⟨v', w', hrun, hw, hg, _, hl⟩ := run_append_own_at (P := Tryz.prog) w base T ty e i0 z sz bytes hE.ut hi h1 h2 h3 hE.zs hE.pos v xs.length (xs.flatMap enc) hown ⟨nb, 0, none⟩ 1 c (enc y) (by rw [he.len]; omega)
  (fun j u hj => by rw [Addr.add_lit, Nat.zero_add]; exact hc j u hj) (he.one y) (by unfold maxLen; omega) hby hbase
 have ho : Own enc e sz base w' v' (xs ++ [y]) := by
  unfold Own
  rw [List.flatMap_append, List.length_append, show [y].flatMap enc = enc y by simp]
  exact hw
 obtain ⟨A', c', rfl⟩ := ho.sl
 rw [List.length_append] at hrun ho
 exact ⟨A', c', w', hrun, ho, hg⟩
theorem Off0.push1 {base ob : Nat} {w : World} {rest : List Value} {t : TypeId} {v1 v2 : Value} {os : List Ow} {ls : List Lg} (h : Off0 base w ob rest t v1 v2 os ls) (hbase : base ≤ w.heap.size) (hn : os.length ≤ 100000) (nb : Nat) (y : Ow)
  (hc : ∀ j u, (eO y)[j]? = some u → w.cell? ⟨nb, j, none⟩ = some u) : ∃ A' c' w', (Builtin.append_ #[23, 23] 23 #[v1, .slice (some ⟨nb, 0, none⟩) 1 1]).run Tryz.prog w = .ok (.slice A' (os.length + 1) c') w' ∧ w'.cell? ⟨ob, 0, none⟩ = some v1 ∧ w'.frozen? ⟨ob, 0, none⟩ = false ∧ w.grownBy w' v1.ownBlock ∧
   Off0 base (w'.setCell ⟨ob, 0, none⟩ (.slice A' (os.length + 1) c')) ob rest t (.slice A' (os.length + 1) c') v2 (os ++ [y]) ls ∧ Kt base ob w (w'.setCell ⟨ob, 0, none⟩ (.slice A' (os.length + 1) c')) := by
 obtain ⟨A', c', w', hrun, ho, hg⟩ := run_push e73 encO 23 h.o1 nb 1 y hc (by omega) (by omega) hbase
 have hrow : w'.heap[ob]? = some (.cells (v1 :: v2 :: rest).toArray t (0, 0)) := (hg.block ob h.lt (fun e => h.ne1 e.symm)).trans h.row
 have h2 := h.o2.kept hg (ne_of_kind h.o2 h.o1 (by decide))
 exact ⟨A', c', w', hrun, by rw [cell_of_row _ _ _ _ _ _ hrow]; rfl, by simp [World.frozen?, hrow], hg, Off0.put1 hrow h.le h.ty ho h2, (Kt.own1 h hg).trans (Kt.cell base ob w' 0 _ h.le)⟩
theorem Off0.push2 {base ob : Nat} {w : World} {rest : List Value} {t : TypeId} {v1 v2 : Value} {os : List Ow} {ls : List Lg} (h : Off0 base w ob rest t v1 v2 os ls) (hbase : base ≤ w.heap.size) (hn : ls.length ≤ 100000) (nb : Nat) (y : Lg)
  (hc : ∀ j u, (eL y)[j]? = some u → w.cell? ⟨nb, j, none⟩ = some u) : ∃ A' c' w', (Builtin.append_ #[24, 24] 24 #[v2, .slice (some ⟨nb, 0, none⟩) 1 1]).run Tryz.prog w = .ok (.slice A' (ls.length + 1) c') w' ∧ w'.cell? ⟨ob, 1, none⟩ = some v2 ∧ w'.frozen? ⟨ob, 1, none⟩ = false ∧ w.grownBy w' v2.ownBlock ∧
   Off0 base (w'.setCell ⟨ob, 1, none⟩ (.slice A' (ls.length + 1) c')) ob rest t v1 (.slice A' (ls.length + 1) c') os (ls ++ [y]) ∧ Kt base ob w (w'.setCell ⟨ob, 1, none⟩ (.slice A' (ls.length + 1) c')) := by
 obtain ⟨A', c', w', hrun, ho, hg⟩ := run_push e69 encL 24 h.o2 nb 1 y hc (by omega) (by omega) hbase
 have hrow : w'.heap[ob]? = some (.cells (v1 :: v2 :: rest).toArray t (0, 0)) := (hg.block ob h.lt (fun e => h.ne2 e.symm)).trans h.row
 have h1 := h.o1.kept hg (ne_of_kind h.o1 h.o2 (by decide))
 exact ⟨A', c', w', hrun, by rw [cell_of_row _ _ _ _ _ _ hrow]; rfl, by simp [World.frozen?, hrow], hg, Off0.put2 hrow h.le h.ty h1 ho, (Kt.own2 h hg).trans (Kt.cell base ob w' 1 _ h.le)⟩

theorem step_app {ops : Array Oper} {o : Oper} {a : Act} {w w' : World} {K : Act → World → Prop} {Q : Exit → Act → World → Prop} {E : Prop} {v v' u : Value} (hgd : o.guard = none) (s x : Operand) (t : TypeId)
  (ho : o.op = .call { callee := .builtin .append, args := #[s, x], argTypes := #[t, t] }) (hs : a.eval s = v) (hx : a.eval x = u) (hrun : (Builtin.append_ #[t, t] o.type #[v, u]).run Tryz.prog w = .ok v' w') (h : K (a.put o.dst v') w') :
  if Region.wanted o (yielded ops a.tmps) = true then Oper.wp Tryz.prog o a w K Q else E := by
 have hw : Region.wanted o (yielded ops a.tmps) = true := by simp [Region.wanted, hgd]
 rw [if_pos hw]
 unfold Oper.wp execOp
 simp only [ho, resolve, invoke, builtin, Sem.run_bind, Sem.run_pure, Result.andThen_ok, List.map_toArray, List.map_cons, List.map_nil, hs, hx, hrun]
 exact h
theorem cell_grown {w w' : World} {row : Option Nat} {p : Addr} {v : Value} (hg : w.grownBy w' row) (h : w.cell? p = some v) (hne : row ≠ some p.block) : w'.cell? p = some v := (World.cell?_of_block (hg.block p.block (World.block_lt_of_cell? w p h) (fun e => hne e.symm))).trans h

/-- What doing a line owes: the error, the office afterwards, all else as it was. -/
def DoR (base : Nat) (w : World) (ob : Nat) (rest : List Value) (t : TypeId) (r : List Ow × List Lg × Int) (e : Ending) (w' : World) : Prop :=
 e = .returned (.int .i64 r.2.2) ∧ (∃ v1 v2, Off0 base w' ob rest t v1 v2 r.1 r.2.1) ∧ Kt base ob w w'

def markS (os : List Ow) (ls : List Lg) (x : Ln) : List Ow × List Lg × Int :=
 if 0 ≤ ownIx os x.one ∨ os.any (fun y => y.mark.toList == x.letters.toList) = true then (os, ls, 11) else if os.length = 20 then (os, ls, 10) else (ins ⟨x.one, x.letters, 0⟩ os, ls, 0)
def logIx (ls : List Lg) (n : Int) : Int := idxI (fun x => x.num == n) ls
def oneOf (l : List Int) : Int := match l with | [n] => n | _ => 0
def comeS (os : List Ow) (ls : List Lg) (x : Ln) : List Ow × List Lg × Int :=
 if 0 ≤ logIx ls x.one then (os, ls, 11) else if ls.length = 100 then (os, ls, 10) else (os, ls ++ [⟨x.one, x.letters, x.two, oneOf (wornS os x.letters), false⟩], 0)
def claimS (os : List Ow) (ls : List Lg) (x : Ln) : List Ow × List Lg × Int :=
 if logIx ls x.one < 0 ∨ ownIx os x.two < 0 then (os, ls, 5) else
 match ls[(logIx ls x.one).toNat]? with
 | none => (os, ls, 5)
 | some l => if l.own ≠ 0 then (os, ls, 9) else if wearsB (mkAt os (ownIx os x.two)) l.seen then (os, ls.set (logIx ls x.one).toNat { l with own := x.two }, 0) else (os, ls, 17)
def goneAt (ls : List Lg) (i : Int) : List Lg := match ls[i.toNat]? with | some l => ls.set i.toNat { l with gone := true } | none => ls
def raftS (os : List Ow) (ls : List Lg) (x : Ln) : List Ow × List Lg × Int :=
 if ownIx os x.one < 0 then (os, ls, 5) else if (hereIx x.one ls ls.length).length < x.two then (os, ls, 6) else (os, ((hereIx x.one ls ls.length).take x.two.toNat).foldl goneAt ls, 0)
def payS (os : List Ow) (ls : List Lg) (x : Ln) : List Ow × List Lg × Int :=
 if ownIx os x.one < 0 then (os, ls, 5) else
 match os[(ownIx os x.one).toNat]? with
 | none => (os, ls, 5)
 | some y => if feesL os ls = List.replicate 20 0 ∨ feeAt os ls (ownIx os x.one) - y.paid < x.two then (os, ls, 4) else (os.set (ownIx os x.one).toNat { y with paid := y.paid + x.two }, ls, 0)
end Go.Proofs.YtcnpbcgkhhebaaaGreatDoor
/- A mark is registered. -/
namespace Go.Proofs.YtcnpbcgkhhebaaaGreatDoor
open Go.RowKit

theorem logA (n : Int) (ob oo : Nat) (A : Option Addr) (c : Nat) (xs : List Lg) (w : World) (h0 : w.cell? ⟨ob, oo + 1, none⟩ = some (.slice A xs.length c)) (hr : Rd eL 5 w A c xs) :
  Calls Tryz.prog 166 #[.pointer (some ⟨ob, oo, none⟩), .int .i64 n] w fun e w' => e = .returned (.int .i64 (logIx xs n)) ∧ Below w.heap.size w w' := log_any n ob oo A c xs w h0 hr
theorem logIx_bd (ls : List Lg) (n : Int) : -1 ≤ logIx ls n ∧ logIx ls n < ls.length := idxI_bd _ _
theorem idxI_neg {α : Type} {p : α → Bool} {xs : List α} (h : ¬ 0 ≤ idxI p xs) : ∀ x ∈ xs, p x = false := by
 have := idxI_any p xs
 rw [decide_eq_false h] at this
 intro x hx
 exact Bool.eq_false_iff.2 fun hp => List.any_eq_false.1 this.symm x hx hp
theorem idxI_pos {α : Type} {p : α → Bool} {xs : List α} {i : Nat} (h : idxI p xs = i) : ∃ hi : i < xs.length, p xs[i] = true := by
 unfold idxI at h
 split at h
 ·rename_i ha
  obtain ⟨x, hx, hp⟩ := List.any_eq_true.1 ha
  have hl := List.findIdx_lt_length_of_exists ⟨x, hx, hp⟩
  have hi : xs.findIdx p = i := by omega
  refine ⟨by omega, ?_⟩
  have := List.findIdx_getElem (w := hl)
  simp only [hi] at this
  exact this
 ·omega

theorem mark1_any (x : Ow) (n : ByteArray) (b : Nat) (w : World) (h : w.cell? ⟨b, 3, none⟩ = some (.string n)) (hb : b < w.heap.size) :
  Calls Tryz.prog 162 #[.agg (eO x).toArray, .pointer (some ⟨b, 0, none⟩)] w fun e w' => e = .returned (.bool (x.mark.toList == n.toList)) ∧ Below w.heap.size w w' := by
 obtain ⟨num, mark, paid⟩ := x
 simp only [eO]
 go_enter Tryz.func162, Tryz.ntmps162
 go_wp2
 go_ret
 exact ⟨rfl, below_a1 _ _⟩

set_option maxRecDepth 100000 in
set_option maxHeartbeats 1000000 in
theorem mark_any (base ob : Nat) (rest : List Value) (t : TypeId) (v1 v2 : Value) (os : List Ow) (ls : List Lg) (x : Ln) (w : World) (h : Off0 base w ob rest t v1 v2 os ls) (hos : os.length ≤ 20) (hri : Rising os) :
  Calls Tryz.prog 132 #[.pointer (some ⟨ob, 0, none⟩), .agg (eN x).toArray] w (DoR base w ob rest t (markS os ls x)) := by
 obtain ⟨word, one, two, letters, text⟩ := x
 obtain ⟨A, c, rfl⟩ := h.o1.sl
 have hbd := ownIx_bd os one
 have k0 := h.q0
 have hob := h.lt
 have f0 := h.fz 0
 have hnb : (Value.slice A os.length c).ownBlock ≠ some w.heap.size := fun e => by have := (h.o1.lt_ _ e).2; omega
 have HNB := Lib.hid hnb
 have HOF := Lib.hid h
 clear hnb
 have HRI := Lib.hid hri
 clear h hri
 simp only [eN]
 have B1 := below_a1 w (.cells #[.string word, .int .i64 one, .int .i64 two, .string letters, .string text] 108)
 have hcon := ownerA one ob 0 A c os (w.alloc (.cells #[.string word, .int .i64 one, .int .i64 two, .string letters, .string text] 108)) (cB B1 k0) ((HOF.out.o1.rs encO).below B1)
 have HB1 := Lib.hid B1
 clear B1
 obtain ⟨r, hr⟩ : ∃ r, ownIx os one = r := ⟨_, rfl⟩
 rw [hr] at hbd hcon
 have HRr := Lib.hid hr
 clear hr
 by_cases hneg : 0 ≤ r
 ·have hdd : decide (0 ≤ r) = true := decide_eq_true hneg
  go_enter Tryz.func132, Tryz.ntmps132
  go_wp2_with (go_at_call 89; refine hcon.mono ?_; rintro e w1 ⟨rfl, hb1⟩)
  go_ret
  have : markS os ls ⟨word, one, two, letters, text⟩ = (os, ls, 11) := by unfold markS; rw [if_pos (.inl (by rw [HRr.out]; exact hneg))]
  rw [this]
  exact ⟨rfl, ⟨_, _, (HOF.out.below HB1.out).below hb1⟩, ((Kt.refl _ _ _).below HB1.out).below hb1⟩
 ·have hdd : decide (0 ≤ r) = false := decide_eq_false hneg
  go_enter Tryz.func132, Tryz.ntmps132
  go_wp2_with fail
  refine hcon.mono ?_
  clear hcon
  rintro e w1 ⟨rfl, hb1⟩
  have k01 := cB hb1 (cB HB1.out k0)
  have kx1 : w1.cell? ⟨w.heap.size, 1, none⟩ = some (.int .i64 one) := cB hb1 (by go_simp)
  have kx3 : w1.cell? ⟨w.heap.size, 3, none⟩ = some (.string letters) := cB hb1 (by go_simp)
  have OF1 := Lib.hid ((HOF.out.below HB1.out).below hb1)
  have KT1 := Lib.hid (((Kt.refl base ob w).below HB1.out).below hb1)
  clear hb1 HB1 k0 f0 HOF
  have eg : ∀ args w, (callFunc 162 args).run Tryz.prog w = .ok (.enter 162 args) w := enters_of Tryz.func162 (by kernel_rfl) rfl
  have hx1 : w.heap.size < w1.heap.size := World.block_lt_of_cell? w1 _ kx1
  have hcon := firstO A c os w1 162 #[.pointer (some ⟨w.heap.size, 0, none⟩)] (fun y => y.mark.toList == letters.toList) eg (OF1.out.o1.rs encO) (fun W y _ hB => mark1_any y letters _ W (cB hB kx3) (Nat.lt_of_lt_of_le hx1 hB.size))
  clear eg
  have hia := idxI_any (fun y : Ow => y.mark.toList == letters.toList) os
  obtain ⟨r2, hr2⟩ : ∃ r, idxI (fun y : Ow => y.mark.toList == letters.toList) os = r := ⟨_, rfl⟩
  rw [hr2] at hcon hia
  have HIA := Lib.hid hia
  clear hia hr2
  by_cases hn2 : 0 ≤ r2
  ·have hd2 : decide (0 ≤ r2) = true := decide_eq_true hn2
   go_wp2_with (go_at_call 126; refine hcon.mono ?_; rintro e w2 ⟨rfl, hb2⟩)
   go_ret
   have : markS os ls ⟨word, one, two, letters, text⟩ = (os, ls, 11) := by unfold markS; rw [if_pos (.inr (by rw [← HIA.out]; exact hd2))]
   rw [this]
   exact ⟨rfl, ⟨_, _, OF1.out.below hb2⟩, KT1.out.below hb2⟩
  ·have hd2 : decide (0 ≤ r2) = false := decide_eq_false hn2
   go_wp2_with fail
   refine hcon.mono ?_
   clear hcon
   rintro e w2 ⟨rfl, hb2⟩
   have k02 := cB hb2 k01
   have kx12 := cB hb2 kx1
   have kx32 := cB hb2 kx3
   have OF2 := Lib.hid (OF1.out.below hb2)
   have KT2 := Lib.hid (KT1.out.below hb2)
   clear hb2 k01 kx1 kx3 OF1 KT1
   have hnot : ¬ (0 ≤ ownIx os one ∨ os.any (fun y => y.mark.toList == letters.toList) = true) := by
    rw [HRr.out, ← HIA.out, hd2]; simp; omega
   have HN := Lib.hid hnot
   clear hnot
   by_cases h20 : os.length = 20
   ·have hd3 : ((os.length : Int) == 20) = true := by simp [h20]
    go_wp2
    go_ret
    have : markS os ls ⟨word, one, two, letters, text⟩ = (os, ls, 10) := by unfold markS; rw [if_neg HN.out, if_pos h20]
    rw [this]
    exact ⟨rfl, ⟨_, _, OF2.out⟩, KT2.out⟩
   ·have hd3 : ((os.length : Int) == 20) = false := by simp; omega
    go_wp2_with fail
    have hob2 : ob < w2.heap.size := World.block_lt_of_cell? w2 _ k02
    have hxw2 : w.heap.size < w2.heap.size := World.block_lt_of_cell? w2 _ kx12
    have hbs : base ≤ w2.heap.size := by have := OF2.out.le; omega
    have B3 := belowD (below_a1 w2 (.cells #[.int .i64 one, .string letters, .int .i64 0] 73))
    obtain ⟨A', c', w3, hrun, q1, q2, hg3, hoff, hkt⟩ := (OF2.out.below B3).push1 (by simp; omega) (by omega) w2.heap.size ⟨one, letters, 0⟩ (fun j u hj => by
     match j, hj with
     | 0, hj => simp [eO] at hj; subst hj; go_simp
     | 1, hj => simp [eO] at hj; subst hj; go_simp
     | 2, hj => simp [eO] at hj; subst hj; go_simp
     | j + 3, hj => simp [eO] at hj)
    have p1 := cell_grown hg3 (cB B3 kx12) HNB.out
    have p3 := cell_grown hg3 (cB B3 kx32) HNB.out
    have p1' := cell_grown (grown_cell w3 ob 0 (.slice A' (os.length + 1) c')) p1 (by simp; omega)
    have p3' := cell_grown (grown_cell w3 ob 0 (.slice A' (os.length + 1) c')) p3 (by simp; omega)
    have OF3 := Lib.hid hoff
    have KT3 := Lib.hid ((KT2.out.below B3).trans hkt)
    have HRUN := Lib.hid hrun
    clear hoff hkt B3 hg3 hrun
    refine wp_region_held_drew (S := fun W => W.cell? ⟨w.heap.size, 1, none⟩ = some (.int .i64 one) ∧ W.cell? ⟨w.heap.size, 3, none⟩ = some (.string letters)) (by kernel_rfl) ?_ (fun hHeld => ?_)
    ·first | go_keep | exact ⟨p1, p3⟩ | exact ⟨p1', p3'⟩
    refine tk (i := 0) (v := ?_) rfl (Or.inl ⟨by rfl, ?_⟩) hHeld ?_
    rotate_left 1
    ·(intro w hSw; (try dsimp only at hSw); go_simp; try with_reducible rfl)
    try simp only [gA, Act.put]
    refine tk (i := 1) (v := ?_) rfl (Or.inl ⟨by rfl, ?_⟩) hHeld ?_
    rotate_left 1
    ·(intro w hSw; (try dsimp only at hSw); go_simp; try with_reducible rfl)
    try simp only [gA, Act.put]
    refine tk (i := 2) (v := ?_) rfl (Or.inl ⟨by rfl, ?_⟩) hHeld ?_
    rotate_left 1
    ·(intro w hSw; (try dsimp only at hSw); go_simp; try with_reducible rfl)
    try simp only [gA, Act.put]
    refine tk (i := 3) (v := ?_) rfl (Or.inl ⟨by rfl, ?_⟩) hHeld ?_
    rotate_left 1
    ·(intro w hSw; (try dsimp only at hSw); go_simp; try with_reducible rfl)
    try simp only [gA, Act.put]
    refine tk (i := 4) (v := ?_) rfl (Or.inl ⟨by rfl, ?_⟩) hHeld ?_
    rotate_left 1
    ·(intro w hSw; (try dsimp only at hSw); go_simp; try with_reducible rfl)
    try simp only [gA, Act.put]
    refine tk (i := 6) (v := ?_) rfl (Or.inl ⟨by rfl, ?_⟩) hHeld ?_
    rotate_left 1
    ·(intro w hSw; (try dsimp only at hSw); go_simp; try with_reducible rfl)
    try simp only [gA, Act.put]
    refine tk (i := 7) (v := ?_) rfl (Or.inl ⟨by rfl, ?_⟩) hHeld ?_
    rotate_left 1
    ·(intro w hSw; (try dsimp only at hSw); go_simp; try with_reducible rfl)
    try simp only [gA, Act.put]
    refine tk (i := 8) (v := ?_) rfl (Or.inl ⟨by rfl, ?_⟩) hHeld ?_
    rotate_left 1
    ·(intro w hSw; (try dsimp only at hSw); go_simp; try with_reducible rfl)
    try simp only [gA, Act.put]
    refine tk (i := 9) (v := ?_) rfl (Or.inl ⟨by rfl, ?_⟩) hHeld ?_
    rotate_left 1
    ·(intro w hSw; (try dsimp only at hSw); go_simp; try with_reducible rfl)
    try simp only [gA, Act.put]
    refine tk (i := 10) (v := ?_) rfl (Or.inl ⟨by rfl, ?_⟩) hHeld ?_
    rotate_left 1
    ·(intro w hSw; (try dsimp only at hSw); go_simp; try with_reducible rfl)
    try simp only [gA, Act.put]
    refine wpAnyH_ready (rs := [5, 11]) (by kernel_rfl) (by simp) ?_
    refine AllReadyH.cons rfl (fun K hK => ?_) ?_
    go_simp
    refine hK.out _ _ ?_ (fun hHeld => ?_)
    ·first | go_keep | exact ⟨p1, p3⟩ | exact ⟨p1', p3'⟩
    clear hK K
    try simp only [gA, Act.put]
    refine wpAnyH_ready (rs := [11]) (by kernel_rfl) (by simp) ?_
    refine AllReadyH.cons rfl (fun K hK => ?_) AllReadyH.nil
    go_simp
    refine hK.out _ _ ?_ (fun hHeld => ?_)
    ·first | go_keep | exact ⟨p1, p3⟩ | exact ⟨p1', p3'⟩
    clear hK K
    try simp only [gA, Act.put]
    refine wpAnyH_ready (rs := [12]) (by kernel_rfl) (by simp) ?_
    refine AllReadyH.cons rfl (fun K hK => ?_) AllReadyH.nil
    refine step_app (by rfl) _ _ 23 (by rfl) (by rfl) (by rfl) HRUN.out ?_
    refine hK.out _ _ ?_ (fun hHeld => ?_)
    ·first | go_keep | exact ⟨p1, p3⟩ | exact ⟨p1', p3'⟩
    clear hK K
    try simp only [gA, Act.put]
    refine tk (i := 13) (v := ?_) rfl (Or.inl ⟨by rfl, ?_⟩) hHeld ?_
    rotate_left 1
    ·(intro w hSw; (try dsimp only at hSw); go_simp; try with_reducible rfl)
    try simp only [gA, Act.put]
    refine tk (i := 14) (v := ?_) rfl (Or.inl ⟨by rfl, ?_⟩) hHeld ?_
    rotate_left 1
    ·(intro w hSw; (try dsimp only at hSw); go_simp; try with_reducible rfl)
    try simp only [gA, Act.put]
    refine tk (i := 15) (v := ?_) rfl (Or.inl ⟨by rfl, ?_⟩) hHeld ?_
    rotate_left 1
    ·(intro w hSw; (try dsimp only at hSw); go_simp; try with_reducible rfl)
    try simp only [gA, Act.put]
    refine wpAnyH_ready (rs := [16]) (by kernel_rfl) (by simp) ?_
    refine AllReadyH.cons rfl (fun K hK => ?_) AllReadyH.nil
    go_simp
    refine hK.out _ _ ?_ (fun hHeld => ?_)
    ·first | go_keep | exact ⟨p1, p3⟩ | exact ⟨p1', p3'⟩
    clear hK K
    try simp only [gA, Act.put]
    refine wpAnyH_done (by kernel_rfl) ?_ _
    rotate_left 1
    refine AllReadyH.cons rfl (fun K hK => ?_) AllReadyH.nil
    go_simp
    refine hK.out _ _ ?_ (fun hHeld => ?_)
    ·first | go_keep | exact ⟨p1, p3⟩ | exact ⟨p1', p3'⟩
    clear hK K
    try simp only [gA, Act.put]
    refine wpAnyH_ready (rs := [5]) (by kernel_rfl) (by simp) ?_
    refine AllReadyH.cons rfl (fun K hK => ?_) AllReadyH.nil
    go_simp
    refine hK.out _ _ ?_ (fun hHeld => ?_)
    ·first | go_keep | exact ⟨p1, p3⟩ | exact ⟨p1', p3'⟩
    clear hK K
    try simp only [gA, Act.put]
    refine wpAnyH_ready (rs := [12]) (by kernel_rfl) (by simp) ?_
    refine AllReadyH.cons rfl (fun K hK => ?_) AllReadyH.nil
    refine step_app (by rfl) _ _ 23 (by rfl) (by rfl) (by rfl) HRUN.out ?_
    refine hK.out _ _ ?_ (fun hHeld => ?_)
    ·first | go_keep | exact ⟨p1, p3⟩ | exact ⟨p1', p3'⟩
    clear hK K
    try simp only [gA, Act.put]
    refine tk (i := 13) (v := ?_) rfl (Or.inl ⟨by rfl, ?_⟩) hHeld ?_
    rotate_left 1
    ·(intro w hSw; (try dsimp only at hSw); go_simp; try with_reducible rfl)
    try simp only [gA, Act.put]
    refine tk (i := 14) (v := ?_) rfl (Or.inl ⟨by rfl, ?_⟩) hHeld ?_
    rotate_left 1
    ·(intro w hSw; (try dsimp only at hSw); go_simp; try with_reducible rfl)
    try simp only [gA, Act.put]
    refine tk (i := 15) (v := ?_) rfl (Or.inl ⟨by rfl, ?_⟩) hHeld ?_
    rotate_left 1
    ·(intro w hSw; (try dsimp only at hSw); go_simp; try with_reducible rfl)
    try simp only [gA, Act.put]
    refine wpAnyH_ready (rs := [16]) (by kernel_rfl) (by simp) ?_
    refine AllReadyH.cons rfl (fun K hK => ?_) AllReadyH.nil
    go_simp
    refine hK.out _ _ ?_ (fun hHeld => ?_)
    ·first | go_keep | exact ⟨p1, p3⟩ | exact ⟨p1', p3'⟩
    clear hK K
    try simp only [gA, Act.put]
    refine wpAnyH_done (by kernel_rfl) ?_ _
    rotate_left 1
    all_goals
     clear HRUN q1 q2 p1 p3 p1' p3'
     have kq := OF3.out.q0
     generalize w3.setCell ⟨ob, 0, none⟩ (.slice A' (os.length + 1) c') = w4 at OF3 KT3 kq ⊢
     have hlen : (os ++ [(⟨one, letters, 0⟩ : Ow)]).length = os.length + 1 := by simp
     have ho1 := OF3.out.o1
     have hfm := ho1.form
     rw [hlen] at hfm
     rcases hfm with ⟨_, h0⟩ | ⟨g, cap, hv, _⟩
     ·simp at h0
     injection hv with e1 e2 e3
     subst e1 e3
     have hso := sortO_any base g c' (os ++ [⟨one, letters, 0⟩]) w4 (by rw [hlen]; exact ho1) (by omega)
     rw [hlen] at hso
     have HL := Lib.hid hlen
     clear hlen ho1
     go_wp2_with fail
     refine hso.mono ?_
     clear hso
     rintro e w5 ⟨rfl, d', hp, hs, ho, hg⟩
     have hnn : ∀ y ∈ os, y.num ≠ one := fun y hy e => by
      have := idxI_neg (p := fun y : Ow => y.num == one) (fun h => HN.out (.inl h)) y hy
      rw [beq_eq_false_iff_ne] at this
      exact this e
     have hd := ins_sorted HRI.out hnn hp hs
     have hl2 : d'.length = os.length + 1 := by rw [hd, ins_len]
     rw [hl2, hd] at ho
     have OF5 := Lib.hid (OF3.out.own1 ho hg)
     have KT5 := Lib.hid (KT3.out.trans (Kt.own1 OF3.out hg))
     clear ho hg hp hs hd hl2 hnn
     go_wp2
     go_ret
     have hM : markS os ls ⟨word, one, two, letters, text⟩ = (ins ⟨one, letters, 0⟩ os, ls, 0) := by unfold markS; rw [if_neg HN.out, if_neg h20]
     rw [hM]
     exact ⟨rfl, ⟨_, _, OF5.out⟩, KT5.out⟩
end Go.Proofs.YtcnpbcgkhhebaaaGreatDoor
/- A log comes. -/
namespace Go.Proofs.YtcnpbcgkhhebaaaGreatDoor
open Go.RowKit

set_option maxRecDepth 100000 in
set_option maxHeartbeats 1000000 in
theorem come_any (base ob : Nat) (rest : List Value) (t : TypeId) (v1 v2 : Value) (os : List Ow) (ls : List Lg) (x : Ln) (w : World) (h : Off0 base w ob rest t v1 v2 os ls) (hos : os.length ≤ 20) (hls : ls.length ≤ 100) (hmk : Marks os) (hri : Rising os) (hm : ∀ x ∈ os, Asc x.mark) (hs : Asc x.letters) :
  Calls Tryz.prog 133 #[.pointer (some ⟨ob, 0, none⟩), .agg (eN x).toArray] w (DoR base w ob rest t (comeS os ls x)) := by
 obtain ⟨word, one, two, letters, text⟩ := x
 obtain ⟨A, c, rfl⟩ := h.o1.sl
 obtain ⟨A2, c2, rfl⟩ := h.o2.sl
 have hbd := logIx_bd ls one
 have k0 := h.q0
 have k1 := h.q1
 have hob := h.lt
 have HNB := Lib.hid (show ∀ k, (Value.slice A2 ls.length c2).ownBlock = some k → k < w.heap.size from fun k e => (h.o2.lt_ k e).2)
 have HNA := Lib.hid (show ∀ k, (Value.slice A os.length c).ownBlock = some k → k < w.heap.size from fun k e => (h.o1.lt_ k e).2)
 have HOF := Lib.hid h
 have HMK := Lib.hid hmk
 have HRI := Lib.hid hri
 have HM := Lib.hid hm
 have HS := Lib.hid hs
 clear h hri hmk hm hs
 simp only [eN]
 have B1 := below_a1 w (.cells #[.string word, .int .i64 one, .int .i64 two, .string letters, .string text] 108)
 have hcon := logA one ob 0 A2 c2 ls (w.alloc (.cells #[.string word, .int .i64 one, .int .i64 two, .string letters, .string text] 108)) (cB B1 k1) ((HOF.out.o2.rs encL).below B1)
 have HB1 := Lib.hid B1
 clear B1
 obtain ⟨r, hr⟩ : ∃ r, logIx ls one = r := ⟨_, rfl⟩
 rw [hr] at hbd hcon
 have HRr := Lib.hid hr
 clear hr
 by_cases hneg : 0 ≤ r
 ·have hdd : decide (0 ≤ r) = true := decide_eq_true hneg
  go_enter Tryz.func133, Tryz.ntmps133
  go_wp2_with (go_at_call 166; refine hcon.mono ?_; rintro e w1 ⟨rfl, hb1⟩)
  go_ret
  have : comeS os ls ⟨word, one, two, letters, text⟩ = (os, ls, 11) := by unfold comeS; rw [if_pos (by rw [HRr.out]; exact hneg)]
  rw [this]
  exact ⟨rfl, ⟨_, _, (HOF.out.below HB1.out).below hb1⟩, ((Kt.refl _ _ _).below HB1.out).below hb1⟩
 ·have hdd : decide (0 ≤ r) = false := decide_eq_false hneg
  go_enter Tryz.func133, Tryz.ntmps133
  go_wp2_with fail
  refine hcon.mono ?_
  clear hcon
  rintro e w1 ⟨rfl, hb1⟩
  have k01 := cB hb1 (cB HB1.out k0)
  have k11 := cB hb1 (cB HB1.out k1)
  have kx1 : w1.cell? ⟨w.heap.size, 1, none⟩ = some (.int .i64 one) := cB hb1 (by go_simp)
  have kx2 : w1.cell? ⟨w.heap.size, 2, none⟩ = some (.int .i64 two) := cB hb1 (by go_simp)
  have kx3 : w1.cell? ⟨w.heap.size, 3, none⟩ = some (.string letters) := cB hb1 (by go_simp)
  have hx1 : w.heap.size < w1.heap.size := World.block_lt_of_cell? w1 _ kx1
  have OF1 := Lib.hid ((HOF.out.below HB1.out).below hb1)
  have KT1 := Lib.hid (((Kt.refl base ob w).below HB1.out).below hb1)
  clear hb1 HB1 k0 k1 HOF
  have hnot : ¬ 0 ≤ logIx ls one := by rw [HRr.out]; exact Int.not_le.2 hneg
  have HN := Lib.hid hnot
  clear hnot
  by_cases h20 : ls.length = 100
  ·have hd3 : ((ls.length : Int) == 100) = true := by simp [h20]
   go_wp2
   go_ret
   have : comeS os ls ⟨word, one, two, letters, text⟩ = (os, ls, 10) := by unfold comeS; rw [if_neg (show ¬ 0 ≤ logIx ls one from by have := HN.out; omega), if_pos h20]
   rw [this]
   exact ⟨rfl, ⟨_, _, OF1.out⟩, KT1.out⟩
  ·have hd3 : ((ls.length : Int) == 100) = false := by simp; omega
   have hcs : comeS os ls ⟨word, one, two, letters, text⟩ = (os, ls ++ [⟨one, letters, two, oneOf (wornS os letters), false⟩], 0) := by unfold comeS; rw [if_neg (show ¬ 0 ≤ logIx ls one from by have := HN.out; omega), if_neg h20]
   have HCS := Lib.hid hcs
   clear hcs
   have B2 := below_a1 w1 (.cells #[.int .i64 one, .string letters, .int .i64 two, .int .i64 0, .bool false] 69)
   have hwo := worn_any letters ob 0 A c os (w1.alloc (.cells #[.int .i64 one, .string letters, .int .i64 two, .int .i64 0, .bool false] 69)) (cB B2 k01) ((OF1.out.o1.rs encO).below B2) (by omega) HMK.out HRI.out HM.out HS.out
   go_wp2_with fail
   refine hwo.mono ?_
   clear hwo
   rintro e w2 ⟨⟨A4, c4, rfl, o4⟩, hb2⟩
   have hlw : (wornS os letters).length ≤ 20 := by
    unfold wornS; rw [List.length_map]; exact Nat.le_trans (List.length_filter_le _ _) hos
   have nrow := (hb2.block w1.heap.size (by simp)).trans (heap_alloc_new w1 _)
   have n0 : w2.cell? ⟨w1.heap.size, 0, none⟩ = some (.int .i64 one) := cB hb2 (by go_simp)
   have n1 : w2.cell? ⟨w1.heap.size, 1, none⟩ = some (.string letters) := cB hb2 (by go_simp)
   have n2 : w2.cell? ⟨w1.heap.size, 2, none⟩ = some (.int .i64 two) := cB hb2 (by go_simp)
   have n3 : w2.cell? ⟨w1.heap.size, 3, none⟩ = some (.int .i64 0) := cB hb2 (by go_simp)
   have n4 : w2.cell? ⟨w1.heap.size, 4, none⟩ = some (.bool false) := cB hb2 (by go_simp)
   have nf : w2.frozen? ⟨w1.heap.size, 3, none⟩ = false := ((bcell hb2).2 w1.heap.size 3 (by simp)).trans (by go_simp)
   have k02 := cB hb2 (cB B2 k01)
   have k12 := cB hb2 (cB B2 k11)
   have hx2 : w1.heap.size < w2.heap.size := World.block_lt_of_cell? w2 _ n0
   have hob2 : ob < w2.heap.size := World.block_lt_of_cell? w2 _ k02
   have OF2 := Lib.hid ((OF1.out.below B2).below hb2)
   have KT2 := Lib.hid ((KT1.out.below B2).below hb2)
   have O4 := Lib.hid o4
   clear hb2 B2 o4 k01 k11 kx1 kx2 kx3 OF1 KT1
   generalize wornS os letters = xs at O4 hlw HCS ⊢
   have NROW := Lib.hid nrow
   clear nrow
   have HN3 := Lib.hid (show (Value.slice A os.length c).ownBlock ≠ some w1.heap.size from fun e => by have := HNA.out _ e; omega)
   have HN2 := Lib.hid (show (Value.slice A2 ls.length c2).ownBlock ≠ some w1.heap.size from fun e => by have := HNB.out _ e; omega)
   by_cases h1 : xs.length = 1
   ·obtain ⟨n, rfl⟩ : ∃ n, xs = [n] := by
     match xs, h1 with
     | [n], _ => exact ⟨n, rfl⟩
    obtain ⟨b4, off4, y, hy, rfl, hb4, d0⟩ := (O4.out.rs encI).atI (i := 0) (by simp)
    simp only [List.getElem_cons_zero] at hy
    subst hy
    rw [Nat.add_zero] at d0
    have hg3 := grown_cell w2 w1.heap.size 3 (.int .i64 y)
    have hle1 : base ≤ w1.heap.size := by have := OF2.out.le; omega
    have KT3 := Lib.hid (KT2.out.grown hg3 fun g hq => by cases hq; exact ⟨hle1, .inr ⟨_, 69, _, NROW.out, .inr rfl⟩⟩)
    have OF3 := Lib.hid (OF2.out.kept_ hg3 (by simp; omega) (Ne.symm HN3.out) (Ne.symm HN2.out))
    have hrow3 := heap_setCell_same w2 w1.heap.size 3 _ 69 (.int .i64 y) NROW.out
    have m0 : (w2.setCell ⟨w1.heap.size, 3, none⟩ (.int .i64 y)).cell? ⟨w1.heap.size, 0, none⟩ = some (.int .i64 one) := by rw [cell_of_row _ _ _ _ _ _ hrow3]; rfl
    have m1 : (w2.setCell ⟨w1.heap.size, 3, none⟩ (.int .i64 y)).cell? ⟨w1.heap.size, 1, none⟩ = some (.string letters) := by rw [cell_of_row _ _ _ _ _ _ hrow3]; rfl
    have m2 : (w2.setCell ⟨w1.heap.size, 3, none⟩ (.int .i64 y)).cell? ⟨w1.heap.size, 2, none⟩ = some (.int .i64 two) := by rw [cell_of_row _ _ _ _ _ _ hrow3]; rfl
    have m3 : (w2.setCell ⟨w1.heap.size, 3, none⟩ (.int .i64 y)).cell? ⟨w1.heap.size, 3, none⟩ = some (.int .i64 y) := by rw [cell_of_row _ _ _ _ _ _ hrow3]; rfl
    have m4 : (w2.setCell ⟨w1.heap.size, 3, none⟩ (.int .i64 y)).cell? ⟨w1.heap.size, 4, none⟩ = some (.bool false) := by rw [cell_of_row _ _ _ _ _ _ hrow3]; rfl
    have q02 : (w2.setCell ⟨w1.heap.size, 3, none⟩ (.int .i64 y)).cell? ⟨ob, 1, none⟩ = some (.slice A2 ls.length c2) := OF3.out.q1
    have hsz3 : (w2.setCell ⟨w1.heap.size, 3, none⟩ (.int .i64 y)).heap.size = w2.heap.size := by simp [World.setCell]
    clear hg3 hrow3
    go_wp2_with fail
    clear n0 n1 n2 n3 n4 nf k02 k12
    generalize w2.setCell ⟨w1.heap.size, 3, none⟩ (.int .i64 y) = w22 at OF3 KT3 m0 m1 m2 m3 m4 q02 hsz3 ⊢
    have hob22 : ob < w22.heap.size := by omega
    have hx22 : w1.heap.size < w22.heap.size := by omega
    clear hsz3
    have B3 := belowD (below_a1 w22 (.cells #[.int .i64 one, .string letters, .int .i64 two, .int .i64 y, .bool false] 69))
    obtain ⟨A', c', w3, hrun, q1, q2, hg3, hoff, hkt⟩ := (OF3.out.below B3).push2 (by have := OF3.out.le; simp; omega) (by omega) w22.heap.size ⟨one, letters, two, y, false⟩ (fun j u hj => by
     match j, hj with
     | 0, hj => simp [eL] at hj; subst hj; go_simp
     | 1, hj => simp [eL] at hj; subst hj; go_simp
     | 2, hj => simp [eL] at hj; subst hj; go_simp
     | 3, hj => simp [eL] at hj; subst hj; go_simp
     | 4, hj => simp [eL] at hj; subst hj; go_simp
     | j + 5, hj => simp [eL] at hj)
    have p0 := cell_grown hg3 (cB B3 m0) HN2.out
    have p1 := cell_grown hg3 (cB B3 m1) HN2.out
    have p2 := cell_grown hg3 (cB B3 m2) HN2.out
    have p3 := cell_grown hg3 (cB B3 m3) HN2.out
    have p4 := cell_grown hg3 (cB B3 m4) HN2.out
    have hne : (some ob : Option Nat) ≠ some w1.heap.size := by simp; omega
    have p0' := cell_grown (grown_cell w3 ob 1 (.slice A' (ls.length + 1) c')) p0 hne
    have p1' := cell_grown (grown_cell w3 ob 1 (.slice A' (ls.length + 1) c')) p1 hne
    have p2' := cell_grown (grown_cell w3 ob 1 (.slice A' (ls.length + 1) c')) p2 hne
    have p3' := cell_grown (grown_cell w3 ob 1 (.slice A' (ls.length + 1) c')) p3 hne
    have p4' := cell_grown (grown_cell w3 ob 1 (.slice A' (ls.length + 1) c')) p4 hne
    have OF4 := Lib.hid hoff
    have KT4 := Lib.hid ((KT3.out.below B3).trans hkt)
    have HRUN := Lib.hid hrun
    clear hoff hkt B3 hg3 hrun hne
    refine wp_region_held_drew (S := fun W => W.cell? ⟨w1.heap.size, 0, none⟩ = some (.int .i64 one) ∧ W.cell? ⟨w1.heap.size, 1, none⟩ = some (.string letters) ∧ W.cell? ⟨w1.heap.size, 2, none⟩ = some (.int .i64 two) ∧ W.cell? ⟨w1.heap.size, 3, none⟩ = some (.int .i64 y) ∧ W.cell? ⟨w1.heap.size, 4, none⟩ = some (.bool false)) (by kernel_rfl) ?_ (fun hHeld => ?_)
    ·first | go_keep | exact ⟨p0, p1, p2, p3, p4⟩ | exact ⟨p0', p1', p2', p3', p4'⟩
    refine tk (i := 0) (v := ?_) rfl (Or.inl ⟨by rfl, ?_⟩) hHeld ?_
    rotate_left 1
    ·(intro w hSw; (try dsimp only at hSw); go_simp; try with_reducible rfl)
    try simp only [gA, Act.put]
    refine tk (i := 1) (v := ?_) rfl (Or.inl ⟨by rfl, ?_⟩) hHeld ?_
    rotate_left 1
    ·(intro w hSw; (try dsimp only at hSw); go_simp; try with_reducible rfl)
    try simp only [gA, Act.put]
    refine tk (i := 2) (v := ?_) rfl (Or.inl ⟨by rfl, ?_⟩) hHeld ?_
    rotate_left 1
    ·(intro w hSw; (try dsimp only at hSw); go_simp; try with_reducible rfl)
    try simp only [gA, Act.put]
    refine tk (i := 3) (v := ?_) rfl (Or.inl ⟨by rfl, ?_⟩) hHeld ?_
    rotate_left 1
    ·(intro w hSw; (try dsimp only at hSw); go_simp; try with_reducible rfl)
    try simp only [gA, Act.put]
    refine tk (i := 4) (v := ?_) rfl (Or.inl ⟨by rfl, ?_⟩) hHeld ?_
    rotate_left 1
    ·(intro w hSw; (try dsimp only at hSw); go_simp; try with_reducible rfl)
    try simp only [gA, Act.put]
    refine tk (i := 6) (v := ?_) rfl (Or.inl ⟨by rfl, ?_⟩) hHeld ?_
    rotate_left 1
    ·(intro w hSw; (try dsimp only at hSw); go_simp; try with_reducible rfl)
    try simp only [gA, Act.put]
    refine wpAnyH_ready (rs := [5, 7]) (by kernel_rfl) (by simp) ?_
    refine AllReadyH.cons rfl (fun K hK => ?_) ?_
    go_simp
    refine hK.out _ _ ?_ (fun hHeld => ?_)
    ·first | go_keep | exact ⟨p0, p1, p2, p3, p4⟩ | exact ⟨p0', p1', p2', p3', p4'⟩
    clear hK K
    try simp only [gA, Act.put]
    refine wpAnyH_ready (rs := [7]) (by kernel_rfl) (by simp) ?_
    refine AllReadyH.cons rfl (fun K hK => ?_) AllReadyH.nil
    go_simp
    refine hK.out _ _ ?_ (fun hHeld => ?_)
    ·first | go_keep | exact ⟨p0, p1, p2, p3, p4⟩ | exact ⟨p0', p1', p2', p3', p4'⟩
    clear hK K
    try simp only [gA, Act.put]
    refine wpAnyH_ready (rs := [8]) (by kernel_rfl) (by simp) ?_
    refine AllReadyH.cons rfl (fun K hK => ?_) AllReadyH.nil
    refine step_app (by rfl) _ _ 24 (by rfl) (by rfl) (by rfl) HRUN.out ?_
    refine hK.out _ _ ?_ (fun hHeld => ?_)
    ·first | go_keep | exact ⟨p0, p1, p2, p3, p4⟩ | exact ⟨p0', p1', p2', p3', p4'⟩
    clear hK K
    try simp only [gA, Act.put]
    refine tk (i := 9) (v := ?_) rfl (Or.inl ⟨by rfl, ?_⟩) hHeld ?_
    rotate_left 1
    ·(intro w hSw; (try dsimp only at hSw); go_simp; try with_reducible rfl)
    try simp only [gA, Act.put]
    refine tk (i := 10) (v := ?_) rfl (Or.inl ⟨by rfl, ?_⟩) hHeld ?_
    rotate_left 1
    ·(intro w hSw; (try dsimp only at hSw); go_simp; try with_reducible rfl)
    try simp only [gA, Act.put]
    refine tk (i := 11) (v := ?_) rfl (Or.inl ⟨by rfl, ?_⟩) hHeld ?_
    rotate_left 1
    ·(intro w hSw; (try dsimp only at hSw); go_simp; try with_reducible rfl)
    try simp only [gA, Act.put]
    refine wpAnyH_ready (rs := [12]) (by kernel_rfl) (by simp) ?_
    refine AllReadyH.cons rfl (fun K hK => ?_) AllReadyH.nil
    go_simp
    refine hK.out _ _ ?_ (fun hHeld => ?_)
    ·first | go_keep | exact ⟨p0, p1, p2, p3, p4⟩ | exact ⟨p0', p1', p2', p3', p4'⟩
    clear hK K
    try simp only [gA, Act.put]
    refine wpAnyH_done (by kernel_rfl) ?_ _
    rotate_left 1
    refine AllReadyH.cons rfl (fun K hK => ?_) AllReadyH.nil
    go_simp
    refine hK.out _ _ ?_ (fun hHeld => ?_)
    ·first | go_keep | exact ⟨p0, p1, p2, p3, p4⟩ | exact ⟨p0', p1', p2', p3', p4'⟩
    clear hK K
    try simp only [gA, Act.put]
    refine wpAnyH_ready (rs := [5]) (by kernel_rfl) (by simp) ?_
    refine AllReadyH.cons rfl (fun K hK => ?_) AllReadyH.nil
    go_simp
    refine hK.out _ _ ?_ (fun hHeld => ?_)
    ·first | go_keep | exact ⟨p0, p1, p2, p3, p4⟩ | exact ⟨p0', p1', p2', p3', p4'⟩
    clear hK K
    try simp only [gA, Act.put]
    refine wpAnyH_ready (rs := [8]) (by kernel_rfl) (by simp) ?_
    refine AllReadyH.cons rfl (fun K hK => ?_) AllReadyH.nil
    refine step_app (by rfl) _ _ 24 (by rfl) (by rfl) (by rfl) HRUN.out ?_
    refine hK.out _ _ ?_ (fun hHeld => ?_)
    ·first | go_keep | exact ⟨p0, p1, p2, p3, p4⟩ | exact ⟨p0', p1', p2', p3', p4'⟩
    clear hK K
    try simp only [gA, Act.put]
    refine tk (i := 9) (v := ?_) rfl (Or.inl ⟨by rfl, ?_⟩) hHeld ?_
    rotate_left 1
    ·(intro w hSw; (try dsimp only at hSw); go_simp; try with_reducible rfl)
    try simp only [gA, Act.put]
    refine tk (i := 10) (v := ?_) rfl (Or.inl ⟨by rfl, ?_⟩) hHeld ?_
    rotate_left 1
    ·(intro w hSw; (try dsimp only at hSw); go_simp; try with_reducible rfl)
    try simp only [gA, Act.put]
    refine tk (i := 11) (v := ?_) rfl (Or.inl ⟨by rfl, ?_⟩) hHeld ?_
    rotate_left 1
    ·(intro w hSw; (try dsimp only at hSw); go_simp; try with_reducible rfl)
    try simp only [gA, Act.put]
    refine wpAnyH_ready (rs := [12]) (by kernel_rfl) (by simp) ?_
    refine AllReadyH.cons rfl (fun K hK => ?_) AllReadyH.nil
    go_simp
    refine hK.out _ _ ?_ (fun hHeld => ?_)
    ·first | go_keep | exact ⟨p0, p1, p2, p3, p4⟩ | exact ⟨p0', p1', p2', p3', p4'⟩
    clear hK K
    try simp only [gA, Act.put]
    refine wpAnyH_done (by kernel_rfl) ?_ _
    rotate_left 1
    all_goals
     clear HRUN q1 q2 p0 p1 p2 p3 p4 p0' p1' p2' p3' p4'
     generalize w3.setCell ⟨ob, 1, none⟩ (.slice A' (ls.length + 1) c') = w4 at OF4 KT4 ⊢
     go_wp2
     go_ret
     rw [HCS.out]
     exact ⟨rfl, ⟨_, _, OF4.out⟩, KT4.out⟩
   ·have hd4 : ((xs.length : Int) == 1) = false := by simp; omega
    have hoo : oneOf xs = 0 := by
     match xs, h1 with
     | [], _ => rfl
     | _ :: _ :: _, _ => rfl
    rw [hoo] at HCS
    clear hoo
    have m0 := n0
    have m1 := n1
    have m2 := n2
    have m3 := n3
    have m4 := n4
    have OF3 := Lib.hid OF2.out
    have KT3 := Lib.hid KT2.out
    go_wp2_with fail
    have B3 := belowD (below_a1 w2 (.cells #[.int .i64 one, .string letters, .int .i64 two, .int .i64 0, .bool false] 69))
    obtain ⟨A', c', w3, hrun, q1, q2, hg3, hoff, hkt⟩ := (OF3.out.below B3).push2 (by have := OF3.out.le; simp; omega) (by omega) w2.heap.size ⟨one, letters, two, 0, false⟩ (fun j u hj => by
     match j, hj with
     | 0, hj => simp [eL] at hj; subst hj; go_simp
     | 1, hj => simp [eL] at hj; subst hj; go_simp
     | 2, hj => simp [eL] at hj; subst hj; go_simp
     | 3, hj => simp [eL] at hj; subst hj; go_simp
     | 4, hj => simp [eL] at hj; subst hj; go_simp
     | j + 5, hj => simp [eL] at hj)
    have p0 := cell_grown hg3 (cB B3 m0) HN2.out
    have p1 := cell_grown hg3 (cB B3 m1) HN2.out
    have p2 := cell_grown hg3 (cB B3 m2) HN2.out
    have p3 := cell_grown hg3 (cB B3 m3) HN2.out
    have p4 := cell_grown hg3 (cB B3 m4) HN2.out
    have hne : (some ob : Option Nat) ≠ some w1.heap.size := by simp; omega
    have p0' := cell_grown (grown_cell w3 ob 1 (.slice A' (ls.length + 1) c')) p0 hne
    have p1' := cell_grown (grown_cell w3 ob 1 (.slice A' (ls.length + 1) c')) p1 hne
    have p2' := cell_grown (grown_cell w3 ob 1 (.slice A' (ls.length + 1) c')) p2 hne
    have p3' := cell_grown (grown_cell w3 ob 1 (.slice A' (ls.length + 1) c')) p3 hne
    have p4' := cell_grown (grown_cell w3 ob 1 (.slice A' (ls.length + 1) c')) p4 hne
    have OF4 := Lib.hid hoff
    have KT4 := Lib.hid ((KT3.out.below B3).trans hkt)
    have HRUN := Lib.hid hrun
    clear hoff hkt B3 hg3 hrun hne
    refine wp_region_held_drew (S := fun W => W.cell? ⟨w1.heap.size, 0, none⟩ = some (.int .i64 one) ∧ W.cell? ⟨w1.heap.size, 1, none⟩ = some (.string letters) ∧ W.cell? ⟨w1.heap.size, 2, none⟩ = some (.int .i64 two) ∧ W.cell? ⟨w1.heap.size, 3, none⟩ = some (.int .i64 0) ∧ W.cell? ⟨w1.heap.size, 4, none⟩ = some (.bool false)) (by kernel_rfl) ?_ (fun hHeld => ?_)
    ·first | go_keep | exact ⟨p0, p1, p2, p3, p4⟩ | exact ⟨p0', p1', p2', p3', p4'⟩
    refine tk (i := 0) (v := ?_) rfl (Or.inl ⟨by rfl, ?_⟩) hHeld ?_
    rotate_left 1
    ·(intro w hSw; (try dsimp only at hSw); go_simp; try with_reducible rfl)
    try simp only [gA, Act.put]
    refine tk (i := 1) (v := ?_) rfl (Or.inl ⟨by rfl, ?_⟩) hHeld ?_
    rotate_left 1
    ·(intro w hSw; (try dsimp only at hSw); go_simp; try with_reducible rfl)
    try simp only [gA, Act.put]
    refine tk (i := 2) (v := ?_) rfl (Or.inl ⟨by rfl, ?_⟩) hHeld ?_
    rotate_left 1
    ·(intro w hSw; (try dsimp only at hSw); go_simp; try with_reducible rfl)
    try simp only [gA, Act.put]
    refine tk (i := 3) (v := ?_) rfl (Or.inl ⟨by rfl, ?_⟩) hHeld ?_
    rotate_left 1
    ·(intro w hSw; (try dsimp only at hSw); go_simp; try with_reducible rfl)
    try simp only [gA, Act.put]
    refine tk (i := 4) (v := ?_) rfl (Or.inl ⟨by rfl, ?_⟩) hHeld ?_
    rotate_left 1
    ·(intro w hSw; (try dsimp only at hSw); go_simp; try with_reducible rfl)
    try simp only [gA, Act.put]
    refine tk (i := 6) (v := ?_) rfl (Or.inl ⟨by rfl, ?_⟩) hHeld ?_
    rotate_left 1
    ·(intro w hSw; (try dsimp only at hSw); go_simp; try with_reducible rfl)
    try simp only [gA, Act.put]
    refine wpAnyH_ready (rs := [5, 7]) (by kernel_rfl) (by simp) ?_
    refine AllReadyH.cons rfl (fun K hK => ?_) ?_
    go_simp
    refine hK.out _ _ ?_ (fun hHeld => ?_)
    ·first | go_keep | exact ⟨p0, p1, p2, p3, p4⟩ | exact ⟨p0', p1', p2', p3', p4'⟩
    clear hK K
    try simp only [gA, Act.put]
    refine wpAnyH_ready (rs := [7]) (by kernel_rfl) (by simp) ?_
    refine AllReadyH.cons rfl (fun K hK => ?_) AllReadyH.nil
    go_simp
    refine hK.out _ _ ?_ (fun hHeld => ?_)
    ·first | go_keep | exact ⟨p0, p1, p2, p3, p4⟩ | exact ⟨p0', p1', p2', p3', p4'⟩
    clear hK K
    try simp only [gA, Act.put]
    refine wpAnyH_ready (rs := [8]) (by kernel_rfl) (by simp) ?_
    refine AllReadyH.cons rfl (fun K hK => ?_) AllReadyH.nil
    refine step_app (by rfl) _ _ 24 (by rfl) (by rfl) (by rfl) HRUN.out ?_
    refine hK.out _ _ ?_ (fun hHeld => ?_)
    ·first | go_keep | exact ⟨p0, p1, p2, p3, p4⟩ | exact ⟨p0', p1', p2', p3', p4'⟩
    clear hK K
    try simp only [gA, Act.put]
    refine tk (i := 9) (v := ?_) rfl (Or.inl ⟨by rfl, ?_⟩) hHeld ?_
    rotate_left 1
    ·(intro w hSw; (try dsimp only at hSw); go_simp; try with_reducible rfl)
    try simp only [gA, Act.put]
    refine tk (i := 10) (v := ?_) rfl (Or.inl ⟨by rfl, ?_⟩) hHeld ?_
    rotate_left 1
    ·(intro w hSw; (try dsimp only at hSw); go_simp; try with_reducible rfl)
    try simp only [gA, Act.put]
    refine tk (i := 11) (v := ?_) rfl (Or.inl ⟨by rfl, ?_⟩) hHeld ?_
    rotate_left 1
    ·(intro w hSw; (try dsimp only at hSw); go_simp; try with_reducible rfl)
    try simp only [gA, Act.put]
    refine wpAnyH_ready (rs := [12]) (by kernel_rfl) (by simp) ?_
    refine AllReadyH.cons rfl (fun K hK => ?_) AllReadyH.nil
    go_simp
    refine hK.out _ _ ?_ (fun hHeld => ?_)
    ·first | go_keep | exact ⟨p0, p1, p2, p3, p4⟩ | exact ⟨p0', p1', p2', p3', p4'⟩
    clear hK K
    try simp only [gA, Act.put]
    refine wpAnyH_done (by kernel_rfl) ?_ _
    rotate_left 1
    refine AllReadyH.cons rfl (fun K hK => ?_) AllReadyH.nil
    go_simp
    refine hK.out _ _ ?_ (fun hHeld => ?_)
    ·first | go_keep | exact ⟨p0, p1, p2, p3, p4⟩ | exact ⟨p0', p1', p2', p3', p4'⟩
    clear hK K
    try simp only [gA, Act.put]
    refine wpAnyH_ready (rs := [5]) (by kernel_rfl) (by simp) ?_
    refine AllReadyH.cons rfl (fun K hK => ?_) AllReadyH.nil
    go_simp
    refine hK.out _ _ ?_ (fun hHeld => ?_)
    ·first | go_keep | exact ⟨p0, p1, p2, p3, p4⟩ | exact ⟨p0', p1', p2', p3', p4'⟩
    clear hK K
    try simp only [gA, Act.put]
    refine wpAnyH_ready (rs := [8]) (by kernel_rfl) (by simp) ?_
    refine AllReadyH.cons rfl (fun K hK => ?_) AllReadyH.nil
    refine step_app (by rfl) _ _ 24 (by rfl) (by rfl) (by rfl) HRUN.out ?_
    refine hK.out _ _ ?_ (fun hHeld => ?_)
    ·first | go_keep | exact ⟨p0, p1, p2, p3, p4⟩ | exact ⟨p0', p1', p2', p3', p4'⟩
    clear hK K
    try simp only [gA, Act.put]
    refine tk (i := 9) (v := ?_) rfl (Or.inl ⟨by rfl, ?_⟩) hHeld ?_
    rotate_left 1
    ·(intro w hSw; (try dsimp only at hSw); go_simp; try with_reducible rfl)
    try simp only [gA, Act.put]
    refine tk (i := 10) (v := ?_) rfl (Or.inl ⟨by rfl, ?_⟩) hHeld ?_
    rotate_left 1
    ·(intro w hSw; (try dsimp only at hSw); go_simp; try with_reducible rfl)
    try simp only [gA, Act.put]
    refine tk (i := 11) (v := ?_) rfl (Or.inl ⟨by rfl, ?_⟩) hHeld ?_
    rotate_left 1
    ·(intro w hSw; (try dsimp only at hSw); go_simp; try with_reducible rfl)
    try simp only [gA, Act.put]
    refine wpAnyH_ready (rs := [12]) (by kernel_rfl) (by simp) ?_
    refine AllReadyH.cons rfl (fun K hK => ?_) AllReadyH.nil
    go_simp
    refine hK.out _ _ ?_ (fun hHeld => ?_)
    ·first | go_keep | exact ⟨p0, p1, p2, p3, p4⟩ | exact ⟨p0', p1', p2', p3', p4'⟩
    clear hK K
    try simp only [gA, Act.put]
    refine wpAnyH_done (by kernel_rfl) ?_ _
    rotate_left 1
    all_goals
     clear HRUN q1 q2 p0 p1 p2 p3 p4 p0' p1' p2' p3' p4'
     generalize w3.setCell ⟨ob, 1, none⟩ (.slice A' (ls.length + 1) c') = w4 at OF4 KT4 ⊢
     go_wp2
     go_ret
     rw [HCS.out]
     exact ⟨rfl, ⟨_, _, OF4.out⟩, KT4.out⟩
end Go.Proofs.YtcnpbcgkhhebaaaGreatDoor
/- A prize log is claimed. -/
namespace Go.Proofs.YtcnpbcgkhhebaaaGreatDoor
open Go.RowKit

theorem nat_of {r : Int} {n : Nat} (h0 : ¬ r < 0) (h : r < n) : ∃ i : Nat, r = i ∧ i < n := ⟨r.toNat, by omega, by omega⟩
theorem mkAt_at {os : List Ow} {j : Nat} (hj : j < os.length) : mkAt os (j : Int) = os[j].mark := by unfold mkAt; rw [Int.toNat_natCast, List.getElem?_eq_getElem hj]

set_option maxRecDepth 100000 in
set_option maxHeartbeats 1000000 in
theorem claim_any (base ob : Nat) (rest : List Value) (t : TypeId) (v1 v2 : Value) (os : List Ow) (ls : List Lg) (x : Ln) (w : World) (h : Off0 base w ob rest t v1 v2 os ls) (hm : ∀ x ∈ os, Asc x.mark) (hs : ∀ l ∈ ls, Asc l.seen) :
  Calls Tryz.prog 134 #[.pointer (some ⟨ob, 0, none⟩), .agg (eN x).toArray] w (DoR base w ob rest t (claimS os ls x)) := by
 obtain ⟨word, one, two, letters, text⟩ := x
 obtain ⟨A, c, rfl⟩ := h.o1.sl
 obtain ⟨A2, c2, rfl⟩ := h.o2.sl
 have hbd := logIx_bd ls one
 have hbd2 := ownIx_bd os two
 have hob := h.lt
 simp only [eN]
 have B1 := below_a1 w (.cells #[.string word, .int .i64 one, .int .i64 two, .string letters, .string text] 108)
 have k0 := cB B1 h.q0
 have k1 := cB B1 h.q1
 have HOF := Lib.hid (h.below B1)
 have KT := Lib.hid ((Kt.refl base ob w).below B1)
 have HM := Lib.hid hm
 have HS := Lib.hid hs
 have kx1 : (w.alloc (.cells #[.string word, .int .i64 one, .int .i64 two, .string letters, .string text] 108)).cell? ⟨w.heap.size, 1, none⟩ = some (.int .i64 one) := by go_simp
 have kx2 : (w.alloc (.cells #[.string word, .int .i64 one, .int .i64 two, .string letters, .string text] 108)).cell? ⟨w.heap.size, 2, none⟩ = some (.int .i64 two) := by go_simp
 have hw0 : w.heap.size < (w.alloc (.cells #[.string word, .int .i64 one, .int .i64 two, .string letters, .string text] 108)).heap.size := by simp
 have hob0 : ob < (w.alloc (.cells #[.string word, .int .i64 one, .int .i64 two, .string letters, .string text] 108)).heap.size := by simp; omega
 have c1 : ∀ W, Below (w.alloc (.cells #[.string word, .int .i64 one, .int .i64 two, .string letters, .string text] 108)).heap.size (w.alloc (.cells #[.string word, .int .i64 one, .int .i64 two, .string letters, .string text] 108)) W → Calls Tryz.prog 166 #[.pointer (some ⟨ob, 0, none⟩), .int .i64 one] W fun e w' => e = .returned (.int .i64 (logIx ls one)) ∧ Below W.heap.size W w' :=
  fun W hB => logA one ob 0 A2 c2 ls W (cB hB k1) ((HOF.out.o2.rs encL).below hB)
 have c3 : ∀ W, Below (w.alloc (.cells #[.string word, .int .i64 one, .int .i64 two, .string letters, .string text] 108)).heap.size (w.alloc (.cells #[.string word, .int .i64 one, .int .i64 two, .string letters, .string text] 108)) W → Calls Tryz.prog 89 #[.pointer (some ⟨ob, 0, none⟩), .int .i64 two] W fun e w' => e = .returned (.int .i64 (ownIx os two)) ∧ Below W.heap.size W w' :=
  fun W hB => ownerA two ob 0 A c os W (cB hB k0) ((HOF.out.o1.rs encO).below hB)
 clear h hm hs B1
 obtain ⟨r, hr⟩ : ∃ r, logIx ls one = r := ⟨_, rfl⟩
 obtain ⟨r2, hr2⟩ : ∃ r, ownIx os two = r := ⟨_, rfl⟩
 rw [hr] at hbd c1
 rw [hr2] at hbd2 c3
 have C1 := Lib.hid c1
 have C2 := Lib.hid c3
 have HRr := Lib.hid hr
 have HRr2 := Lib.hid hr2
 clear hr hr2 c1 c3
 go_enter Tryz.func134, Tryz.ntmps134
 go_wp2_with fail
 generalize w.alloc (.cells #[.string word, .int .i64 one, .int .i64 two, .string letters, .string text] 108) = w0 at *
 go_region_held3 (fun W => W.cell? ⟨w.heap.size, 1, none⟩ = some (.int .i64 one) ∧ W.cell? ⟨w.heap.size, 2, none⟩ = some (.int .i64 two)) (go_keep)
  (first | (go_at_call 166; refine (C1.out _ goB).mono ?_; rintro e wz ⟨rfl, hbz⟩; (have kz1 : wz.cell? ⟨w.heap.size, 1, none⟩ = some (.int .i64 one) := cB hbz (by go_simp)); (have kz2 : wz.cell? ⟨w.heap.size, 2, none⟩ = some (.int .i64 two) := cB hbz (by go_simp))) | (go_at_call 89; refine (C2.out _ goB).mono ?_; rintro e wz ⟨rfl, hbz⟩; (have kz1 : wz.cell? ⟨w.heap.size, 1, none⟩ = some (.int .i64 one) := cB hbz (by go_simp)); (have kz2 : wz.cell? ⟨w.heap.size, 2, none⟩ = some (.int .i64 two) := cB hbz (by go_simp))))
 have HB := Lib.hid (show Below w0.heap.size w0 wz from goB)
 have OF1 := Lib.hid (HOF.out.below HB.out)
 have KT1 := Lib.hid (KT.out.below HB.out)
 have q0 := cB HB.out k0
 have q1 := cB HB.out k1
 have kl2 := kz2
 clear hbz kx1 kx2 k0 k1 HB C1 C2 HOF KT
 by_cases h1 : r < 0
 ·have hd1 : decide (r < 0) = true := decide_eq_true h1
  go_wp2
  go_ret
  have : claimS os ls ⟨word, one, two, letters, text⟩ = (os, ls, 5) := by unfold claimS; rw [if_pos (.inl (by rw [HRr.out]; exact h1))]
  rw [this]
  exact ⟨rfl, ⟨_, _, OF1.out⟩, KT1.out⟩
 have hd1 : decide (r < 0) = false := decide_eq_false h1
 by_cases h2 : r2 < 0
 ·have hd2 : decide (r2 < 0) = true := decide_eq_true h2
  go_wp2
  go_ret
  have : claimS os ls ⟨word, one, two, letters, text⟩ = (os, ls, 5) := by unfold claimS; rw [if_pos (.inr (by rw [HRr2.out]; exact h2))]
  rw [this]
  exact ⟨rfl, ⟨_, _, OF1.out⟩, KT1.out⟩
 have hd2 : decide (r2 < 0) = false := decide_eq_false h2
 obtain ⟨i, rfl, hi⟩ := nat_of h1 hbd.2
 obtain ⟨j, rfl, hj⟩ := nat_of h2 hbd2.2
 have hi0 : (0 : Int) ≤ (i : Int) := by omega
 have hil : (i : Int) < (ls.length : Int) := by omega
 have hj0 : (0 : Int) ≤ (j : Int) := by omega
 have hjl : (j : Int) < (os.length : Int) := by omega
 obtain ⟨b2, off2, z, hz, rfl, hb2, e0, e1, e2, e3, e4⟩ := (OF1.out.o2.rs encL).atL hi
 obtain ⟨b1, off1, y, hy, rfl, hb1, d0, d1, d2⟩ := (OF1.out.o1.rs encO).atO hj
 have hcs : claimS os ls ⟨word, one, two, letters, text⟩ = if z.own ≠ 0 then (os, ls, 9) else if wearsB y.mark z.seen then (os, ls.set i { z with own := two }, 0) else (os, ls, 17) := by
  unfold claimS
  rw [if_neg (by rw [HRr.out, HRr2.out]; omega)]
  simp only [HRr.out, HRr2.out, Int.toNat_natCast]
  rw [List.getElem?_eq_getElem hi, mkAt_at hj, ← hz, ← hy]
 have HCS := Lib.hid hcs
 have AM := Lib.hid (HM.out y (by rw [hy]; exact List.getElem_mem hj))
 have AS := Lib.hid (HS.out z (by rw [hz]; exact List.getElem_mem hi))
 have HZ := Lib.hid hz
 clear hcs hz hy
 obtain ⟨num, mark, paid⟩ := y
 obtain ⟨num2, seen, feet, own, gone⟩ := z
 simp only at d0 d1 d2 e0 e1 e2 e3 e4
 by_cases h3 : own = 0
 ·have hd3 : (own != 0) = false := by simp [h3]
  have H3 := Lib.hid h3
  clear h3
  have hob1 : ob < wz.heap.size := World.block_lt_of_cell? wz _ q0
  have hw1 : w.heap.size < wz.heap.size := World.block_lt_of_cell? wz _ kz1
  go_wp2_with fail
  go_region_held3 (fun W => W.cell? ⟨ob, 0, none⟩ = some (.slice (some ⟨b1, off1, none⟩) os.length c) ∧ W.cell? ⟨ob, 1, none⟩ = some (.slice (some ⟨b2, off2, none⟩) ls.length c2) ∧ W.cell? ⟨b1, off1 + j * 3 + 1, none⟩ = some (.string mark) ∧ W.cell? ⟨b2, off2 + i * 5 + 1, none⟩ = some (.string seen)) (go_keep)
   ((go_at_call 122; refine (wears_any mark seen _ AM.out AS.out).mono ?_; rintro e wy ⟨rfl, hby⟩; (have kz1 : wy.cell? ⟨ob, 0, none⟩ = some (.slice (some ⟨b1, off1, none⟩) os.length c) := cB hby (by go_simp)); (have kz2 : wy.cell? ⟨ob, 1, none⟩ = some (.slice (some ⟨b2, off2, none⟩) ls.length c2) := cB hby (by go_simp)); (have kz3 : wy.cell? ⟨b1, off1 + j * 3 + 1, none⟩ = some (.string mark) := cB hby (by go_simp)); (have kz4 : wy.cell? ⟨b2, off2 + i * 5 + 1, none⟩ = some (.string seen) := cB hby (by go_simp))))
  have HB2 := Lib.hid (show Below wz.heap.size wz wy from goB)
  have OF2 := Lib.hid (OF1.out.below HB2.out)
  have KT2 := Lib.hid (KT1.out.below HB2.out)
  have kl3 := cB HB2.out kl2
  have e3' := cB HB2.out e3
  clear hby q0 q1 d0 d1 d2 e0 e1 e2 e3 e4 OF1 KT1 HB2 kl2
  cases hw : wearsB mark seen with
  | false =>
   have HW := Lib.hid hw
   clear hw
   go_wp2
   go_ret
   rw [HCS.out]
   rw [if_neg (fun h => h H3.out), HW.out]
   exact ⟨rfl, ⟨_, _, OF2.out⟩, KT2.out⟩
  | true =>
   have HW := Lib.hid hw
   clear hw
   have BD : Below wy.heap.size wy wy.drew := belowD (Below.refl _ _)
   obtain ⟨g, cap, hv, hbg, ⟨cs, hcs2⟩, hfz, ho, hg⟩ := (OF2.out.o2.below BD).set_ encL (i := i) (j := 3) (u := .int .i64 two) (x' := ⟨num2, seen, feet, two, gone⟩) hi (by rw [← HZ.out]; rfl) (by omega)
   injection hv with ha
   injection ha with ha
   injection ha with ha1 ha2
   subst ha1 ha2
   have OF3 := Lib.hid ((OF2.out.below BD).own2 ho hg)
   have KT3 := Lib.hid ((KT2.out.below BD).trans (Kt.own2 (OF2.out.below BD) hg))
   rw [Nat.zero_add] at e3'
   clear ho hg BD
   simp only [Nat.zero_add] at kz2 kz4
   go_wp2_with fail
   go_region
   all_goals
    go_wp2
    go_ret
    rw [HCS.out]
    rw [if_neg (fun h => h H3.out), if_pos HW.out]
    exact ⟨rfl, ⟨_, _, OF3.out⟩, KT3.out⟩
 ·have hd3 : (own != 0) = true := by simp [h3]
  go_wp2
  go_ret
  rw [HCS.out]
  rw [if_pos h3]
  exact ⟨rfl, ⟨_, _, OF1.out⟩, KT1.out⟩
end Go.Proofs.YtcnpbcgkhhebaaaGreatDoor
/- Logs are rafted; pence are paid. -/
namespace Go.Proofs.YtcnpbcgkhhebaaaGreatDoor
open Go.RowKit

theorem gone_len (ls : List Lg) (i : Int) : (goneAt ls i).length = ls.length := by
 unfold goneAt
 split <;> simp
theorem gone_at {ls : List Lg} {j : Nat} (hj : j < ls.length) : goneAt ls (j : Int) = ls.set j { ls[j] with gone := true } := by
 unfold goneAt
 rw [Int.toNat_natCast, List.getElem?_eq_getElem hj]
theorem gones_len (ix : List Int) : ∀ ls : List Lg, (ix.foldl goneAt ls).length = ls.length := by
 induction ix with
 | nil => intro ls; rfl
 | cons i ix ih => intro ls; rw [List.foldl_cons, ih, gone_len]

set_option maxRecDepth 100000 in
set_option maxHeartbeats 1000000 in
theorem raft_any (base ob : Nat) (rest : List Value) (t : TypeId) (v1 v2 : Value) (os : List Ow) (ls : List Lg) (x : Ln) (w : World) (h : Off0 base w ob rest t v1 v2 os ls) (hls : ls.length ≤ 100) (h2 : 0 ≤ x.two) :
  Calls Tryz.prog 135 #[.pointer (some ⟨ob, 0, none⟩), .agg (eN x).toArray] w (DoR base w ob rest t (raftS os ls x)) := by
 obtain ⟨word, one, two, letters, text⟩ := x
 simp only at h2
 obtain ⟨n, rfl⟩ : ∃ n : Nat, two = n := ⟨two.toNat, by omega⟩
 clear h2
 obtain ⟨A, c, rfl⟩ := h.o1.sl
 obtain ⟨A2, c2, rfl⟩ := h.o2.sl
 have hbd := ownIx_bd os one
 have hob := h.lt
 simp only [eN]
 have B1 := below_a1 w (.cells #[.string word, .int .i64 one, .int .i64 n, .string letters, .string text] 108)
 have k0 := cB B1 h.q0
 have k1 := cB B1 h.q1
 have HOF := Lib.hid (h.below B1)
 have KT := Lib.hid ((Kt.refl base ob w).below B1)
 have hbs : base ≤ ob := h.le
 have hhe := here_any one ob 0 A2 c2 ls _ k1 ((h.below B1).o2.rs encL) (by omega)
 have hlx := hereIx_len one ls ls.length
 have hbx : ∀ i ∈ hereIx one ls ls.length, ∃ j : Nat, i = j ∧ j < ls.length := hereIx_bd
 obtain ⟨ix, hix⟩ : ∃ ix, hereIx one ls ls.length = ix := ⟨_, rfl⟩
 obtain ⟨r, hr⟩ : ∃ r, ownIx os one = r := ⟨_, rfl⟩
 have hrs : raftS os ls ⟨word, one, n, letters, text⟩ = if r < 0 then (os, ls, 5) else if (ix.length : Int) < n then (os, ls, 6) else (os, (ix.take n).foldl goneAt ls, 0) := by
  unfold raftS
  simp only [hix, hr, Int.toNat_natCast]
 have HRS := Lib.hid hrs
 rw [hix] at hhe hlx hbx
 rw [hr] at hbd
 have HBX := Lib.hid hbx
 have HRr := Lib.hid hr
 clear h B1 hrs hix hbx hr
 go_enter Tryz.func135, Tryz.ntmps135
 go_wp2_with fail
 refine hhe.mono ?_
 clear hhe
 rintro e w1 ⟨⟨A3, c3, rfl, o3⟩, hb1⟩
 have kx1 : w1.cell? ⟨w.heap.size, 1, none⟩ = some (.int .i64 one) := cB hb1 (by go_simp)
 have kx2 : w1.cell? ⟨w.heap.size, 2, none⟩ = some (.int .i64 n) := cB hb1 (by go_simp)
 have k01 := cB hb1 k0
 have OF1 := Lib.hid (HOF.out.below hb1)
 have KT1 := Lib.hid (KT.out.below hb1)
 have O3 := Lib.hid o3
 clear hb1 o3 k0 k1 HOF KT
 have how := ownerA one ob 0 A c os w1 k01 (OF1.out.o1.rs encO)
 rw [HRr.out] at how
 go_wp2_with fail
 refine how.mono ?_
 clear how
 rintro e w2 ⟨rfl, hb2⟩
 have kx22 := cB hb2 kx2
 have OF2 := Lib.hid (OF1.out.below hb2)
 have KT2 := Lib.hid (KT1.out.below hb2)
 have O32 := Lib.hid (O3.out.below hb2)
 clear hb2 kx1 kx2 k01 OF1 KT1 O3
 by_cases h1 : r < 0
 ·have hd1 : decide (r < 0) = true := decide_eq_true h1
  go_wp2
  go_ret
  rw [HRS.out, if_pos h1]
  exact ⟨rfl, ⟨_, _, OF2.out⟩, KT2.out⟩
 have hd1 : decide (r < 0) = false := decide_eq_false h1
 by_cases h3 : (ix.length : Int) < n
 ·have hd3 : decide ((ix.length : Int) < n) = true := decide_eq_true h3
  have hd3' : decide (ix.length < n) = true := decide_eq_true (by omega)
  go_wp2
  go_ret
  rw [HRS.out, if_neg (by omega), if_pos h3]
  exact ⟨rfl, ⟨_, _, OF2.out⟩, KT2.out⟩
 have hd3 : decide ((ix.length : Int) < n) = false := decide_eq_false h3
 have hd3' : decide (ix.length < n) = false := decide_eq_false (by omega)
 have hnl : n ≤ ix.length := by omega
 have hc3 : ix.length ≤ c3 ∧ c3 ≤ 9223372036854775807 := by
  have := O32.out.rs encI
  exact ⟨this.1, this.2.1⟩
 have hnc : n ≤ c3 := by omega
 have hnci : (n : Int) ≤ (c3 : Int) := by omega
 go_wp2_with fail
 go_loopg [29] n (fun g s29 wr => ∃ k : Nat, k ≤ n ∧ n - k ≤ g ∧ s29 = .int .i64 k ∧ Hid (Off0 base wr ob rest t (.slice A os.length c) (.slice A2 ls.length c2) os ((ix.take k).foldl goneAt ls)) ∧ Hid (Kt base ob w wr) ∧ Hid (Own eI 3 1 (w.alloc (.cells #[.string word, .int .i64 one, .int .i64 n, .string letters, .string text] 108)).heap.size wr (.slice A3 ix.length c3) ix))
 case atStart =>
  exact ⟨0, by omega, by omega, rfl, OF2.out, KT2.out, O32.out⟩
 case round =>
  obtain ⟨k, hk, hg, rfl, OF, KW, OW⟩ := hrel
  clear OF2 KT2 O32 kx22
  by_cases hlt : k < n
  ·have hli : (k : Int) < (n : Int) := by omega
   have hkx : k < ix.length := by omega
   obtain ⟨b4, off4, y, hy, rfl, hb4, d0⟩ := (OW.out.rs encI).atI hkx
   obtain ⟨j, hj, hjl⟩ := HBX.out y (by rw [hy]; exact List.getElem_mem hkx)
   subst hj
   have q1 := OF.out.q1
   have hjm : j < ((ix.take k).foldl goneAt ls).length := by rw [gones_len]; exact hjl
   have hj0 : (0 : Int) ≤ (j : Int) := by omega
   have hji : (j : Int) < (ls.length : Int) := by omega
   obtain ⟨z, hz⟩ : ∃ z, ((ix.take k).foldl goneAt ls)[j] = z := ⟨_, rfl⟩
   obtain ⟨num, seen, feet, own, gone⟩ := z
   obtain ⟨g, cap, hv, hbg, ⟨cs, hcs2⟩, hfz, ho, hg2⟩ := OF.out.o2.set_ encL (i := j) (j := 4) (u := .bool true) (x' := ⟨num, seen, feet, own, true⟩) hjm (by rw [hz]; rfl) (by omega)
   obtain ⟨A5, c5, hv5, hr5⟩ := OF.out.o2.rd encL
   obtain ⟨b5, off5, z5, hz5, e5, hb5, e0, e1, e2, e3, e4⟩ := hr5.atL hjm
   subst e5
   injection hv with a1 a2 a3
   subst a1
   injection hv5 with a4 a5 a6
   injection a4 with a4
   injection a4 with a41 a42
   subst a41 a42
   rw [Nat.zero_add] at e4
   have OF3 := Lib.hid (OF.out.own2 ho hg2)
   have KT3 := Lib.hid (KW.out.trans (Kt.own2 OF.out hg2))
   have OW3 := Lib.hid (OW.out.kept hg2 (by
    rcases ne_of_kind OW.out OF.out.o2 (by decide) with h | h
    ·exact .inl h
    ·exact .inr h))
   have htk : (ix.take (k + 1)).foldl goneAt ls = ((ix.take k).foldl goneAt ls).set j ⟨num, seen, feet, own, true⟩ := by
    rw [List.take_succ_eq_append_getElem hkx, List.foldl_append, List.foldl_cons, List.foldl_nil, ← hy]
    rw [gone_at hjm, hz]
   rw [← htk] at OF3
   clear ho hg2 hcs2 hr5 hz5 hb5 e0 e1 e2 e3 hz htk a2 a3 a5 a6 hjm hy
   go_wp2
   go_roundg (n - (k + 1))
   case measure => omega
   case rel => exact ⟨k + 1, by omega, by omega, by go_num, OF3.out, KT3.out, OW3.out⟩
  ·have hli : ¬ (k : Int) < (n : Int) := by omega
   have hke : k = n := by omega
   have HK := Lib.hid hke
   clear hke
   go_wp2
   go_ret
   have hfin := OF.out
   rw [HK.out] at hfin
   rw [HRS.out, if_neg (by omega), if_neg (by omega)]
   exact ⟨rfl, ⟨_, _, hfin⟩, KW.out⟩
end Go.Proofs.YtcnpbcgkhhebaaaGreatDoor
/- Pence are paid. -/
namespace Go.Proofs.YtcnpbcgkhhebaaaGreatDoor
open Go.RowKit

theorem part2 (xs : Array Value) (i : Nat) (v : Value) (h : xs[i]? = some v) (W : World) : (part 2 xs i).run Tryz.prog W = .ok v W := by
 have h1 : (isAgg 2).run Tryz.prog W = .ok false W := by kernel_rfl
 have h2 : (sizeOf 2).run Tryz.prog W = .ok 1 W := by kernel_rfl
 unfold part
 go_simp
theorem eqItems2 (ns ms : List Int) (d : Nat) (W : World) : ∀ is : List Nat, (∀ i ∈ is, i < ns.length ∧ i < ms.length) → (Op.eqItems (d + 1) 2 1 (vals ns) (vals ms) is).run Tryz.prog W = .ok (is.all fun i => ns[i]? == ms[i]?) W
 | [], _ => by simp [Op.eqItems]
 | i :: is, h => by
  obtain ⟨h1, h2⟩ := h i List.mem_cons_self
  have ih := eqItems2 ns ms d W is fun j hj => h j (List.mem_cons_of_mem _ hj)
  have p1 := part2 (vals ns) i (.int .i64 ns[i]) (by simp [vals, h1]) W
  have p2 := part2 (vals ms) i (.int .i64 ms[i]) (by simp [vals, h2]) W
  simp only [Op.eqItems, Nat.mul_one, Sem.run_bind, p1, p2, Result.andThen_ok, run_equalIn_int W d 2 .i64 .i64 ns[i] ms[i] Tryz.underlying2]
  rw [List.all_cons, List.getElem?_eq_getElem h1, List.getElem?_eq_getElem h2]
  by_cases e : ns[i] = ms[i]
  ·simp [e, ih]
  ·simp [e]
theorem eq134 (ns ms : List Int) (hn : ns.length = 20) (hm : ms.length = 20) (W : World) : (Op.equalIn 10000 134 (.agg (vals ns)) (.agg (vals ms))).run Tryz.prog W = .ok (decide (ns = ms)) W := by
 obtain ⟨i0, hi⟩ : ∃ i, Tryz.prog.info? 2 = some i := Option.isSome_iff_exists.1 (by kernel_rfl)
 have hc : Tryz.prog.cellsOf 2 = 1 := by kernel_rfl
 rw [show (10000 : Nat) = 9998 + 1 + 1 from rfl, run_equalIn_array W 9999 (vals ns) (vals ms) Tryz.underlying134 hi, hc, eqItems2 ns ms 9998 W _ (fun i hi => by rw [List.mem_range] at hi; omega)]
 have key : ((List.range 20).all fun i => ns[i]? == ms[i]?) = decide (ns = ms) := by
  rw [Bool.eq_iff_iff, List.all_eq_true, decide_eq_true_eq]
  constructor
  ·intro h
   refine List.ext_getElem? fun i => ?_
   by_cases hi : i < 20
   ·simpa using h i (List.mem_range.2 hi)
   ·rw [List.getElem?_eq_none (by omega), List.getElem?_eq_none (by omega)]
  ·rintro rfl i _
   simp
 rw [key]

set_option maxRecDepth 100000 in
set_option maxHeartbeats 1000000 in
theorem pay_any (base ob : Nat) (rest : List Value) (t : TypeId) (v1 v2 : Value) (os : List Ow) (ls : List Lg) (x : Ln) (w : World) (h : Off0 base w ob rest t v1 v2 os ls) (hos : os.length ≤ 20) (hls : ls.length ≤ 100) (hft : ∀ l ∈ ls, 1 ≤ l.feet ∧ l.feet ≤ 10000) (hpd : ∀ y ∈ os, 0 ≤ y.paid ∧ y.paid ≤ 1000000) (h2 : -1000000 ≤ x.two ∧ x.two ≤ 1099511627776) :
  Calls Tryz.prog 136 #[.pointer (some ⟨ob, 0, none⟩), .agg (eN x).toArray] w (DoR base w ob rest t (payS os ls x)) := by
 obtain ⟨word, one, two, letters, text⟩ := x
 simp only at h2
 obtain ⟨A, c, rfl⟩ := h.o1.sl
 obtain ⟨A2, c2, rfl⟩ := h.o2.sl
 have hbd := ownIx_bd os one
 have hob := h.lt
 simp only [eN]
 have B1 := below_a1 w (.cells #[.string word, .int .i64 one, .int .i64 two, .string letters, .string text] 108)
 have k0 := cB B1 h.q0
 have k1 := cB B1 h.q1
 have HOF := Lib.hid (h.below B1)
 have KT := Lib.hid ((Kt.refl base ob w).below B1)
 have HF := Lib.hid hft
 have HPD := Lib.hid hpd
 have hcon := ownerA one ob 0 A c os _ k0 ((h.below B1).o1.rs encO)
 obtain ⟨r, hr⟩ : ∃ r, ownIx os one = r := ⟨_, rfl⟩
 rw [hr] at hbd hcon
 have HRr := Lib.hid hr
 clear h B1 hft hpd hr
 go_enter Tryz.func136, Tryz.ntmps136
 go_wp2_with fail
 refine hcon.mono ?_
 clear hcon
 rintro e w1 ⟨rfl, hb1⟩
 have kx2 : w1.cell? ⟨w.heap.size, 2, none⟩ = some (.int .i64 two) := cB hb1 (by go_simp)
 have q0 := cB hb1 k0
 have q1 := cB hb1 k1
 have OF1 := Lib.hid (HOF.out.below hb1)
 have KT1 := Lib.hid (KT.out.below hb1)
 clear hb1 k0 k1 HOF KT
 by_cases h1 : r < 0
 ·have hd1 : decide (r < 0) = true := decide_eq_true h1
  go_wp2
  go_ret
  have : payS os ls ⟨word, one, two, letters, text⟩ = (os, ls, 5) := by unfold payS; rw [if_pos (by rw [HRr.out]; exact h1)]
  rw [this]
  exact ⟨rfl, ⟨_, _, OF1.out⟩, KT1.out⟩
 have hd1 : decide (r < 0) = false := decide_eq_false h1
 obtain ⟨i, rfl, hi⟩ := nat_of h1 hbd.2
 have hi20 : i < 20 := by omega
 have hi0 : (0 : Int) ≤ (i : Int) := by omega
 have hil : (i : Int) < (os.length : Int) := by omega
 obtain ⟨b1, off1, y, hy, rfl, hb1, d0, d1, d2⟩ := (OF1.out.o1.rs encO).atO hi
 have hpy := HPD.out y (by rw [hy]; exact List.getElem_mem hi)
 have hfb := feeAt_bd (os := os) HF.out (i : Int)
 have hvg := vals_get os ls i hi20
 have hps : payS os ls ⟨word, one, two, letters, text⟩ = if feesL os ls = List.replicate 20 0 ∨ feeAt os ls i - y.paid < two then (os, ls, 4) else (os.set i { y with paid := y.paid + two }, ls, 0) := by
  unfold payS
  rw [if_neg (by rw [HRr.out]; omega)]
  simp only [HRr.out, Int.toNat_natCast]
  rw [List.getElem?_eq_getElem hi, ← hy]
 have HPS := Lib.hid hps
 have HY := Lib.hid hy
 clear hps hy
 obtain ⟨num, mark, paid⟩ := y
 simp only at d0 d1 d2 hpy
 have cf : ∀ W, Below w1.heap.size w1 W → Calls Tryz.prog 90 #[.pointer (some ⟨ob, 0, none⟩)] W fun e w' => e = .returned (.agg (vals (feesL os ls))) ∧ Below W.heap.size W w' :=
  fun W hB => fees_any ob 0 (some ⟨b1, off1, none⟩) c os A2 c2 ls W (cB hB q0) (cB hB q1) ((OF1.out.o1.rs encO).below hB) ((OF1.out.o2.rs encL).below hB) (by omega) hos HF.out
 have heq := eq134 (feesL os ls) (List.replicate 20 0) (by simp [feesL]) (by simp)
 have hz20 : vals (List.replicate 20 0) = #[Value.int .i64 0, .int .i64 0, .int .i64 0, .int .i64 0, .int .i64 0, .int .i64 0, .int .i64 0, .int .i64 0, .int .i64 0, .int .i64 0, .int .i64 0, .int .i64 0, .int .i64 0, .int .i64 0, .int .i64 0, .int .i64 0, .int .i64 0, .int .i64 0, .int .i64 0, .int .i64 0] := rfl
 rw [hz20] at heq
 obtain ⟨fe, hfe⟩ : ∃ fe, feeAt os ls i = fe := ⟨_, rfl⟩
 have hix20 := index20 (vals (feesL os ls)) i hi20 _ hvg
 rw [hfe] at hfb hix20
 have CF := Lib.hid cf
 have HFE := Lib.hid hfe
 obtain ⟨V, hV⟩ : ∃ V, vals (feesL os ls) = V := ⟨_, rfl⟩
 have HV := Lib.hid hV
 rw [hV] at heq hix20 CF
 clear cf hz20 hvg hfe hV
 by_cases hz : feesL os ls = List.replicate 20 0
 ·rw [decide_eq_true hz] at heq
  have HZ := Lib.hid hz
  clear hz
  go_wp2_with fail
  refine wp_region_any (by kernel_rfl) ?_
  change wpAny _ _ _ _ _ _ _ (World.drew _)
  refine wpAny_take (i := 0) (v := ?v0) rfl (by kernel_rfl) (by kernel_rfl) (by kernel_rfl) (fun _ _ _ h => h) (Or.inl ⟨by rfl, ?h0⟩) ?r0
  case h0 => (intro w; go_simp; try with_reducible rfl)
  refine wpAny_take (i := 2) (v := ?v2) rfl (by kernel_rfl) (by kernel_rfl) (by kernel_rfl) (fun _ _ _ h => h) (Or.inl ⟨by rfl, ?h2⟩) ?r2
  case h2 => (intro w; go_simp; try with_reducible rfl)
  refine wpAny_ready (rs := [1]) (by kernel_rfl) (by simp) ?_
  refine AllReady.cons rfl (fun K hK => ?_) AllReady.nil
  go_simp
  go_wp2_with (go_at_call 90; refine (CF.out _ goB).mono ?_; rintro e wy ⟨rfl, hby⟩)
  refine wpAny_ready (rs := [3]) (by kernel_rfl) (by simp) ?_
  refine AllReady.cons rfl (fun K hK => ?_) AllReady.nil
  go_simp
  refine hK _ _ ?_
  clear hK K
  refine wpAny_take (i := 4) (v := ?v4) rfl (by kernel_rfl) (by kernel_rfl) (by kernel_rfl) (fun _ _ _ h => h) (Or.inl ⟨by rfl, ?h4⟩) ?r4
  case h4 => (intro w; go_simp; try with_reducible rfl)
  refine wpAny_take (i := 5) (v := undef) rfl (by kernel_rfl) (by kernel_rfl) (by kernel_rfl) (fun _ _ _ h => h) (Or.inr ⟨by go_simp, rfl⟩) ?_
  refine wpAny_take (i := 6) (v := undef) rfl (by kernel_rfl) (by kernel_rfl) (by kernel_rfl) (fun _ _ _ h => h) (Or.inr ⟨by go_simp, rfl⟩) ?_
  refine wpAny_take (i := 7) (v := undef) rfl (by kernel_rfl) (by kernel_rfl) (by kernel_rfl) (fun _ _ _ h => h) (Or.inr ⟨by go_simp, rfl⟩) ?_
  refine wpAny_take (i := 8) (v := undef) rfl (by kernel_rfl) (by kernel_rfl) (by kernel_rfl) (fun _ _ _ h => h) (Or.inr ⟨by go_simp, rfl⟩) ?_
  refine wpAny_take (i := 9) (v := undef) rfl (by kernel_rfl) (by kernel_rfl) (by kernel_rfl) (fun _ _ _ h => h) (Or.inr ⟨by go_simp, rfl⟩) ?_
  refine wpAny_take (i := 10) (v := undef) rfl (by kernel_rfl) (by kernel_rfl) (by kernel_rfl) (fun _ _ _ h => h) (Or.inr ⟨by go_simp, rfl⟩) ?_
  refine wpAny_take (i := 11) (v := undef) rfl (by kernel_rfl) (by kernel_rfl) (by kernel_rfl) (fun _ _ _ h => h) (Or.inr ⟨by go_simp, rfl⟩) ?_
  refine wpAny_take (i := 12) (v := undef) rfl (by kernel_rfl) (by kernel_rfl) (by kernel_rfl) (fun _ _ _ h => h) (Or.inr ⟨by go_simp, rfl⟩) ?_
  refine wpAny_take (i := 13) (v := undef) rfl (by kernel_rfl) (by kernel_rfl) (by kernel_rfl) (fun _ _ _ h => h) (Or.inr ⟨by go_simp, rfl⟩) ?_
  refine wpAny_take (i := 14) (v := undef) rfl (by kernel_rfl) (by kernel_rfl) (by kernel_rfl) (fun _ _ _ h => h) (Or.inr ⟨by go_simp, rfl⟩) ?_
  refine wpAny_take (i := 15) (v := undef) rfl (by kernel_rfl) (by kernel_rfl) (by kernel_rfl) (fun _ _ _ h => h) (Or.inr ⟨by go_simp, rfl⟩) ?_
  refine wpAny_take (i := 16) (v := undef) rfl (by kernel_rfl) (by kernel_rfl) (by kernel_rfl) (fun _ _ _ h => h) (Or.inr ⟨by go_simp, rfl⟩) ?_
  refine wpAny_take (i := 17) (v := undef) rfl (by kernel_rfl) (by kernel_rfl) (by kernel_rfl) (fun _ _ _ h => h) (Or.inr ⟨by go_simp, rfl⟩) ?_
  refine wpAny_take (i := 18) (v := undef) rfl (by kernel_rfl) (by kernel_rfl) (by kernel_rfl) (fun _ _ _ h => h) (Or.inr ⟨by go_simp, rfl⟩) ?_
  refine wpAny_take (i := 19) (v := undef) rfl (by kernel_rfl) (by kernel_rfl) (by kernel_rfl) (fun _ _ _ h => h) (Or.inr ⟨by go_simp, rfl⟩) ?_
  refine wpAny_take (i := 20) (v := undef) rfl (by kernel_rfl) (by kernel_rfl) (by kernel_rfl) (fun _ _ _ h => h) (Or.inr ⟨by go_simp, rfl⟩) ?_
  refine wpAny_take (i := 21) (v := undef) rfl (by kernel_rfl) (by kernel_rfl) (by kernel_rfl) (fun _ _ _ h => h) (Or.inr ⟨by go_simp, rfl⟩) ?_
  refine wpAny_take (i := 22) (v := ?v22) rfl (by kernel_rfl) (by kernel_rfl) (by kernel_rfl) (fun _ _ _ h => h) (Or.inl ⟨by rfl, ?h22⟩) ?r22
  case h22 => (intro w; go_simp; try with_reducible rfl)
  refine wpAny_take (i := 23) (v := ?v23) rfl (by kernel_rfl) (by kernel_rfl) (by kernel_rfl) (fun _ _ _ h => h) (Or.inl ⟨by rfl, ?h23⟩) ?r23
  case h23 => (intro w; go_simp; try with_reducible rfl)
  refine wpAny_done (by kernel_rfl) ?_ _
  go_simp
  go_wp2
  go_ret
  rw [HPS.out, if_pos (.inl HZ.out)]
  exact ⟨rfl, ⟨_, _, OF1.out.below goB⟩, KT1.out.below goB⟩
 ·rw [decide_eq_false hz] at heq
  have HZ := Lib.hid hz
  clear hz
  have hsub : IntKind.i64.wrap (fe - paid) = fe - paid := by rw [IntKind.wrap_i64]; omega
  by_cases hlt : fe - paid < two
  ·have hdl : decide (fe - paid < two) = true := decide_eq_true hlt
   go_wp2_with fail
   go_region_held3 (fun W => W.cell? ⟨ob, 0, none⟩ = some (.slice (some ⟨b1, off1, none⟩) os.length c) ∧ W.cell? ⟨w.heap.size, 2, none⟩ = some (.int .i64 two) ∧ W.cell? ⟨b1, off1 + i * 3 + 2, none⟩ = some (.int .i64 paid)) (go_keep)
    ((go_at_call 90; refine (CF.out _ goB).mono ?_; rintro e wy ⟨rfl, hby⟩; (have kz1 : wy.cell? ⟨ob, 0, none⟩ = some (.slice (some ⟨b1, off1, none⟩) os.length c) := cB hby (by go_simp)); (have kz2 : wy.cell? ⟨w.heap.size, 2, none⟩ = some (.int .i64 two) := cB hby (by go_simp)); (have kz3 : wy.cell? ⟨b1, off1 + i * 3 + 2, none⟩ = some (.int .i64 paid) := cB hby (by go_simp))))
   go_wp2
   go_ret
   rw [HPS.out, if_pos (.inr (by rw [HFE.out]; exact hlt))]
   exact ⟨rfl, ⟨_, _, OF1.out.below goB⟩, KT1.out.below goB⟩
  ·have hdl : decide (fe - paid < two) = false := decide_eq_false hlt
   go_wp2_with fail
   go_region_held3 (fun W => W.cell? ⟨ob, 0, none⟩ = some (.slice (some ⟨b1, off1, none⟩) os.length c) ∧ W.cell? ⟨w.heap.size, 2, none⟩ = some (.int .i64 two) ∧ W.cell? ⟨b1, off1 + i * 3 + 2, none⟩ = some (.int .i64 paid)) (go_keep)
    ((go_at_call 90; refine (CF.out _ goB).mono ?_; rintro e wy ⟨rfl, hby⟩; (have kz1 : wy.cell? ⟨ob, 0, none⟩ = some (.slice (some ⟨b1, off1, none⟩) os.length c) := cB hby (by go_simp)); (have kz2 : wy.cell? ⟨w.heap.size, 2, none⟩ = some (.int .i64 two) := cB hby (by go_simp)); (have kz3 : wy.cell? ⟨b1, off1 + i * 3 + 2, none⟩ = some (.int .i64 paid) := cB hby (by go_simp))))
   have HB2 := Lib.hid (show Below w1.heap.size w1 wy from goB)
   have OF2 := Lib.hid (OF1.out.below HB2.out)
   have KT2 := Lib.hid (KT1.out.below HB2.out)
   have HLT := Lib.hid hlt
   clear hby q0 q1 d0 d1 d2 OF1 KT1 HB2 kx2 CF heq hix20 hlt
   have BD : Below wy.heap.size wy wy.drew := belowD (Below.refl _ _)
   have hadd : IntKind.i64.wrap (paid + two) = paid + two := by have := HLT.out; rw [IntKind.wrap_i64]; omega
   obtain ⟨g, cap, hv, hbg, ⟨cs, hcs2⟩, hfz, ho, hg⟩ := (OF2.out.o1.below BD).set_ encO (i := i) (j := 2) (u := .int .i64 (paid + two)) (x' := ⟨num, mark, paid + two⟩) hi (by rw [← HY.out]; rfl) (by omega)
   injection hv with ha
   injection ha with ha
   injection ha with ha1 ha2
   subst ha1 ha2
   have OF3 := Lib.hid ((OF2.out.below BD).own1 ho hg)
   have KT3 := Lib.hid ((KT2.out.below BD).trans (Kt.own1 (OF2.out.below BD) hg))
   clear ho hg BD
   simp only [Nat.zero_add] at kz1 kz2 kz3
   go_wp2_with fail
   go_region
   all_goals
    go_wp2
    go_ret
    rw [HPS.out]
    rw [if_neg (fun h => h.elim HZ.out (by rw [HFE.out]; have := HLT.out; omega))]
    exact ⟨rfl, ⟨_, _, OF3.out⟩, KT3.out⟩
end Go.Proofs.YtcnpbcgkhhebaaaGreatDoor
/- A line is done. -/
namespace Go.Proofs.YtcnpbcgkhhebaaaGreatDoor
open Go.RowKit

def wLog : ByteArray := ⟨#[108, 111, 103]⟩
def wClaim : ByteArray := ⟨#[99, 108, 97, 105, 109]⟩
def wRaft : ByteArray := ⟨#[114, 97, 102, 116]⟩
def wPay : ByteArray := ⟨#[112, 97, 121]⟩
def wMark : ByteArray := ⟨#[109, 97, 114, 107]⟩
def wStrike : ByteArray := ⟨#[115, 116, 114, 105, 107, 101]⟩
def doS (os : List Ow) (ls : List Lg) (x : Ln) : List Ow × List Lg × Int :=
 if x.word = wLog then comeS os ls x else if x.word = wClaim then claimS os ls x else if x.word = wRaft then raftS os ls x else if x.word = wPay then payS os ls x else markS os ls x

/-- What a season that is played keeps. -/
structure Good (os : List Ow) (ls : List Lg) : Prop where
 os20 : os.length ≤ 20
 ls100 : ls.length ≤ 100
 rising : Rising os
 marks : Marks os
 asc : ∀ x ∈ os, Asc x.mark
 seen : ∀ l ∈ ls, Asc l.seen
 feet : ∀ l ∈ ls, 1 ≤ l.feet ∧ l.feet ≤ 10000
 paid : ∀ y ∈ os, 0 ≤ y.paid ∧ y.paid ≤ 1000000
/-- What a line keeps. -/
structure LnOk (x : Ln) : Prop where
 letters : isSeenB x.letters = true
 two : 0 ≤ x.two ∧ x.two ≤ 1099511627776
 feet : x.word = wLog → 1 ≤ x.two ∧ x.two ≤ 10000
theorem LnOk.asc {x : Ln} (h : LnOk x) : Asc x.letters := asc_of_seen h.letters

theorem word_eq (a b : ByteArray) : (a.toList == b.toList) = decide (a = b) := by
 by_cases h : a = b
 ·simp [h]
 ·rw [decide_eq_false h, beq_eq_false_iff_ne]
  intro e
  rw [ByteArray.toList_eq, ByteArray.toList_eq] at e
  exact h (Go.WideShapes.bytes_inj e)

set_option maxRecDepth 100000 in
set_option maxHeartbeats 400000 in
theorem do_walk (ob : Nat) (word letters text : ByteArray) (one two n : Int) (b1 b2 b3 b4 : Bool) (w : World) (_hob : ob < w.heap.size) (Q : World → Prop)
  (e1 : (word.toList == [108, 111, 103]) = b1) (e2 : (word.toList == [99, 108, 97, 105, 109]) = b2) (e3 : (word.toList == [114, 97, 102, 116]) = b3) (e4 : (word.toList == [112, 97, 121]) = b4)
  (h : Calls Tryz.prog (if b1 then 133 else if b2 then 134 else if b3 then 135 else if b4 then 136 else 132) #[.pointer (some ⟨ob, 0, none⟩), .agg #[.string word, .int .i64 one, .int .i64 two, .string letters, .string text]] (w.alloc (.cells #[.string word, .int .i64 one, .int .i64 two, .string letters, .string text] 108)) fun e w' => e = .returned (.int .i64 n) ∧ Q w') :
  Calls Tryz.prog 99 #[.pointer (some ⟨ob, 0, none⟩), .agg #[.string word, .int .i64 one, .int .i64 two, .string letters, .string text]] w fun e w' => e = .returned (.int .i64 n) ∧ Q w' := by
 cases b1
 ·cases b2
  ·cases b3
   ·cases b4
    ·simp only [Bool.false_eq_true, if_false] at h
     go_enter Tryz.func99, Tryz.ntmps99
     go_wp2_with (go_at_call 132; refine h.mono ?_; rintro e w1 ⟨rfl, hw1⟩)
     go_ret
     exact ⟨rfl, hw1⟩
    ·simp only [Bool.false_eq_true, if_false, if_true] at h
     go_enter Tryz.func99, Tryz.ntmps99
     go_wp2_with (go_at_call 136; refine h.mono ?_; rintro e w1 ⟨rfl, hw1⟩)
     go_ret
     exact ⟨rfl, hw1⟩
   ·simp only [Bool.false_eq_true, if_false, if_true] at h
    go_enter Tryz.func99, Tryz.ntmps99
    go_wp2_with (go_at_call 135; refine h.mono ?_; rintro e w1 ⟨rfl, hw1⟩)
    go_ret
    exact ⟨rfl, hw1⟩
  ·simp only [Bool.false_eq_true, if_false, if_true] at h
   go_enter Tryz.func99, Tryz.ntmps99
   go_wp2_with (go_at_call 134; refine h.mono ?_; rintro e w1 ⟨rfl, hw1⟩)
   go_ret
   exact ⟨rfl, hw1⟩
 ·simp only [if_true] at h
  go_enter Tryz.func99, Tryz.ntmps99
  go_wp2_with (go_at_call 133; refine h.mono ?_; rintro e w1 ⟨rfl, hw1⟩)
  go_ret
  exact ⟨rfl, hw1⟩

theorem do_any (base ob : Nat) (rest : List Value) (t : TypeId) (v1 v2 : Value) (os : List Ow) (ls : List Lg) (x : Ln) (w : World) (h : Off0 base w ob rest t v1 v2 os ls) (hg : Good os ls) (hx : LnOk x) :
  Calls Tryz.prog 99 #[.pointer (some ⟨ob, 0, none⟩), .agg (eN x).toArray] w (DoR base w ob rest t (doS os ls x)) := by
 have B1 := below_a1 w (.cells (eN x).toArray 108)
 have h1 := h.below B1
 have e1 := word_eq x.word wLog
 have e2 := word_eq x.word wClaim
 have e3 := word_eq x.word wRaft
 have e4 := word_eq x.word wPay
 rw [ByteArray.toList_eq wLog] at e1
 rw [ByteArray.toList_eq wClaim] at e2
 rw [ByteArray.toList_eq wRaft] at e3
 rw [ByteArray.toList_eq wPay] at e4
 refine (do_walk ob x.word x.letters x.text x.one x.two (doS os ls x).2.2 _ _ _ _ w h.lt (fun w' => (∃ v1 v2, Off0 base w' ob rest t v1 v2 (doS os ls x).1 (doS os ls x).2.1) ∧ Kt base ob (w.alloc (.cells (eN x).toArray 108)) w') e1 e2 e3 e4 ?_).mono ?_
 ·unfold doS
  by_cases w1 : x.word = wLog
  ·rw [if_pos w1, decide_eq_true w1, if_pos rfl]
   exact come_any base ob rest t v1 v2 os ls x _ h1 hg.os20 hg.ls100 hg.marks hg.rising hg.asc hx.asc
  ·rw [if_neg w1, decide_eq_false w1, if_neg Bool.false_ne_true]
   by_cases w2 : x.word = wClaim
   ·rw [if_pos w2, decide_eq_true w2, if_pos rfl]
    exact claim_any base ob rest t v1 v2 os ls x _ h1 hg.asc hg.seen
   ·rw [if_neg w2, decide_eq_false w2, if_neg Bool.false_ne_true]
    by_cases w3 : x.word = wRaft
    ·rw [if_pos w3, decide_eq_true w3, if_pos rfl]
     exact raft_any base ob rest t v1 v2 os ls x _ h1 hg.ls100 hx.two.1
    ·rw [if_neg w3, decide_eq_false w3, if_neg Bool.false_ne_true]
     by_cases w4 : x.word = wPay
     ·rw [if_pos w4, decide_eq_true w4, if_pos rfl]
      exact pay_any base ob rest t v1 v2 os ls x _ h1 hg.os20 hg.ls100 hg.feet hg.paid ⟨by have := hx.two.1; omega, hx.two.2⟩
     ·rw [if_neg w4, decide_eq_false w4, if_neg Bool.false_ne_true]
      exact mark_any base ob rest t v1 v2 os ls x _ h1 hg.os20 hg.rising
 ·rintro e w' ⟨rfl, ho, hk⟩
  exact ⟨rfl, ho, ((Kt.refl _ _ _).below B1).trans hk⟩
end Go.Proofs.YtcnpbcgkhhebaaaGreatDoor
/- What a played season keeps. -/
namespace Go.Proofs.YtcnpbcgkhhebaaaGreatDoor
open Go.RowKit

theorem ins_mem {y x : Ow} {os : List Ow} : x ∈ ins y os ↔ x ∈ os ∨ x = y := by rw [(ins_perm y os).mem_iff]; simp
theorem ba_toList {a b : ByteArray} (h : a.toList = b.toList) : a = b := by
 rw [ByteArray.toList_eq, ByteArray.toList_eq] at h
 exact Go.WideShapes.bytes_inj h

theorem good_mark {os : List Ow} {ls : List Lg} {x : Ln} (h : Good os ls) (hx : LnOk x) : Good (markS os ls x).1 (markS os ls x).2.1 := by
 unfold markS
 split
 ·exact h
 ·rename_i h1
  rw [not_or] at h1
  split
  ·exact h
  ·rename_i h2
   have hn : ∀ z ∈ os, z.num ≠ x.one := fun z hz e => by
    have := idxI_neg (p := fun y : Ow => y.num == x.one) h1.1 z hz
    rw [beq_eq_false_iff_ne] at this
    exact this e
   refine ⟨by rw [ins_len]; have := h.os20; omega, h.ls100, ins_rising _ _ h.rising hn, ?_, ?_, h.seen, h.feet, ?_⟩
   ·rw [Marks, ((ins_perm _ os).map (·.mark)).nodup_iff, List.map_append, List.nodup_append]
    refine ⟨h.marks, by simp, fun a ha b hb e => ?_⟩
    obtain ⟨z, hz, rfl⟩ := List.mem_map.1 ha
    simp only [List.map_cons, List.map_nil, List.mem_singleton] at hb
    subst hb
    refine h1.2 (List.any_eq_true.2 ⟨z, hz, ?_⟩)
    rw [beq_iff_eq, e]
   ·intro z hz
    rcases ins_mem.1 hz with hz | rfl
    ·exact h.asc z hz
    ·exact hx.asc
   ·intro z hz
    rcases ins_mem.1 hz with hz | rfl
    ·exact h.paid z hz
    ·exact ⟨Int.le_refl _, by simp only; omega⟩
theorem good_come {os : List Ow} {ls : List Lg} {x : Ln} (h : Good os ls) (hx : LnOk x) (hw : x.word = wLog) : Good (comeS os ls x).1 (comeS os ls x).2.1 := by
 unfold comeS
 split
 ·exact h
 ·split
  ·exact h
  ·rename_i h2
   refine ⟨h.os20, by have := h.ls100; simp only [List.length_append, List.length_cons, List.length_nil]; omega, h.rising, h.marks, h.asc, ?_, ?_, h.paid⟩
   ·intro l hl
    rcases List.mem_append.1 hl with hl | hl
    ·exact h.seen l hl
    ·rw [List.mem_singleton] at hl; subst hl; exact hx.asc
   ·intro l hl
    rcases List.mem_append.1 hl with hl | hl
    ·exact h.feet l hl
    ·rw [List.mem_singleton] at hl; subst hl; exact hx.feet hw
theorem good_logs {os : List Ow} {ls ls' : List Lg} (h : Good os ls) (hl : ls'.length = ls.length) (hm : ∀ l ∈ ls', ∃ k ∈ ls, l.seen = k.seen ∧ l.feet = k.feet) : Good os ls' :=
 ⟨h.os20, by rw [hl]; exact h.ls100, h.rising, h.marks, h.asc, fun l hl => by obtain ⟨k, hk, e, _⟩ := hm l hl; rw [e]; exact h.seen k hk, fun l hl => by obtain ⟨k, hk, _, e⟩ := hm l hl; rw [e]; exact h.feet k hk, h.paid⟩
theorem good_claim {os : List Ow} {ls : List Lg} {x : Ln} (h : Good os ls) : Good (claimS os ls x).1 (claimS os ls x).2.1 := by
 unfold claimS
 split
 ·exact h
 ·split
  ·exact h
  ·rename_i l hl
   split
   ·exact h
   ·split
    ·refine good_logs h (by simp) fun k hk => ?_
     rcases List.mem_or_eq_of_mem_set hk with hk | rfl
     ·exact ⟨k, hk, rfl, rfl⟩
     ·exact ⟨l, List.mem_of_getElem? hl, rfl, rfl⟩
    ·exact h
theorem gone_mem {ls : List Lg} {i : Int} : ∀ l ∈ goneAt ls i, ∃ k ∈ ls, l.seen = k.seen ∧ l.feet = k.feet := by
 intro k hk
 unfold goneAt at hk
 split at hk
 ·rename_i l hl
  rcases List.mem_or_eq_of_mem_set hk with hk | rfl
  ·exact ⟨k, hk, rfl, rfl⟩
  ·exact ⟨l, List.mem_of_getElem? hl, rfl, rfl⟩
 ·exact ⟨k, hk, rfl, rfl⟩
theorem gones_mem (ix : List Int) : ∀ ls : List Lg, ∀ l ∈ ix.foldl goneAt ls, ∃ k ∈ ls, l.seen = k.seen ∧ l.feet = k.feet := by
 induction ix with
 | nil => intro ls l hl; exact ⟨l, hl, rfl, rfl⟩
 | cons i ix ih =>
  intro ls l hl
  obtain ⟨k, hk, e1, e2⟩ := ih _ l hl
  obtain ⟨k2, hk2, e3, e4⟩ := gone_mem k hk
  exact ⟨k2, hk2, e1.trans e3, e2.trans e4⟩
theorem good_raft {os : List Ow} {ls : List Lg} {x : Ln} (h : Good os ls) : Good (raftS os ls x).1 (raftS os ls x).2.1 := by
 unfold raftS
 split
 ·exact h
 ·split
  ·exact h
  ·exact good_logs h (gones_len _ _) (gones_mem _ _)
theorem map_set {α β : Type} (f : α → β) {l : List α} {i : Nat} {y z : α} (hi : l[i]? = some y) (h : f z = f y) : (l.set i z).map f = l.map f := by
 rw [List.map_set, h]
 refine List.ext_getElem? fun j => ?_
 rw [List.getElem?_set]
 split
 ·rename_i e
  subst e
  split
  ·rw [List.getElem?_map, hi]; rfl
  ·rename_i h2
   rw [List.getElem?_eq_none (by omega)]
 ·rfl
theorem good_pay {os : List Ow} {ls : List Lg} {x : Ln} (h : Good os ls) (hx : LnOk x) : Good (payS os ls x).1 (payS os ls x).2.1 := by
 unfold payS
 split
 ·exact h
 ·split
  ·exact h
  ·rename_i y hy
   split
   ·exact h
   ·rename_i h2
    rw [not_or] at h2
    have hf := feeAt_bd (os := os) h.feet (ownIx os x.one)
    have hl := h.ls100
    have h0 := hx.two.1
    have hp := h.paid y (List.mem_of_getElem? hy)
    refine ⟨by rw [List.length_set]; exact h.os20, h.ls100, ?_, ?_, ?_, h.seen, h.feet, ?_⟩
    ·unfold Rising; rw [map_set (·.num) hy]; exact h.rising; rfl
    ·unfold Marks; rw [map_set (·.mark) hy]; exact h.marks; rfl
    ·intro z hz
     rcases List.mem_or_eq_of_mem_set hz with hz | rfl
     ·exact h.asc z hz
     ·exact h.asc y (List.mem_of_getElem? hy)
    ·intro z hz
     rcases List.mem_or_eq_of_mem_set hz with hz | rfl
     ·exact h.paid z hz
     ·simp only; omega
theorem good_do {os : List Ow} {ls : List Lg} {x : Ln} (h : Good os ls) (hx : LnOk x) : Good (doS os ls x).1 (doS os ls x).2.1 := by
 unfold doS
 split
 ·rename_i hw; exact good_come h hx hw
 ·split
  ·exact good_claim h
  ·split
   ·exact good_raft h
   ·split
    ·exact good_pay h hx
    ·exact good_mark h hx
theorem good_nil : Good [] [] := ⟨by simp, by simp, by simp [Rising], by simp [Marks], by simp, by simp, by simp, by simp⟩
end Go.Proofs.YtcnpbcgkhhebaaaGreatDoor
/- Numbers and words of the lines. -/
namespace Go.Proofs.YtcnpbcgkhhebaaaGreatDoor
open Go.RowKit

def decV (acc : Nat) : List UInt8 → Nat
 | [] => acc
 | c :: r => decV (acc * 10 + (c.toNat - 48)) r
def isDig (c : UInt8) : Bool := decide (48 ≤ c.toNat) && decide (c.toNat ≤ 57)
theorem decV_lt : ∀ (l : List UInt8) (acc k : Nat), (∀ c ∈ l, isDig c = true) → acc < 10 ^ k → decV acc l < 10 ^ (k + l.length)
 | [], acc, k, _, h => by
  unfold decV
  rw [List.length_nil, Nat.add_zero]
  exact h
 | c :: r, acc, k, hd, h => by
  have h1 := hd c List.mem_cons_self
  simp only [isDig, Bool.and_eq_true, decide_eq_true_eq] at h1
  have := decV_lt r (acc * 10 + (c.toNat - 48)) (k + 1) (fun x hx => hd x (List.mem_cons_of_mem _ hx)) (by rw [Nat.pow_succ]; omega)
  unfold decV
  rw [List.length_cons, show k + (r.length + 1) = k + 1 + r.length by omega]
  exact this
theorem parseM {M : Nat} : ∀ (l : List UInt8) (acc k : Nat), (∀ c ∈ l, isDig c = true) → acc < 10 ^ k → 10 ^ (k + l.length) ≤ M → M < 18446744073709551616 → Lib.parseUintM M acc l = .ok (decV acc l)
 | [], acc, k, _, _, _, _ => rfl
 | c :: r, acc, k, hd, h, hM, hM2 => by
  have h1 := hd c List.mem_cons_self
  simp only [isDig, Bool.and_eq_true, decide_eq_true_eq] at h1
  have hp : acc * 10 + (c.toNat - 48) < 10 ^ (k + 1) := by rw [Nat.pow_succ]; omega
  have hle : 10 ^ (k + 1) ≤ 10 ^ (k + (r.length + 1)) := Nat.pow_le_pow_right (by omega) (by omega)
  rw [List.length_cons] at hM
  unfold Lib.parseUintM decV
  rw [if_pos h1, if_neg (by omega), if_neg (by omega)]
  exact parseM r _ (k + 1) (fun x hx => hd x (List.mem_cons_of_mem _ hx)) hp (by rw [show k + 1 + r.length = k + (r.length + 1) by omega]; exact hM) hM2
theorem parse64 {l : List UInt8} (hd : ∀ c ∈ l, isDig c = true) (h0 : l ≠ []) (h18 : l.length ≤ 18) : Lib.parseIntB 64 l = .ok (decV 0 l : Int) := by
 have hm := parseM (M := 2 ^ 64 - 1) l 0 0 hd (by simp) (by
  rw [Nat.zero_add]
  exact Nat.le_trans (Nat.pow_le_pow_right (by omega) h18) (by decide)) (by decide)
 have hlt := decV_lt l 0 0 hd (by simp)
 rw [Nat.zero_add] at hlt
 have h63 : 10 ^ l.length ≤ 10 ^ 18 := Nat.pow_le_pow_right (by omega) h18
 match l, h0 with
 | c :: r, _ =>
  have h1 := hd c List.mem_cons_self
  simp only [isDig, Bool.and_eq_true, decide_eq_true_eq] at h1
  rw [Lib.parseIntB_plain 64 c r (by omega) (by omega)]
  unfold Lib.parseUintB
  rw [if_neg (by simp), hm]
  unfold Lib.signlessC
  have : ¬ 2 ^ (64 - 1) ≤ decV 0 (c :: r) := by
   have : (10 : Nat) ^ 18 < 2 ^ 63 := by decide
   show ¬ 2 ^ 63 ≤ _
   omega
  simp [this]
end Go.Proofs.YtcnpbcgkhhebaaaGreatDoor
/- digits, isWord. -/
namespace Go.Proofs.YtcnpbcgkhhebaaaGreatDoor
open Go.RowKit

theorem drop_twice {α : Type} (p : α → Bool) : ∀ l : List α, (l.dropWhile p).dropWhile p = l.dropWhile p
 | [] => rfl
 | x :: xs => by
  cases h : p x with
  | true => simp only [List.dropWhile_cons, h, if_true]; exact drop_twice p xs
  | false => simp only [List.dropWhile_cons, h, Bool.false_eq_true, if_false]
theorem drop_all {α : Type} (p : α → Bool) (l : List α) : l.dropWhile p = [] ↔ l.all p = true := by
 induction l with
 | nil => simp
 | cons x xs ih =>
  cases h : p x with
  | true => simp only [List.dropWhile_cons, h, if_true, List.all_cons, Bool.true_and]; exact ih
  | false => simp [h]
theorem trimS_nil (l cs : List UInt8) : (Lib.trimS l cs).isEmpty = l.all (cs.contains ·) := by
 rw [Bool.eq_iff_iff, List.isEmpty_iff]
 unfold Lib.trimS Lib.trimLeftS Lib.trimRightS
 rw [drop_all, List.all_reverse]
 constructor
 ·intro h
  have := (drop_all _ _).2 h
  rw [drop_twice] at this
  have := (drop_all _ _).1 this
  rwa [List.all_reverse] at this
 ·intro h
  rw [(drop_all _ _).2 (by rw [List.all_reverse]; exact h)]
  rfl
def cDig : ByteArray := ⟨#[48, 49, 50, 51, 52, 53, 54, 55, 56, 57]⟩
def cLow : ByteArray := ⟨#[97, 98, 99, 100, 101, 102, 103, 104, 105, 106, 107, 108, 109, 110, 111, 112, 113, 114, 115, 116, 117, 118, 119, 120, 121, 122]⟩
def isLow (c : UInt8) : Bool := decide (97 ≤ c.toNat) && decide (c.toNat ≤ 122)
theorem dig_cs (b : UInt8) : cDig.data.toList.contains b = isDig b := by
 rw [Bool.eq_iff_iff]
 simp only [cDig, isDig, List.contains_iff_mem, List.mem_cons, List.not_mem_nil, or_false, ← UInt8.toNat_inj, Bool.and_eq_true, decide_eq_true_eq, UInt8.reduceToNat]
 omega
theorem low_cs (b : UInt8) : cLow.data.toList.contains b = isLow b := by
 rw [Bool.eq_iff_iff]
 simp only [cLow, isLow, List.contains_iff_mem, List.mem_cons, List.not_mem_nil, or_false, ← UInt8.toNat_inj, Bool.and_eq_true, decide_eq_true_eq, UInt8.reduceToNat]
 omega
theorem trim_any (s cs : ByteArray) (p : UInt8 → Bool) (hcs : ∀ b, cs.data.toList.contains b = p b) (hs : s.size ≤ 9223372036854775807) (hc : cs.size < 4294967281) (ha : ∀ (j : Nat) b, cs.data.toList[j]? = some b → b.toNat < 128) (w : World) :
  Calls Tryz.prog 151 #[.string s, .string cs] w fun e w' => (∃ T : ByteArray, e = .returned (.string T) ∧ T.toList.isEmpty = s.data.toList.all p) ∧ Below w.heap.size w w' := by
 have h := Any.strings_Trim_laid Tryz.lays160 (by kernel_rfl) s cs w hs hc ha
 change Calls Tryz.prog 151 _ _ _ at h
 refine h.mono ?_
 rintro e w' ⟨rfl, hb⟩
 refine ⟨⟨_, rfl, ?_⟩, hb⟩
 rw [ByteArray.toList_eq]
 show (Lib.trimS _ _).isEmpty = _
 rw [trimS_nil]
 congr 1
 funext b
 exact hcs b
theorem trim_dig (s : ByteArray) (hs : s.size ≤ 9223372036854775807) (w : World) : Calls Tryz.prog 151 #[.string s, .string ⟨#[48, 49, 50, 51, 52, 53, 54, 55, 56, 57]⟩] w fun e w' => (∃ T : ByteArray, e = .returned (.string T) ∧ T.toList.isEmpty = s.data.toList.all isDig) ∧ Below w.heap.size w w' :=
 trim_any s cDig isDig dig_cs hs (by decide) (ascii_of_all (by decide)) w
theorem trim_low (s : ByteArray) (hs : s.size ≤ 9223372036854775807) (w : World) : Calls Tryz.prog 151 #[.string s, .string ⟨#[97, 98, 99, 100, 101, 102, 103, 104, 105, 106, 107, 108, 109, 110, 111, 112, 113, 114, 115, 116, 117, 118, 119, 120, 121, 122]⟩] w fun e w' => (∃ T : ByteArray, e = .returned (.string T) ∧ T.toList.isEmpty = s.data.toList.all isLow) ∧ Below w.heap.size w w' :=
 trim_any s cLow isLow low_cs hs (by decide) (ascii_of_all (by decide)) w

def wordB (s : ByteArray) : Bool := !s.toList.isEmpty && s.data.toList.all isLow
set_option maxHeartbeats 1000000 in
theorem isWord_any (s : ByteArray) (hs : s.size ≤ 9223372036854775807) (w : World) : Calls Tryz.prog 109 #[.string s] w fun e w' => e = .returned (.bool (wordB s)) ∧ Below w.heap.size w w' := by
 have ht := trim_low s hs
 unfold wordB
 cases h0 : s.toList.isEmpty with
 | true =>
  go_enter Tryz.func109, Tryz.ntmps109
  go_wp2
  go_ret
  exact ⟨rfl, Below.refl _ _⟩
 | false =>
  go_enter Tryz.func109, Tryz.ntmps109
  go_wp2_with fail
  refine (ht _).mono ?_
  clear ht
  rintro e w1 ⟨⟨T, rfl, hT⟩, hb⟩
  obtain ⟨r, hr⟩ : ∃ r, s.data.toList.all isLow = r := ⟨_, rfl⟩
  rw [hr] at hT
  have HR := Lib.hid hr
  clear hr
  go_wp2
  go_ret
  exact ⟨ret_bool (by rw [HR.out]; rfl), hb⟩

/-- What a number's digits say. -/
def numOk (s : ByteArray) : Bool := !decide (18 < s.size) && s.data.toList.all isDig && !s.toList.isEmpty && !(decide (s.data.toList[0]? = some 48) && decide (1 < s.size))
def numV (s : ByteArray) : Int := if numOk s then (decV 0 s.data.toList : Int) else 0

set_option maxHeartbeats 1000000 in
theorem digits_any (s : ByteArray) (hs : s.size ≤ 9223372036854775806) (w : World) : Calls Tryz.prog 108 #[.string s] w fun e w' => e = .returned (.tuple #[.int .i64 (numV s), .bool (numOk s)]) ∧ Below w.heap.size w w' := by
 have ht := trim_dig s (by omega)
 by_cases h1 : 18 < s.size
 ·have hd1 : decide (18 < s.size) = true := decide_eq_true h1
  have hd1i : decide (18 < (s.size : Int)) = true := decide_eq_true (by omega)
  have hno : numOk s = false := by unfold numOk; rw [hd1]; rfl
  have HNO := Lib.hid hno
  clear hno
  go_enter Tryz.func108, Tryz.ntmps108
  go_wp2
  go_ret2
  unfold numV
  rw [HNO.out]
  exact ⟨rfl, Below.refl _ _⟩
 have hd1 : decide (18 < s.size) = false := decide_eq_false h1
 have hd1i : decide (18 < (s.size : Int)) = false := decide_eq_false (by omega)
 go_enter Tryz.func108, Tryz.ntmps108
 go_wp2_with fail
 refine (ht _).mono ?_
 clear ht
 rintro e w1 ⟨⟨T, rfl, hT⟩, hb⟩
 cases hr : s.data.toList.all isDig with
 | false =>
  rw [hr] at hT
  have hno : numOk s = false := by unfold numOk; rw [hr, hd1]; rfl
  have HNO := Lib.hid hno
  clear hno hr
  go_wp2
  go_ret2
  unfold numV
  rw [HNO.out]
  exact ⟨rfl, hb⟩
 | true =>
  rw [hr] at hT
  cases h0 : s.toList.isEmpty with
  | true =>
   have hno : numOk s = false := by unfold numOk; rw [hr, hd1, h0]; rfl
   have HNO := Lib.hid hno
   clear hno hr
   go_wp2
   go_ret2
   unfold numV
   rw [HNO.out]
   exact ⟨rfl, hb⟩
  | false =>
   have hs0 : 0 < s.size := by
    rcases Nat.eq_zero_or_pos s.size with h | h
    ·exfalso
     rw [ByteArray.toList_eq] at h0
     have : s.data.toList = [] := List.eq_nil_of_length_eq_zero (by simpa using h)
     rw [this] at h0
     cases h0
    ·exact h
   have hs0i : (0 : Int) < (s.size : Int) := by omega
   have HRD := Lib.hid hr
   have H0 := Lib.hid h0
   clear hr
   have hat : s.data.toList[0]? = some s[0] := by
    rw [List.getElem?_eq_getElem (by simpa using hs0)]
    rfl
   have HAT := Lib.hid hat
   clear hat
   by_cases h48 : s[0].toNat = 48
   ·have hd48 : (((s[0].toNat : Nat) : Int) == 48) = true := by simp [h48]
    by_cases hs1 : 1 < s.size
    ·have hd2 : decide (1 < s.size) = true := decide_eq_true hs1
     have hd2i : decide (1 < (s.size : Int)) = true := decide_eq_true (by omega)
     have hno : numOk s = false := by
      unfold numOk
      rw [HAT.out, hd2]
      have : s[0] = 48 := UInt8.toNat_inj.1 (by rw [h48]; rfl)
      rw [this]
      simp
     have HNO := Lib.hid hno
     clear hno
     go_wp2
     go_ret2
     unfold numV
     rw [HNO.out]
     exact ⟨rfl, hb⟩
    have hd2 : decide (1 < s.size) = false := decide_eq_false hs1
    have hd2i : decide (1 < (s.size : Int)) = false := decide_eq_false (by omega)
    have hok : numOk s = true := by
     unfold numOk
     rw [HRD.out, hd1, H0.out, HAT.out]
     simp only [Bool.not_false, Bool.and_self, Bool.true_and, Bool.not_eq_true', Bool.and_eq_false_iff, decide_eq_false_iff_not]
     exact .inr hs1
    have HOK := Lib.hid hok
    have hsz : s.data.toList.length = s.size := by simp
    have hne : s.data.toList ≠ [] := fun e => by
     rw [e] at hsz
     simp only [List.length_nil] at hsz
     omega
    have hpi := Tryz.strconv_ParseInt_10_at64_ok s hs (decV 0 s.data.toList : Int) (parse64 (fun c hc => List.all_eq_true.1 HRD.out c hc) hne (by rw [hsz]; omega)) w1
    clear hok hsz hne
    have hv : numV s = (decV 0 s.data.toList : Int) := by unfold numV; rw [HOK.out]; rfl
    have HV := Lib.hid hv
    rw [← hv] at hpi
    clear hv
    go_wp2_with fail
    refine hpi.mono ?_
    clear hpi
    rintro e w2 ⟨rfl, hw2⟩
    have hb2 : Below w1.heap.size w1 w2 := by
     rcases hw2 with rfl | ⟨t, rfl⟩
     ·exact Below.refl _ _
     ·exact Lib.bytesWorld_below w1 5 t
    clear hw2
    go_wp2_with fail
    go_quiet (fail)
    go_wp2
    go_ret2
    rw [HOK.out]
    exact ⟨rfl, below2 hb goB⟩
   ·have hd48 : (((s[0].toNat : Nat) : Int) == 48) = false := by simp; omega
    have hok : numOk s = true := by
     unfold numOk
     rw [HRD.out, hd1, H0.out, HAT.out]
     simp only [Bool.not_false, Bool.and_self, Bool.true_and, Bool.not_eq_true', Bool.and_eq_false_iff, decide_eq_false_iff_not]
     exact .inl fun e => h48 (by rw [Option.some.inj e]; rfl)
    have HOK := Lib.hid hok
    have hsz : s.data.toList.length = s.size := by simp
    have hne : s.data.toList ≠ [] := fun e => by
     rw [e] at hsz
     simp only [List.length_nil] at hsz
     omega
    have hpi := Tryz.strconv_ParseInt_10_at64_ok s hs (decV 0 s.data.toList : Int) (parse64 (fun c hc => List.all_eq_true.1 HRD.out c hc) hne (by rw [hsz]; omega)) w1
    clear hok hsz hne
    have hv : numV s = (decV 0 s.data.toList : Int) := by unfold numV; rw [HOK.out]; rfl
    have HV := Lib.hid hv
    rw [← hv] at hpi
    clear hv
    go_wp2_with fail
    refine hpi.mono ?_
    clear hpi
    rintro e w2 ⟨rfl, hw2⟩
    have hb2 : Below w1.heap.size w1 w2 := by
     rcases hw2 with rfl | ⟨t, rfl⟩
     ·exact Below.refl _ _
     ·exact Lib.bytesWorld_below w1 5 t
    clear hw2
    go_wp2_with fail
    go_quiet (fail)
    go_wp2
    go_ret2
    rw [HOK.out]
    exact ⟨rfl, below2 hb goB⟩
end Go.Proofs.YtcnpbcgkhhebaaaGreatDoor
/- The library's contracts as the text side uses them; what the world holds laid; mosts. -/
namespace Go.Proofs.YtcnpbcgkhhebaaaGreatDoor
open Go.RowKit

/-- What the library's package-level variables hold. -/
structure LaidW (w : World) : Prop where
 tab : Lib.TabIs Tryz.prog w "internal/strconv.uint64pow10" .u64 Lib.pow10Tab
 mx : ∃ m, w.cell? ⟨1, 0, none⟩ = some (.int .i64 m)
theorem glob0 : Tryz.prog.globalNamed "internal/strconv.uint64pow10" = some 0 := by kernel_rfl
theorem LaidW.size {w : World} (h : LaidW w) : 2 ≤ w.heap.size := by
 obtain ⟨m, hm⟩ := h.mx
 have := World.block_lt_of_cell? w _ hm
 exact this
theorem LaidW.of {w w' : World} (h : LaidW w) (hk : ∀ k, k < 2 → w'.heap[k]? = w.heap[k]?) : LaidW w' := by
 refine ⟨?_, ?_⟩
 ·have := h.tab
  unfold Lib.TabIs World.var? at this ⊢
  rw [glob0] at this ⊢
  simp only [Option.bind_some] at this ⊢
  rw [hk 0 (by omega)]
  exact this
 ·obtain ⟨m, hm⟩ := h.mx
  exact ⟨m, (World.cell?_of_block (hk 1 (by omega))).trans hm⟩
theorem LaidW.below {w w' : World} (h : LaidW w) (hb : Below w.heap.size w w') : LaidW w' := h.of fun k hk => hb.block k (by have := h.size; omega)
theorem LaidW.below_ {w w' : World} {B : Nat} (h : LaidW w) (hb : Below B w w') (h2 : 2 ≤ B) : LaidW w' := h.of fun k hk => hb.block k (by omega)

theorem below_drewN (w : World) (n : Nat) : Below w.heap.size w (w.drewN n) := belowDN (Below.refl _ _) n
theorem below_grow (w : World) (os : Array Obj) : Below w.heap.size w (Sort.grow w os) := ⟨rfl, rfl, rfl, by simp, fun k hk => Sort.heap_grow_old w os hk⟩
theorem cut_any (s sep : ByteArray) (w : World) (h : LaidW w) (hs : s.size < 4294967281) :
  Calls Tryz.prog 69 #[.string s, .string sep] w fun e w' => e = .returned (.tuple #[.string ⟨(Lib.cut s.data.toList sep.data.toList).1.toArray⟩, .string ⟨(Lib.cut s.data.toList sep.data.toList).2.1.toArray⟩, .bool (Lib.cut s.data.toList sep.data.toList).2.2]) ∧ Below w.heap.size w w' := by
 obtain ⟨m, hm⟩ := h.mx
 refine (Tryz.strings_Cut s sep m w hs hm).mono ?_
 rintro e w' ⟨rfl, n, rfl⟩
 exact ⟨rfl, below_drewN w n⟩
theorem itoa_any (n : Int) (w : World) (h : LaidW w) (h0 : -9223372036854775808 ≤ n) (h1 : n ≤ 9223372036854775807) : Calls Tryz.prog 63 #[.int .i64 n] w fun e w' => e = .returned (.string ⟨(Lib.itoa n).toArray⟩) ∧ Below w.heap.size w w' := by
 refine (Tryz.strconv_Itoa n h0 h1 w h.tab).mono ?_
 rintro e w' ⟨rfl, k, os, rfl⟩
 exact ⟨rfl, below2 (below_drewN w k) (below_grow _ os)⟩
theorem fmt_any (n : Int) (w : World) (h : LaidW w) (h0 : -9223372036854775808 ≤ n) (h1 : n ≤ 9223372036854775807) : Calls Tryz.prog 66 #[.int .i64 n, .int .i64 10] w fun e w' => e = .returned (.string ⟨(Lib.itoa n).toArray⟩) ∧ Below w.heap.size w w' := by
 refine (Tryz.strconv_FormatInt_10 n h0 h1 w h.tab).mono ?_
 rintro e w' ⟨rfl, k, os, rfl⟩
 exact ⟨rfl, below2 (below_drewN w k) (below_grow _ os)⟩
/-- The parts of a line, as the library cuts it. -/
def partsB (s sep : ByteArray) : List ByteArray := Lib.splitB sep 0 (Lib.countB s sep) s
theorem splitB_len (sep : ByteArray) : ∀ (k : Nat) (s : ByteArray), (Lib.splitB sep 0 k s).length ≤ k + 1
 | 0, s => by simp [Lib.splitB]
 | k + 1, s => by
  unfold Lib.splitB
  split
  ·simp
  ·have := splitB_len sep k (s.extract ((Lib.indexB s sep).toNat + sep.size) s.size)
   rw [List.length_cons]
   omega
theorem flat_S (xs : List ByteArray) : xs.flatMap eS = xs.map Value.string := by
 induction xs with
 | nil => rfl
 | cons x xs ih => rw [List.flatMap_cons, List.map_cons, ih]; rfl
theorem join_any (A : Option Addr) (c : Nat) (xs : List ByteArray) (sep : ByteArray) (w : World) (hr : Rd eS 1 w A c xs) (hN : xs.length ≤ 140737488355328) (hlen : (Lib.join (xs.map (·.data.toList)) sep.data.toList).length ≤ 140737488355328) :
  Calls Tryz.prog 67 #[.slice A xs.length c, .string sep] w fun e w' => e = .returned (.string ⟨(Lib.join (xs.map (·.data.toList)) sep.data.toList).toArray⟩) ∧ Below w.heap.size w w' := by
 by_cases h0 : xs = []
 ·subst h0
  refine (Tryz.strings_Join_none A c sep w).mono ?_
  rintro e w' ⟨rfl, rfl⟩
  exact ⟨rfl, Below.refl _ _⟩
 ·obtain ⟨b, off, rfl, hb, hc⟩ := hr.2.2 (List.length_pos_iff.2 h0)
  refine (Tryz.strings_Join b off c xs sep w (fun j x hx => ?_) hb hN hr.1 hlen).mono ?_
  ·have := hc j x hx 0 _ rfl
   rwa [Nat.mul_one] at this
  ·rintro e w' ⟨rfl, hb⟩
   exact ⟨rfl, hb⟩

/-- A list laid at once. -/
theorem Own.lit {α : Type} {enc : α → List Value} {sz : Nat} (he : Enc enc sz) (w : World) (e : TypeId) (xs : List α) (cs : Array Value) (hc : cs.toList = xs.flatMap enc) (hn : xs.length ≤ 1000000) : Own enc e sz w.heap.size (w.alloc (.cells cs e)) (.slice (some ⟨w.heap.size, 0, none⟩) xs.length xs.length) xs := by
 have hl : cs.size = xs.length * sz := by rw [← Array.length_toList, hc, flat_len he]
 refine ⟨by rw [flat_len he], .inr ⟨w.heap.size, xs.length, cs, rfl, Nat.le_refl _, heap_alloc_new _ _, Nat.le_refl _, by simp only [maxLen]; omega, hl, ?_⟩⟩
 rw [← hl, ← Array.length_toList, List.take_length, hc]
theorem split_any (s sep : ByteArray) (w : World) (h : LaidW w) (hs : s.size ≤ 100000) (h1 : 1 ≤ sep.size) (hl : (partsB s sep).length = Lib.countB s sep + 1) (hl2 : (partsB s sep).length ≤ 1000000) :
  Calls Tryz.prog 71 #[.string s, .string sep] w fun e w' => OwnR eS 9 1 w.heap.size w' e (partsB s sep) ∧ Below w.heap.size w w' := by
 obtain ⟨m, hm⟩ := h.mx
 refine (Tryz.strings_Split s sep m w (by omega) hm h1).mono ?_
 rintro e w' ⟨rfl, rfl⟩
 exact ⟨⟨some ⟨w.heap.size, 0, none⟩, (partsB s sep).length, by rw [hl], Own.lit encS w 9 (partsB s sep) _ (by rw [flat_S]; simp [partsB]) hl2⟩, below_a1 _ _⟩
end Go.Proofs.YtcnpbcgkhhebaaaGreatDoor
/- Parts of a string, between single bytes. -/
namespace Go.Proofs.YtcnpbcgkhhebaaaGreatDoor
open Go.RowKit

def parts (c : UInt8) : List UInt8 → List (List UInt8)
 | [] => [[]]
 | x :: l => if x = c then [] :: parts c l else match parts c l with
  | [] => [[x]]
  | h :: t => (x :: h) :: t
theorem parts_ne (c : UInt8) : ∀ l, parts c l ≠ []
 | [] => by simp [parts]
 | x :: l => by
  unfold parts
  split
  ·simp
  ·split <;> simp
theorem parts_none {c : UInt8} : ∀ l : List UInt8, (∀ k : Nat, l[k]? ≠ some c) → parts c l = [l]
 | [], _ => rfl
 | x :: l, h => by
  unfold parts
  rw [if_neg (fun e => h 0 (by simp [e])), parts_none l (fun k => by have := h (k + 1); simpa using this)]
theorem parts_hit {c : UInt8} : ∀ (l : List UInt8) (i : Nat), l[i]? = some c → (∀ k : Nat, k < i → l[k]? ≠ some c) → parts c l = l.take i :: parts c (l.drop (i + 1))
 | [], i, h, _ => by simp at h
 | x :: l, 0, h, _ => by
  simp only [List.getElem?_cons_zero, Option.some.injEq] at h
  rw [parts.eq_2, if_pos h]
  rfl
 | x :: l, i + 1, h, hk => by
  rw [parts.eq_2, if_neg (fun e => hk 0 (by omega) (by simp [e])), parts_hit l i (by simpa using h) (fun k hk' => by have := hk (k + 1) (by omega); simpa using this)]
  rfl

theorem extract_list (s : ByteArray) (a b : Nat) : (s.extract a b).data.toList = (s.data.toList.drop a).take (b - a) := by
 simp [ByteArray.data_extract]
theorem splitB_parts (c : UInt8) : ∀ (k : Nat) (s : ByteArray), Lib.countB s ⟨#[c]⟩ = k → (Lib.splitB ⟨#[c]⟩ 0 k s).map (·.data.toList) = parts c s.data.toList ∧ (Lib.splitB ⟨#[c]⟩ 0 k s).length = k + 1
 | 0, s, h => by
  refine ⟨?_, rfl⟩
  rcases Lib.indexB_cases s ⟨#[c]⟩ with hi | ⟨i, hi, _⟩
  ·have hb : Lib.indexByte s.data.toList c = -1 := by rw [← Lib.index_one]; exact hi
   rw [Lib.splitB, parts_none _ (Lib.indexByte_none hb)]
   rfl
  ·rw [Lib.countB_hit s ⟨#[c]⟩ i (Nat.le_refl 1) hi] at h
   omega
 | k + 1, s, h => by
  rcases Lib.indexB_cases s ⟨#[c]⟩ with hi | ⟨i, hi, hl⟩
  ·rw [Lib.countB_miss s ⟨#[c]⟩ hi] at h
   omega
  ·have hc := Lib.countB_hit s ⟨#[c]⟩ i (Nat.le_refl 1) hi
   have hb : Lib.indexByte s.data.toList c = i := by rw [← Lib.index_one]; exact hi
   have hp := Lib.indexByte_some hb
   have ih := splitB_parts c k (s.extract (i + (⟨#[c]⟩ : ByteArray).size) s.size) (by omega)
   unfold Lib.splitB
   rw [hi, if_neg (by simp), Int.toNat_natCast, List.map_cons, List.length_cons, ih.1, ih.2, parts_hit _ i hp.1 hp.2, extract_list, extract_list]
   refine ⟨?_, rfl⟩
   have e1 : (⟨#[c]⟩ : ByteArray).size = 1 := rfl
   have e2 : s.data.toList.length = s.size := by simp
   rw [e1, List.drop_zero, Nat.add_zero, Nat.sub_zero, List.take_of_length_le (l := s.data.toList.drop (i + 1)) (by rw [List.length_drop]; omega)]
theorem partsB_eq (c : UInt8) (s : ByteArray) : (partsB s ⟨#[c]⟩).map (·.data.toList) = parts c s.data.toList := (splitB_parts c _ s rfl).1
theorem partsB_len (c : UInt8) (s : ByteArray) : (partsB s ⟨#[c]⟩).length = Lib.countB s ⟨#[c]⟩ + 1 := (splitB_parts c _ s rfl).2
theorem partsB_le (c : UInt8) (s : ByteArray) : (partsB s ⟨#[c]⟩).length ≤ s.size + 1 := by
 have := Lib.countB_le ⟨#[c]⟩ (Nat.le_refl 1) s.size s (Nat.le_refl _)
 rw [partsB_len]
 omega
theorem cut_at {c : UInt8} {l : List UInt8} {i : Nat} (h : l[i]? = some c) (hk : ∀ k : Nat, k < i → l[k]? ≠ some c) : Lib.cut l [c] = (l.take i, l.drop (i + 1), true) := by
 have hi : Lib.indexByte l c = i := by
  cases hq : Lib.indexByte l c with
  | ofNat j =>
   have hp := Lib.indexByte_some (o := j) hq
   rcases Nat.lt_trichotomy i j with hij | rfl | hij
   ·exact absurd h (hp.2 i hij)
   ·rfl
   ·exact absurd hp.1 (hk j hij)
  | negSucc j =>
   have hg := Lib.indexByte_ge l c
   rw [hq] at hg
   have : j = 0 := by omega
   subst this
   exact absurd h (Lib.indexByte_none hq i)
 unfold Lib.cut
 rw [Lib.index_one, hi, if_pos (by omega), Int.toNat_natCast]
 rfl
theorem cut_no {c : UInt8} {l : List UInt8} (hk : ∀ k : Nat, l[k]? ≠ some c) : Lib.cut l [c] = (l, [], false) := by
 have hi : Lib.indexByte l c = -1 := by
  cases hq : Lib.indexByte l c with
  | ofNat j => exact absurd (Lib.indexByte_some (o := j) hq).1 (hk j)
  | negSucc j =>
   have hg := Lib.indexByte_ge l c
   rw [hq] at hg
   have : j = 0 := by omega
   subst this
   rfl
 unfold Lib.cut
 rw [Lib.index_one, hi, if_neg (by omega)]
theorem parts_sum (c : UInt8) : ∀ l : List UInt8, ((parts c l).map (fun p => p.length + 1)).sum = l.length + 1
 | [] => rfl
 | x :: l => by
  have ih := parts_sum c l
  rw [parts.eq_2]
  split
  ·rw [List.map_cons, List.sum_cons, ih, List.length_cons, List.length_nil]; omega
  ·split
   ·rename_i h; exact absurd h (parts_ne c l)
   ·rename_i h t hq
    rw [hq, List.map_cons, List.sum_cons] at ih
    rw [List.map_cons, List.sum_cons, List.length_cons, List.length_cons]
    omega
theorem join_len (c : UInt8) : ∀ xs : List (List UInt8), (Lib.join xs [c]).length ≤ (xs.map (fun p => p.length + 1)).sum
 | [] => by simp [Lib.join]
 | [x] => by simp [Lib.join, List.intercalate]
 | x :: y :: r => by
  have ih := join_len c (y :: r)
  have e : Lib.join (x :: y :: r) [c] = x ++ c :: Lib.join (y :: r) [c] := by simp [Lib.join, List.intercalate]
  rw [e, List.length_append, List.length_cons, List.map_cons, List.sum_cons]
  omega
theorem sum_drop (k : Nat) : ∀ xs : List (List UInt8), ((xs.drop k).map (fun p => p.length + 1)).sum ≤ (xs.map (fun p => p.length + 1)).sum := by
 intro xs
 have h : (xs.map (fun p => p.length + 1)).sum = ((xs.take k).map (fun p => p.length + 1)).sum + ((xs.drop k).map (fun p => p.length + 1)).sum := by
  rw [← List.sum_append, ← List.map_append, List.take_append_drop]
 omega
theorem text_len (s : ByteArray) (k : Nat) : (Lib.join (((partsB s ⟨#[32]⟩).drop k).map (·.data.toList)) [32]).length ≤ s.size + 1 := by
 rw [List.map_drop, partsB_eq]
 refine Nat.le_trans (join_len 32 _) (Nat.le_trans (sum_drop k _) ?_)
 rw [parts_sum]
 simp
end Go.Proofs.YtcnpbcgkhhebaaaGreatDoor
/- How far the numbers of a line go. -/
namespace Go.Proofs.YtcnpbcgkhhebaaaGreatDoor
open Go.RowKit

def mostsL (word : ByteArray) : List Int :=
 if word = wMark then [1099511627776, 0] else if word = wLog then [1099511627776, 0, 10000] else if word = wClaim then [1099511627776, 1099511627776] else if word = wRaft then [1099511627776, 100] else if word = wPay then [1099511627776, 1000000] else if word = wStrike then [200] else []
set_option maxRecDepth 100000 in
set_option maxHeartbeats 1000000 in
theorem mosts_walk (word : ByteArray) (b1 b2 b3 b4 b5 b6 : Bool) (w : World)
  (e1 : (word.toList == [109, 97, 114, 107]) = b1)
  (e2 : (word.toList == [108, 111, 103]) = b2)
  (e3 : (word.toList == [99, 108, 97, 105, 109]) = b3)
  (e4 : (word.toList == [114, 97, 102, 116]) = b4)
  (e5 : (word.toList == [112, 97, 121]) = b5)
  (e6 : (word.toList == [115, 116, 114, 105, 107, 101]) = b6)
  : Calls Tryz.prog 131 #[.string word] w fun e w' => OwnR eI 2 1 w.heap.size w' e (if b1 then [1099511627776, 0] else if b2 then [1099511627776, 0, 10000] else if b3 then [1099511627776, 1099511627776] else if b4 then [1099511627776, 100] else if b5 then [1099511627776, 1000000] else if b6 then [200] else []) ∧ Below w.heap.size w w' := by
 cases b1 with
 | true =>
  go_enter Tryz.func131, Tryz.ntmps131
  go_wp2
  go_ret
  exact ⟨⟨_, _, rfl, Own.lit encI w 2 [1099511627776, 0] _ rfl (by decide)⟩, below_a1 _ _⟩
 | false =>
  cases b2 with
  | true =>
   go_enter Tryz.func131, Tryz.ntmps131
   go_wp2
   go_ret
   exact ⟨⟨_, _, rfl, Own.lit encI w 2 [1099511627776, 0, 10000] _ rfl (by decide)⟩, below_a1 _ _⟩
  | false =>
   cases b3 with
   | true =>
    go_enter Tryz.func131, Tryz.ntmps131
    go_wp2
    go_ret
    exact ⟨⟨_, _, rfl, Own.lit encI w 2 [1099511627776, 1099511627776] _ rfl (by decide)⟩, below_a1 _ _⟩
   | false =>
    cases b4 with
    | true =>
     go_enter Tryz.func131, Tryz.ntmps131
     go_wp2
     go_ret
     exact ⟨⟨_, _, rfl, Own.lit encI w 2 [1099511627776, 100] _ rfl (by decide)⟩, below_a1 _ _⟩
    | false =>
     cases b5 with
     | true =>
      go_enter Tryz.func131, Tryz.ntmps131
      go_wp2
      go_ret
      exact ⟨⟨_, _, rfl, Own.lit encI w 2 [1099511627776, 1000000] _ rfl (by decide)⟩, below_a1 _ _⟩
     | false =>
      cases b6 with
      | true =>
       go_enter Tryz.func131, Tryz.ntmps131
       go_wp2
       go_ret
       exact ⟨⟨_, _, rfl, Own.lit encI w 2 [200] _ rfl (by decide)⟩, below_a1 _ _⟩
      | false =>
       go_enter Tryz.func131, Tryz.ntmps131
       go_wp2
       go_ret
       exact ⟨⟨_, _, rfl, Own.nil_ _ _ _ _ _⟩, Below.refl _ _⟩
theorem mosts_any (word : ByteArray) (w : World) : Calls Tryz.prog 131 #[.string word] w fun e w' => OwnR eI 2 1 w.heap.size w' e (mostsL word) ∧ Below w.heap.size w w' := by
 have e1 := word_eq word wMark
 rw [ByteArray.toList_eq wMark] at e1
 have e2 := word_eq word wLog
 rw [ByteArray.toList_eq wLog] at e2
 have e3 := word_eq word wClaim
 rw [ByteArray.toList_eq wClaim] at e3
 have e4 := word_eq word wRaft
 rw [ByteArray.toList_eq wRaft] at e4
 have e5 := word_eq word wPay
 rw [ByteArray.toList_eq wPay] at e5
 have e6 := word_eq word wStrike
 rw [ByteArray.toList_eq wStrike] at e6
 have h := mosts_walk word _ _ _ _ _ _ w e1 e2 e3 e4 e5 e6
 unfold mostsL
 simp only [decide_eq_true_eq] at h
 exact h
end Go.Proofs.YtcnpbcgkhhebaaaGreatDoor
/- A line is read: what it says. -/
namespace Go.Proofs.YtcnpbcgkhhebaaaGreatDoor
open Go.RowKit

def ln0 : Ln := ⟨⟨#[]⟩, 0, 0, ⟨#[]⟩, ⟨#[]⟩⟩
def stepL (lg : Bool) (st : List Int × ByteArray) (mp : Int × ByteArray) : Option (List Int × ByteArray) :=
 if 0 < mp.1 then (if numOk mp.2 = true ∧ 1 ≤ numV mp.2 ∧ numV mp.2 ≤ mp.1 then some (st.1 ++ [numV mp.2], st.2) else none)
 else if mp.2 = ⟨#[45]⟩ ∧ lg = true then some st
 else if mp.2.toList.isEmpty = true ∨ isSeenB mp.2 = false then none else some (st.1, mp.2)
def runL (lg : Bool) : List Int × ByteArray → List (Int × ByteArray) → Option (List Int × ByteArray)
 | st, [] => some st
 | st, mp :: r => match stepL lg st mp with
  | none => none
  | some st' => runL lg st' r
def lineS (s : ByteArray) (n : Int) : Option Ln :=
 let p := partsB s ⟨#[32]⟩
 if p.length < 3 then none else if p[0]? ≠ some ⟨(Lib.itoa n).toArray⟩ then none else
 let word := (p[1]?).getD ⟨#[]⟩
 let text : ByteArray := ⟨(Lib.join ((p.drop 1).map (·.data.toList)) [32]).toArray⟩
 if (mostsL word).length ≠ p.length - 2 then none else
 match runL (decide (word = wLog)) ([], ⟨#[]⟩) ((mostsL word).zip (p.drop 2)) with
 | none => none
 | some (all, letters) => some ⟨word, (all[0]?).getD 0, (all[1]?).getD 0, letters, text⟩

theorem mosts_first {word : ByteArray} {m : Int} (h : (mostsL word)[0]? = some m) : 0 < m := by
 unfold mostsL at h
 repeat' split at h
 all_goals first | (simp at h; omega) | (simp at h)
theorem runL_app (lg : Bool) : ∀ (l1 l2 : List (Int × ByteArray)) (st : List Int × ByteArray), runL lg st (l1 ++ l2) = match runL lg st l1 with | none => none | some st' => runL lg st' l2
 | [], l2, st => by simp [runL]
 | mp :: r, l2, st => by
  rw [List.cons_append, runL, runL]
  cases stepL lg st mp with
  | none => rfl
  | some st' => exact runL_app lg r l2 st'
theorem zip_at {M : List Int} {Q : List ByteArray} {k : Nat} {m : Int} {p : ByteArray} (hm : M[k]? = some m) (hp : Q[k]? = some p) : (M.zip Q)[k]? = some (m, p) := by
 rw [List.getElem?_zip_eq_some]
 exact ⟨hm, hp⟩
theorem run_take {lg : Bool} {l : List (Int × ByteArray)} {k : Nat} {mp : Int × ByteArray} {st : List Int × ByteArray} (h : l[k]? = some mp) (hr : runL lg ([], ⟨#[]⟩) (l.take k) = some st) : runL lg ([], ⟨#[]⟩) (l.take (k + 1)) = stepL lg st mp := by
 obtain ⟨hk, he⟩ := List.getElem?_eq_some_iff.1 h
 rw [List.take_succ_eq_append_getElem hk, runL_app, hr, he]
 simp only [runL]
 cases stepL lg st mp <;> rfl
theorem run_none {lg : Bool} {l : List (Int × ByteArray)} {k : Nat} (h : runL lg ([], ⟨#[]⟩) (l.take k) = none) : runL lg ([], ⟨#[]⟩) l = none := by
 have := runL_app lg (l.take k) (l.drop k) ([], ⟨#[]⟩)
 rw [List.take_append_drop, h] at this
 exact this
theorem part_size {s : ByteArray} {p : ByteArray} (h : p ∈ partsB s ⟨#[32]⟩) : p.size ≤ s.size := by
 have h1 : p.data.toList ∈ parts 32 s.data.toList := by rw [← partsB_eq]; exact List.mem_map_of_mem h
 have h2 := parts_sum 32 s.data.toList
 have h3 : ∀ (l : List (List UInt8)) (x : List UInt8), x ∈ l → x.length + 1 ≤ (l.map (fun p => p.length + 1)).sum := by
  intro l
  induction l with
  | nil => intro x hx; cases hx
  | cons y ys ih =>
   intro x hx
   rw [List.map_cons, List.sum_cons]
   rcases List.mem_cons.1 hx with rfl | hx
   ·omega
   ·have := ih x hx; omega
 have h4 := h3 _ _ h1
 rw [h2] at h4
 have e1 : p.data.toList.length = p.size := by simp
 have e2 : s.data.toList.length = s.size := by simp
 omega
theorem Rd.drop {α : Type} {enc : α → List Value} {sz : Nat} {w : World} {b off c : Nat} {xs : List α} (h : Rd enc sz w (some ⟨b, off, none⟩) c xs) (k : Nat) (hk : k ≤ xs.length) : Rd enc sz w (some ⟨b, off + k * sz, none⟩) (c - k) (xs.drop k) := by
 refine ⟨by rw [List.length_drop]; have := h.1; omega, by have := h.2.1; omega, fun hn => ?_⟩
 obtain ⟨b', off', e, hb, hc⟩ := h.2.2 (by rw [List.length_drop] at hn; omega)
 injection e with e
 injection e with e1 e2
 subst e1 e2
 refine ⟨b, off + k * sz, rfl, hb, fun i x hx j u hu => ?_⟩
 rw [List.getElem?_drop] at hx
 have := hc (k + i) x hx j u hu
 rw [Nat.add_mul] at this
 rwa [show off + k * sz + i * sz + j = off + (k * sz + i * sz) + j by omega]

theorem five {w : World} {b : Nat} {c0 c1 c2 c3 c4 v0 v1 v2 v3 v4 : Value} (h : w.heap[b]? = some (.cells #[c0, c1, c2, c3, c4] 108 (0, 0))) :
  (((((w.setCell ⟨b, 0, none⟩ v0).setCell ⟨b, 1, none⟩ v1).setCell ⟨b, 2, none⟩ v2).setCell ⟨b, 3, none⟩ v3).setCell ⟨b, 4, none⟩ v4).heap[b]? = some (.cells #[v0, v1, v2, v3, v4] 108 (0, 0)) ∧
  w.grownBy (((((w.setCell ⟨b, 0, none⟩ v0).setCell ⟨b, 1, none⟩ v1).setCell ⟨b, 2, none⟩ v2).setCell ⟨b, 3, none⟩ v3).setCell ⟨b, 4, none⟩ v4) (some b) := by
 have h1 := heap_setCell_same w b 0 _ 108 v0 h
 have h2 := heap_setCell_same _ b 1 _ 108 v1 h1
 have h3 := heap_setCell_same _ b 2 _ 108 v2 h2
 have h4 := heap_setCell_same _ b 3 _ 108 v3 h3
 have h5 := heap_setCell_same _ b 4 _ 108 v4 h4
 refine ⟨h5.trans (by simp), ?_⟩
 have g1 := grown_cell w b 0 v0
 have g2 := grown_cell (w.setCell ⟨b, 0, none⟩ v0) b 1 v1
 have g3 := grown_cell ((w.setCell ⟨b, 0, none⟩ v0).setCell ⟨b, 1, none⟩ v1) b 2 v2
 have g4 := grown_cell (((w.setCell ⟨b, 0, none⟩ v0).setCell ⟨b, 1, none⟩ v1).setCell ⟨b, 2, none⟩ v2) b 3 v3
 have g5 := grown_cell ((((w.setCell ⟨b, 0, none⟩ v0).setCell ⟨b, 1, none⟩ v1).setCell ⟨b, 2, none⟩ v2).setCell ⟨b, 3, none⟩ v3) b 4 v4
 exact ((((g1.andThen g2 (fun j e => .inr e)).andThen g3 (fun j e => .inr e)).andThen g4 (fun j e => .inr e)).andThen g5 (fun j e => .inr e))
abbrev zeroRow : Array Value := #[.string ⟨#[]⟩, .int .i64 0, .int .i64 0, .string ⟨#[]⟩, .string ⟨#[]⟩]
theorem zero5 {w : World} {b : Nat} {f : Nat × Nat} (h : w.heap[b]? = some (.cells zeroRow 108 f)) :
  ((((w.setCell ⟨b, 0, none⟩ (.string ⟨#[]⟩)).setCell ⟨b, 1, none⟩ (.int .i64 0)).setCell ⟨b, 2, none⟩ (.int .i64 0)).setCell ⟨b, 3, none⟩ (.string ⟨#[]⟩)).setCell ⟨b, 4, none⟩ (.string ⟨#[]⟩) = w := by
 rw [setCell_same h rfl, setCell_same h rfl, setCell_same h rfl, setCell_same h rfl, setCell_same h rfl]
set_option maxHeartbeats 400000 in
theorem line_ret {w : World} {b : Nat} {tmps : Array Value} {x : Ln} {r : Bool} {f : Nat × Nat} (h : w.heap[b]? = some (.cells (eN x).toArray 108 f)) (h4 : tmps.getD 4 undef = .pointer (some ⟨b, 0, none⟩)) (h5 : tmps.getD 5 undef = .bool r) :
  (results Tryz.f97 tmps).run Tryz.prog w = .ok (.tuple #[.agg (eN x).toArray, .bool r]) w := by
 have c0 : w.cell? ⟨b, 0, none⟩ = some (.string x.word) := by rw [cell_of_row _ _ _ _ _ _ h]; rfl
 have c1 : w.cell? ⟨b, 1, none⟩ = some (.int .i64 x.one) := by rw [cell_of_row _ _ _ _ _ _ h]; rfl
 have c2 : w.cell? ⟨b, 2, none⟩ = some (.int .i64 x.two) := by rw [cell_of_row _ _ _ _ _ _ h]; rfl
 have c3 : w.cell? ⟨b, 3, none⟩ = some (.string x.letters) := by rw [cell_of_row _ _ _ _ _ _ h]; rfl
 have c4 : w.cell? ⟨b, 4, none⟩ = some (.string x.text) := by rw [cell_of_row _ _ _ _ _ _ h]; rfl
 rw [results_cell_tmp (fn := Tryz.f97) rfl, h4, h5]
 simp only [eN]
 go_simp
theorem fail_close {w w1 : World} {b : Nat} {tmps : Array Value} {s : ByteArray} {n : Int} {f : Nat × Nat} (h : w1.heap[b]? = some (.cells zeroRow 108 f)) (h4 : tmps.getD 4 undef = .pointer (some ⟨b, 0, none⟩)) (h5 : tmps.getD 5 undef = .bool false) (hno : lineS s n = none) (hb : Below w.heap.size w w1) :
  bodyPost Tryz.prog Tryz.f97 (fun e w' => e = .returned (.tuple #[.agg (eN ((lineS s n).getD ln0)).toArray, .bool (lineS s n).isSome]) ∧ Below w.heap.size w w') .ret { tmps := tmps, defers := [] }
   (((((w1.setCell ⟨b, 0, none⟩ (.string ⟨#[]⟩)).setCell ⟨b, 1, none⟩ (.int .i64 0)).setCell ⟨b, 2, none⟩ (.int .i64 0)).setCell ⟨b, 3, none⟩ (.string ⟨#[]⟩)).setCell ⟨b, 4, none⟩ (.string ⟨#[]⟩)) := by
 rw [zero5 h]
 refine bodyPost_ret (line_ret (x := ln0) h h4 h5) rfl ?_
 rw [hno]
 exact ⟨rfl, hb⟩

theorem ok_close {w W : World} {b : Nat} {tmps : Array Value} {s : ByteArray} {n : Int} {x : Ln} (h : W.heap[b]? = some (.cells zeroRow 108 (0, 0))) (h4 : tmps.getD 4 undef = .pointer (some ⟨b, 0, none⟩)) (h5 : tmps.getD 5 undef = .bool true) (hok : lineS s n = some x) (hb : Below w.heap.size w W) (hle : w.heap.size ≤ b) :
  bodyPost Tryz.prog Tryz.f97 (fun e w' => e = .returned (.tuple #[.agg (eN ((lineS s n).getD ln0)).toArray, .bool (lineS s n).isSome]) ∧ Below w.heap.size w w') .ret { tmps := tmps, defers := [] }
   (((((W.setCell ⟨b, 0, none⟩ (.string x.word)).setCell ⟨b, 1, none⟩ (.int .i64 x.one)).setCell ⟨b, 2, none⟩ (.int .i64 x.two)).setCell ⟨b, 3, none⟩ (.string x.letters)).setCell ⟨b, 4, none⟩ (.string x.text)) := by
 have hf := five (v0 := .string x.word) (v1 := .int .i64 x.one) (v2 := .int .i64 x.two) (v3 := .string x.letters) (v4 := .string x.text) h
 refine bodyPost_ret (line_ret (x := x) hf.1 h4 h5) rfl ?_
 rw [hok]
 exact ⟨rfl, hb.grown hf.2 hb.size (fun q hq => by cases hq; exact hle)⟩

set_option maxRecDepth 100000 in
set_option maxHeartbeats 2000000 in
theorem parseLine_any (s : ByteArray) (n : Int) (w : World) (hL : LaidW w) (hs : s.size ≤ 20000) (hn : 0 ≤ n ∧ n ≤ 1000000) :
  Calls Tryz.prog 97 #[.string s, .int .i64 n] w fun e w' => e = .returned (.tuple #[.agg (eN ((lineS s n).getD ln0)).toArray, .bool (lineS s n).isSome]) ∧ Below w.heap.size w w' := by
 have B1 := below_a1 w (.cells #[.string ⟨#[]⟩, .int .i64 0, .int .i64 0, .string ⟨#[]⟩, .string ⟨#[]⟩] 108)
 have hle := partsB_le 32 s
 have hsp := split_any s ⟨#[32]⟩ _ (hL.below B1) (by omega) (Nat.le_refl 1) (partsB_len 32 s) (by omega)
 have HL := Lib.hid hL
 clear hL B1
 have hls : lineS s n = lineS s n := rfl
 conv at hls => rhs; unfold lineS
 obtain ⟨P, hP⟩ : ∃ P, partsB s ⟨#[32]⟩ = P := ⟨_, rfl⟩
 rw [hP] at hls hsp hle
 have hT : (Lib.join ((P.drop 1).map (·.data.toList)) [32]).length ≤ s.size + 1 := by rw [← hP]; exact text_len s 1
 have HPS := Lib.hid (show ∀ p ∈ P, p.size ≤ 20000 from fun p hp => Nat.le_trans (part_size (by rw [hP]; exact hp)) hs)
 have HLS := Lib.hid hls
 clear hls hP
 go_enter Tryz.func97, Tryz.ntmps97
 go_wp2_with fail
 refine hsp.mono ?_
 clear hsp
 rintro e w1 ⟨⟨A, c, rfl, o1⟩, hb1⟩
 have r0 : w1.cell? ⟨w.heap.size, 0, none⟩ = some (.string ⟨#[]⟩) := cB hb1 (by go_simp)
 have r1 : w1.cell? ⟨w.heap.size, 1, none⟩ = some (.int .i64 0) := cB hb1 (by go_simp)
 have r2 : w1.cell? ⟨w.heap.size, 2, none⟩ = some (.int .i64 0) := cB hb1 (by go_simp)
 have r3 : w1.cell? ⟨w.heap.size, 3, none⟩ = some (.string ⟨#[]⟩) := cB hb1 (by go_simp)
 have r4 : w1.cell? ⟨w.heap.size, 4, none⟩ = some (.string ⟨#[]⟩) := cB hb1 (by go_simp)
 have hrow := (hb1.block w.heap.size (by simp)).trans (heap_alloc_new w _)
 have rf : ∀ j, w1.frozen? ⟨w.heap.size, j, none⟩ = false := fun j => by simp [World.frozen?, hrow]
 have HROW := Lib.hid hrow
 have HB1 := Lib.hid (below2 (below_a1 w _) hb1)
 have O1 := Lib.hid o1
 clear hrow hb1 o1
 by_cases h3 : P.length < 3
 ·have hd3 : decide (P.length < 3) = true := decide_eq_true h3
  have hd3i : decide ((P.length : Int) < 3) = true := decide_eq_true (by omega)
  have hno : lineS s n = none := by rw [HLS.out, if_pos h3]
  have HNO := Lib.hid hno
  clear hno
  go_wp2_with fail
  go_quiet (fail)
  go_wp2_with fail
  exact fail_close (w := w) (w1 := w1.drewN nq) HROW.out rfl rfl HNO.out (belowDN HB1.out nq)
 have hd3 : decide (P.length < 3) = false := decide_eq_false h3
 have hd3i : decide ((P.length : Int) < 3) = false := decide_eq_false (by omega)
 have h0l : 0 < P.length := by omega
 have h0i : (0 : Int) < (P.length : Int) := by omega
 obtain ⟨b, off, p0, hp0, rfl, hbl, d0⟩ := (O1.out.rs encS).atS h0l
 obtain ⟨b', off', p1, hp1, e1, hbl1, d1⟩ := (O1.out.rs encS).atS (show 1 < P.length by omega)
 cases e1
 rw [Nat.add_zero] at d0
 have HP0 := Lib.hid hp0
 have HP1 := Lib.hid hp1
 clear hp0 hp1
 have hcon : ∀ W, Below w1.heap.size w1 W → Calls Tryz.prog 63 #[.int .i64 n] W fun e w' => e = .returned (.string ⟨(Lib.itoa n).toArray⟩) ∧ Below W.heap.size W w' :=
  fun W hB => itoa_any n W ((HL.out.below HB1.out).below hB) (by omega) (by omega)
 have CON := Lib.hid hcon
 clear hcon
 obtain ⟨it, hit⟩ : ∃ it : ByteArray, (⟨(Lib.itoa n).toArray⟩ : ByteArray) = it := ⟨_, rfl⟩
 have HIT := Lib.hid hit
 rw [hit] at CON
 clear hit
 go_wp2_with fail
 go_region_held3 (fun W => W.cell? ⟨b, off, none⟩ = some (.string p0)) (go_keep)
  ((go_at_call 63; refine (CON.out _ goB).mono ?_; rintro e wz ⟨rfl, hbz⟩; (have kz1 : wz.cell? ⟨b, off, none⟩ = some (.string p0) := cB hbz (by go_simp))))
 have HBZ := Lib.hid (show Below w1.heap.size w1 wz from goB)
 have hp0g : P[0]? = some p0 := by rw [List.getElem?_eq_getElem h0l, HP0.out]
 have HROWZ := Lib.hid ((HBZ.out.block w.heap.size (Array.getElem?_eq_some_iff.1 HROW.out).1).trans HROW.out)
 have HB2 := Lib.hid (below2 HB1.out HBZ.out)
 have O2 := Lib.hid (O1.out.below HBZ.out)
 have d1z := cB HBZ.out d1
 have rz0 := cB HBZ.out r0
 have rz1 := cB HBZ.out r1
 have rz2 := cB HBZ.out r2
 have rz3 := cB HBZ.out r3
 have rz4 := cB HBZ.out r4
 have rfz : ∀ j, wz.frozen? ⟨w.heap.size, j, none⟩ = false := fun j => by simp [World.frozen?, HROWZ.out]
 clear hbz kz1 d0 d1 r0 r1 r2 r3 r4 rf HBZ HROW HB1 O1 CON
 by_cases heq : p0 = it
 ·have hde : (p0.toList == it.toList) = true := by rw [heq]; simp
  have HEQ := Lib.hid heq
  clear heq
  have hls2 : lineS s n = (if (mostsL p1).length ≠ P.length - 2 then none else match runL (decide (p1 = wLog)) ([], ⟨#[]⟩) ((mostsL p1).zip (P.drop 2)) with
   | none => none
   | some (all, letters) => some ⟨p1, (all[0]?).getD 0, (all[1]?).getD 0, letters, ⟨(Lib.join ((P.drop 1).map (·.data.toList)) [32]).toArray⟩⟩) := by
   rw [HLS.out, if_neg h3, if_neg (by rw [hp0g, HIT.out, HEQ.out]; simp)]
   have : (P[1]?).getD ⟨#[]⟩ = p1 := by rw [List.getElem?_eq_getElem (show 1 < P.length by omega), HP1.out]; rfl
   rw [this]
  have HLS2 := Lib.hid hls2
  clear hls2
  have hj : ∀ W, Below wz.heap.size wz W → Calls Tryz.prog 67 #[.slice (some ⟨b, off + 1, none⟩) (P.length - 1) (c - 1), .string ⟨#[32]⟩] W fun e w' => e = .returned (.string ⟨(Lib.join ((P.drop 1).map (·.data.toList)) [32]).toArray⟩) ∧ Below W.heap.size W w' := by
   intro W hB
   have hr := ((O2.out.rs encS).below hB).drop 1 (by omega)
   have := join_any _ (c - 1) (P.drop 1) ⟨#[32]⟩ W hr (by rw [List.length_drop]; omega) (by show (Lib.join _ [32]).length ≤ _; omega)
   rwa [List.length_drop] at this
  obtain ⟨T, hTe⟩ : ∃ T : ByteArray, (⟨(Lib.join ((P.drop 1).map (·.data.toList)) [32]).toArray⟩ : ByteArray) = T := ⟨_, rfl⟩
  rw [hTe] at hj HLS2
  have hcl1 : P.length ≤ c := (O2.out.rs encS).1
  have hcl2 : (P.length : Int) ≤ (c : Int) := by omega
  have hcl3 : (1 : Int) ≤ (c : Int) := by omega
  have hcne : ¬ c = 1 := by omega
  have hbz1 : b < wz.heap.size := World.block_lt_of_cell? wz _ d1z
  have hbz2 : ¬ b = wz.heap.size := by omega
  have hbz3 : ¬ wz.heap.size = b := by omega
  have HJ := Lib.hid hj
  clear hj hTe hT
  have h1i : (1 : Int) < (P.length : Int) := by omega
  have h1le : (1 : Int) ≤ (P.length : Int) := by omega
  have h1ln : 1 ≤ P.length := by omega
  have hcl : P.length ≤ c ∧ c ≤ 9223372036854775807 := ⟨(O2.out.rs encS).1, (O2.out.rs encS).2.1⟩
  go_wp2_with fail
  ·exact absurd ‹(!(p0.toList == it.toList)) = true› (by rw [hde]; simp)
  go_region_held3 (fun W => W.cell? ⟨b, off + 1, none⟩ = some (.string p1)) (go_keep)
   ((go_at_call 67; refine (HJ.out _ goB).mono ?_; rintro e wy ⟨rfl, hby⟩; (have ky1 : wy.cell? ⟨b, off + 1, none⟩ = some (.string p1) := cB hby (by go_simp)); (obtain ⟨kc, kf⟩ := bcell hby); (have kl := World.block_lt_of_cell? _ _ ky1); (have kl2 := hby.size)))
  have ROWN := Lib.hid (heap_alloc_new wy (.cells #[.string p1, .int .i64 0, .int .i64 0, .string ⟨#[]⟩, .string T] 108))
  have BW := Lib.hid (show Below wz.heap.size wz (wy.alloc (.cells #[.string p1, .int .i64 0, .int .i64 0, .string ⟨#[]⟩, .string T] 108)) from goB)
  have hNl : wz.heap.size ≤ wy.heap.size := Below.size goB
  have hNs : wy.heap.size < (wy.alloc (.cells #[.string p1, .int .i64 0, .int .i64 0, .string ⟨#[]⟩, .string T] 108)).heap.size := by simp
  clear kc kf kl kl2 ky1
  generalize wy.alloc (.cells #[.string p1, .int .i64 0, .int .i64 0, .string ⟨#[]⟩, .string T] 108) = W3 at ROWN BW hNs ⊢
  generalize wy.heap.size = N at ROWN hNl hNs ⊢
  clear hby
  rotate_left
  have h5 := five (v0 := .string p1) (v1 := .int .i64 0) (v2 := .int .i64 0) (v3 := .string ⟨#[]⟩) (v4 := .string T) ((hby.block wz.heap.size (by simp)).trans (show (wz.alloc _).drew.heap[wz.heap.size]? = _ from heap_alloc_new wz _))
  have ROWN := Lib.hid h5.1
  have BW := Lib.hid ((show Below wz.heap.size wz wy from goB).grown h5.2 (Below.size goB) (fun q hq => by cases hq; exact Nat.le_refl _))
  have hNl : wz.heap.size ≤ wz.heap.size := Nat.le_refl _
  have hNs : wz.heap.size < (((((wy.setCell ⟨wz.heap.size, 0, none⟩ (.string p1)).setCell ⟨wz.heap.size, 1, none⟩ (.int .i64 0)).setCell ⟨wz.heap.size, 2, none⟩ (.int .i64 0)).setCell ⟨wz.heap.size, 3, none⟩ (.string ⟨#[]⟩)).setCell ⟨wz.heap.size, 4, none⟩ (.string T)).heap.size := (Array.getElem?_eq_some_iff.1 h5.1).1
  clear kc kf kl kl2 ky1 h5
  generalize ((((wy.setCell ⟨wz.heap.size, 0, none⟩ (.string p1)).setCell ⟨wz.heap.size, 1, none⟩ (.int .i64 0)).setCell ⟨wz.heap.size, 2, none⟩ (.int .i64 0)).setCell ⟨wz.heap.size, 3, none⟩ (.string ⟨#[]⟩)).setCell ⟨wz.heap.size, 4, none⟩ (.string T) = W3 at ROWN BW hNs ⊢
  obtain ⟨N, hN⟩ : ∃ N, wz.heap.size = N := ⟨_, rfl⟩
  rw [hN] at ROWN hNs ⊢
  have hNl : wz.heap.size ≤ N := by omega
  clear hby hN
  rotate_left
  all_goals
   have n0 : W3.cell? ⟨N, 0, none⟩ = some (.string p1) := by rw [cell_of_row _ _ _ _ _ _ ROWN.out]; rfl
   go_wp2_with fail
   refine (mosts_any p1 W3).mono ?_
   rintro e w4 ⟨⟨AM, cm, rfl, om⟩, hb4⟩
   have ROW4 := Lib.hid ((hb4.block N hNs).trans ROWN.out)
   have BW4 := Lib.hid (below2 BW.out hb4)
   have HR4 := Lib.hid ((BW4.out.block w.heap.size (Array.getElem?_eq_some_iff.1 HROWZ.out).1).trans HROWZ.out)
   have O4 := Lib.hid (O2.out.below BW4.out)
   have OM := Lib.hid om
   have hNr : w.heap.size < N := Nat.lt_of_lt_of_le (Array.getElem?_eq_some_iff.1 HROWZ.out).1 hNl
   have hN4 : N < w4.heap.size := Nat.lt_of_lt_of_le hNs hb4.size
   have HB4 := Lib.hid (below2 HB2.out BW4.out)
   have hml : (mostsL p1).length ≤ 3 := by unfold mostsL; split <;> (try split) <;> (try split) <;> (try split) <;> (try split) <;> (try split) <;> decide
   clear om hb4 n0 ROWN BW HROWZ O2 HB2 hNs rz0 rz1 rz2 rz3 rz4 d1z
   obtain ⟨M, hM⟩ : ∃ M, mostsL p1 = M := ⟨_, rfl⟩
   rw [hM] at OM hml HLS2 ⊢
   have HMM := Lib.hid hM
   clear hM
   have hsub : IntKind.i64.wrap ((P.length : Int) - 2) = (P.length : Int) - 2 := by rw [IntKind.wrap_i64]; omega
   have r0 : w4.cell? ⟨w.heap.size, 0, none⟩ = some (.string ⟨#[]⟩) := by rw [cell_of_row _ _ _ _ _ _ HR4.out]; rfl
   have r1 : w4.cell? ⟨w.heap.size, 1, none⟩ = some (.int .i64 0) := by rw [cell_of_row _ _ _ _ _ _ HR4.out]; rfl
   have r2 : w4.cell? ⟨w.heap.size, 2, none⟩ = some (.int .i64 0) := by rw [cell_of_row _ _ _ _ _ _ HR4.out]; rfl
   have r3 : w4.cell? ⟨w.heap.size, 3, none⟩ = some (.string ⟨#[]⟩) := by rw [cell_of_row _ _ _ _ _ _ HR4.out]; rfl
   have r4 : w4.cell? ⟨w.heap.size, 4, none⟩ = some (.string ⟨#[]⟩) := by rw [cell_of_row _ _ _ _ _ _ HR4.out]; rfl
   have rf4 : ∀ j, w4.frozen? ⟨w.heap.size, j, none⟩ = false := fun j => by simp [World.frozen?, HR4.out]
   by_cases hm : M.length = P.length - 2
   ·have hmi : ((M.length : Int) != (P.length : Int) - 2) = false := by simp; omega
    have hm1 : M.length + 2 ≤ P.length := by omega
    have hm2 : P.length ≤ M.length + 2 := by omega
    have HM := Lib.hid hm
    clear hm
    have h2i : (2 : Int) ≤ (P.length : Int) := by omega
    have h2c : (2 : Int) ≤ (c : Int) := by omega
    have h2n : 2 ≤ P.length := by omega
    have hcn2 : ¬ c = 2 := by omega
    go_wp2_with fail
    clear r0 r1 r2 r3 r4 rf4
    have hlw4 : w.heap.size < w4.heap.size := (Array.getElem?_eq_some_iff.1 HR4.out).1
    have hneP : (Value.slice (some ⟨b, off, none⟩) P.length c).ownBlock ≠ some N := fun e => by
     obtain ⟨_, cs, hc⟩ := O4.out.blk _ e
     rw [ROW4.out] at hc
     cases hc
    have hneM : (Value.slice AM M.length cm).ownBlock ≠ some N := fun e => by
     obtain ⟨_, cs, hc⟩ := OM.out.blk _ e
     rw [ROW4.out] at hc
     cases hc
    have HNP := Lib.hid hneP
    have HNM := Lib.hid hneM
    clear hneP hneM
    go_loopg [9, 48] M.length (fun g s9 s48 wr => ∃ (k : Nat) (all : List Int) (let_ : ByteArray), k ≤ M.length ∧ M.length - k ≤ g ∧ s48 = .int .i64 k ∧ Hid (runL (decide (p1 = wLog)) ([], ⟨#[]⟩) ((M.zip (P.drop 2)).take k) = some (all, let_)) ∧ Hid (wr.heap[N]? = some (.cells #[.string p1, .int .i64 0, .int .i64 0, .string let_, .string T] 108 (0, 0))) ∧ Hid (w4.grownBy wr (some N)) ∧ Hid (Own eI 2 1 w4.heap.size wr s9 all) ∧ all.length ≤ k ∧ (0 < k → 0 < all.length))
    case atStart =>
     exact ⟨0, [], ⟨#[]⟩, by omega, by omega, rfl, (show runL _ _ _ = _ from by simp [runL]), ROW4.out, grown_of (Below.refl _ _) _, Own.nil_ _ _ _ _ _, by simp, by simp⟩
    case round =>
     obtain ⟨k, all, let_, hk, hg, rfl, RUN, ROWR, GR, OA, hal, hap⟩ := hrel
     by_cases hlt : k < M.length
     ·have hkP : k + 2 < P.length := by omega
      have hki : (k : Int) < (P.length : Int) - 2 := by omega
      have hkn : k < P.length - 2 := by omega
      have hkm : (k : Int) < (M.length : Int) := by omega
      obtain ⟨bq, offq, part, hpart, eq, _, dp⟩ := ((O4.out.kept GR.out (.inr HNP.out)).rs encS).atS hkP
      cases eq
      rw [show off + (k + 2) = off + 2 + k by omega] at dp
      obtain ⟨bm, offm, m, hme, rfl, _, em⟩ := ((OM.out.kept GR.out (.inr HNM.out)).rs encI).atI hlt
      have hzk := zip_at (Q := P.drop 2) (show M[k]? = some m by rw [List.getElem?_eq_getElem hlt, hme]) (show (P.drop 2)[k]? = some part by rw [List.getElem?_drop, List.getElem?_eq_getElem (by omega), hpart]; congr 2; omega)
      have RT := Lib.hid (run_take hzk RUN.out)
      have hpz := HPS.out part (by rw [hpart]; exact List.getElem_mem hkP)
      have hrR : wr.heap[w.heap.size]? = some (.cells zeroRow 108 (0, 0)) := (GR.out.block w.heap.size hlw4 (by simp; omega)).trans HR4.out
      have HRR := Lib.hid hrR
      have HBF := Lib.hid (show Below w.heap.size w wr from HB4.out.grown GR.out HB4.out.size (fun q hq => by cases hq; exact Nat.le_of_lt hNr))
      have FAIL : stepL (decide (p1 = wLog)) (all, let_) (m, part) = none → lineS s n = none := fun hs => by
       rw [HLS2.out, if_neg (fun h => h HM.out), run_none (k := k + 1) (by rw [RT.out, hs])]
      have HFAIL := Lib.hid FAIL
      have HME := Lib.hid hme
      clear hrR FAIL hzk hpart hme
      have HB0 := HBF
      have HR0 := HRR
      have RW0 := ROWR
      have GR0 := GR
      have OA0 := OA
      have HNA := Lib.hid (show ∀ q, Value.ownBlock _ = some q → w4.heap.size ≤ q ∧ q < wr.heap.size from OA.out.lt_)
      have HK0' := Lib.hid (show ¬ 0 < m → 0 < all.length from fun hn => hap (by
       rcases Nat.eq_zero_or_pos k with rfl | h
       ·exact absurd (mosts_first (word := p1) (by rw [HMM.out, List.getElem?_eq_getElem hlt, HME.out])) hn
       ·exact h))
      by_cases hmp : 0 < m
      ·have hdm : decide (0 < m) = true := decide_eq_true hmp
       go_wp2_with fail
       refine (digits_any part (by omega) wr).mono ?_
       rintro e w5 ⟨rfl, hb5⟩
       have em5 := cB hb5 em
       have HB5 := Lib.hid (below2 HB0.out hb5)
       have HR5 := Lib.hid ((hb5.block w.heap.size (Array.getElem?_eq_some_iff.1 HR0.out).1).trans HR0.out)
       have RW5 := Lib.hid ((hb5.block N (Array.getElem?_eq_some_iff.1 RW0.out).1).trans RW0.out)
       have GR5 := Lib.hid (GR0.out.andThen (grown_of hb5 none) (by simp))
       have OA5 := Lib.hid (OA0.out.below hb5)
       obtain ⟨v, hv⟩ : ∃ v, numV part = v := ⟨_, rfl⟩
       have HV := Lib.hid hv
       rw [hv]
       clear hb5 hv em dp
       cases hok : numOk part with
       | false =>
        have HN := Lib.hid (HFAIL.out (by unfold stepL; rw [if_pos hmp, if_neg (by rw [hok]; simp)]))
        clear hok
        have r0 : w5.cell? ⟨w.heap.size, 0, none⟩ = some (.string ⟨#[]⟩) := by rw [cell_of_row _ _ _ _ _ _ HR5.out]; rfl
        have r1 : w5.cell? ⟨w.heap.size, 1, none⟩ = some (.int .i64 0) := by rw [cell_of_row _ _ _ _ _ _ HR5.out]; rfl
        have r2 : w5.cell? ⟨w.heap.size, 2, none⟩ = some (.int .i64 0) := by rw [cell_of_row _ _ _ _ _ _ HR5.out]; rfl
        have r3 : w5.cell? ⟨w.heap.size, 3, none⟩ = some (.string ⟨#[]⟩) := by rw [cell_of_row _ _ _ _ _ _ HR5.out]; rfl
        have r4 : w5.cell? ⟨w.heap.size, 4, none⟩ = some (.string ⟨#[]⟩) := by rw [cell_of_row _ _ _ _ _ _ HR5.out]; rfl
        have rf : ∀ j, w5.frozen? ⟨w.heap.size, j, none⟩ = false := fun j => by simp [World.frozen?, HR5.out]
        go_wp2_with fail
        exact fail_close (w := w) (w1 := w5) HR5.out rfl rfl HN.out HB5.out
       | true =>
        have HOK := Lib.hid hok
        clear hok
        have B6 := below_a1 w5 (.cells #[.int .i64 v] 2)
        have HB6 := Lib.hid (below2 HB5.out B6)
        have HR6 := Lib.hid ((B6.block w.heap.size (Array.getElem?_eq_some_iff.1 HR5.out).1).trans HR5.out)
        have RW6 := Lib.hid ((B6.block N (Array.getElem?_eq_some_iff.1 RW5.out).1).trans RW5.out)
        have GR6 := Lib.hid (GR5.out.andThen (grown_of B6 none) (by simp))
        have OA6 := Lib.hid (OA5.out.below B6)
        by_cases hr : 1 ≤ v ∧ v ≤ m
        ·have hwi := within_b 1 m v true (by simp [hr.1, hr.2]) w5.heap.size (w5.alloc (.cells #[.int .i64 v] 2)) (by simp) (by go_simp)
         have HS := Lib.hid (show runL (decide (p1 = wLog)) ([], ⟨#[]⟩) ((M.zip (P.drop 2)).take (k + 1)) = some (all ++ [v], let_) from by rw [RT.out]; unfold stepL; rw [if_pos hmp, if_pos ⟨HOK.out, by rw [HV.out]; exact hr.1, by rw [HV.out]; exact hr.2⟩, HV.out])
         clear hr B6
         go_wp2_with fail
         refine hwi.mono ?_
         clear hwi
         rintro e w7 ⟨rfl, hb7⟩
         have HB7 := Lib.hid (below2 HB6.out hb7)
         have HR7 := Lib.hid ((hb7.block w.heap.size (Array.getElem?_eq_some_iff.1 HR6.out).1).trans HR6.out)
         have RW7 := Lib.hid ((hb7.block N (Array.getElem?_eq_some_iff.1 RW6.out).1).trans RW6.out)
         have GR7 := Lib.hid (GR6.out.andThen (grown_of hb7 none) (by simp))
         have OA7 := Lib.hid (OA6.out.below hb7)
         clear hb7
         go_wp2_with (at_builtin; apply stop_)
         unfold Hid
         refine wpList_push e2 encI rfl _ _ rfl rfl (OA7.out.below (below_a1 w7 (.cells #[.int .i64 v] 2))) w7.heap.size 1 v rfl ?_ (by omega) (by omega) (by have := GR7.out.size; simp only [World.size_alloc]; omega) ?_
         ·intro j u hj; cases j with | zero => (simp [eI] at hj; subst hj; go_simp) | succ j => simp [eI] at hj
         intro v' w8 hown' hgr hlk
         have HOWN := Lib.hid hown'
         have B8 := below_a1 w7 (.cells #[.int .i64 v] 2)
         have RW8 := Lib.hid ((hgr.block N (by simp only [World.size_alloc]; exact Nat.lt_succ_of_lt (Array.getElem?_eq_some_iff.1 RW7.out).1) (fun e => by have := (OA7.out.lt_ N e.symm).1; omega)).trans ((B8.block N (Array.getElem?_eq_some_iff.1 RW7.out).1).trans RW7.out))
         have GR8 := Lib.hid ((GR7.out.andThen (grown_of B8 none) (by simp)).andThen hgr (fun j e => .inl (OA7.out.lt_ j e).1))
         clear hown' hgr hlk B8
         go_wp2
         go_roundg (M.length - (k + 1))
         case measure => omega
         case rel => exact ⟨k + 1, all ++ [v], let_, by omega, by omega, by go_num, HS.out, RW8.out, GR8.out, HOWN.out, by simp; omega, by simp⟩
        ·have hwi := within_b 1 m v false (by simp only [Bool.and_eq_false_iff, decide_eq_false_iff_not]; omega) w5.heap.size (w5.alloc (.cells #[.int .i64 v] 2)) (by simp) (by go_simp)
         have HN := Lib.hid (HFAIL.out (by unfold stepL; rw [if_pos hmp, if_neg (fun h => hr ⟨by rw [← HV.out]; exact h.2.1, by rw [← HV.out]; exact h.2.2⟩)]))
         clear hr B6
         go_wp2_with fail
         refine hwi.mono ?_
         clear hwi
         rintro e w7 ⟨rfl, hb7⟩
         have HB7 := Lib.hid (below2 HB6.out hb7)
         have HR7 := Lib.hid ((hb7.block w.heap.size (Array.getElem?_eq_some_iff.1 HR6.out).1).trans HR6.out)
         have RW7 := Lib.hid ((hb7.block N (Array.getElem?_eq_some_iff.1 RW6.out).1).trans RW6.out)
         have GR7 := Lib.hid (GR6.out.andThen (grown_of hb7 none) (by simp))
         have OA7 := Lib.hid (OA6.out.below hb7)
         clear hb7
         have r0 : w7.cell? ⟨w.heap.size, 0, none⟩ = some (.string ⟨#[]⟩) := by rw [cell_of_row _ _ _ _ _ _ HR7.out]; rfl
         have r1 : w7.cell? ⟨w.heap.size, 1, none⟩ = some (.int .i64 0) := by rw [cell_of_row _ _ _ _ _ _ HR7.out]; rfl
         have r2 : w7.cell? ⟨w.heap.size, 2, none⟩ = some (.int .i64 0) := by rw [cell_of_row _ _ _ _ _ _ HR7.out]; rfl
         have r3 : w7.cell? ⟨w.heap.size, 3, none⟩ = some (.string ⟨#[]⟩) := by rw [cell_of_row _ _ _ _ _ _ HR7.out]; rfl
         have r4 : w7.cell? ⟨w.heap.size, 4, none⟩ = some (.string ⟨#[]⟩) := by rw [cell_of_row _ _ _ _ _ _ HR7.out]; rfl
         have rf : ∀ j, w7.frozen? ⟨w.heap.size, j, none⟩ = false := fun j => by simp [World.frozen?, HR7.out]
         go_wp2_with fail
         exact fail_close (w := w) (w1 := w7) HR7.out rfl rfl HN.out HB7.out
      ·have hdm : decide (0 < m) = false := decide_eq_false hmp
       have HK0 := Lib.hid (HK0'.out hmp)
       have n0 : wr.cell? ⟨N, 0, none⟩ = some (.string p1) := by rw [cell_of_row _ _ _ _ _ _ ROWR.out]; rfl
       have w1e := word_eq part ⟨#[45]⟩
       have w2e := word_eq p1 wLog
       rw [ByteArray.toList_eq ⟨#[45]⟩] at w1e
       rw [ByteArray.toList_eq wLog] at w2e
       by_cases hA : part = ⟨#[45]⟩ ∧ p1 = wLog
       ·have hb1 : (part.toList == [45]) = true := by rw [decide_eq_true hA.1] at w1e; exact w1e
        have hb2 : (p1.toList == [108, 111, 103]) = true := by rw [decide_eq_true hA.2] at w2e; exact w2e
        have HS := Lib.hid (show runL (decide (p1 = wLog)) ([], ⟨#[]⟩) ((M.zip (P.drop 2)).take (k + 1)) = some (all, let_) from by rw [RT.out]; unfold stepL; rw [if_neg hmp, if_pos ⟨hA.1, decide_eq_true hA.2⟩])
        clear hA w1e w2e
        go_wp2
        go_roundg (M.length - (k + 1))
        case measure => omega
        case rel => exact ⟨k + 1, all, let_, by omega, by omega, by go_num, HS.out, ROWR.out, GR.out, OA.out, by omega, fun _ => HK0.out⟩
       ·have hst : stepL (decide (p1 = wLog)) (all, let_) (m, part) = if part.toList.isEmpty = true ∨ isSeenB part = false then none else some (all, part) := by
         unfold stepL
         rw [if_neg hmp, if_neg (fun h => hA ⟨h.1, by simpa using h.2⟩)]
        have HST := Lib.hid hst
        clear hst
        have hb12 : (part.toList == [45]) = false ∨ (p1.toList == [108, 111, 103]) = false := by
         by_cases h1 : part = ⟨#[45]⟩
         ·right
          have h2 : ¬ p1 = wLog := fun h => hA ⟨h1, h⟩
          rw [decide_eq_false h2] at w2e
          exact w2e
         ·left
          rw [decide_eq_false h1] at w1e
          exact w1e
        clear hA w1e w2e
        have HB0 := HBF
        have HR0 := HRR
        have RW0 := ROWR
        have GR0 := GR
        have OA0 := OA
        cases hb1 : (part.toList == [45]) with
        | false =>
         cases h0 : part.toList.isEmpty with
         | true =>
          have HN := Lib.hid (HFAIL.out (by rw [HST.out, if_pos (.inl h0)]))
          have r0 : wr.cell? ⟨w.heap.size, 0, none⟩ = some (.string ⟨#[]⟩) := by rw [cell_of_row _ _ _ _ _ _ HRR.out]; rfl
          have r1 : wr.cell? ⟨w.heap.size, 1, none⟩ = some (.int .i64 0) := by rw [cell_of_row _ _ _ _ _ _ HRR.out]; rfl
          have r2 : wr.cell? ⟨w.heap.size, 2, none⟩ = some (.int .i64 0) := by rw [cell_of_row _ _ _ _ _ _ HRR.out]; rfl
          have r3 : wr.cell? ⟨w.heap.size, 3, none⟩ = some (.string ⟨#[]⟩) := by rw [cell_of_row _ _ _ _ _ _ HRR.out]; rfl
          have r4 : wr.cell? ⟨w.heap.size, 4, none⟩ = some (.string ⟨#[]⟩) := by rw [cell_of_row _ _ _ _ _ _ HRR.out]; rfl
          have rf : ∀ j, wr.frozen? ⟨w.heap.size, j, none⟩ = false := fun j => by simp [World.frozen?, HRR.out]
          go_wp2_with fail
          exact fail_close (w := w) (w1 := wr) HRR.out rfl rfl HN.out HBF.out
         | false =>
          go_wp2_with fail
          refine (isSeen_any part wr).mono ?_
          rintro e w5 ⟨rfl, hb5⟩
          have HB5 := Lib.hid (below2 HB0.out hb5)
          have HR5 := Lib.hid ((hb5.block w.heap.size (Array.getElem?_eq_some_iff.1 HR0.out).1).trans HR0.out)
          have RW5 := Lib.hid ((hb5.block N (Array.getElem?_eq_some_iff.1 RW0.out).1).trans RW0.out)
          have GR5 := Lib.hid (GR0.out.andThen (grown_of hb5 none) (by simp))
          have OA5 := Lib.hid (OA0.out.below hb5)
          clear hb5 n0 em dp
          cases hs : isSeenB part with
          | false =>
           have HN := Lib.hid (HFAIL.out (by rw [HST.out, if_pos (.inr hs)]))
           clear hs
           have r0 : w5.cell? ⟨w.heap.size, 0, none⟩ = some (.string ⟨#[]⟩) := by rw [cell_of_row _ _ _ _ _ _ HR5.out]; rfl
           have r1 : w5.cell? ⟨w.heap.size, 1, none⟩ = some (.int .i64 0) := by rw [cell_of_row _ _ _ _ _ _ HR5.out]; rfl
           have r2 : w5.cell? ⟨w.heap.size, 2, none⟩ = some (.int .i64 0) := by rw [cell_of_row _ _ _ _ _ _ HR5.out]; rfl
           have r3 : w5.cell? ⟨w.heap.size, 3, none⟩ = some (.string ⟨#[]⟩) := by rw [cell_of_row _ _ _ _ _ _ HR5.out]; rfl
           have r4 : w5.cell? ⟨w.heap.size, 4, none⟩ = some (.string ⟨#[]⟩) := by rw [cell_of_row _ _ _ _ _ _ HR5.out]; rfl
           have rf : ∀ j, w5.frozen? ⟨w.heap.size, j, none⟩ = false := fun j => by simp [World.frozen?, HR5.out]
           go_wp2_with fail
           exact fail_close (w := w) (w1 := w5) HR5.out rfl rfl HN.out HB5.out
          | true =>
           have HS := Lib.hid (show runL (decide (p1 = wLog)) ([], ⟨#[]⟩) ((M.zip (P.drop 2)).take (k + 1)) = some (all, part) from by rw [RT.out, HST.out, if_neg (by rw [h0, hs]; simp)])
           clear hs
           have n3 : w5.cell? ⟨N, 3, none⟩ = some (.string let_) := by rw [cell_of_row _ _ _ _ _ _ RW5.out]; rfl
           have nf3 : w5.frozen? ⟨N, 3, none⟩ = false := by simp [World.frozen?, RW5.out]
           have RW6 := Lib.hid (show (w5.setCell ⟨N, 3, none⟩ (.string part)).heap[N]? = some (.cells #[.string p1, .int .i64 0, .int .i64 0, .string part, .string T] 108 (0, 0)) from (heap_setCell_same w5 N 3 _ 108 (.string part) RW5.out).trans (by simp))
           have GR6 := Lib.hid (GR5.out.andThen (grown_cell w5 N 3 (.string part)) (fun j e => .inr e))
           have OA6 := Lib.hid (OA5.out.kept (grown_cell w5 N 3 (.string part)) (.inr (fun e => by have := (OA5.out.lt_ N e).1; omega)))
           go_wp2
           go_roundg (M.length - (k + 1))
           case measure => omega
           case rel => exact ⟨k + 1, all, part, by omega, by omega, by go_num, HS.out, RW6.out, GR6.out, OA6.out, by omega, fun _ => HK0.out⟩
        | true =>
         have hb2 : (p1.toList == [108, 111, 103]) = false := hb12.resolve_left (by rw [hb1]; simp)
         cases h0 : part.toList.isEmpty with
         | true =>
          have HN := Lib.hid (HFAIL.out (by rw [HST.out, if_pos (.inl h0)]))
          have r0 : wr.cell? ⟨w.heap.size, 0, none⟩ = some (.string ⟨#[]⟩) := by rw [cell_of_row _ _ _ _ _ _ HRR.out]; rfl
          have r1 : wr.cell? ⟨w.heap.size, 1, none⟩ = some (.int .i64 0) := by rw [cell_of_row _ _ _ _ _ _ HRR.out]; rfl
          have r2 : wr.cell? ⟨w.heap.size, 2, none⟩ = some (.int .i64 0) := by rw [cell_of_row _ _ _ _ _ _ HRR.out]; rfl
          have r3 : wr.cell? ⟨w.heap.size, 3, none⟩ = some (.string ⟨#[]⟩) := by rw [cell_of_row _ _ _ _ _ _ HRR.out]; rfl
          have r4 : wr.cell? ⟨w.heap.size, 4, none⟩ = some (.string ⟨#[]⟩) := by rw [cell_of_row _ _ _ _ _ _ HRR.out]; rfl
          have rf : ∀ j, wr.frozen? ⟨w.heap.size, j, none⟩ = false := fun j => by simp [World.frozen?, HRR.out]
          go_wp2_with fail
          exact fail_close (w := w) (w1 := wr) HRR.out rfl rfl HN.out HBF.out
         | false =>
          go_wp2_with fail
          refine (isSeen_any part wr).mono ?_
          rintro e w5 ⟨rfl, hb5⟩
          have HB5 := Lib.hid (below2 HB0.out hb5)
          have HR5 := Lib.hid ((hb5.block w.heap.size (Array.getElem?_eq_some_iff.1 HR0.out).1).trans HR0.out)
          have RW5 := Lib.hid ((hb5.block N (Array.getElem?_eq_some_iff.1 RW0.out).1).trans RW0.out)
          have GR5 := Lib.hid (GR0.out.andThen (grown_of hb5 none) (by simp))
          have OA5 := Lib.hid (OA0.out.below hb5)
          clear hb5 n0 em dp
          cases hs : isSeenB part with
          | false =>
           have HN := Lib.hid (HFAIL.out (by rw [HST.out, if_pos (.inr hs)]))
           clear hs
           have r0 : w5.cell? ⟨w.heap.size, 0, none⟩ = some (.string ⟨#[]⟩) := by rw [cell_of_row _ _ _ _ _ _ HR5.out]; rfl
           have r1 : w5.cell? ⟨w.heap.size, 1, none⟩ = some (.int .i64 0) := by rw [cell_of_row _ _ _ _ _ _ HR5.out]; rfl
           have r2 : w5.cell? ⟨w.heap.size, 2, none⟩ = some (.int .i64 0) := by rw [cell_of_row _ _ _ _ _ _ HR5.out]; rfl
           have r3 : w5.cell? ⟨w.heap.size, 3, none⟩ = some (.string ⟨#[]⟩) := by rw [cell_of_row _ _ _ _ _ _ HR5.out]; rfl
           have r4 : w5.cell? ⟨w.heap.size, 4, none⟩ = some (.string ⟨#[]⟩) := by rw [cell_of_row _ _ _ _ _ _ HR5.out]; rfl
           have rf : ∀ j, w5.frozen? ⟨w.heap.size, j, none⟩ = false := fun j => by simp [World.frozen?, HR5.out]
           go_wp2_with fail
           exact fail_close (w := w) (w1 := w5) HR5.out rfl rfl HN.out HB5.out
          | true =>
           have HS := Lib.hid (show runL (decide (p1 = wLog)) ([], ⟨#[]⟩) ((M.zip (P.drop 2)).take (k + 1)) = some (all, part) from by rw [RT.out, HST.out, if_neg (by rw [h0, hs]; simp)])
           clear hs
           have n3 : w5.cell? ⟨N, 3, none⟩ = some (.string let_) := by rw [cell_of_row _ _ _ _ _ _ RW5.out]; rfl
           have nf3 : w5.frozen? ⟨N, 3, none⟩ = false := by simp [World.frozen?, RW5.out]
           have RW6 := Lib.hid (show (w5.setCell ⟨N, 3, none⟩ (.string part)).heap[N]? = some (.cells #[.string p1, .int .i64 0, .int .i64 0, .string part, .string T] 108 (0, 0)) from (heap_setCell_same w5 N 3 _ 108 (.string part) RW5.out).trans (by simp))
           have GR6 := Lib.hid (GR5.out.andThen (grown_cell w5 N 3 (.string part)) (fun j e => .inr e))
           have OA6 := Lib.hid (OA5.out.kept (grown_cell w5 N 3 (.string part)) (.inr (fun e => by have := (OA5.out.lt_ N e).1; omega)))
           go_wp2
           go_roundg (M.length - (k + 1))
           case measure => omega
           case rel => exact ⟨k + 1, all, part, by omega, by omega, by go_num, HS.out, RW6.out, GR6.out, OA6.out, by omega, fun _ => HK0.out⟩
     ·have hli : ¬ (k : Int) < (M.length : Int) := by omega
      have hli2 : ¬ (k : Int) < (P.length : Int) - 2 := by omega
      have hli3 : ¬ k < P.length - 2 := by omega
      have hz : (M.zip (P.drop 2)).take k = M.zip (P.drop 2) := List.take_of_length_le (by rw [List.length_zip, List.length_drop]; omega)
      have hrun := RUN.out
      rw [hz] at hrun
      have hok : lineS s n = some ⟨p1, (all[0]?).getD 0, (all[1]?).getD 0, let_, T⟩ := by rw [HLS2.out, if_neg (fun h => h HM.out), hrun]
      have HOK := Lib.hid hok
      have h0a : 0 < all.length := hap (by omega)
      obtain ⟨GA, ca, rfl⟩ := OA.out.sl
      have h0ai : (0 : Int) < (all.length : Int) := by omega
      obtain ⟨ba, offa, a0, ha0, rfl, hba, e0⟩ := (OA.out.rs encI).atI h0a
      rw [Nat.add_zero] at e0
      have hbaN : ¬ ba = N := fun e => by
       have := (OA.out.lt_ ba rfl).1
       omega
      have hNba : ¬ N = ba := fun e => hbaN e.symm
      have hNw : N < wr.heap.size := (Array.getElem?_eq_some_iff.1 ROWR.out).1
      have n0 : wr.cell? ⟨N, 0, none⟩ = some (.string p1) := by rw [cell_of_row _ _ _ _ _ _ ROWR.out]; rfl
      have n1 : wr.cell? ⟨N, 1, none⟩ = some (.int .i64 0) := by rw [cell_of_row _ _ _ _ _ _ ROWR.out]; rfl
      have n2 : wr.cell? ⟨N, 2, none⟩ = some (.int .i64 0) := by rw [cell_of_row _ _ _ _ _ _ ROWR.out]; rfl
      have n3 : wr.cell? ⟨N, 3, none⟩ = some (.string let_) := by rw [cell_of_row _ _ _ _ _ _ ROWR.out]; rfl
      have n4 : wr.cell? ⟨N, 4, none⟩ = some (.string T) := by rw [cell_of_row _ _ _ _ _ _ ROWR.out]; rfl
      have nf : ∀ j, wr.frozen? ⟨N, j, none⟩ = false := fun j => by simp [World.frozen?, ROWR.out]
      have hrR : wr.heap[w.heap.size]? = some (.cells zeroRow 108 (0, 0)) := (GR.out.block w.heap.size hlw4 (by simp; omega)).trans HR4.out
      have r0 : wr.cell? ⟨w.heap.size, 0, none⟩ = some (.string ⟨#[]⟩) := by rw [cell_of_row _ _ _ _ _ _ hrR]; rfl
      have r1 : wr.cell? ⟨w.heap.size, 1, none⟩ = some (.int .i64 0) := by rw [cell_of_row _ _ _ _ _ _ hrR]; rfl
      have r2 : wr.cell? ⟨w.heap.size, 2, none⟩ = some (.int .i64 0) := by rw [cell_of_row _ _ _ _ _ _ hrR]; rfl
      have r3 : wr.cell? ⟨w.heap.size, 3, none⟩ = some (.string ⟨#[]⟩) := by rw [cell_of_row _ _ _ _ _ _ hrR]; rfl
      have r4 : wr.cell? ⟨w.heap.size, 4, none⟩ = some (.string ⟨#[]⟩) := by rw [cell_of_row _ _ _ _ _ _ hrR]; rfl
      have rf : ∀ j, wr.frozen? ⟨w.heap.size, j, none⟩ = false := fun j => by simp [World.frozen?, hrR]
      have HRR := Lib.hid hrR
      have HA0 := Lib.hid ha0
      clear hok hz hrun hrR ha0
      have g1 := grown_cell wr N 1 (.int .i64 a0)
      have gr1 := GR.out.andThen g1 (fun j e => .inr e)
      have HBF := Lib.hid (show Below w.heap.size w wr from HB4.out.grown GR.out HB4.out.size (fun q hq => by cases hq; exact Nat.le_of_lt hNr))
      have HB1 := Lib.hid (HBF.out.grown g1 HBF.out.size (fun q hq => by cases hq; exact Nat.le_of_lt hNr))
      have HR1 := Lib.hid ((g1.block w.heap.size (Array.getElem?_eq_some_iff.1 HRR.out).1 (by simp; omega)).trans HRR.out)
      have ha0 : (all[0]?).getD 0 = a0 := by rw [List.getElem?_eq_getElem h0a, HA0.out]; rfl
      have HGA := Lib.hid ha0
      clear ha0 gr1
      by_cases h1a : 1 < all.length
      ·have h1ai : decide (1 < (all.length : Int)) = true := decide_eq_true (by omega)
       have h1an : decide (1 < all.length) = true := decide_eq_true h1a
       have h1ai2 : (1 : Int) < (all.length : Int) := by omega
       obtain ⟨bx, offx, a1, ha1, ex, _, e1⟩ := (OA.out.rs encI).atI h1a
       cases ex
       have g2 := grown_cell (wr.setCell ⟨N, 1, none⟩ (.int .i64 a0)) N 2 (.int .i64 a1)
       have HB2' := Lib.hid (HB1.out.grown g2 HB1.out.size (fun q hq => by cases hq; exact Nat.le_of_lt hNr))
       have HR2' := Lib.hid ((g2.block w.heap.size (Array.getElem?_eq_some_iff.1 HR1.out).1 (by simp; omega)).trans HR1.out)
       have hga1 : (all[1]?).getD 0 = a1 := by rw [List.getElem?_eq_getElem h1a, ha1]; rfl
       have HGA1 := Lib.hid hga1
       clear g1 g2 hga1 ha1
       go_wp2_with fail
       exact ok_close (w := w) (x := ⟨p1, a0, a1, let_, T⟩) HR2'.out rfl rfl (by rw [HOK.out, HGA.out, HGA1.out]) HB2'.out (Nat.le_refl _)
      ·have h1ai : decide (1 < (all.length : Int)) = false := decide_eq_false (by omega)
       have h1an : decide (1 < all.length) = false := decide_eq_false h1a
       have hga1 : (all[1]?).getD 0 = 0 := by rw [List.getElem?_eq_none (by omega)]; rfl
       have HGA1 := Lib.hid hga1
       clear g1 hga1
       go_wp2_with fail
       exact ok_close (w := w) (x := ⟨p1, a0, 0, let_, T⟩) HR1.out rfl rfl (by rw [HOK.out, HGA.out, HGA1.out]) HB1.out (Nat.le_refl _)
   ·have hmi : ((M.length : Int) != (P.length : Int) - 2) = true := by simp; omega
    have hno : lineS s n = none := by rw [HLS2.out, if_pos hm]
    have HNO := Lib.hid hno
    have hmne : ¬ (M.length : Int) = (P.length : Int) - 2 := by omega
    clear hno hm
    go_wp2_with fail
    exact fail_close (w := w) (w1 := w4) HR4.out rfl rfl HNO.out HB4.out
 ·have hde : (p0.toList == it.toList) = false := by rw [word_eq]; exact decide_eq_false heq
  have hno : lineS s n = none := by rw [HLS.out, if_neg h3, if_pos (by rw [hp0g, HIT.out]; exact fun e => heq (Option.some.inj e))]
  have HNO := Lib.hid hno
  clear hno
  go_wp2_with fail
  ·exact fail_close (w := w) (w1 := wz) HROWZ.out rfl rfl HNO.out HB2.out
  ·exact absurd ‹(!(p0.toList == it.toList)) = false› (by rw [hde]; simp)
end Go.Proofs.YtcnpbcgkhhebaaaGreatDoor
/- What play computes: lines in effect, strikes. -/
namespace Go.Proofs.YtcnpbcgkhhebaaaGreatDoor
open Go.RowKit

def againS : List Ow → List Lg → List Ln → Option (List Ow × List Lg)
 | os, ls, [] => some (os, ls)
 | os, ls, x :: r => if (doS os ls x).2.2 = 0 then againS (doS os ls x).1 (doS os ls x).2.1 r else none
/-- The lines in effect among the first k, with their places. -/
def effK (lines : List Ln) (inn : List Int) (k : Nat) : List (Nat × Ln) :=
 (List.range k).filterMap fun i => if inn[i]? = some 1 then (lines[i]?).map fun x => (i, x) else none
def effL (lines : List Ln) (inn : List Int) : List (Nat × Ln) := effK lines inn lines.length
def strikeS (lines : List Ln) (inn : List Int) (os : List Ow) (ls : List Lg) (k : Int) (n : Nat) : List Ow × List Lg × List Int × Int :=
 if (n : Int) ≤ k then (os, ls, inn, 3)
 else if (inn[k.toNat]?).getD 0 = 0 then (os, ls, inn, 5)
 else match againS [] [] (((effL lines inn).filter fun p => !decide ((p.1 : Int) = k)).map (·.2)) with
  | none => (os, ls, inn, 13)
  | some r => (r.1, r.2, inn.set k.toNat 0, 0)
structure St where
 os : List Ow
 ls : List Lg
 inn : List Int
 errs : List Int
def stepS (lines : List Ln) (s : St) (n : Nat) (x : Ln) : St :=
 if x.word = wStrike then
  let r := strikeS lines s.inn s.os s.ls (x.one - 1) n
  ⟨r.1, r.2.1, r.2.2.1, s.errs ++ [r.2.2.2]⟩
 else
  let r := doS s.os s.ls x
  ⟨r.1, r.2.1, if r.2.2 = 0 then s.inn.set n 1 else s.inn, s.errs ++ [r.2.2]⟩
def playK (lines : List Ln) (k : Nat) : St := (List.range k).foldl (fun s i => match lines[i]? with | some x => stepS lines s i x | none => s) ⟨[], [], List.replicate lines.length 0, []⟩
def playS (lines : List Ln) : St := playK lines lines.length

theorem effK_zero (lines : List Ln) (inn : List Int) : effK lines inn 0 = [] := rfl
theorem effK_yes {lines : List Ln} {inn : List Int} {k : Nat} (hk : k < lines.length) (h : inn[k]? = some 1) : effK lines inn (k + 1) = effK lines inn k ++ [(k, lines[k])] := by
 unfold effK
 rw [List.range_succ, List.filterMap_append]
 simp [h, hk]
theorem effK_no {lines : List Ln} {inn : List Int} {k : Nat} (h : inn[k]? ≠ some 1) : effK lines inn (k + 1) = effK lines inn k := by
 unfold effK
 rw [List.range_succ, List.filterMap_append]
 simp [h]
theorem effK_len (lines : List Ln) (inn : List Int) : ∀ k, (effK lines inn k).length ≤ k := fun k => by
 unfold effK
 exact Nat.le_trans (List.length_filterMap_le _ _) (by simp)
theorem effK_mem {lines : List Ln} {inn : List Int} {k : Nat} {p : Nat × Ln} (h : p ∈ effK lines inn k) : p.1 < k ∧ inn[p.1]? = some 1 ∧ lines[p.1]? = some p.2 := by
 unfold effK at h
 obtain ⟨i, hi, he⟩ := List.mem_filterMap.1 h
 split at he
 ·rename_i h1
  obtain ⟨x, hx, rfl⟩ := Option.map_eq_some_iff.1 he
  exact ⟨List.mem_range.1 hi, h1, hx⟩
 ·cases he
theorem effL_mem {lines : List Ln} {inn : List Int} {p : Nat × Ln} (h : p ∈ effL lines inn) : p.2 ∈ lines := List.mem_of_getElem? (effK_mem h).2.2
theorem playK_succ {lines : List Ln} {k : Nat} (hk : k < lines.length) : playK lines (k + 1) = stepS lines (playK lines k) k lines[k] := by
 unfold playK
 rw [List.range_succ, List.foldl_append]
 simp [hk]
theorem strike_inn (lines : List Ln) (inn : List Int) (os : List Ow) (ls : List Lg) (k : Int) (n : Nat) : (strikeS lines inn os ls k n).2.2.1.length = inn.length := by
 unfold strikeS
 repeat' split
 all_goals simp
theorem playK_len (lines : List Ln) : ∀ k, k ≤ lines.length → (playK lines k).inn.length = lines.length ∧ (playK lines k).errs.length = k
 | 0, _ => by simp [playK]
 | k + 1, h => by
  obtain ⟨h1, h2⟩ := playK_len lines k (by omega)
  rw [playK_succ (by omega)]
  unfold stepS
  split
  ·simp only [strike_inn, List.length_append, List.length_cons, List.length_nil]
   omega
  ·simp only [List.length_append, List.length_cons, List.length_nil]
   refine ⟨?_, by omega⟩
   split
   ·rw [List.length_set]; exact h1
   ·exact h1
theorem againS_app : ∀ (l1 l2 : List Ln) (os : List Ow) (ls : List Lg), againS os ls (l1 ++ l2) = match againS os ls l1 with | none => none | some r => againS r.1 r.2 l2
 | [], l2, os, ls => rfl
 | x :: r, l2, os, ls => by
  rw [List.cons_append, againS, againS]
  split
  ·exact againS_app r l2 _ _
  ·rfl
theorem good_again : ∀ (l : List Ln) (os : List Ow) (ls : List Lg), Good os ls → (∀ x ∈ l, LnOk x) → ∀ r, againS os ls l = some r → Good r.1 r.2
 | [], os, ls, h, _, r, e => by cases e; exact h
 | x :: l, os, ls, h, hx, r, e => by
  rw [againS] at e
  split at e
  ·exact good_again l _ _ (good_do h (hx x List.mem_cons_self)) (fun y hy => hx y (List.mem_cons_of_mem _ hy)) r e
  ·cases e
theorem good_strike {lines : List Ln} {inn : List Int} {os : List Ow} {ls : List Lg} {k : Int} {n : Nat} (h : Good os ls) (hx : ∀ x ∈ lines, LnOk x) : Good (strikeS lines inn os ls k n).1 (strikeS lines inn os ls k n).2.1 := by
 unfold strikeS
 split
 ·exact h
 ·split
  ·exact h
  ·split
   ·exact h
   ·rename_i r hr
    refine good_again _ _ _ good_nil (fun x hm => ?_) r hr
    obtain ⟨p, hp, rfl⟩ := List.mem_map.1 hm
    exact hx _ (effL_mem (List.mem_filter.1 hp).1)
theorem good_play {lines : List Ln} (hx : ∀ x ∈ lines, LnOk x) : ∀ k, k ≤ lines.length → Good (playK lines k).os (playK lines k).ls
 | 0, _ => good_nil
 | k + 1, h => by
  have ih := good_play hx k (by omega)
  rw [playK_succ (by omega)]
  unfold stepS
  split
  ·exact good_strike ih hx
  ·exact good_do ih (hx _ (List.getElem_mem _))
theorem inn01_strike {lines : List Ln} {inn : List Int} {os : List Ow} {ls : List Lg} {k : Int} {n : Nat} (h : ∀ x ∈ inn, x = 0 ∨ x = 1) : ∀ x ∈ (strikeS lines inn os ls k n).2.2.1, x = 0 ∨ x = 1 := by
 unfold strikeS
 repeat' split
 all_goals first
  | exact h
  | (intro x hx
     rcases List.mem_or_eq_of_mem_set hx with hx | rfl
     ·exact h x hx
     ·exact .inl rfl)
theorem inn01 {lines : List Ln} : ∀ k, k ≤ lines.length → ∀ x ∈ (playK lines k).inn, x = 0 ∨ x = 1
 | 0, _ => fun x hx => .inl (List.eq_of_mem_replicate hx)
 | k + 1, h => by
  have ih := inn01 (lines := lines) k (by omega)
  rw [playK_succ (by omega)]
  unfold stepS
  split
  ·exact inn01_strike ih
  ·simp only
   split
   ·intro x hx
    rcases List.mem_or_eq_of_mem_set hx with hx | rfl
    ·exact ih x hx
    ·exact .inr rfl
   ·exact ih
end Go.Proofs.YtcnpbcgkhhebaaaGreatDoor
/- The document: owners and logs by their numbers. -/
namespace Go.Proofs.YtcnpbcgkhhebaaaGreatDoor
open Go.RowKit

set_option maxHeartbeats 1000000 in
theorem ownerAt_any (A : Option Addr) (c : Nat) (os : List Ow) (v2 : Value) (n : Int) (w : World) (hr : Rd eO 3 w A c os) :
  Calls Tryz.prog 91 #[.agg #[.slice A os.length c, v2], .int .i64 n] w fun e w' => e = .returned (.int .i64 (ownIx os n)) ∧ Below w.heap.size w w' := by
 have hlen := hr.len
 have hr1 := hr.below (below_a1 w (.cells #[.slice A os.length c, v2] 26))
 have HR := Lib.hid hr1
 clear hr hr1
 go_enter Tryz.func91, Tryz.ntmps91
 go_wp2
 go_loopg [5] os.length (fun gg s5 wr => ∃ k : Nat, k ≤ os.length ∧ os.length - k ≤ gg ∧ s5 = .int .i64 k ∧ Hid (wr = w.alloc (.cells #[.slice A os.length c, v2] 26)) ∧ Hid (∀ j, (hj : j < k) → (hx : j < os.length) → (os[j].num == n) = false))
 case atStart => exact ⟨0, Nat.zero_le _, by omega, rfl, rfl, fun j hj => absurd hj (Nat.not_lt_zero _)⟩
 case round =>
  obtain ⟨k, hk, hg, rfl, BW, AA⟩ := hrel
  obtain rfl := BW.out
  by_cases hlt : k < os.length
  ·have hli : (k : Int) < (os.length : Int) := by omega
   obtain ⟨b, off, y, hy, rfl, hb, c0, c1, c2⟩ := HR.out.atO hlt
   have B := Lib.hid hy
   clear hy
   cases hq : (y.num == n) with
   | true =>
    go_wp2
    go_ret
    refine ⟨?_, below_a1 _ _⟩
    unfold ownIx
    rw [idxI_hit hlt (fun j hj => AA.out j hj (by omega)) (by rw [← B.out]; exact hq)]
    rfl
   | false =>
    have HQ := Lib.hid hq
    go_wp2
    go_roundg (os.length - (k + 1))
    case measure => omega
    case rel =>
     refine ⟨k + 1, by omega, by omega, by go_num, rfl, (show Hid _ from fun j hj hx => ?_)⟩
     by_cases e : j = k
     ·subst e
      rw [← B.out]; exact HQ.out
     ·exact AA.out j (by omega) hx
  ·have hli : ¬ (k : Int) < (os.length : Int) := by omega
   go_wp2
   go_ret
   exact ⟨by unfold ownIx; rw [idxI_miss fun j hj => AA.out j (by omega) hj]; rfl, below_a1 _ _⟩
set_option maxHeartbeats 1000000 in
theorem logAt_any (v1 : Value) (A : Option Addr) (c : Nat) (ls : List Lg) (n : Int) (w : World) (hr : Rd eL 5 w A c ls) :
  Calls Tryz.prog 123 #[.agg #[v1, .slice A ls.length c], .int .i64 n] w fun e w' => e = .returned (.int .i64 (idxI (fun x : Lg => x.num == n) ls)) ∧ Below w.heap.size w w' := by
 have hlen := hr.len
 have hr1 := hr.below (below_a1 w (.cells #[v1, .slice A ls.length c] 26))
 have HR := Lib.hid hr1
 clear hr hr1
 go_enter Tryz.func123, Tryz.ntmps123
 go_wp2
 go_loopg [5] ls.length (fun gg s5 wr => ∃ k : Nat, k ≤ ls.length ∧ ls.length - k ≤ gg ∧ s5 = .int .i64 k ∧ Hid (wr = w.alloc (.cells #[v1, .slice A ls.length c] 26)) ∧ Hid (∀ j, (hj : j < k) → (hx : j < ls.length) → (ls[j].num == n) = false))
 case atStart => exact ⟨0, Nat.zero_le _, by omega, rfl, rfl, fun j hj => absurd hj (Nat.not_lt_zero _)⟩
 case round =>
  obtain ⟨k, hk, hg, rfl, BW, AA⟩ := hrel
  obtain rfl := BW.out
  by_cases hlt : k < ls.length
  ·have hli : (k : Int) < (ls.length : Int) := by omega
   obtain ⟨b, off, y, hy, rfl, hb, c0, c1, c2, c3, c4⟩ := HR.out.atL hlt
   have B := Lib.hid hy
   clear hy
   cases hq : (y.num == n) with
   | true =>
    go_wp2
    go_ret
    refine ⟨?_, below_a1 _ _⟩
    rw [idxI_hit hlt (fun j hj => AA.out j hj (by omega)) (by rw [← B.out]; exact hq)]
    rfl
   | false =>
    have HQ := Lib.hid hq
    go_wp2
    go_roundg (ls.length - (k + 1))
    case measure => omega
    case rel =>
     refine ⟨k + 1, by omega, by omega, by go_num, rfl, (show Hid _ from fun j hj hx => ?_)⟩
     by_cases e : j = k
     ·subst e
      rw [← B.out]; exact HQ.out
     ·exact AA.out j (by omega) hx
  ·have hli : ¬ (k : Int) < (ls.length : Int) := by omega
   go_wp2
   go_ret
   exact ⟨by rw [idxI_miss fun j hj => AA.out j (by omega) hj]; rfl, below_a1 _ _⟩

def numB (n : Int) : Bool := decide (1 ≤ n) && decide (n ≤ 1099511627776)
set_option maxHeartbeats 1000000 in
theorem isNumber_any (n : Int) (w : World) : Calls Tryz.prog 83 #[.int .i64 n] w fun e w' => e = .returned (.bool (numB n)) ∧ w' = w := by
 unfold numB
 by_cases h1 : 1 ≤ n
 ·have hd : decide (1 ≤ n) = true := decide_eq_true h1
  go_enter Tryz.func83, Tryz.ntmps83
  go_wp2
  go_ret
  exact ⟨by simp [hd], rfl⟩
 ·have hd : decide (1 ≤ n) = false := decide_eq_false h1
  go_enter Tryz.func83, Tryz.ntmps83
  go_wp2
  go_ret
  exact ⟨by simp, rfl⟩
set_option maxHeartbeats 1000000 in
theorem fee_any (l : Lg) (h : 1 ≤ l.feet ∧ l.feet ≤ 10000) (w : World) : Calls Tryz.prog 96 #[.agg (eL l).toArray] w fun e w' => e = .returned (.int .i64 (fee l)) ∧ Below w.heap.size w w' := by
 obtain ⟨num, seen, feet, own, gone⟩ := l
 obtain ⟨h1, h2⟩ := h
 simp only at h1 h2
 simp only [eL]
 go_enter Tryz.func96, Tryz.ntmps96
 go_wp2
 go_ret
 exact ⟨rfl, below_a1 _ _⟩
/-- The fees of the logs of an owner. -/
def feesOf (ls : List Lg) (o : Int) : Int := ((ls.filter fun l => l.own == o).map fee).sum
theorem feesOf_yes {ls : List Lg} {o : Int} {k : Nat} (hk : k < ls.length) (h : (ls[k].own == o) = true) : feesOf (ls.take (k + 1)) o = feesOf (ls.take k) o + fee ls[k] := by
 unfold feesOf
 rw [List.take_succ_eq_append_getElem hk, List.filter_append, List.map_append, List.sum_append]
 simp [h]
theorem feesOf_no {ls : List Lg} {o : Int} {k : Nat} (hk : k < ls.length) (h : (ls[k].own == o) = false) : feesOf (ls.take (k + 1)) o = feesOf (ls.take k) o := by
 unfold feesOf
 rw [List.take_succ_eq_append_getElem hk, List.filter_append, List.map_append, List.sum_append]
 simp [h]
theorem feesOf_bd : ∀ {ls : List Lg}, (∀ l ∈ ls, 1 ≤ l.feet ∧ l.feet ≤ 10000) → ∀ o, 0 ≤ feesOf ls o ∧ feesOf ls o ≤ 1003 * ls.length := by
 intro ls
 induction ls with
 | nil => intro _ i; simp [feesOf]
 | cons l ls ih =>
  intro h i
  have h1 := ih (fun x hx => h x (List.mem_cons_of_mem _ hx)) i
  have h2 := h l (List.mem_cons_self)
  unfold feesOf at h1 ⊢
  rw [List.filter_cons]
  split
  ·rw [List.map_cons, List.sum_cons, List.length_cons]
   unfold fee at *
   omega
  ·rw [List.length_cons]
   omega
set_option maxHeartbeats 1000000 in
theorem feesOf_any (v1 : Value) (A : Option Addr) (c : Nat) (ls : List Lg) (n : Int) (w : World) (hr : Rd eL 5 w A c ls) (hft : ∀ l ∈ ls, 1 ≤ l.feet ∧ l.feet ≤ 10000) (hln : ls.length ≤ 1000000) :
  Calls Tryz.prog 92 #[.agg #[v1, .slice A ls.length c], .int .i64 n] w fun e w' => e = .returned (.int .i64 (feesOf ls n)) ∧ Below w.heap.size w w' := by
 have hr1 := hr.below (below_a1 w (.cells #[v1, .slice A ls.length c] 26))
 have HR := Lib.hid hr1
 have HF := Lib.hid hft
 clear hr hr1 hft
 go_enter Tryz.func92, Tryz.ntmps92
 go_wp2
 go_loopg [5, 6] ls.length (fun gg s5 s6 wr => ∃ k : Nat, k ≤ ls.length ∧ ls.length - k ≤ gg ∧ s6 = .int .i64 k ∧ s5 = .int .i64 (feesOf (ls.take k) n) ∧ Hid (Below (w.alloc (.cells #[v1, .slice A ls.length c] 26)).heap.size (w.alloc (.cells #[v1, .slice A ls.length c] 26)) wr))
 case atStart => exact ⟨0, Nat.zero_le _, by omega, rfl, rfl, Below.refl _ _⟩
 case round =>
  obtain ⟨k, hk, hg, rfl, rfl, BW⟩ := hrel
  have k1 : wr.cell? ⟨w.heap.size, 1, none⟩ = some (.slice A ls.length c) := cB BW.out (by go_simp)
  by_cases hlt : k < ls.length
  ·have hli : (k : Int) < (ls.length : Int) := by omega
   obtain ⟨b, off, y, hy, rfl, hb, c0, c1, c2, c3, c4⟩ := (HR.out.below BW.out).atL hlt
   have hbd := feesOf_bd (ls := ls.take k) (fun l hl => HF.out l (List.mem_of_mem_take hl)) n
   have htk : (ls.take k).length = k := by rw [List.length_take]; omega
   rw [htk] at hbd
   have hyf := HF.out y (by rw [hy]; exact List.getElem_mem hlt)
   have hfy : 3 ≤ fee y ∧ fee y ≤ 1003 := by unfold fee; omega
   have HY := Lib.hid hy
   have hcon := fee_any y hyf wr
   clear hy
   cases hq : (y.own == n) with
   | true =>
    have hs : feesOf (ls.take (k + 1)) n = feesOf (ls.take k) n + fee y := by rw [HY.out]; exact feesOf_yes hlt (by rw [← HY.out]; exact hq)
    have HS := Lib.hid hs
    clear hs
    obtain ⟨num, seen, feet, own, gone⟩ := y
    obtain ⟨fs, hfs⟩ : ∃ fs, feesOf (ls.take k) n = fs := ⟨_, rfl⟩
    rw [hfs] at HS hbd
    obtain ⟨fy, hfy'⟩ : ∃ fy, fee ⟨num, seen, feet, own, gone⟩ = fy := ⟨_, rfl⟩
    rw [hfy'] at HS hcon hfy
    have HFS := Lib.hid hfs
    have HC := Lib.hid hcon
    simp only at c0 c1 c2 c3 c4 hq
    clear hcon hfy' htk
    rw [hfs]
    clear hfs
    go_wp2_with fail
    go_wp2_with (go_at_call 96; refine HC.out.mono ?_; rintro e w1 ⟨rfl, hb1⟩)
    go_roundg (ls.length - (k + 1))
    case measure => omega
    case rel => exact ⟨k + 1, by omega, by omega, by go_num, by rw [HS.out], below2 BW.out hb1⟩
   | false =>
    have hs : feesOf (ls.take (k + 1)) n = feesOf (ls.take k) n := feesOf_no hlt (by rw [← HY.out]; exact hq)
    have HS := Lib.hid hs
    clear hs hcon hbd
    go_wp2
    go_roundg (ls.length - (k + 1))
    case measure => omega
    case rel => exact ⟨k + 1, by omega, by omega, by go_num, by rw [HS.out], BW.out⟩
  ·have hli : ¬ (k : Int) < (ls.length : Int) := by omega
   have hke : ls.take k = ls := List.take_of_length_le (by omega)
   have HK := Lib.hid hke
   clear hke
   go_wp2
   go_ret
   exact ⟨by rw [HK.out]; rfl, below2 (below_a1 _ _) BW.out⟩
end Go.Proofs.YtcnpbcgkhhebaaaGreatDoor
/- The document: words, marks, what is worn. -/
namespace Go.Proofs.YtcnpbcgkhhebaaaGreatDoor
open Go.RowKit

theorem take_any {s : ByteArray} {p : UInt8 → Bool} {k : Nat} (hk : k < s.size) : (s.data.toList.take (k + 1)).any p = ((s.data.toList.take k).any p || p s[k]) := by
 rw [List.take_succ_eq_append_getElem (by simpa using hk), List.any_append]
 simp
 rfl
set_option maxHeartbeats 2000000 in
theorem wears2_any (mark seen : ByteArray) (w : World) (hm : mark.size ≤ 9223372036854775807) (hs : seen.size ≤ 9223372036854775807) :
  Calls Tryz.prog 124 #[.string mark, .string seen] w fun e w' => e = .returned (.bool (wearsB mark seen)) ∧ Below w.heap.size w w' := by
 go_enter Tryz.func124, Tryz.ntmps124
 go_wp2
 go_loopg [5] seen.size (fun gg s5 wr => ∃ i : Nat, i ≤ seen.size ∧ seen.size - i ≤ gg ∧ s5 = .int .i64 i ∧ Hid (Below w.heap.size w wr) ∧ Hid (∀ j, (hj : j < i) → (hx : j < seen.size) → (mark.data.toList.any fun m => decide ((m.toNat : Int) = (seen[j].toNat : Int))) = true))
 case atStart => exact ⟨0, Nat.zero_le _, by omega, rfl, Below.refl _ _, fun j hj => absurd hj (Nat.not_lt_zero _)⟩
 case round =>
  obtain ⟨i, hi, hg, rfl, BW, AA⟩ := hrel
  by_cases hlt : i < seen.size
  ·have hli : (i : Int) < (seen.size : Int) := by omega
   obtain ⟨wo, rfl⟩ : ∃ wo : World, wo = wr := ⟨_, rfl⟩
   go_wp2
   go_loopg [6, 7] mark.size (fun gg s6 s7 wr => ∃ k : Nat, k ≤ mark.size ∧ mark.size - k ≤ gg ∧ s7 = .int .i64 k ∧ s6 = .bool ((mark.data.toList.take k).any fun m => decide ((m.toNat : Int) = (seen[i].toNat : Int))) ∧ Hid (Below w.heap.size w wr))
   case atStart => exact ⟨0, Nat.zero_le _, by omega, rfl, rfl, BW⟩
   case round =>
    obtain ⟨k, hk, hg2, rfl, rfl, BW2⟩ := hrel
    by_cases hlt2 : k < mark.size
    ·have hli2 : (k : Int) < (mark.size : Int) := by omega
     have hta := take_any (p := fun m => decide ((m.toNat : Int) = (seen[i].toNat : Int))) hlt2
     have HTA := Lib.hid hta
     clear hta
     cases hq : (mark.data.toList.take k).any fun m => decide ((m.toNat : Int) = (seen[i].toNat : Int)) with
     | true =>
      have HQ := Lib.hid hq
      clear hq
      go_wp2
      go_quiet (fail)
      go_wp2
      go_roundg (mark.size - (k + 1))
      case measure => omega
      case rel => exact ⟨k + 1, by omega, by omega, by go_num, by rw [HTA.out, HQ.out]; rfl, belowDN BW2.out _⟩
     | false =>
      have HQ := Lib.hid hq
      clear hq
      by_cases he : (mark[k].toNat : Int) = (seen[i].toNat : Int)
      ·have hd : ((mark[k].toNat : Int) == (seen[i].toNat : Int)) = true := beq_iff_eq.2 he
       have HE := Lib.hid he
       clear he
       go_wp2
       go_quiet (fail)
       go_wp2
       go_roundg (mark.size - (k + 1))
       case measure => omega
       case rel => exact ⟨k + 1, by omega, by omega, by go_num, by rw [HTA.out, HQ.out, decide_eq_true HE.out]; rfl, belowDN BW2.out _⟩
      ·have hd : ((mark[k].toNat : Int) == (seen[i].toNat : Int)) = false := beq_eq_false_iff_ne.2 he
       have HE := Lib.hid he
       clear he
       go_wp2
       go_quiet (fail)
       go_wp2
       go_roundg (mark.size - (k + 1))
       case measure => omega
       case rel => exact ⟨k + 1, by omega, by omega, by go_num, by rw [HTA.out, HQ.out, decide_eq_false HE.out]; rfl, belowDN BW2.out _⟩
    ·have hli2 : ¬ (k : Int) < (mark.size : Int) := by omega
     have hke : mark.data.toList.take k = mark.data.toList := List.take_of_length_le (by simp; omega)
     rw [hke]
     clear hke
     cases hq : mark.data.toList.any fun m => decide ((m.toNat : Int) = (seen[i].toNat : Int)) with
     | true =>
      have HQ := Lib.hid hq
      clear hq
      go_wp2
      go_roundg (seen.size - (i + 1))
      case measure => omega
      case rel =>
       refine ⟨i + 1, by omega, by omega, by go_num, BW2, (show Hid _ from fun j hj hx => ?_)⟩
       by_cases e : j = i
       ·subst e; exact HQ.out
       ·exact AA.out j (by omega) hx
     | false =>
      have HQ := Lib.hid hq
      clear hq
      go_wp2
      go_ret
      exact ⟨by rw [wearsB_no hlt HQ.out]; rfl, BW2.out⟩
  ·have hli : ¬ (i : Int) < (seen.size : Int) := by omega
   go_wp2
   go_ret
   exact ⟨by rw [wearsB_yes fun j hj => AA.out j (by omega) hj]; rfl, BW.out⟩
end Go.Proofs.YtcnpbcgkhhebaaaGreatDoor
/- The document: what is seen. -/
namespace Go.Proofs.YtcnpbcgkhhebaaaGreatDoor
open Go.RowKit

set_option maxHeartbeats 4000000 in
theorem isSeen2_any (s : ByteArray) (w : World) (hs : s.size ≤ 9223372036854775807) :
  Calls Tryz.prog 49 #[.string s] w fun e w' => e = .returned (.bool (isSeenB s)) ∧ Below w.heap.size w w' := by
 go_enter Tryz.func49, Tryz.ntmps49
 go_wp2
 go_loopg [3] s.size (fun gg s3 wr => ∃ (k : Nat) (last : Int), k ≤ s.size ∧ s.size - k ≤ gg ∧ s3 = .int .i64 k ∧ ((k = 0 ∧ last = 96) ∨ (∃ (h : 0 < k) (h2 : k - 1 < s.size), last = (s[k - 1].toNat : Int) ∧ 97 ≤ last)) ∧ Hid (Below w.heap.size w wr) ∧ Hid (incr 96 s.data.toList = incr last (s.data.toList.drop k)))
 case atStart => exact ⟨0, 96, Nat.zero_le _, by omega, rfl, .inl ⟨rfl, rfl⟩, Below.refl _ _, (show incr 96 s.data.toList = incr 96 (s.data.toList.drop 0) from by rw [List.drop_zero])⟩
 case round =>
  obtain ⟨k, last, hk, hg, rfl, hl, BW, AA⟩ := hrel
  by_cases hlt : k < s.size
  ·have hli : (k : Int) < (s.size : Int) := by omega
   have hdr := drop_data s k hlt
   have HDR := Lib.hid hdr
   clear hdr
   by_cases h1 : (s[k].toNat : Int) < 97
   ·have hd1 : decide ((s[k].toNat : Int) < 97) = true := decide_eq_true h1
    have hbad : incr 96 s.data.toList = false := by
     rw [AA.out, HDR.out, incr, decide_eq_false (show ¬ last < (s[k].toNat : Int) by rcases hl with ⟨_, rfl⟩ | ⟨_, _, _, h⟩ <;> omega)]
     rfl
    have HB := Lib.hid hbad
    clear hbad hl h1
    go_wp2
    go_quiet (fail)
    go_wp2
    go_ret
    exact ⟨by unfold isSeenB; rw [HB.out]; rfl, belowDN BW.out _⟩
   have hd1 : decide ((s[k].toNat : Int) < 97) = false := decide_eq_false h1
   by_cases h2 : 122 < (s[k].toNat : Int)
   ·have hd2 : decide (122 < (s[k].toNat : Int)) = true := decide_eq_true h2
    have hbad : incr 96 s.data.toList = false := by
     rw [AA.out, HDR.out, incr, decide_eq_false (show ¬ (s[k].toNat : Int) ≤ 122 by omega)]
     simp
    have HB := Lib.hid hbad
    clear hbad hl h1 h2
    go_wp2
    go_quiet (fail)
    go_wp2
    go_ret
    exact ⟨by unfold isSeenB; rw [HB.out]; rfl, belowDN BW.out _⟩
   have hd2 : decide (122 < (s[k].toNat : Int)) = false := decide_eq_false h2
   rcases Nat.eq_zero_or_pos k with rfl | hpos
   ·obtain rfl : last = 96 := by rcases hl with ⟨_, h⟩ | ⟨h, _⟩ <;> omega
    have hok : incr 96 s.data.toList = incr (s[0].toNat : Int) (s.data.toList.drop 1) := by
     rw [AA.out, HDR.out, incr, decide_eq_true (show (96 : Int) < (s[0].toNat : Int) by omega), decide_eq_true (show (s[0].toNat : Int) ≤ 122 by omega)]
     rfl
    have h97 : 97 ≤ (s[0].toNat : Int) := by omega
    have HOK := Lib.hid hok
    have H97 := Lib.hid h97
    clear hok hl h1 h2 h97
    go_wp2
    go_quiet (fail)
    go_wp2
    go_roundg (s.size - 1)
    case measure => omega
    case rel => exact ⟨1, _, by omega, by omega, by go_num, .inr ⟨by omega, by omega, rfl, H97.out⟩, belowDN BW.out _, HOK⟩
   ·obtain ⟨m, hmk⟩ : ∃ m, k - 1 = m := ⟨k - 1, rfl⟩
    have hm : m < s.size := by omega
    obtain ⟨hl1, hl2⟩ : last = (s[m].toNat : Int) ∧ 97 ≤ last := by
     rcases hl with ⟨h, _⟩ | ⟨_, _, h⟩
     ·omega
     ·obtain ⟨h, h'⟩ := h
      simp only [hmk] at h
      exact ⟨h, h'⟩
    subst hl1
    have hw : IntKind.i64.wrap ((k : Int) - 1) = (m : Int) := by
     have hkm : m + 1 = k := by rw [← hmk]; exact Nat.sub_add_cancel hpos
     have e : ((k : Int) - 1) = (m : Int) := by rw [← hkm, Int.natCast_add]; exact Int.add_sub_cancel _ _
     rw [e]
     exact IntWalk.i64_in _ (by omega)
    have hd0 : decide ((0 : Int) < (k : Int)) = true := decide_eq_true (by omega)
    clear hmk
    have hmi : (m : Int) < (s.size : Int) := by omega
    have hm0 : (0 : Int) ≤ (m : Int) := by omega
    have hp0 : (0 : Int) < (k : Int) := by omega
    by_cases h4 : (s[k].toNat : Int) ≤ (s[m].toNat : Int)
    ·have hd4 : decide ((s[k].toNat : Int) ≤ (s[m].toNat : Int)) = true := decide_eq_true h4
     have hd4n : decide (s[k].toNat ≤ s[m].toNat) = true := decide_eq_true (by omega)
     have hbad : incr 96 s.data.toList = false := by
      rw [AA.out, HDR.out, incr, decide_eq_false (show ¬ (s[m].toNat : Int) < (s[k].toNat : Int) by omega)]
      rfl
     have HB := Lib.hid hbad
     clear hbad hl h1 h2 h4
     go_wp2
     go_quiet (fail)
     go_wp2
     go_ret
     exact ⟨by unfold isSeenB; rw [HB.out]; rfl, belowDN BW.out _⟩
    ·have hd4 : decide ((s[k].toNat : Int) ≤ (s[m].toNat : Int)) = false := decide_eq_false h4
     have hd4n : decide (s[k].toNat ≤ s[m].toNat) = false := decide_eq_false (by omega)
     have hok : incr 96 s.data.toList = incr (s[k].toNat : Int) (s.data.toList.drop (k + 1)) := by
      rw [AA.out, HDR.out, incr, decide_eq_true (show (s[m].toNat : Int) < (s[k].toNat : Int) by omega), decide_eq_true (show (s[k].toNat : Int) ≤ 122 by omega)]
      rfl
     have h97 : 97 ≤ (s[k].toNat : Int) := by omega
     have HOK := Lib.hid hok
     have H97 := Lib.hid h97
     clear hok hl h1 h2 h97 h4 hl2
     go_wp2
     go_quiet (fail)
     go_wp2
     go_roundg (s.size - (k + 1))
     case measure => omega
     case rel => exact ⟨k + 1, _, by omega, by omega, by go_num, .inr ⟨by omega, by omega, rfl, H97.out⟩, belowDN BW.out _, HOK⟩
  ·have hli : ¬ (k : Int) < (s.size : Int) := by omega
   have hdr : s.data.toList.drop k = [] := List.drop_eq_nil_of_le (by simp; omega)
   have hok : incr 96 s.data.toList = true := by rw [AA.out, hdr]; rfl
   have HOK := Lib.hid hok
   clear hok hdr hl
   by_cases h8 : s.size ≤ 8
   ·have hd8 : decide (s.size ≤ 8) = true := decide_eq_true h8
    have hd8i : decide ((s.size : Int) ≤ 8) = true := decide_eq_true (by omega)
    go_wp2
    go_ret
    exact ⟨by unfold isSeenB; rw [HOK.out, hd8]; rfl, BW.out⟩
   ·have hd8 : decide (s.size ≤ 8) = false := decide_eq_false h8
    have hd8i : decide ((s.size : Int) ≤ 8) = false := decide_eq_false (by omega)
    go_wp2
    go_ret
    exact ⟨by unfold isSeenB; rw [HOK.out, hd8]; rfl, BW.out⟩
end Go.Proofs.YtcnpbcgkhhebaaaGreatDoor
/- The document: words; who can have worn; which logs are here. -/
namespace Go.Proofs.YtcnpbcgkhhebaaaGreatDoor
open Go.RowKit

def low1 (c : UInt8) : Bool := decide (97 ≤ c.toNat) && decide (c.toNat ≤ 122)
def word2B (s : ByteArray) : Bool := s.data.toList.all low1 && decide (0 < s.size)
set_option maxHeartbeats 1000000 in
theorem isWord2_any (s : ByteArray) (w : World) (hs : s.size ≤ 9223372036854775807) :
  Calls Tryz.prog 113 #[.string s] w fun e w' => e = .returned (.bool (word2B s)) ∧ w' = w := by
 go_enter Tryz.func113, Tryz.ntmps113
 go_wp2
 go_loopg [3] s.size (fun gg s3 wr => ∃ k : Nat, k ≤ s.size ∧ s.size - k ≤ gg ∧ s3 = .int .i64 k ∧ Hid (wr = w) ∧ Hid (s.data.toList.all low1 = (s.data.toList.drop k).all low1))
 case atStart => exact ⟨0, Nat.zero_le _, by omega, rfl, rfl, (show Hid _ from by rw [List.drop_zero]; rfl)⟩
 case round =>
  obtain ⟨k, hk, hg, rfl, BW, AA⟩ := hrel
  obtain rfl := BW.out
  by_cases hlt : k < s.size
  ·have hli : (k : Int) < (s.size : Int) := by omega
   have hdr := drop_data s k hlt
   have HDR := Lib.hid hdr
   clear hdr
   by_cases h1 : (s[k].toNat : Int) < 97
   ·have hd1 : decide ((s[k].toNat : Int) < 97) = true := decide_eq_true h1
    have hbad : s.data.toList.all low1 = false := by
     rw [AA.out, HDR.out, List.all_cons]
     unfold low1
     rw [decide_eq_false (show ¬ 97 ≤ s[k].toNat by omega)]
     rfl
    have HB := Lib.hid hbad
    clear hbad h1
    go_wp2
    go_ret
    exact ⟨by unfold word2B; rw [HB.out]; rfl, rfl⟩
   have hd1 : decide ((s[k].toNat : Int) < 97) = false := decide_eq_false h1
   by_cases h2 : 122 < (s[k].toNat : Int)
   ·have hd2 : decide (122 < (s[k].toNat : Int)) = true := decide_eq_true h2
    have hbad : s.data.toList.all low1 = false := by
     rw [AA.out, HDR.out, List.all_cons]
     unfold low1
     rw [decide_eq_false (show ¬ s[k].toNat ≤ 122 by omega)]
     simp
    have HB := Lib.hid hbad
    clear hbad h1 h2
    go_wp2
    go_ret
    exact ⟨by unfold word2B; rw [HB.out]; rfl, rfl⟩
   have hd2 : decide (122 < (s[k].toNat : Int)) = false := decide_eq_false h2
   have hok : s.data.toList.all low1 = (s.data.toList.drop (k + 1)).all low1 := by
    rw [AA.out, HDR.out, List.all_cons]
    have : low1 s[k] = true := by unfold low1; rw [decide_eq_true (show 97 ≤ s[k].toNat by omega), decide_eq_true (show s[k].toNat ≤ 122 by omega)]; rfl
    rw [this]
    rfl
   have HOK := Lib.hid hok
   clear hok h1 h2
   go_wp2
   go_roundg (s.size - (k + 1))
   case measure => omega
   case rel => exact ⟨k + 1, by omega, by omega, by go_num, rfl, HOK⟩
  ·have hli : ¬ (k : Int) < (s.size : Int) := by omega
   have hok : s.data.toList.all low1 = true := by rw [AA.out, List.drop_eq_nil_of_le (by simp; omega)]; rfl
   have HOK := Lib.hid hok
   clear hok
   by_cases h8 : 0 < s.size
   ·have hd8 : decide (0 < s.size) = true := decide_eq_true h8
    have hd8i : decide (0 < (s.size : Int)) = true := decide_eq_true (by omega)
    go_wp2
    go_ret
    exact ⟨by unfold word2B; rw [HOK.out, hd8]; rfl, rfl⟩
   ·have hd8 : decide (0 < s.size) = false := decide_eq_false h8
    have hd8i : decide (0 < (s.size : Int)) = false := decide_eq_false (by omega)
    go_wp2
    go_ret
    exact ⟨by unfold word2B; rw [HOK.out, hd8]; rfl, rfl⟩

theorem one_I {w : World} {b : Nat} {n : Int} (h : w.cell? ⟨b, 0, none⟩ = some (.int .i64 n)) : ∀ j u, (eI n)[j]? = some u → w.cell? ⟨b, j, none⟩ = some u := by
 intro j u hj
 cases j with
 | zero => simp [eI] at hj; subst hj; exact h
 | succ j => simp [eI] at hj
theorem filt_yes {α β : Type} {p : α → Bool} {f : α → β} {l : List α} {k : Nat} (hk : k < l.length) (h : p l[k] = true) : ((l.take (k + 1)).filter p).map f = ((l.take k).filter p).map f ++ [f l[k]] := by
 rw [List.take_succ_eq_append_getElem hk, List.filter_append, List.map_append]
 simp [h]
theorem filt_no {α β : Type} {p : α → Bool} {f : α → β} {l : List α} {k : Nat} (hk : k < l.length) (h : p l[k] = false) : ((l.take (k + 1)).filter p).map f = ((l.take k).filter p).map f := by
 rw [List.take_succ_eq_append_getElem hk, List.filter_append, List.map_append]
 simp [h]
theorem filt_len {α β : Type} (p : α → Bool) (f : α → β) (l : List α) (k : Nat) : (((l.take k).filter p).map f).length ≤ k := by
 rw [List.length_map]
 exact Nat.le_trans (List.length_filter_le _ _) (by rw [List.length_take]; omega)

set_option maxHeartbeats 2000000 in
theorem wornOf_any (A : Option Addr) (c : Nat) (os : List Ow) (v2 : Value) (seen : ByteArray) (w : World) (hr : Rd eO 3 w A c os) (hn : os.length ≤ 1000000) (hm : ∀ x ∈ os, x.mark.size ≤ 9223372036854775807) (hs : seen.size ≤ 9223372036854775807) :
  Calls Tryz.prog 88 #[.agg #[.slice A os.length c, v2], .string seen] w fun e w' => OwnR eI 2 1 w.heap.size w' e ((os.filter fun x => wearsB x.mark seen).map (·.num)) ∧ Below w.heap.size w w' := by
 have HR := Lib.hid (hr.below (below_a1 w (.cells #[.slice A os.length c, v2] 26)))
 have HM := Lib.hid hm
 clear hr hm
 go_enter Tryz.func88, Tryz.ntmps88
 go_wp2
 go_loopg [5, 6] os.length (fun gg s5 s6 wr => ∃ k : Nat, k ≤ os.length ∧ os.length - k ≤ gg ∧ s6 = .int .i64 k ∧ Hid (Below (w.alloc (.cells #[.slice A os.length c, v2] 26)).heap.size (w.alloc (.cells #[.slice A os.length c, v2] 26)) wr) ∧ Hid (Own eI 2 1 (w.alloc (.cells #[.slice A os.length c, v2] 26)).heap.size wr s5 (((os.take k).filter fun x => wearsB x.mark seen).map (·.num))))
 case atStart => exact ⟨0, Nat.zero_le _, by omega, rfl, Below.refl _ _, Own.nil_ _ _ _ _ _⟩
 case round =>
  obtain ⟨k, hk, hg, rfl, BW, OW⟩ := hrel
  have k0 : wr.cell? ⟨w.heap.size, 0, none⟩ = some (.slice A os.length c) := cB BW.out (by go_simp)
  by_cases hlt : k < os.length
  ·have hli : (k : Int) < (os.length : Int) := by omega
   obtain ⟨b, off, y, hy, rfl, hb, c0, c1, c2⟩ := (HR.out.below BW.out).atO hlt
   have hcon := wears2_any y.mark seen wr (HM.out y (by rw [hy]; exact List.getElem_mem hlt)) hs
   have HY := Lib.hid hy
   clear hy
   have hfl := filt_len (fun x : Ow => wearsB x.mark seen) (·.num) os k
   cases hq : wearsB y.mark seen with
   | true =>
    have hst := filt_yes (p := fun x : Ow => wearsB x.mark seen) (f := (·.num)) hlt (by rw [← HY.out]; exact hq)
    rw [← HY.out] at hst
    have HST := Lib.hid hst
    rw [hq] at hcon
    have HQ := Lib.hid hq
    have HC := Lib.hid hcon
    clear hst hcon hq
    obtain ⟨num, mark, paid⟩ := y
    simp only at c0 c1 c2 HC
    go_wp2_with fail
    refine HC.out.mono ?_
    rintro e w1 ⟨rfl, hb1⟩
    have d0 := cB hb1 c0
    have k01 := cB hb1 k0
    have BW1 := Lib.hid (below2 BW.out hb1)
    have OW1 := Lib.hid (OW.out.below hb1)
    clear hb1 c0 c1 c2 k0
    go_wp2_with (at_builtin; apply stop_)
    unfold Hid
    refine wpList_push e2 encI rfl _ _ rfl rfl (OW1.out.below (below_a1 w1 (.cells #[.int .i64 num] 2))) w1.heap.size 1 num rfl (one_I (by go_simp)) (by omega) (by omega) (by have := BW1.out.size; simp only [World.size_alloc] at this ⊢; omega) ?_
    intro v' w' hown' hgr hlk
    have HOWN := Lib.hid hown'
    have BW2 := Lib.hid ((belowA BW1.out (.cells #[.int .i64 num] 2)).grown hgr (by have := BW1.out.size; simp only [World.size_alloc] at this ⊢; omega) (fun q hq => (OW1.out.lt_ _ hq).1))
    clear hown' hgr hlk
    go_wp2
    go_roundg (os.length - (k + 1))
    case measure => omega
    case rel => exact ⟨k + 1, by omega, by omega, by go_num, BW2.out, by rw [HST.out]; exact HOWN.out⟩
   | false =>
    have hst := filt_no (p := fun x : Ow => wearsB x.mark seen) (f := (·.num)) hlt (by rw [← HY.out]; exact hq)
    have HST := Lib.hid hst
    rw [hq] at hcon
    have HC := Lib.hid hcon
    clear hst hcon hq
    go_wp2_with fail
    refine HC.out.mono ?_
    rintro e w1 ⟨rfl, hb1⟩
    go_wp2
    go_roundg (os.length - (k + 1))
    case measure => omega
    case rel => exact ⟨k + 1, by omega, by omega, by go_num, below2 BW.out hb1, by rw [HST.out]; exact OW.out.below hb1⟩
  ·have hli : ¬ (k : Int) < (os.length : Int) := by omega
   have hke : os.take k = os := List.take_of_length_le (by omega)
   have HK := Lib.hid hke
   clear hke
   go_wp2
   go_ret
   exact ⟨Own.ret ((show Own _ _ _ _ _ _ ((os.filter fun x => wearsB x.mark seen).map (·.num)) from by have := OW.out; rw [HK.out] at this; exact this).mono (by simp)) rfl, below2 (below_a1 _ _) BW.out⟩

set_option maxHeartbeats 2000000 in
theorem hereOf_any (v1 : Value) (A : Option Addr) (c : Nat) (ls : List Lg) (o : Int) (w : World) (hr : Rd eL 5 w A c ls) (hn : ls.length ≤ 1000000) :
  Calls Tryz.prog 94 #[.agg #[v1, .slice A ls.length c], .int .i64 o] w fun e w' => OwnR eI 2 1 w.heap.size w' e (hereN o ls) ∧ Below w.heap.size w w' := by
 have HR := Lib.hid (hr.below (below_a1 w (.cells #[v1, .slice A ls.length c] 26)))
 clear hr
 unfold hereN
 go_enter Tryz.func94, Tryz.ntmps94
 go_wp2
 go_loopg [5, 6] ls.length (fun gg s5 s6 wr => ∃ k : Nat, k ≤ ls.length ∧ ls.length - k ≤ gg ∧ s6 = .int .i64 k ∧ Hid (Below (w.alloc (.cells #[v1, .slice A ls.length c] 26)).heap.size (w.alloc (.cells #[v1, .slice A ls.length c] 26)) wr) ∧ Hid (Own eI 2 1 (w.alloc (.cells #[v1, .slice A ls.length c] 26)).heap.size wr s5 (((ls.take k).filter fun l => decide (l.own = o) && !l.gone).map (·.num))))
 case atStart => exact ⟨0, Nat.zero_le _, by omega, rfl, Below.refl _ _, Own.nil_ _ _ _ _ _⟩
 case round =>
  obtain ⟨k, hk, hg, rfl, BW, OW⟩ := hrel
  have k0 : wr.cell? ⟨w.heap.size, 1, none⟩ = some (.slice A ls.length c) := cB BW.out (by go_simp)
  by_cases hlt : k < ls.length
  ·have hli : (k : Int) < (ls.length : Int) := by omega
   obtain ⟨b, off, y, hy, rfl, hb, c0, c1, c2, c3, c4⟩ := (HR.out.below BW.out).atL hlt
   have HY := Lib.hid hy
   clear hy
   have hfl := filt_len (fun l : Lg => decide (l.own = o) && !l.gone) (·.num) ls k
   cases hq : (decide (y.own = o) && !y.gone) with
   | true =>
    have hst := filt_yes (p := fun l : Lg => decide (l.own = o) && !l.gone) (f := (·.num)) hlt (by rw [← HY.out]; exact hq)
    rw [← HY.out] at hst
    have HST := Lib.hid hst
    obtain ⟨num, seen, feet, own, gone⟩ := y
    simp only [Bool.and_eq_true, decide_eq_true_eq, Bool.not_eq_true'] at hq
    obtain ⟨rfl, rfl⟩ := hq
    simp only at c0 c1 c2 c3 c4
    clear hst
    go_wp2_with (at_builtin; apply stop_)
    unfold Hid
    refine wpList_push e2 encI rfl _ _ rfl rfl (OW.out.below (below_a1 wr (.cells #[.int .i64 num] 2))) wr.heap.size 1 num rfl (one_I (by go_simp)) (by omega) (by omega) (by have := BW.out.size; simp only [World.size_alloc] at this ⊢; omega) ?_
    intro v' w' hown' hgr hlk
    have HOWN := Lib.hid hown'
    have BW2 := Lib.hid ((belowA BW.out (.cells #[.int .i64 num] 2)).grown hgr (by have := BW.out.size; simp only [World.size_alloc] at this ⊢; omega) (fun q hq => (OW.out.lt_ _ hq).1))
    clear hown' hgr hlk
    go_wp2
    go_roundg (ls.length - (k + 1))
    case measure => omega
    case rel => exact ⟨k + 1, by omega, by omega, by go_num, BW2.out, by rw [HST.out]; exact HOWN.out⟩
   | false =>
    have hst := filt_no (p := fun l : Lg => decide (l.own = o) && !l.gone) (f := (·.num)) hlt (by rw [← HY.out]; exact hq)
    have HST := Lib.hid hst
    obtain ⟨num, seen, feet, own, gone⟩ := y
    simp only at hq c0 c1 c2 c3 c4
    clear hst
    cases ho : (own == o) with
    | false =>
     have HO := Lib.hid hq
     clear hq
     go_wp2
     go_roundg (ls.length - (k + 1))
     case measure => omega
     case rel => exact ⟨k + 1, by omega, by omega, by go_num, BW.out, by rw [HST.out]; exact OW.out⟩
    | true =>
     rw [beq_iff_eq] at ho
     subst ho
     have hg1 : gone = true := by simpa using hq
     subst hg1
     clear hq
     go_wp2
     go_roundg (ls.length - (k + 1))
     case measure => omega
     case rel => exact ⟨k + 1, by omega, by omega, by go_num, BW.out, by rw [HST.out]; exact OW.out⟩
  ·have hli : ¬ (k : Int) < (ls.length : Int) := by omega
   have hke : ls.take k = ls := List.take_of_length_le (by omega)
   have HK := Lib.hid hke
   clear hke
   go_wp2
   go_ret
   exact ⟨Own.ret ((show Own _ _ _ _ _ _ ((ls.filter fun l => decide (l.own = o) && !l.gone).map (·.num)) from by have := OW.out; rw [HK.out] at this; exact this).mono (by simp)) rfl, below2 (below_a1 _ _) BW.out⟩
end Go.Proofs.YtcnpbcgkhhebaaaGreatDoor
/- The document: is something there twice? -/
namespace Go.Proofs.YtcnpbcgkhhebaaaGreatDoor
open Go.RowKit

def twiceB (os : List Ow) (ls : List Lg) : Bool := !riseB os || decide ((dd (os.map (·.mark))).length < os.length) || decide ((dd (ls.map (·.num))).length < ls.length)
theorem twice_rise {os : List Ow} {ls : List Lg} (h : riseB os = false) : twiceB os ls = true := by unfold twiceB; rw [h]; rfl
theorem dd_dup {κ : Type} [DecidableEq κ] {l : List κ} {n : Nat} (hn : l.length = n) : decide ((dd l).length < n) = !decide l.Nodup := by
 obtain ⟨h1, h2⟩ := dd_len l
 subst hn
 by_cases h : l.Nodup
 ·rw [decide_eq_true h, decide_eq_false (by have := h2.2 h; omega)]; rfl
 ·rw [decide_eq_false h, decide_eq_true (by have : (dd l).length ≠ l.length := fun e => h (h2.1 e); omega)]; rfl
theorem twice_iff (os : List Ow) (ls : List Lg) : twiceB os ls = (!riseB os || !decide (os.map (·.mark)).Nodup || !decide (ls.map (·.num)).Nodup) := by
 unfold twiceB
 rw [dd_dup (by simp), dd_dup (by simp)]
theorem twice_marks {os : List Ow} {ls : List Lg} (h : ¬ (os.map (·.mark)).Nodup) : twiceB os ls = true := by rw [twice_iff, decide_eq_false h]; simp
theorem twice_nums {os : List Ow} {ls : List Lg} (h : ¬ (ls.map (·.num)).Nodup) : twiceB os ls = true := by rw [twice_iff, decide_eq_false h]; simp
theorem twice_no {os : List Ow} {ls : List Lg} (h1 : riseB os = true) (h2 : (os.map (·.mark)).Nodup) (h3 : (ls.map (·.num)).Nodup) : twiceB os ls = false := by rw [twice_iff, h1, decide_eq_true h2, decide_eq_true h3]; rfl
theorem dup_not {α β : Type} {f : α → β} {l : List α} {i j : Nat} (hi : i < l.length) (hj : j < l.length) (hne : i ≠ j) (h : f l[i] = f l[j]) : ¬ (l.map f).Nodup := fun hn => by
 rw [List.Nodup, List.pairwise_iff_getElem] at hn
 rcases Nat.lt_or_gt_of_ne hne with hl | hl
 ·exact hn i j (by simpa using hi) (by simpa using hj) hl (by simpa using h)
 ·exact hn j i (by simpa using hj) (by simpa using hi) hl (by simpa using h.symm)
theorem nodup_snoc {α β : Type} {f : α → β} {l : List α} {k : Nat} (hk : k < l.length) (h : ((l.take k).map f).Nodup) (hn : ∀ j, (hj : j < k) → f (l[j]'(by omega)) ≠ f l[k]) : ((l.take (k + 1)).map f).Nodup := by
 rw [List.take_succ_eq_append_getElem hk, List.map_append, List.nodup_append]
 refine ⟨h, by simp, fun a ha b hb e => ?_⟩
 simp only [List.map_cons, List.map_nil, List.mem_singleton] at hb
 subst hb
 subst e
 obtain ⟨x, hx, e⟩ := List.mem_map.1 ha
 obtain ⟨j, hj, rfl⟩ := List.getElem_of_mem hx
 rw [List.length_take] at hj
 rw [List.getElem_take] at e
 exact hn j (by omega) e
theorem idxI_le {α : Type} {p : α → Bool} {xs : List α} {j : Nat} (hj : j < xs.length) (h : p xs[j] = true) : 0 ≤ idxI p xs ∧ idxI p xs ≤ j := by
 unfold idxI
 rw [if_pos (List.any_eq_true.2 ⟨xs[j], List.getElem_mem hj, h⟩)]
 refine ⟨by omega, ?_⟩
 have : ¬ j < xs.findIdx p := fun hl => by
  have := List.not_of_lt_findIdx hl
  rw [this] at h
  cases h
 omega
theorem idxI_at {α : Type} {p : α → Bool} {xs : List α} (h : 0 ≤ idxI p xs) : ∃ i : Nat, idxI p xs = i ∧ ∃ hi : i < xs.length, p xs[i] = true := by
 unfold idxI at h ⊢
 by_cases ha : xs.any p = true
 ·rw [if_pos ha]
  obtain ⟨x, hx, hp⟩ := List.any_eq_true.1 ha
  have hl := List.findIdx_lt_length_of_exists ⟨x, hx, hp⟩
  exact ⟨_, rfl, hl, List.findIdx_getElem⟩
 ·rw [if_neg ha] at h
  omega

set_option maxRecDepth 100000 in
set_option maxHeartbeats 4000000 in
theorem twice_any (A : Option Addr) (c : Nat) (os : List Ow) (A2 : Option Addr) (c2 : Nat) (ls : List Lg) (w : World) (hr : Rd eO 3 w A c os) (hr2 : Rd eL 5 w A2 c2 ls) (hn : os.length ≤ 1000000) (hn2 : ls.length ≤ 1000000) :
  Calls Tryz.prog 84 #[.agg #[.slice A os.length c, .slice A2 ls.length c2]] w fun e w' => e = .returned (.bool (twiceB os ls)) ∧ Below w.heap.size w w' := by
 have HR := Lib.hid (hr.below (below_a1 w (.cells #[.slice A os.length c, .slice A2 ls.length c2] 26)))
 have HR2 := Lib.hid (hr2.below (below_a1 w (.cells #[.slice A os.length c, .slice A2 ls.length c2] 26)))
 clear hr hr2
 go_enter Tryz.func84, Tryz.ntmps84
 go_wp2
 go_loopg [3] os.length (fun gg s3 wr => ∃ i : Nat, i ≤ os.length ∧ os.length - i ≤ gg ∧ s3 = .int .i64 i ∧ Hid (Below (w.alloc (.cells #[.slice A os.length c, .slice A2 ls.length c2] 26)).heap.size (w.alloc (.cells #[.slice A os.length c, .slice A2 ls.length c2] 26)) wr) ∧ Hid (riseB (os.take i) = true) ∧ Hid (((os.take i).map (·.mark)).Nodup))
 case atStart => exact ⟨0, Nat.zero_le _, by omega, rfl, Below.refl _ _, (show riseB [] = true from rfl), (show (([] : List Ow).map (·.mark)).Nodup from List.nodup_nil)⟩
 case round =>
  obtain ⟨i, hi, hg, rfl, BW, RI, ND⟩ := hrel
  have k0 : wr.cell? ⟨w.heap.size, 0, none⟩ = some (.slice A os.length c) := cB BW.out (by go_simp)
  have k1 : wr.cell? ⟨w.heap.size, 1, none⟩ = some (.slice A2 ls.length c2) := cB BW.out (by go_simp)
  by_cases hlt : i < os.length
  ·have hli : (i : Int) < (os.length : Int) := by omega
   obtain ⟨b, off, y, hy, rfl, hb, c0, c1, -⟩ := (HR.out.below BW.out).atO hlt
   have HY := Lib.hid hy
   clear hy
   obtain ⟨wo, rfl⟩ : ∃ wo : World, wo = wr := ⟨_, rfl⟩
   rcases Nat.eq_zero_or_pos i with rfl | hpos
   ·go_wp2
    go_quiet (fail)
    go_wp2
    go_loopg [4] 0 (fun gg s4 wr => s4 = .int .i64 0 ∧ Hid (Below wo.heap.size wo wr))
    case atStart => exact ⟨rfl, goB⟩
    case round =>
     obtain ⟨rfl, BW2⟩ := hrel
     go_wp2
     go_roundg (os.length - 1)
     case measure => omega
     case rel => exact ⟨1, by omega, by omega, by go_num, below2 BW.out BW2.out, riseB_take hlt RI.out (fun j e => by omega), nodup_snoc hlt ND.out (fun j hj => by omega)⟩
   ·obtain ⟨m, hmk⟩ : ∃ m, i - 1 = m := ⟨i - 1, rfl⟩
    have hm : m < os.length := by omega
    have hkm : m + 1 = i := by rw [← hmk]; exact Nat.sub_add_cancel hpos
    have hw : IntKind.i64.wrap ((i : Int) - 1) = (m : Int) := by
     have e : ((i : Int) - 1) = (m : Int) := by rw [← hkm, Int.natCast_add]; exact Int.add_sub_cancel _ _
     rw [e]
     exact IntWalk.i64_in _ (by omega)
    obtain ⟨b', off', z, hz, e1, hb', d0, -⟩ := (HR.out.below BW.out).atO hm
    cases e1
    have HKM := Lib.hid hkm
    have HZ := Lib.hid hz
    have hmi : (m : Int) < (os.length : Int) := by omega
    have hm0 : (0 : Int) ≤ (m : Int) := by omega
    have hd0 : decide ((0 : Int) < (i : Int)) = true := decide_eq_true (by omega)
    clear hmk hz hkm
    by_cases h4 : y.num ≤ z.num
    ·have hd4 : decide (y.num ≤ z.num) = true := decide_eq_true h4
     have hbad : riseB os = false := riseB_bad (j := m) (by have := HKM.out; omega) (by
      have e1 := HY.out
      have e2 := HZ.out
      have e3 := HKM.out
      subst e3
      rw [← e2, ← e1]
      omega)
     have HB := Lib.hid hbad
     clear hbad
     go_wp2
     go_quiet (fail)
     go_wp2
     go_ret
     exact ⟨by rw [twice_rise HB.out]; rfl, below2 (below_a1 _ _) (belowDN BW.out _)⟩
    ·have hd4 : decide (y.num ≤ z.num) = false := decide_eq_false h4
     have hrt : riseB (os.take (i + 1)) = true := riseB_take hlt RI.out (fun j e => by
      have e1 := HY.out
      have e2 := HZ.out
      have e3 := HKM.out
      obtain rfl : j = m := by omega
      rw [← e1, ← e2]
      omega)
     have HRT := Lib.hid hrt
     clear hrt
     go_wp2
     go_quiet (fail)
     go_wp2
     clear hw hd0 d0 hd4 h4
     go_loopg [4] i (fun gg s4 wr => ∃ k : Nat, k ≤ i ∧ i - k ≤ gg ∧ s4 = .int .i64 k ∧ Hid (Below wo.heap.size wo wr) ∧ Hid (∀ j, (hj : j < k) → (hx : j < os.length) → os[j].mark ≠ os[i].mark))
     case atStart => exact ⟨0, Nat.zero_le _, by omega, rfl, goB, fun j hj => absurd hj (Nat.not_lt_zero _)⟩
     case round =>
      obtain ⟨k, hk, hg2, rfl, BW2, NE⟩ := hrel
      have k02 := cB BW2.out k0
      have c12 := cB BW2.out c1
      by_cases hlt2 : k < i
      ·have hli2 : (k : Int) < (i : Int) := by omega
       have hli2n : decide (k < i) = true := decide_eq_true hlt2
       have hko : k < os.length := by omega
       have hkoi : (k : Int) < (os.length : Int) := by omega
       obtain ⟨b', off', x, hx, e1, hb', -, x1, -⟩ := (HR.out.below (below2 BW.out BW2.out)).atO hko
       cases e1
       have HX := Lib.hid hx
       clear hx
       cases hq : (x.mark.toList == y.mark.toList) with
       | true =>
        have hbad : ¬ (os.map (·.mark)).Nodup := dup_not hko hlt (by omega) (by rw [← HX.out, ← HY.out]; exact toList_inj.1 (by simpa using hq))
        have HB := Lib.hid hbad
        clear hbad
        go_wp2
        go_quiet (fail)
        go_wp2
        go_ret
        exact ⟨by rw [twice_marks HB.out]; rfl, below2 (below_a1 _ _) (belowDN (below2 BW.out BW2.out) _)⟩
       | false =>
        go_wp2
        go_quiet (fail)
        go_wp2
        go_roundg (i - (k + 1))
        case measure => omega
        case rel =>
         refine ⟨k + 1, by omega, by omega, by go_num, belowDN BW2.out _, (show Hid _ from fun j hj hx => ?_)⟩
         by_cases e : j = k
         ·subst e
          rw [← HX.out, ← HY.out]
          intro e2
          rw [e2] at hq
          simp at hq
         ·exact NE.out j (by omega) hx
      ·have hli2 : ¬ (k : Int) < (i : Int) := by omega
       have hli2n : decide (k < i) = false := decide_eq_false hlt2
       go_wp2
       go_roundg (os.length - (i + 1))
       case measure => omega
       case rel => exact ⟨i + 1, by omega, by omega, by go_num, below2 BW.out BW2.out, HRT, nodup_snoc hlt ND.out (fun j hj => NE.out j (by omega) (by omega))⟩
  ·have hli : ¬ (i : Int) < (os.length : Int) := by omega
   have hke : os.take i = os := List.take_of_length_le (by omega)
   rw [hke] at RI ND
   clear hke
   have hlen2 := HR2.out.len
   obtain ⟨wo, rfl⟩ : ∃ wo : World, wo = wr := ⟨_, rfl⟩
   go_wp2
   go_loopg [5] ls.length (fun gg s5 wr => ∃ k : Nat, k ≤ ls.length ∧ ls.length - k ≤ gg ∧ s5 = .int .i64 k ∧ Hid (Below wo.heap.size wo wr) ∧ Hid (((ls.take k).map (·.num)).Nodup))
   case atStart => exact ⟨0, Nat.zero_le _, by omega, rfl, Below.refl _ _, (show (([] : List Lg).map (·.num)).Nodup from List.nodup_nil)⟩
   case round =>
    obtain ⟨k, hk, hg2, rfl, BW2, NL⟩ := hrel
    have k02 := cB BW2.out k0
    have k12 := cB BW2.out k1
    by_cases hlt2 : k < ls.length
    ·have hli2 : (k : Int) < (ls.length : Int) := by omega
     obtain ⟨b, off, x, hx, rfl, hb, x0, -, -, -, -⟩ := (HR2.out.below (below2 BW.out BW2.out)).atL hlt2
     have HX := Lib.hid hx
     clear hx
     have hcon : ∀ W, Below wr.heap.size wr W → Calls Tryz.prog 123 #[.agg #[.slice A os.length c, .slice (some ⟨b, off, none⟩) ls.length c2], .int .i64 x.num] W fun e w' => e = .returned (.int .i64 (idxI (fun y : Lg => y.num == x.num) ls)) ∧ Below W.heap.size W w' :=
      fun W hB => logAt_any _ _ c2 ls x.num W ((HR2.out.below (below2 BW.out BW2.out)).below hB)
     have hbd := idxI_bd (fun y : Lg => y.num == x.num) ls
     have hle := idxI_le (p := fun y : Lg => y.num == x.num) hlt2 (by rw [← HX.out]; simp)
     have hat := idxI_at hle.1
     obtain ⟨num, seen, feet, own, gone⟩ := x
     simp only at x0 hcon hbd hle hat
     obtain ⟨r, hr⟩ : ∃ r, idxI (fun y : Lg => y.num == num) ls = r := ⟨_, rfl⟩
     rw [hr] at hcon hbd hle
     have HRr := Lib.hid hr
     have CON := Lib.hid hcon
     have HAT := Lib.hid hat
     clear hr hcon hat
     by_cases hrl : r < (k : Int)
     ·have hd : decide (r < (k : Int)) = true := decide_eq_true hrl
      have hbad : ¬ (ls.map (·.num)).Nodup := by
       obtain ⟨j, hj, hjl, hp⟩ := HAT.out
       rw [HRr.out] at hj
       exact dup_not hjl hlt2 (by omega) (by rw [← HX.out]; simpa using hp)
      have HB := Lib.hid hbad
      clear hbad
      go_wp2_with fail
      go_region_held3 (fun W => W.cell? ⟨w.heap.size, 0, none⟩ = some (.slice A os.length c) ∧ W.cell? ⟨w.heap.size, 1, none⟩ = some (.slice (some ⟨b, off, none⟩) ls.length c2) ∧ W.cell? ⟨b, off + k * 5, none⟩ = some (.int .i64 num)) (go_keep)
       ((go_at_call 123; refine (CON.out _ goB).mono ?_; rintro e wz ⟨rfl, hbz⟩; (have kz0 := cB hbz k02; have kz1 := cB hbz k12; have kz2 := cB hbz x0)))
      go_wp2
      go_ret
      exact ⟨by rw [twice_nums HB.out]; rfl, below2 (below_a1 _ _) (below2 BW.out (below2 BW2.out goB))⟩
     ·have hd : decide (r < (k : Int)) = false := decide_eq_false hrl
      go_wp2_with fail
      go_region_held3 (fun W => W.cell? ⟨w.heap.size, 0, none⟩ = some (.slice A os.length c) ∧ W.cell? ⟨w.heap.size, 1, none⟩ = some (.slice (some ⟨b, off, none⟩) ls.length c2) ∧ W.cell? ⟨b, off + k * 5, none⟩ = some (.int .i64 num)) (go_keep)
       ((go_at_call 123; refine (CON.out _ goB).mono ?_; rintro e wz ⟨rfl, hbz⟩; (have kz0 := cB hbz k02; have kz1 := cB hbz k12; have kz2 := cB hbz x0)))
      go_wp2
      go_roundg (ls.length - (k + 1))
      case measure => omega
      case rel =>
       refine ⟨k + 1, by omega, by omega, by go_num, below2 BW2.out goB, nodup_snoc hlt2 NL.out (fun j hj e => ?_)⟩
       have := (idxI_le (p := fun y : Lg => y.num == num) (show j < ls.length by omega) (by have := HX.out; rw [e, ← this]; simp)).2
       rw [HRr.out] at this
       omega
    ·have hli2 : ¬ (k : Int) < (ls.length : Int) := by omega
     have hke : ls.take k = ls := List.take_of_length_le (by omega)
     rw [hke] at NL
     clear hke
     go_wp2
     go_ret
     exact ⟨by rw [twice_no RI.out ND.out NL.out]; rfl, below2 (below_a1 _ _) (below2 BW.out BW2.out)⟩
end Go.Proofs.YtcnpbcgkhhebaaaGreatDoor
