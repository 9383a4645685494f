/- The plain law of HardwareRuns: part 1. -/
import Derived.Test.YtppbpnknfigboaaGreatDoorPHardwareRunsx0
namespace Go.Proofs.YtppbpnknfigboaaGreatDoor.M
open Go Go.Amx
set_option linter.unusedVariables false
set_option linter.unusedSimpArgs false
set_option maxRecDepth 100000
noncomputable section
theorem z21 : ∀ (l : List UInt8) (i : Nat) (x : UInt8), l[i / 2]? = some x → (zht l)[i]? = some (((if i % 2 = 1 then x.toNat % 16 else x.toNat / 16 : Nat) : Nat) : Int)
 | [], i, x, h => by simp at h
 | y :: l, 0, x, h => by
  simp only [Nat.zero_div, List.getElem?_cons_zero, Option.some.injEq] at h; subst h; rfl
 | y :: l, 1, x, h => by
  simp only [show 1 / 2 = 0 from rfl, List.getElem?_cons_zero, Option.some.injEq] at h; subst h; rfl
 | y :: l, i + 2, x, h => by
  rw [show (i + 2) / 2 = i / 2 + 1 by omega, List.getElem?_cons_succ] at h; have := z21 l i x h; have e : zht (y :: l) = ((y.toNat / 16 : Nat) : Int) :: ((y.toNat % 16 : Nat) : Int) :: zht l := rfl; rw [e, List.getElem?_cons_succ, List.getElem?_cons_succ, this]
  congr 3
  rw [show (i + 2) % 2 = i % 2 by omega]
theorem z00 (n h : Int) (hn : -9223372036854775807 ≤ n ∧ n ≤ 9223372036854775807) : ze7 n h = some (if h = 11 ∨ h = 13 then -n else n, decide (h ≥ 10)) := by
 unfold ze7
 rw [w6e (by omega) (by omega), zam, zam]
 by_cases h1 : h = 11
 · rw [dct h1, ifp (.inl h1), Int.zero_sub]; rfl
 · rw [dcf h1]
   by_cases h2 : h = 13
   · rw [dct h2, ifp (.inr h2), Int.zero_sub]; rfl
   · rw [dcf h2, ifn (by omega)]; rfl
theorem z39 (n : Nat) (bad : Nat → Bool) (f : Nat → Value × Int × Int) : (List.range n).any bad = ((List.range n).findSome? (fun i => if bad i = true then some (f i) else none)).isSome := by
 rw [Bool.eq_iff_iff, List.any_eq_true, List.findSome?_isSome_iff]
 constructor
 · rintro ⟨x, hx, hb⟩
   exact ⟨x, hx, by rw [ifp hb]; rfl⟩
 · rintro ⟨x, hx, hb⟩
   refine ⟨x, hx, ?_⟩; split at hb
   · assumption
   · cases hb
def zom : Value := ⟨0, ⟨#[]⟩⟩
theorem z9f (N : Nat) (hN : 2000 < N) (t : DataType) (hk : t.Kind = 2) (b : ByteArray) (hb : 0 < b.size) (hb3 : b.size ≤ 15) (hl : (b.size : Int) = t.Length) :
 ∃ v a e, za8 N b = some (v, a, e) ∧ (match zlh t b with | some n => v.N = n ∧ e = 0 | none => e ≠ 0) := by
 have hd : zlh t b = zvw (zd1 (bl b)) t.Length := by unfold zlh; rw [ifn (by omega), ifn (by omega)]
 have hzl : (zd1 (bl b)).length = b.size + 1 := by unfold zd1 zfa; rw [lna, List.length_map, lns, zad]
 have hzs : zjw (zd1 (bl b)) = (((bl b).getD (b.size - 1) 0).toNat / 16 : Nat) := by
  unfold zjw; rw [hzl, Nat.add_sub_cancel]; unfold zd1; have hl2 : (zfa (bl b)).length = b.size := by unfold zfa; rw [List.length_map, zad]
  rw [List.getD_eq_getElem?_getD, List.getElem?_append_right (by omega), hl2, Nat.sub_self]; rfl
 have hzd : ∀ i, i < b.size → ∀ x, (bl b)[i]? = some x → (zd1 (bl b)).getD i 0 = ((x.toNat % 16 : Nat) : Int) := fun i hi x hx => by
  have hl2 : (zfa (bl b)).length = b.size := by unfold zfa; rw [List.length_map, zad]
  unfold zd1; rw [List.getD_eq_getElem?_getD, List.getElem?_append_left (by omega)]; unfold zfa; rw [List.getElem?_map, hx]; rfl
 have hzt : (zd1 (bl b)).take b.size = zfa (bl b) := by
  have hl2 : (zfa (bl b)).length = b.size := by unfold zfa; rw [List.length_map, zad]
  unfold zd1; rw [List.take_append_of_le_length (by omega), List.take_of_length_le (by omega)]
 have hx1 : (bl b)[b.size - 1]? = some ((bl b).getD (b.size - 1) 0) := zqc (by rw [zad]; omega)
 have hlb := ((bl b).getD (b.size - 1) 0).toNat_lt
 generalize hS : ((bl b).getD (b.size - 1) 0).toNat / 16 = S at *
 have hS16 : S < 16 := by omega
 rw [hd]
 unfold za8
 have lp := zc2 (f := za8.r0 N) (fun i => (b, zew ((zfa (bl b)).take i), (if i = b.size then (S : Int) else 15), (i : Int), zom))
  (fun i => if (decide ((zd1 (bl b)).getD i 0 > 9) || (decide (i = b.size - 1) && decide ((S : Int) < 10))) = true then some (zom, (i : Int), (21 : Int)) else none) b.size
  (fun i hi => by
   obtain ⟨x, hx⟩ : ∃ x, (bl b)[i]? = some x := zeh (by rw [zad]; exact hi); have hxl := x.toNat_lt; have hnx : (zfa (bl b))[i]? = some ((x.toNat % 16 : Nat) : Int) := by unfold zfa; rw [List.getElem?_map, hx]; rfl
   have hf := zl7 ((zfa (bl b)).take i) _ (List.reverse_reverse _).symm fun d hd => by
    obtain ⟨y, _, rfl⟩ := List.mem_map.1 (List.mem_of_mem_take hd); omega
   have hpow : 10 ^ ((zfa (bl b)).take i).length ≤ 10 ^ 15 := zbz (by rw [List.length_take]; omega); have hm : (w6 (x.toNat : Int)).tmod 16 = ((x.toNat % 16 : Nat) : Int) := by rw [w6e (by omega) (by omega), Int.tmod_eq_emod_of_nonneg (by omega)]; omega
   have hm2 : ((x.toNat : Int).tmod 16) = ((x.toNat % 16 : Nat) : Int) := by rw [Int.tmod_eq_emod_of_nonneg (by omega)]; omega
   have hdv : w6 ((w6 (x.toNat : Int)).tdiv 16) = ((x.toNat / 16 : Nat) : Int) := by rw [w6e (n := (x.toNat : Int)) (by omega) (by omega), Int.tdiv_eq_ediv_of_nonneg (by omega), w6e (by omega) (by omega)]; omega
   have hnext : zew ((zfa (bl b)).take (i + 1)) = 10 * zew ((zfa (bl b)).take i) + ((x.toNat % 16 : Nat) : Int) := by rw [zd2 _ _ hnx, znk]; omega
   rw [hnext]; generalize zew ((zfa (bl b)).take i) = F at *; rw [hzd i hi x hx]; simp only [za8.r0, za8.b0, dct (show (i : Int) < (b.size : Int) by omega), ctr, zg8, hx, obs, hm, hm2, hdv]; rw [w6e (n := (b.size : Int) - 1) (by omega) (by omega), w6e (n := (i : Int) + 1) (by omega) (by omega), w6e (n := 10 * F) (by omega) (by omega), w6e (n := 10 * F + ((x.toNat % 16 : Nat) : Int)) (by omega) (by omega), zam]
   by_cases hi1 : i = b.size - 1
   · have hxe : x = (bl b).getD (b.size - 1) 0 := by rw [hi1] at hx; rw [hx1] at hx; exact (Option.some.inj hx).symm
     have hxS : x.toNat / 16 = S := by rw [hxe]; exact hS
     rw [dct (show (i : Int) = (b.size : Int) - 1 by omega), dct hi1, hxS, ifn (show ¬ i = b.size by omega), ifp (show i + 1 = b.size by omega)]; simp only [ctr, Bool.true_and]; cases h1 : decide ((S : Int) < 10) <;> cases h2 : decide (((x.toNat % 16 : Nat) : Int) > 9) <;> rfl
   · rw [dcf (show ¬ (i : Int) = (b.size : Int) - 1 by omega), dcf hi1, ifn (show ¬ i = b.size by omega), ifn (show ¬ i + 1 = b.size by omega)]; simp only [cfa, Bool.false_and, Bool.or_false]; cases h2 : decide (((x.toNat % 16 : Nat) : Int) > 9) <;> rfl)
  (by simp only [za8.r0, za8.b0, dcf (show ¬ (b.size : Int) < (b.size : Int) by omega), cfa]) (N := N) (by omega)
 simp only [List.take_zero, Int.natCast_zero] at lp
 rw [show zew [] = 0 from rfl, ifn (show ¬ 0 = b.size by omega)] at lp
 rw [show (⟨0, (⟨#[]⟩ : ByteArray)⟩ : Value) = zom from rfl, lp]
 simp only [obs]
 have ha := z39 b.size (fun i => decide ((zd1 (bl b)).getD i 0 > 9) || (decide (i = b.size - 1) && decide ((S : Int) < 10))) (fun i => (zom, (i : Int), (21 : Int)))
 have hc : (List.range b.size).any (fun i => decide ((zd1 (bl b)).getD i 0 > 9) || (decide (i = b.size - 1) && decide ((S : Int) < 10))) = ((List.range ((zd1 (bl b)).length - 1)).any (zh8 (zd1 (bl b)) t.Length) || decide (zjw (zd1 (bl b)) < 10)) := by
  rw [hzl, Nat.add_sub_cancel, hzs, Bool.eq_iff_iff, Bool.or_eq_true, List.any_eq_true, List.any_eq_true]; constructor
  · rintro ⟨i, hi, hb⟩
    rw [Bool.or_eq_true, Bool.and_eq_true] at hb; rcases hb with hb | ⟨_, hb⟩
    · exact .inl ⟨i, hi, by unfold zh8; rw [hb, Bool.true_or]⟩
    · exact .inr hb
  · rintro (⟨i, hi, hb⟩ | hb)
    · refine ⟨i, hi, ?_⟩; unfold zh8 at hb; rw [Bool.or_eq_true] at hb; rcases hb with hb | hb
      · rw [hb, Bool.true_or]
      · rw [Bool.and_eq_true] at hb; have h2 := of_decide_eq_true hb.2; rw [hzl] at h2; omega
    · exact ⟨b.size - 1, by rw [List.mem_range]; omega, by rw [hb]; simp⟩
 rw [ha] at hc
 unfold zvw
 cases hf : (List.range b.size).findSome? (fun i => if (decide ((zd1 (bl b)).getD i 0 > 9) || (decide (i = b.size - 1) && decide ((S : Int) < 10))) = true then some (zom, (i : Int), (21 : Int)) else none) with
 | some r =>
  obtain ⟨i, _, hi⟩ := List.exists_of_findSome?_eq_some hf; split at hi
  · cases hi; rw [hf] at hc; have hc' : ((List.range ((zd1 (bl b)).length - 1)).any (zh8 (zd1 (bl b)) t.Length) || decide (zjw (zd1 (bl b)) < 10)) = true := hc.symm; rw [Bool.or_eq_true, decide_eq_true_eq] at hc'; rw [ifp hc']; exact ⟨_, _, _, rfl, by decide⟩
  · cases hi
 | none =>
  rw [hf] at hc; have hc' : ((List.range ((zd1 (bl b)).length - 1)).any (zh8 (zd1 (bl b)) t.Length) || decide (zjw (zd1 (bl b)) < 10)) = false := hc.symm; rw [Bool.or_eq_false_iff, decide_eq_false_iff_not] at hc'; have hf := zl7 (zfa (bl b)) _ (List.reverse_reverse _).symm fun d hd => by
   obtain ⟨y, _, rfl⟩ := List.mem_map.1 hd; omega
  have hpow : 10 ^ (zfa (bl b)).length ≤ 10 ^ 15 := zbz (by unfold zfa; rw [List.length_map, zad]; omega); have hnc : ¬ ((List.range ((zd1 (bl b)).length - 1)).any (zh8 (zd1 (bl b)) t.Length) = true ∨ zjw (zd1 (bl b)) < 10) := by rw [hc'.1]; simpa using hc'.2
  rw [ifn hnc, hzl, Nat.add_sub_cancel, hzt, hzs]; simp only [zd5, if_true]; rw [show (zfa (bl b)).take b.size = zfa (bl b) from List.take_of_length_le (by unfold zfa; rw [List.length_map, zad]; omega), z00 _ _ ⟨by omega, by omega⟩]; refine ⟨_, _, _, rfl, ?_, rfl⟩
  by_cases h1 : (S : Int) = 11 ∨ (S : Int) = 13
  · rw [ifp h1]
  · rw [ifn h1]
theorem z7q (N : Nat) (hN : 2000 < N) (t : DataType) (hk : t.Kind = 1) (b : ByteArray) (hl1 : 1 ≤ t.Length ∧ t.Length ≤ 15) (hl : (b.size : Int) = t.Length / 2 + 1) :
 ∃ v a e, za5 N t b = some (v, a, e) ∧ (match zlh t b with | some n => v.N = n ∧ e = 0 | none => e ≠ 0) := by
 have hd : zlh t b = zvw (zht (bl b)) t.Length := by unfold zlh; rw [ifn (by omega), ifp hk]
 have hzl : (zht (bl b)).length = 2 * b.size := by rw [zoa, zad]
 have hr := (zpa (l := bl b)).1
 rw [hd]
 have zc := z21 (bl b)
 generalize zht (bl b) = l at *
 have hS : zjw l = l.getD (2 * b.size - 1) 0 := by unfold zjw; rw [hzl]
 generalize zjw l = S at *
 unfold za5
 have lp := zc2 (f := za5.r0 N) (fun i => (b, (if i = 2 * b.size then (if S = 11 ∨ S = 13 then -zew (l.take (2 * b.size - 1)) else zew (l.take (2 * b.size - 1))) else zew (l.take i)), (i : Int), t, zom))
  (fun i => if (if i = 2 * b.size - 1 then decide (S < 10) else (decide (l.getD i 0 > 9) || (decide (i = 0) && (decide (t.Length % 2 = 0) && decide (l.getD i 0 ≠ 0))))) = true then some (zom, ((i / 2 : Nat) : Int), (21 : Int)) else none) (2 * b.size)
  (fun i hi => by
   obtain ⟨x, hx⟩ : ∃ x, (bl b)[i / 2]? = some x := zeh (by rw [zad]; omega); have hxl := x.toNat_lt; have hxi := zc i x hx; have hxd : l.getD i 0 = ((if i % 2 = 1 then x.toNat % 16 else x.toNat / 16 : Nat) : Int) := by rw [List.getD_eq_getElem?_getD, hxi]; rfl
   have hf := zl7 (l.take i) _ (List.reverse_reverse _).symm fun d hd => hr d (List.mem_of_mem_take hd); have hpow : 10 ^ (l.take i).length ≤ 10 ^ 16 := zbz (by rw [List.length_take]; omega); have hm : ((w6 (x.toNat : Int)).tmod 16) = ((x.toNat % 16 : Nat) : Int) := by rw [w6e (by omega) (by omega), Int.tmod_eq_emod_of_nonneg (by omega)]; omega
   have hdv : w6 ((w6 (x.toNat : Int)).tdiv 16) = ((x.toNat / 16 : Nat) : Int) := by rw [w6e (n := (x.toNat : Int)) (by omega) (by omega), Int.tdiv_eq_ediv_of_nonneg (by omega), w6e (by omega) (by omega)]; omega
   have hnext : zew (l.take (i + 1)) = 10 * zew (l.take i) + l.getD i 0 := by rw [zd2 _ _ hxi, znk, hxd]; omega
   have hidx : w6 ((i : Int).tdiv 2) = ((i / 2 : Nat) : Int) := by rw [Int.tdiv_eq_ediv_of_nonneg (by omega), w6e (by omega) (by omega)]; omega
   have hpar : ((i : Int).tmod 2 == 1) = decide (i % 2 = 1) := by rw [Int.tmod_eq_emod_of_nonneg (by omega), zam]; simp only [decide_eq_decide]; omega
   have hev : (t.Length.tmod 2 == 0) = decide (t.Length % 2 = 0) := by rw [Int.tmod_eq_emod_of_nonneg (by omega), zam]
   have hw1 : w6 (2 * (b.size : Int)) = ((2 * b.size : Nat) : Int) := by rw [w6e (by omega) (by omega)]; omega
   have hw2 : w6 (((2 * b.size : Nat) : Int) - 1) = ((2 * b.size - 1 : Nat) : Int) := by rw [w6e (by omega) (by omega)]; omega
   have hi0 : ((i : Int) == 0) = decide (i = 0) := by rw [zam]; simp only [decide_eq_decide]; omega
   have hil : ((i : Int) == ((2 * b.size - 1 : Nat) : Int)) = decide (i = 2 * b.size - 1) := by rw [zam]; simp only [decide_eq_decide]; omega
   have sg := z00 (zew (l.take i)) (l.getD i 0) ⟨by omega, by omega⟩; rw [hxd] at hnext sg ⊢; simp only [za5.r0, za5.b0, hw1, hw2, dct (show (i : Int) < ((2 * b.size : Nat) : Int) by omega), ctr, hidx, zg8, hx, obs, hm, hdv, hpar, hev, hi0, hil]; rw [w6e (n := (i : Int) + 1) (by omega) (by omega), ifn (show ¬ i = 2 * b.size by omega)]
   by_cases hp : i % 2 = 1
   · rw [ifp hp] at hnext sg; rw [dct hp, ctr]; simp only [ifp hp]; have hH : x.toNat % 16 < 16 := by omega
     by_cases hl : i = 2 * b.size - 1
     · have hSx : S = ((x.toNat % 16 : Nat) : Int) := by rw [hS, ← hl, hxd, ifp hp]
       rw [dct hl, ifp hl, ifp (show i + 1 = 2 * b.size by omega), ← hl, hSx, sg, dcf (show ¬ i = 0 by omega)]; simp only [ctr, cfa, obs]; cases h1 : decide (((x.toNat % 16 : Nat) : Int) < 10) <;> rfl
     · rw [dcf hl, ifn hl, ifn (show ¬ i + 1 = 2 * b.size by omega), hnext, dcf (show ¬ i = 0 by omega)]; generalize x.toNat % 16 = h at *; generalize zew (l.take i) = F at *; simp only [ctr, cfa, obs, Bool.false_and, Bool.or_false]; rw [w6e (n := 10 * F) (by omega) (by omega), w6e (n := 10 * F + (h : Int)) (by omega) (by omega)]; cases h1 : decide ((h : Int) > 9) <;> rfl
   · rw [ifn hp] at hnext sg; rw [dcf hp, cfa]; simp only [ifn hp]; have hl : ¬ i = 2 * b.size - 1 := by omega
     have hH : x.toNat / 16 < 16 := by omega
     rw [dcf hl, ifn hl, ifn (show ¬ i + 1 = 2 * b.size by omega), hnext]; generalize x.toNat / 16 = h at *; generalize zew (l.take i) = F at *; simp only [ctr, cfa, obs]; rw [w6e (n := 10 * F) (by omega) (by omega), w6e (n := 10 * F + (h : Int)) (by omega) (by omega), zcx]; cases h1 : decide ((h : Int) > 9) <;> cases h2 : decide (i = 0) <;> cases h3 : decide (t.Length % 2 = 0) <;> cases h4 : decide ((h : Int) ≠ 0) <;> rfl)
  (by
   have hw1 : w6 (2 * (b.size : Int)) = ((2 * b.size : Nat) : Int) := by rw [w6e (by omega) (by omega)]; omega
   simp only [za5.r0, za5.b0, hw1, dcf (show ¬ ((2 * b.size : Nat) : Int) < ((2 * b.size : Nat) : Int) by omega), cfa]) (N := N) (by omega)
 simp only [List.take_zero, Int.natCast_zero, if_true] at lp
 rw [show zew [] = 0 from rfl, ifn (show ¬ 0 = 2 * b.size by omega)] at lp
 rw [show (⟨0, (⟨#[]⟩ : ByteArray)⟩ : Value) = zom from rfl, lp]
 simp only [obs]
 have ha := z39 (2 * b.size) (fun i => (if i = 2 * b.size - 1 then decide (S < 10) else (decide (l.getD i 0 > 9) || (decide (i = 0) && (decide (t.Length % 2 = 0) && decide (l.getD i 0 ≠ 0)))))) (fun i => (zom, ((i / 2 : Nat) : Int), (21 : Int)))
 have hc : (List.range (2 * b.size)).any (fun i => (if i = 2 * b.size - 1 then decide (S < 10) else (decide (l.getD i 0 > 9) || (decide (i = 0) && (decide (t.Length % 2 = 0) && decide (l.getD i 0 ≠ 0)))))) = ((List.range (l.length - 1)).any (zh8 l t.Length) || decide (S < 10)) := by
  rw [hzl, Bool.eq_iff_iff, Bool.or_eq_true, List.any_eq_true, List.any_eq_true]; have key : ∀ i, i < 2 * b.size - 1 → (decide (l.getD i 0 > 9) || (decide (i = 0) && (decide (t.Length % 2 = 0) && decide (l.getD i 0 ≠ 0)))) = zh8 l t.Length i := by
   intro i hi; unfold zh8; have hxi : l[i]? = some (l.getD i 0) := by rw [List.getD_eq_getElem?_getD, lge (by omega)]; rfl
   have := hr _ (lmg hxi); rw [hzl]; rw [Bool.eq_iff_iff]; simp only [Bool.or_eq_true, Bool.and_eq_true, decide_eq_true_eq]; omega
  constructor
  · rintro ⟨i, hi, hb⟩
    have hi' := List.mem_range.1 hi; split at hb
    · exact .inr hb
    · rw [key i (by omega)] at hb; exact .inl ⟨i, List.mem_range.2 (by omega), hb⟩
  · rintro (⟨i, hi, hb⟩ | hb)
    · have hi' := List.mem_range.1 hi; refine ⟨i, List.mem_range.2 (by omega), ?_⟩; rw [ifn (by omega), key i hi']; exact hb
    · exact ⟨2 * b.size - 1, List.mem_range.2 (by omega), by rw [ifp rfl]; exact hb⟩
 rw [ha] at hc
 unfold zvw
 rw [show zjw l = S by unfold zjw; rw [hzl]; exact hS.symm]
 cases hf : (List.range (2 * b.size)).findSome? (fun i => if (if i = 2 * b.size - 1 then decide (S < 10) else (decide (l.getD i 0 > 9) || (decide (i = 0) && (decide (t.Length % 2 = 0) && decide (l.getD i 0 ≠ 0))))) = true then some (zom, ((i / 2 : Nat) : Int), (21 : Int)) else none) with
 | some r =>
  obtain ⟨i, _, hi⟩ := List.exists_of_findSome?_eq_some hf
  by_cases hq : (if i = 2 * b.size - 1 then decide (S < 10) else (decide (l.getD i 0 > 9) || (decide (i = 0) && (decide (t.Length % 2 = 0) && decide (l.getD i 0 ≠ 0))))) = true
  · rw [ifp hq] at hi; cases hi; rw [hf] at hc; have hc' : ((List.range (l.length - 1)).any (zh8 l t.Length) || decide (S < 10)) = true := hc.symm; rw [Bool.or_eq_true, decide_eq_true_eq] at hc'; rw [ifp hc']; exact ⟨_, _, _, rfl, by decide⟩
  · rw [ifn hq] at hi; cases hi
 | none =>
  rw [hf] at hc; have hc' : ((List.range (l.length - 1)).any (zh8 l t.Length) || decide (S < 10)) = false := hc.symm; rw [Bool.or_eq_false_iff, decide_eq_false_iff_not] at hc'; have hnc : ¬ ((List.range (l.length - 1)).any (zh8 l t.Length) = true ∨ S < 10) := by rw [hc'.1]; simpa using hc'.2
  rw [ifn hnc, hzl]; exact ⟨_, _, _, rfl, rfl, rfl⟩
theorem z7s (N : Nat) (hN : 2000 < N) {t : DataType} (ht : zh7 t) {b : ByteArray} (hb : (b.size : Int) = szE t) :
 ∃ v a e, zjy N t b = some (v, a, e) ∧ (match zlh t b with | some n => v.N = n ∧ e = 0 | none => e ≠ 0) := by
 obtain ⟨⟨l1, l2⟩, l3, l4⟩ := zf4 ht
 have hsz := zp5 ht
 have ht' := ht
 obtain ⟨h0, h1, h2⟩ := ht'
 unfold zjy
 rw [z0b, h0]
 simp only [obs, bsf, cfa, zam]
 rw [dcf (show ¬ t.Kind = 4 by omega), dcf (show ¬ t.Kind = 0 by omega), zi3 h0]
 simp only [obs, cfa]
 rw [hb]
 simp only [bsf, cfa]
 by_cases hk : t.Kind = 3
 · rw [dct hk, ctr]; have hs4 : b.size ≤ 4 ∧ 0 < b.size := by
    rw [hsz, ifn (by omega), ifp hk] at hb; split at hb <;> omega
   have hbig : zbh N b 0 (szE t) = some ((beV (bl b) : Nat) : Int) := by
    have := zwa N (by omega) b 0 b.size (by omega) (by omega) (by omega); rw [List.drop_zero, ← zad, List.take_length, zad, hb] at this; exact this
   obtain ⟨x0, hx0⟩ : ∃ x, (bl b)[0]? = some x := zeh (by rw [zad]; omega); have i0 : zga b 0 = some x0 := by rw [show (0 : Int) = ((0 : Nat) : Int) from rfl, zg8, hx0]
   have hx00 : (bl b).getD 0 0 = x0 := by rw [List.getD_eq_getElem?_getD, hx0]; rfl
   have hp := z2h N (by omega) t.Length.toNat (by omega); rw [Int.toNat_of_nonneg (by omega)] at hp; have hp2 : 10 ^ t.Length.toNat ≤ 10 ^ 15 := zbz (by omega); have hp3 := zb8 t.Length.toNat; have hv := zz4 (bl b); have hv2 : 256 ^ (bl b).length ≤ 256 ^ 4 := Nat.pow_le_pow_right (by decide) (by rw [zad]; omega); rw [hbig, i0]; simp only [obs, zjd, hp]; have hbd : zky (bl b) = if 128 ≤ x0.toNat then (beV (bl b) : Int) - (256 ^ (bl b).length : Nat) else (beV (bl b) : Int) := by unfold zky; rw [hx00]
   unfold zlh; rw [ifp hk, hbd]; have hsz8 : w6 (8 * szE t) = ((8 * b.size : Nat) : Int) := by rw [← hb, w6e (by omega) (by omega)]; omega
   rw [hsz8]; have hpow : (1 : Int) * 2 ^ (min (((8 * b.size : Nat) : Int)).toNat 64) = ((256 ^ (bl b).length : Nat) : Int) := by
    rw [itn, Nat.min_eq_left (by omega), Int.one_mul, zad, show (256 : Nat) = 2 ^ 8 from rfl, ← Nat.pow_mul, Int.natCast_pow]; rfl
   rw [hpow]; generalize 256 ^ (bl b).length = P at *; generalize 10 ^ t.Length.toNat = T at *; rw [w6e (n := (T : Int) - 1) (by omega) (by omega), w6e (n := 0 - ((T : Int) - 1)) (by omega) (by omega), w6e (n := (P : Int)) (by omega) (by omega)]
   by_cases hx : 128 ≤ x0.toNat
   · rw [dct (show (x0.toNat : Int) ≥ 128 by omega), ctr, ifn (by omega), ifp hx, w6e (by omega) (by omega), zhi]; simp only [obs]
     by_cases hr : -(T : Int) < (beV (bl b) : Int) - (P : Int) ∧ (beV (bl b) : Int) - (P : Int) < (T : Int)
     · rw [ifp hr, zbc.2 ⟨by omega, by omega⟩]; exact ⟨_, _, _, rfl, rfl, rfl⟩
     · rw [ifn hr, show inB ((beV (bl b) : Int) - (P : Int)) (0 - ((T : Int) - 1)) ((T : Int) - 1) = false by
        cases hb : inB ((beV (bl b) : Int) - (P : Int)) (0 - ((T : Int) - 1)) ((T : Int) - 1) with
        | false => rfl
        | true => have := zbc.1 hb; omega]
       exact ⟨_, _, _, rfl, by decide⟩
   · rw [dcf (show ¬ (x0.toNat : Int) ≥ 128 by omega), cfa, ifn hx, zhi]; simp only [obs]
     by_cases hr : -(T : Int) < (beV (bl b) : Int) ∧ (beV (bl b) : Int) < (T : Int)
     · rw [ifp hr, zbc.2 ⟨by omega, by omega⟩]; exact ⟨_, _, _, rfl, rfl, rfl⟩
     · rw [ifn hr, show inB ((beV (bl b) : Int)) (0 - ((T : Int) - 1)) ((T : Int) - 1) = false by
        cases hb : inB ((beV (bl b) : Int)) (0 - ((T : Int) - 1)) ((T : Int) - 1) with
        | false => rfl
        | true => have := zbc.1 hb; omega]
       exact ⟨_, _, _, rfl, by decide⟩
 · rw [dcf hk, cfa]
   by_cases hk2 : t.Kind = 2
   · rw [dct hk2, ctr]; have hl : (b.size : Int) = t.Length := by rw [hb, hsz, ifn (by omega), ifn hk]
     obtain ⟨v, a, e, g1, g2⟩ := z9f N hN t hk2 b (by omega) (by omega) hl; rw [g1]; exact ⟨_, _, _, rfl, g2⟩
   · rw [dcf hk2, cfa]; have hk1 : t.Kind = 1 := by omega
     obtain ⟨v, a, e, g1, g2⟩ := z7q N hN t hk1 b ⟨l1, l2⟩ (by rw [hb, hsz, ifp hk1]); rw [g1]; exact ⟨_, _, _, rfl, g2⟩
set_option exponentiation.threshold 3000
theorem zm1 (l : List Int) (x : Int) : dv (l ++ [x]) = dv l + 10 ^ l.length * x.toNat := by
 rw [zrg]; simp [dv]
theorem zsh (l : List Int) (i : Nat) {x : Int} (h : l[i]? = some x) : dv (l.take (i + 1)) = dv (l.take i) + 10 ^ i * x.toNat := by
 have hl := (List.getElem?_eq_some_iff.1 h).1
 rw [zd2 l i h, zm1, List.length_take, Nat.min_eq_left (Nat.le_of_lt hl)]
theorem zog (l : List Int) (i : Nat) {x : Int} (h : l[i]? = some x) : dv (l.drop i) = x.toNat + 10 * dv (l.drop (i + 1)) := by
 obtain ⟨h1, h2⟩ := List.getElem?_eq_some_iff.1 h
 rw [List.drop_eq_getElem_cons h1, h2]; rfl
theorem zoh {l : List Int} (h : dok l) {x : Int} (h0 : 0 ≤ x) (h1 : x < 10) : dok (l ++ [x]) := ztq h fun d hd => by
 rcases List.mem_cons.1 hd with rfl | hd
 · exact ⟨h0, h1⟩
 · cases hd
theorem z5c {l : List Int} (h : dok l) (hc : zmp l) (hl : l ≠ []) : 10 ^ (l.length - 1) ≤ dv l := by
 refine Classical.byContradiction fun hn => ?_
 have := (zg3 (dv l) (l.length - 1)).2 (by omega)
 rw [zz0 h hc] at this
 have : l.length ≠ 0 := fun h => hl (List.length_eq_zero_iff.1 h)
 omega
theorem z6r {l : List Int} (h : dok l) (hg : l ≠ [] → 10 ^ (l.length - 1) ≤ dv l) : zmp l := by
 unfold zmp
 intro hlast
 have hne : l ≠ [] := by intro h; rw [h] at hlast; cases hlast
 have hg' := hg hne
 have hlen : l.length ≠ 0 := fun h => hne (List.length_eq_zero_iff.1 h)
 have hx : l[l.length - 1]? = some 0 := by rw [← List.getLast?_eq_getElem?]; exact hlast
 have := zsh l (l.length - 1) hx
 rw [show l.length - 1 + 1 = l.length by omega, List.take_length] at this
 have hlt := zzy (zyr h (l.length - 1))
 rw [List.length_take, Nat.min_eq_left (by omega)] at hlt
 simp only [Int.toNat_zero, Nat.mul_zero, Nat.add_zero] at this
 omega
theorem zph {l : List Int} (h : dok l) {i : Nat} {x : Int} (hx : l[i]? = some x) : 0 ≤ x ∧ x < 10 := h x (lmg hx)
theorem zp6 (N : Nat) (l : List Int) (h : dok l) (hN : l.length < N) (hl : l.length < 1000000) : zbv N l = some (dg (dv l)) := by
 unfold zbv
 obtain ⟨s', h1, h2⟩ := zj6 (f := zbv.r0 N) (fun s => dok s ∧ dv s = dv l ∧ s.length < 1000000) (fun s => s.length) (fun s => s = dg (dv l))
  (fun s hs => by
   obtain ⟨s1, s2, s3⟩ := hs; simp only [zbv.r0, zbv.b0]
   by_cases h0 : s.length = 0
   · have hn : s = [] := List.length_eq_zero_iff.1 h0; right; rw [dcf (by omega)]; refine ⟨s, rfl, ?_⟩; rw [← s2, hn]; exact zj1.symm
   · obtain ⟨x, hx⟩ : ∃ x, s[s.length - 1]? = some x := zeh (by omega); rw [dct (show (s.length : Int) > 0 by omega), w6e (by omega) (by omega), show (s.length : Int) - 1 = ((s.length - 1 : Nat) : Int) by omega, zbg, hx]; simp only [ctr, obs]
     by_cases hz : x = 0
     · left; rw [zam, dct hz, ctr, ifp (by omega), ifp (by omega)]; refine ⟨_, rfl, ⟨?_, ?_, ?_⟩, ?_⟩
       · rw [itn, show (0 : Int).toNat = 0 from rfl, List.drop_zero]; exact zyr s1 _
       · rw [itn, show (0 : Int).toNat = 0 from rfl, List.drop_zero, ← s2]; have := zsh s (s.length - 1) hx; rw [show s.length - 1 + 1 = s.length by omega, List.take_length, hz] at this; simp only [Int.toNat_zero, Nat.mul_zero, Nat.add_zero] at this; exact this.symm
       · rw [itn, show (0 : Int).toNat = 0 from rfl, List.drop_zero, List.length_take]; omega
       · rw [itn, show (0 : Int).toNat = 0 from rfl, List.drop_zero, List.length_take]; omega
     · right; rw [zam, dcf hz, cfa]; refine ⟨s, rfl, ?_⟩; rw [← s2]; refine (zz0 s1 ?_).symm; unfold zmp; rw [List.getLast?_eq_getElem?, hx]; intro h; exact hz (Option.some.inj h))
  (N := N) (s := l) ⟨h, rfl, hl⟩ hN
 rw [h1, h2]
 rfl
theorem z6f {n : Nat} (h : n ≠ 0) : (dg n).length = (dg (n / 10)).length + 1 := by rw [znn h, List.length_cons]
theorem zur (N : Nat) (hN : 1000 < N) (n : Int) (hn : -1000000000000000 ≤ n ∧ n ≤ 1000000000000000) (z : Nat) (hz : z < 100) : zce N n (z : Int) = some ⟨decide (n < 0), dg (n.natAbs * 10 ^ z)⟩ := by
 unfold zce ze9
 rw [ifp (by omega), ifp (by omega), zae (by omega), ctr, zns (by omega) (by omega), itn]
 simp only [obs]
 have hd19 : (dg n.natAbs).length ≤ 18 := (zg3 _ 18).2 (by omega)
 obtain ⟨s', h1, h2⟩ := zj6 (f := zce.r0 N) (fun s => ∃ (l : List Int) (x : Nat), s = (n, l, (x : Int), (⟨false, []⟩ : ref01_Long)) ∧ dok l ∧ dv l + 10 ^ l.length * x = n.natAbs * 10 ^ z ∧ l.length + (dg x).length ≤ 200 ∧ x ≤ 1000000000000000)
  (fun s => (dg s.2.2.1.toNat).length) (fun s => ∃ l : List Int, s = (n, l, 0, (⟨false, []⟩ : ref01_Long)) ∧ dok l ∧ dv l = n.natAbs * 10 ^ z ∧ l.length ≤ 200)
  (fun s hs => by
   obtain ⟨l, x, rfl, s1, s2, s3, s4⟩ := hs; simp only [zce.r0, zce.b0]
   by_cases h0 : x = 0
   · right; subst h0; refine ⟨_, rfl, l, rfl, s1, by rw [← s2]; simp, by omega⟩
   · left; have hl := z6f h0; rw [dct (show (x : Int) > 0 by omega), ctr, zae (by simp only [List.length_cons, List.length_nil]; omega), ctr, Int.tmod_eq_emod_of_nonneg (by omega), Int.tdiv_eq_ediv_of_nonneg (by omega), w6e (by omega) (by omega)]; refine ⟨_, rfl, ⟨l ++ [((x % 10 : Nat) : Int)], x / 10, ?_, zoh s1 (by omega) (by omega), ?_, ?_, by omega⟩, ?_⟩
     · rw [show (x : Int) % 10 = ((x % 10 : Nat) : Int) by omega, show (x : Int) / 10 = ((x / 10 : Nat) : Int) by omega]
     · rw [zm1, itn, lna, lns, Nat.pow_succ, ← s2, Nat.mul_assoc, Nat.add_assoc, ← Nat.mul_add]
       congr 2
       omega
     · rw [lna, lns]; omega
     · show (dg ((x : Int) / 10).toNat).length < (dg ((x : Int)).toNat).length; rw [itn, show ((x : Int) / 10).toNat = x / 10 by omega]; omega)
  (N := N) (s := (n, List.replicate z 0, ((n.natAbs : Nat) : Int), (⟨false, []⟩ : ref01_Long))) ⟨List.replicate z 0, n.natAbs, rfl, zpg z, by rw [zqt, List.length_replicate, Nat.zero_add, Nat.mul_comm], by rw [List.length_replicate]; omega, by omega⟩ (by show (dg (((n.natAbs : Nat) : Int)).toNat).length < N; rw [itn]; omega)
 obtain ⟨l, rfl, l1, l2, l3⟩ := h2
 rw [h1]
 simp only [obs]
 rw [zp6 N l l1 (by omega) (by omega), l2]
 rfl
theorem zh2 {l : List Int} {i : Nat} (h : l.length ≤ i) : dv (l.drop i) = 0 := by rw [List.drop_of_length_le h]; rfl
theorem z9r (O c x y A B T P : Nat) (hP : O + P * (c + (x + 10 * A) + (y + 10 * B)) = T) : O + P * ((c + x + y) % 10) + P * 10 * ((c + x + y) / 10 + A + B) = T := by
 rw [← hP, Nat.mul_assoc, Nat.add_assoc, ← Nat.mul_add]
 congr 2
 omega
theorem z43 (N : Nat) (hN : 4000 < N) {a b : List Int} (ha : dok a) (hb : dok b) (la : a.length ≤ 1000) (lb : b.length ≤ 1000) :
 ∃ r, zch N a b = some r ∧ dok r ∧ dv r = dv a + dv b ∧ r.length ≤ max a.length b.length + 1 ∧ (zmp a → zmp b → r = dg (dv a + dv b)) := by
 unfold zch
 obtain ⟨s', h1, h2⟩ := zj6 (f := zch.r0 N)
  (fun s => ∃ (o : List Int) (c i : Nat), s = (a, b, o, (c : Int), (i : Int)) ∧ o.length = i ∧ dok o ∧ c ≤ 1 ∧ dv o + 10 ^ i * (c + dv (a.drop i) + dv (b.drop i)) = dv a + dv b ∧ (i ≤ max a.length b.length ∨ (i = max a.length b.length + 1 ∧ c = 0 ∧ 10 ^ (max a.length b.length) ≤ dv o)))
  (fun s => 2 * (max a.length b.length - s.2.2.2.2.toNat) + s.2.2.2.1.toNat) (fun s => ∃ (o : List Int), s.2.2.1 = o ∧ dok o ∧ dv o = dv a + dv b ∧ o.length ≤ max a.length b.length + 1 ∧ (o.length ≤ max a.length b.length ∨ 10 ^ (o.length - 1) ≤ dv o) ∧ max a.length b.length ≤ o.length)
  (fun s hs => by
   obtain ⟨o, c, i, rfl, s1, s2, s3, s4, s5⟩ := hs; simp only [zch.r0, zch.b0]; have hg : ((cond (decide ((i : Int) < (a.length : Int))) (some true) (some (decide ((i : Int) < (b.length : Int))))).bind fun g1001 => (cond g1001 (some true) (some (decide ((c : Int) > 0))))) = some (decide (i < a.length ∨ i < b.length ∨ 0 < c)) := by
    by_cases h1 : i < a.length
    · rw [dct (show (i : Int) < (a.length : Int) by omega), dct (show i < a.length ∨ i < b.length ∨ 0 < c by omega)]; rfl
    · rw [dcf (show ¬ (i : Int) < (a.length : Int) by omega)]
      by_cases h2 : i < b.length
      · rw [dct (show (i : Int) < (b.length : Int) by omega), dct (show i < a.length ∨ i < b.length ∨ 0 < c by omega)]; rfl
      · rw [dcf (show ¬ (i : Int) < (b.length : Int) by omega)]
        by_cases h3 : 0 < c
        · rw [dct (show (c : Int) > 0 by omega), dct (show i < a.length ∨ i < b.length ∨ 0 < c by omega)]; rfl
        · rw [dcf (show ¬ (c : Int) > 0 by omega), dcf (by omega)]; rfl
   rw [← Option.bind_assoc, hg]; simp only [obs]
   by_cases hgo : i < a.length ∨ i < b.length ∨ 0 < c
   · left; rw [dct hgo, ctr]; have hi : i ≤ max a.length b.length := by
      rcases s5 with s5 | ⟨s5, s6, _⟩ <;> omega
     have hroom : ∀ x : Int, Nat.ble ((o.length + ([x] : List Int).length) * 8) z9 = true := fun x => zae (by simp only [List.length_cons, List.length_nil]; omega); obtain ⟨x, A, hx1, hx2⟩ : ∃ (x A : Nat), dv (a.drop i) = x + 10 * A ∧ (dv (a.drop (i + 1)) = A ∧ x < 10 ∧ (if i < a.length then a[i]? = some (x : Int) else x = 0)) := by
      by_cases h : i < a.length
      · obtain ⟨x, hx⟩ : ∃ x, a[i]? = some x := zeh h; have hb := zph ha hx; have hdr := zog a i hx; exact ⟨x.toNat, dv (a.drop (i + 1)), hdr, rfl, by omega, by rw [ifp h, hx]; congr 1; omega⟩
      · exact ⟨0, 0, by rw [zh2 (by omega)], by rw [zh2 (by omega)], by omega, by rw [ifn h]⟩
     obtain ⟨y, B, hy1, hy2⟩ : ∃ (y B : Nat), dv (b.drop i) = y + 10 * B ∧ (dv (b.drop (i + 1)) = B ∧ y < 10 ∧ (if i < b.length then b[i]? = some (y : Int) else y = 0)) := by
      by_cases h : i < b.length
      · obtain ⟨x, hx⟩ : ∃ x, b[i]? = some x := zeh h; have hb := zph hb hx; have hdr := zog b i hx; exact ⟨x.toNat, dv (b.drop (i + 1)), hdr, rfl, by omega, by rw [ifp h, hx]; congr 1; omega⟩
      · exact ⟨0, 0, by rw [zh2 (by omega)], by rw [zh2 (by omega)], by omega, by rw [ifn h]⟩
     obtain ⟨hA, hx3, hx4⟩ := hx2; obtain ⟨hB, hy3, hy4⟩ := hy2; rw [hx1, hy1] at s4; have alg := z9r _ _ _ _ _ _ _ _ s4; refine ⟨(a, b, o ++ [(((c + x + y) % 10 : Nat) : Int)], (((c + x + y) / 10 : Nat) : Int), ((i + 1 : Nat) : Int)), ?_, ⟨o ++ [(((c + x + y) % 10 : Nat) : Int)], (c + x + y) / 10, i + 1, rfl, by rw [lna, lns, s1], zoh s2 (by omega) (by omega), by omega, ?_, ?_⟩, ?_⟩
     · have fin : ∀ v : Int, v = ((c + x + y : Nat) : Int) → (cond (Nat.ble ((o.length + ([v.tmod 10] : List Int).length) * 8) z9) (some (Stp.again (a, b, o ++ [v.tmod 10], w6 (v.tdiv 10), w6 ((i : Int) + 1)))) none) = some (.again (a, b, o ++ [(((c + x + y) % 10 : Nat) : Int)], (((c + x + y) / 10 : Nat) : Int), ((i + 1 : Nat) : Int))) := by
        intro v hv; rw [hroom, ctr, hv, Int.tmod_eq_emod_of_nonneg (by omega), Int.tdiv_eq_ediv_of_nonneg (by omega), w6e (by omega) (by omega), w6e (by omega) (by omega)]
        congr 1
       by_cases h1 : i < a.length
       · rw [ifp h1] at hx4; rw [dct (show (i : Int) < (a.length : Int) by omega), ctr, zbg, hx4, obs]
         by_cases h2 : i < b.length
         · rw [ifp h2] at hy4; rw [dct (show (i : Int) < (b.length : Int) by omega), ctr, zbg, hy4, obs]; refine fin _ ?_; rw [w6e (n := (c : Int) + (x : Int)) (by omega) (by omega), w6e (by omega) (by omega)]; omega
         · rw [ifn h2] at hy4; rw [dcf (show ¬ (i : Int) < (b.length : Int) by omega), cfa]; refine fin _ ?_; rw [w6e (by omega) (by omega)]; omega
       · rw [ifn h1] at hx4; rw [dcf (show ¬ (i : Int) < (a.length : Int) by omega), cfa]
         by_cases h2 : i < b.length
         · rw [ifp h2] at hy4; rw [dct (show (i : Int) < (b.length : Int) by omega), ctr, zbg, hy4, obs]; refine fin _ ?_; rw [w6e (by omega) (by omega)]; omega
         · rw [ifn h2] at hy4; rw [dcf (show ¬ (i : Int) < (b.length : Int) by omega), cfa]; refine fin _ ?_; omega
     · rw [zm1, s1, itn, hA, hB, Nat.pow_succ]; exact alg
     · by_cases him : i = max a.length b.length
       · right; have hx0 : x = 0 := by rw [ifn (by omega)] at hx4; exact hx4
         have hy0 : y = 0 := by rw [ifn (by omega)] at hy4; exact hy4
         have hc1 : c = 1 := by omega
         refine ⟨by omega, by omega, ?_⟩; rw [zm1, s1, itn, hx0, hy0, hc1, him]; omega
       · left; omega
     · show 2 * (max a.length b.length - ((i + 1 : Nat) : Int).toNat) + (((c + x + y) / 10 : Nat) : Int).toNat < 2 * (max a.length b.length - (i : Int).toNat) + (c : Int).toNat; simp only [itn]
       by_cases him : i = max a.length b.length
       · have hx0 : x = 0 := by rw [ifn (by omega)] at hx4; exact hx4
         have hy0 : y = 0 := by rw [ifn (by omega)] at hy4; exact hy4
         omega
       · omega
   · right; rw [dcf hgo, cfa]; rw [zh2 (by omega), zh2 (by omega), show c = 0 by omega] at s4; refine ⟨_, rfl, o, rfl, s2, by omega, ?_, ?_, by omega⟩
     · rcases s5 with s5 | ⟨s5, _, _⟩ <;> omega
     · rcases s5 with s5 | ⟨s5, _, s7⟩
       · left; omega
       · right; rw [s1, s5, Nat.add_sub_cancel]; exact s7)
  (N := N) (s := (a, b, [], 0, 0)) ⟨[], 0, 0, rfl, rfl, fun d hd => (List.not_mem_nil hd).elim, by omega, by simp [dv], .inl (by omega)⟩ (by show 2 * (max a.length b.length - (0 : Int).toNat) + (0 : Int).toNat < N; simp only [Int.toNat_zero]; omega)
 obtain ⟨o, ho, o1, o2, o3, o4, o5⟩ := h2
 rw [h1]
 simp only [obs, ho]
 refine ⟨o, rfl, o1, o2, o3, fun hca hcb => ?_⟩
 rw [← o2]
 refine (zz0 o1 (z6r o1 fun hne => ?_)).symm
 rcases o4 with o4 | o4
 · have hol : o.length ≠ 0 := fun h => hne (List.length_eq_zero_iff.1 h); have hm : o.length = a.length ∨ o.length = b.length := by omega
   rcases hm with hm | hm
   · have := z5c ha hca (fun h => by rw [h] at hm; exact hol hm); rw [hm, o2]; omega
   · have := z5c hb hcb (fun h => by rw [h] at hm; exact hol hm); rw [hm, o2]; omega
 · exact o4
theorem zx5 (N : Nat) (hN : 4000 < N) (a b : Nat) (ha : a < 10 ^ 900) (hb : b < 10 ^ 900) : zch N (dg a) (dg b) = some (dg (a + b)) := by
 obtain ⟨r, h1, _, _, _, h2⟩ := z43 N hN (zjg a) (zjg b) (Nat.le_trans ((zg3 a 900).2 ha) (by decide)) (Nat.le_trans ((zg3 b 900).2 hb) (by decide))
 rw [h1, h2 (z5d a) (z5d b), zjt, zjt]
theorem zx6 (N : Nat) (hN : 4000 < N) (a b : Nat) (ha : a < 10 ^ 900) (hb : b < 10 ^ 900) : zcn N (dg a) (dg b) = some (zhq a b) := by
 have la : (dg a).length ≤ 900 := (zg3 a 900).2 ha
 have lb : (dg b).length ≤ 900 := (zg3 b 900).2 hb
 unfold zcn
 by_cases hl : (dg a).length = (dg b).length
 · rw [zcx, dcf (by omega), cfa]; have key := z8c (f := zcn.r0 N) (fun s => ∃ i : Nat, s = (dg a, dg b, (i : Int) - 1) ∧ i ≤ (dg a).length ∧ (dg a).drop i = (dg b).drop i) (fun s => (s.2.2 + 1).toNat) (fun r => r = zhq a b) (fun s => dg a = dg b)
    (fun s hs => by
     obtain ⟨i, rfl, s1, s2⟩ := hs; simp only [zcn.r0, zcn.b0]; cases i with
     | zero =>
      right; left; refine ⟨_, rfl, ?_⟩; rw [List.drop_zero, List.drop_zero] at s2; exact s2
     | succ i =>
      obtain ⟨x, hx⟩ : ∃ x, (dg a)[i]? = some x := zeh (by omega); obtain ⟨y, hy⟩ : ∃ y, (dg b)[i]? = some y := zeh (by omega); rw [dct (show ((i + 1 : Nat) : Int) - 1 ≥ 0 by omega), ctr, show ((i + 1 : Nat) : Int) - 1 = (i : Int) by omega, zbg, zbg, hx, hy]; simp only [obs, zg5]; obtain ⟨hxl, hxe⟩ := List.getElem?_eq_some_iff.1 hx; obtain ⟨hyl, hye⟩ := List.getElem?_eq_some_iff.1 hy
      by_cases hxy : x = y
      · left; rw [zcx, dcf (by omega), cfa, w6e (by omega) (by omega)]; refine ⟨_, rfl, ⟨i, rfl, by omega, ?_⟩, ?_⟩
        · rw [List.drop_eq_getElem_cons hxl, List.drop_eq_getElem_cons hyl, hxe, hye, hxy, s2]
        · show ((i : Int) - 1 + 1).toNat < ((i : Int) + 1).toNat; omega
      · right; right; rw [zcx, dct hxy, ctr]; refine ⟨_, rfl, ?_⟩; unfold zhq
        by_cases hlt : x < y
        · have := z8o (zjg a) (zjg b) i hxl hyl s2 (by rw [hxe, hye]; exact hlt); rw [zjt, zjt] at this; rw [dcf (by omega), ifp this]; decide
        · have := z8o (zjg b) (zjg a) i hyl hxl s2.symm (by rw [hxe, hye]; omega); rw [zjt, zjt] at this; rw [dct (by omega), ifn (by omega), ifp this]; decide)
    (N := N) (s := (dg a, dg b, ((dg a).length : Int) - 1)) ⟨(dg a).length, rfl, Nat.le_refl _, by rw [List.drop_of_length_le (Nat.le_refl _), List.drop_of_length_le (by omega)]⟩ (by show (((dg a).length : Int) - 1 + 1).toNat < N; omega)
   rw [w6e (by omega) (by omega)]; rcases key with ⟨s', h1, h2⟩ | ⟨r, h1, h2⟩
   · have e := congrArg dv h2; rw [zjt, zjt] at e; rw [h1, e]; unfold zhq; rw [ifn (by omega), ifn (by omega)]; rfl
   · rw [h1, h2]; rfl
 · rw [zcx, dct (by omega), ctr, zg5]; simp only [obs]; unfold zhq
   by_cases hlt : (dg a).length < (dg b).length
   · rw [dcf (by omega), ifp (zzz hlt)]; rfl
   · have h2 := zzz (a := b) (b := a) (by omega); rw [dct (by omega), ifn (by omega), ifp h2]; rfl
theorem zx7 (N : Nat) (hN : 4000 < N) (a b : Nat) (ha : a < 10 ^ 900) (hba : b ≤ a) : zcz N (dg a) (dg b) = some (dg (a - b)) := by
 have la : (dg a).length ≤ 900 := (zg3 a 900).2 ha
 have lab : (dg b).length ≤ (dg a).length := (zg3 b _).2 (Nat.lt_of_le_of_lt hba ((zg3 a _).1 (Nat.le_refl _)))
 have hA := zjg a
 have hB := zjg b
 have vA := zjt a
 have vB := zjt b
 unfold zcz
 generalize dg a = A at *
 generalize dg b = B at *
 obtain ⟨s', h1, h2⟩ := zj6 (f := zcz.r0 N)
  (fun s => ∃ (o : List Int) (c i : Nat), s = (A, B, o, (c : Int), (i : Int)) ∧ o.length = i ∧ i ≤ A.length ∧ dok o ∧ c ≤ 1 ∧ dv o + dv (B.take i) = dv (A.take i) + 10 ^ i * c)
  (fun s => A.length - s.2.2.2.2.toNat) (fun s => ∃ c : Nat, dok s.2.2.1 ∧ s.2.2.1.length = A.length ∧ dv s.2.2.1 + b = a + 10 ^ A.length * c)
  (fun s hs => by
   obtain ⟨o, c, i, rfl, s1, s2, s3, s4, s5⟩ := hs; simp only [zcz.r0, zcz.b0]
   by_cases hi : i < A.length
   · left; obtain ⟨x, hx⟩ : ∃ x, A[i]? = some x := zeh hi; obtain ⟨x0, x1⟩ := zph hA hx; have tA := zsh A i hx; have hroom : ∀ x : Int, Nat.ble ((o.length + ([x] : List Int).length) * 8) z9 = true := fun x => zae (by simp only [List.length_cons, List.length_nil]; omega); rw [dct (show (i : Int) < (A.length : Int) by omega), ctr, zbg, hx]; simp only [obs, zg5]; obtain ⟨y, hy1, hy2, hy3⟩ : ∃ y : Int, (0 ≤ y ∧ y < 10) ∧ dv (B.take (i + 1)) = dv (B.take i) + 10 ^ i * y.toNat ∧ (if i < B.length then B[i]? = some y else y = 0) := by
      by_cases h : i < B.length
      · obtain ⟨y, hy⟩ : ∃ y, B[i]? = some y := zeh h; exact ⟨y, zph hB hy, zsh B i hy, by rw [ifp h]; exact hy⟩
      · exact ⟨0, by omega, by rw [List.take_of_length_le (by omega), List.take_of_length_le (by omega)]; simp, by rw [ifn h]⟩
     have fin : ∀ v : Int, v = x - (c : Int) - y → (cond (Nat.ble ((o.length + ([w6 (v + w6 (10 * cond (decide (v < 0)) 1 0))] : List Int).length) * 8) z9) (some (Stp.again (A, B, o ++ [w6 (v + w6 (10 * cond (decide (v < 0)) 1 0))], cond (decide (v < 0)) (1 : Int) 0, w6 ((i : Int) + 1)))) none) = some (Stp.again (A, B, o ++ [if v < 0 then v + 10 else v], ((if v < 0 then 1 else 0 : Nat) : Int), ((i + 1 : Nat) : Int))) := by
      intro v hv; rw [hroom, ctr, w6e (n := (i : Int) + 1) (by omega) (by omega)]
      by_cases hneg : v < 0
      · rw [dct hneg, ifp hneg, ifp hneg, ctr, w6e (n := 10 * 1) (by decide) (by decide), w6e (by omega) (by omega)]; rfl
      · rw [dcf hneg, ifn hneg, ifn hneg, cfa, w6e (n := 10 * 0) (by decide) (by decide), w6e (by omega) (by omega), Int.mul_zero, Int.add_zero]; rfl
     refine ⟨(A, B, o ++ [if x - (c : Int) - y < 0 then x - (c : Int) - y + 10 else x - (c : Int) - y], ((if x - (c : Int) - y < 0 then 1 else 0 : Nat) : Int), ((i + 1 : Nat) : Int)), ?_, ⟨_, _, _, rfl, by rw [lna, lns, s1], by omega, zoh s3 (by split <;> omega) (by split <;> omega), zzr _, ?_⟩, ?_⟩
     · by_cases h : i < B.length
       · rw [ifp h] at hy3; rw [dct (show (i : Int) < (B.length : Int) by omega), ctr, zbg, hy3, obs, w6e (n := x - (c : Int)) (by omega) (by omega), w6e (n := x - (c : Int) - y) (by omega) (by omega)]; exact fin _ rfl
       · rw [ifn h] at hy3; rw [dcf (show ¬ (i : Int) < (B.length : Int) by omega), cfa, w6e (n := x - (c : Int)) (by omega) (by omega)]; have := fin (x - (c : Int)) (by omega); rw [this, hy3, Int.sub_zero]
     · rw [zm1, hy2, tA, s1, Nat.pow_succ]; generalize 10 ^ i = P at *; have e : ∀ u : Nat, P * 10 * u = P * (10 * u) := fun u => Nat.mul_assoc _ _ _; rw [e]; have lin : (if x - (c : Int) - y < 0 then x - (c : Int) - y + 10 else x - (c : Int) - y).toNat + y.toNat + c = x.toNat + 10 * (if x - (c : Int) - y < 0 then 1 else 0) := by split <;> omega
       have := congrArg (P * ·) lin; simp only [Nat.mul_add] at this; generalize P * (if x - (c : Int) - y < 0 then x - (c : Int) - y + 10 else x - (c : Int) - y).toNat = U at *; generalize P * (10 * (if x - (c : Int) - y < 0 then 1 else 0)) = V at *; omega
     · show A.length - ((i + 1 : Nat) : Int).toNat < A.length - (i : Int).toNat; simp only [itn]; omega
   · right; rw [dcf (show ¬ (i : Int) < (A.length : Int) by omega), cfa]; rw [List.take_of_length_le (by omega), List.take_of_length_le (by omega), vA, vB] at s5; exact ⟨_, rfl, c, s3, (show o.length = A.length by omega), by rw [show A.length = i by omega]; exact s5⟩)
  (N := N) (s := (A, B, [], 0, 0)) ⟨[], 0, 0, rfl, rfl, by omega, fun d hd => (List.not_mem_nil hd).elim, by omega, by simp [dv]⟩ (by show A.length - (0 : Int).toNat < N; omega)
 obtain ⟨c, o1, o2, o3⟩ := h2
 have hlt := zzy o1
 rw [o2] at hlt
 have hc : c = 0 := by
  refine Classical.byContradiction fun h => ?_; have := Nat.mul_le_mul_left (10 ^ A.length) (show 1 ≤ c by omega); rw [Nat.mul_one] at this; clear ha; generalize 10 ^ A.length * c = M at *; generalize 10 ^ A.length = P at *; omega
 rw [h1]
 simp only [obs]
 rw [zp6 N _ o1 (by omega) (by omega), show dv s'.2.2.1 = a - b by rw [hc] at o3; omega]
 rfl
def sgn (s : Bool) (m : Nat) : Int := cond s (-(m : Int)) m
theorem zp9 (m : Nat) : decide (((dg m).length : Int) > 0) = decide (m ≠ 0) := by
 simp only [decide_eq_decide]
 constructor
 · intro h h2; rw [h2, zj1] at h; simp at h
 · intro h; rw [znn h, List.length_cons]; omega
theorem z29 (m : Nat) : (((dg m).length : Int) == 0) = decide (m = 0) := by
 rw [zam]
 simp only [decide_eq_decide]
 constructor
 · intro h; refine Classical.byContradiction fun h2 => ?_; rw [znn h2, List.length_cons] at h; omega
 · intro h; rw [h, zj1]; rfl
theorem z2g (N : Nat) (hN : 4000 < N) (s u : Bool) (p q : Nat) (hp : p < 10 ^ 800) (hq : q < 10 ^ 800) : ∃ v m, zjc N ⟨s, dg p⟩ ⟨u, dg q⟩ = some ⟨v, dg m⟩ ∧ sgn v m = sgn s p + sgn u q ∧ m ≤ p + q := by
 have h89 : (10 : Nat) ^ 800 < 10 ^ 900 := by decide
 unfold zjc
 rw [zx5 N hN p q (by omega) (by omega), zx6 N hN p q (by omega) (by omega)]
 simp only [obs]
 by_cases hsu : s = u
 · subst hsu; simp only [beq_self_eq_true, ctr]; exact ⟨_, _, rfl, by unfold sgn; cases s <;> simp <;> omega, by omega⟩
 · rw [show (s == u) = false from beq_eq_false_iff_ne.2 hsu, cfa]; unfold zhq
   by_cases h : p < q
   · rw [ifp h, zx7 N hN q p (by omega) (Nat.le_of_lt h)]; simp only [show decide ((-1 : Int) < 0) = true from rfl, ctr, obs, zp9]; have hz : decide (q - p ≠ 0) = true := dct (by omega); rw [hz]; refine ⟨u, q - p, by cases u <;> rfl, ?_, by omega⟩; unfold sgn; cases s <;> cases u <;> simp_all <;> omega
   · have hf : ∀ k : Int, decide ((if q < p then (1 : Int) else 0) < 0) = false := fun _ => by split <;> rfl
     rw [ifn h, hf 0, zx7 N hN p q (by omega) (by omega)]; simp only [cfa, obs, zp9]; refine ⟨s && decide (p - q ≠ 0), p - q, by cases s <;> rfl, ?_, by omega⟩; unfold sgn
     by_cases hz : p - q = 0
     · rw [dcf (by omega)]; cases s <;> cases u <;> simp_all <;> omega
     · rw [dct hz]; cases s <;> cases u <;> simp_all <;> omega
theorem zxa (N : Nat) (hN : 1000 < N) {a b : Number} (ha : zcw a) (hb : zcw b) : zgw N a b = some (⟨decide (a.N < 0), dg (zac a (zi a b)).natAbs⟩, ⟨decide (b.N < 0), dg (zac b (zi a b)).natAbs⟩, zi a b) := by
 obtain ⟨s1, s2, s3, s4⟩ := zlm ha hb
 obtain ⟨⟨a1, a2⟩, a3, a4⟩ := ha
 obtain ⟨⟨b1, b2⟩, b3, b4⟩ := hb
 unfold zgw
 rw [show (if b.Scale > a.Scale then b.Scale else a.Scale) = zi a b from rfl, w6e (by omega) (by omega), w6e (by omega) (by omega)]
 have e1 := zur N hN a.N ⟨by omega, by omega⟩ (zi a b - a.Scale).toNat (by omega)
 have e2 := zur N hN b.N ⟨by omega, by omega⟩ (zi a b - b.Scale).toNat (by omega)
 rw [Int.toNat_of_nonneg (by omega)] at e1 e2
 rw [e1, obs, e2, obs, zh4, zh4]
theorem zpv (x : Number) (s : Int) : sgn (decide (x.N < 0)) (zac x s).natAbs = zac x s := by
 have := zm7 x s
 unfold sgn
 by_cases h : x.N < 0
 · rw [dct h, ctr]; have := this.2 h; omega
 · rw [dcf h, cfa]; have : ¬ zac x s < 0 := fun h2 => h (this.1 h2); omega
theorem z4z (s : Bool) (m : Nat) : sgn (!s) m = -sgn s m := by unfold sgn; cases s <;> simp
theorem p30 {n : Nat} (h : n ≤ 10 ^ 30) : n < 10 ^ 800 := Nat.lt_of_le_of_lt h (by decide)
theorem z2l (N : Nat) (hN : 4000 < N) {a b : Number} (ha : zcw a) (hb : zcw b) : zgl N a b = some (z0h (zac a (zi a b)) (zac b (zi a b))) := by
 obtain ⟨s1, s2, s3, s4⟩ := zlm ha hb
 unfold zgl
 simp only [eN]
 rw [zxa N (by omega) ha hb]
 simp only [obs]
 obtain ⟨v, m, h1, h2, _⟩ := z2g N hN (decide (a.N < 0)) (!decide (b.N < 0)) _ _ (p30 (zib ha s4)) (p30 (zib hb s4))
 rw [h1]
 simp only [obs, z29, zg5]
 rw [z4z, zpv, zpv] at h2
 generalize zac a (zi a b) = A at *
 generalize zac b (zi a b) = B at *
 unfold sgn at h2
 unfold z0h
 by_cases hz : m = 0
 · rw [dct hz, ctr]; have : A = B := by cases v <;> simp_all <;> omega
   rw [ifn (by omega), ifn (by omega)]
 · rw [dcf hz, cfa]; cases v with
   | true =>
    rw [ctr] at h2; rw [ifp (by omega)]; decide
   | false =>
    rw [cfa] at h2; rw [ifn (by omega), ifp (by omega)]; decide
theorem zabq (O c x y A P T : Nat) (hP : O + P * (c + (x + 10 * A) * y) = T) : O + P * ((c + x * y) % 10) + P * 10 * ((c + x * y) / 10 + A * y) = T := by
 rw [← hP, Nat.mul_assoc, Nat.add_assoc, ← Nat.mul_add, Nat.add_mul, Nat.mul_assoc 10 A y]
 congr 2
 generalize x * y = z at *
 generalize A * y = w at *
 omega
theorem zac5 (N : Nat) (hN : 4000 < N) (p : Nat) (hp : p < 10 ^ 100) (o : List Int) (L3 L4 : ref01_Long) (i : Nat) (hi : i ≤ 100) (y : Nat) (hy : y < 10) (hy2 : L3.Digits[i]? = some (y : Int)) (s : Bool) :
 ∃ row c k, zl (za1.r2 N) N (o, (i : Int), List.replicate i (0 : Int), 0, 0, (⟨s, dg p⟩ : ref01_Long), L3, L4) = some (o, (i : Int), row, c, k, ⟨s, dg p⟩, L3, L4) ∧ dok row ∧ dv row = 10 ^ i * (p * y) ∧ row.length ≤ 300 := by
 have lp : (dg p).length ≤ 100 := (zg3 p 100).2 hp
 have hA := zjg p
 have vA := zjt p
 generalize dg p = A at *
 obtain ⟨s', h1, h2⟩ := zj6 (f := za1.r2 N)
  (fun t => ∃ (row : List Int) (c k : Nat), t = (o, (i : Int), row, (c : Int), (k : Int), (⟨s, A⟩ : ref01_Long), L3, L4) ∧ row.length = i + k ∧ k ≤ A.length + 1 ∧ dok row ∧ c ≤ 8 ∧ dv row + 10 ^ (i + k) * (c + dv (A.drop k) * y) = 10 ^ i * (p * y) ∧ (A.length < k → c = 0))
  (fun t => 2 * (A.length - t.2.2.2.2.1.toNat) + (if t.2.2.2.1 = 0 then 0 else 1)) (fun t => ∃ (row : List Int) (c k : Int), t = (o, (i : Int), row, c, k, (⟨s, A⟩ : ref01_Long), L3, L4) ∧ dok row ∧ dv row = 10 ^ i * (p * y) ∧ row.length ≤ 300)
  (fun t ht => by
   obtain ⟨row, c, k, rfl, s1, s2, s3, s4, s5, s6⟩ := ht; have hroom : ∀ x : Int, Nat.ble ((row.length + ([x] : List Int).length) * 8) z9 = true := fun x => zae (by simp only [List.length_cons, List.length_nil]; omega); simp only [za1.r2, za1.b2]
   by_cases hk : k < A.length
   · left; obtain ⟨x, hx⟩ : ∃ x, A[k]? = some x := zeh hk; obtain ⟨x0, x1⟩ := zph hA hx; obtain ⟨u, rfl⟩ : ∃ u : Nat, x = (u : Int) := ⟨x.toNat, by omega⟩; have hd := zog A k hx; rw [itn] at hd; have hmul : u * y ≤ 9 * 9 := Nat.mul_le_mul (by omega) (by omega); rw [dct (show (k : Int) < (A.length : Int) by omega)]; simp only [ctr, obs]; rw [zbg, hx, zbg, hy2]; simp only [obs]; have hv : w6 ((c : Int) + w6 ((u : Int) * (y : Int))) = ((c + u * y : Nat) : Int) := by
      rw [← Int.natCast_mul, w6e (n := ((u * y : Nat) : Int)) (by omega) (by omega), w6e (by omega) (by omega)]; omega
     rw [hv, hroom, ctr, Int.tmod_eq_emod_of_nonneg (by omega), Int.tdiv_eq_ediv_of_nonneg (by omega), w6e (n := ((c + u * y : Nat) : Int) / 10) (by omega) (by omega), w6e (n := (k : Int) + 1) (by omega) (by omega)]; rw [hd] at s5; have alg := zabq _ _ _ _ _ _ _ s5; refine ⟨_, rfl, ⟨row ++ [(((c + u * y) % 10 : Nat) : Int)], (c + u * y) / 10, k + 1, ?_, ?_, by omega, zoh s3 (by omega) (by omega), by omega, ?_, fun h => by omega⟩, ?_⟩
     · generalize u * y = z; rw [show ((c + z : Nat) : Int) % 10 = (((c + z) % 10 : Nat) : Int) by omega, show ((c + z : Nat) : Int) / 10 = (((c + z) / 10 : Nat) : Int) by omega]; rfl
     · rw [lna, lns, s1]; omega
     · rw [zm1, s1, itn, show i + (k + 1) = i + k + 1 by omega, Nat.pow_succ]; exact alg
     · show 2 * (A.length - ((k : Int) + 1).toNat) + (if ((c + u * y : Nat) : Int) / 10 = 0 then 0 else 1) < 2 * (A.length - (k : Int).toNat) + (if (c : Int) = 0 then 0 else 1); have := zzr (((c + u * y : Nat) : Int) / 10 = 0); split <;> split <;> omega
   · rw [dcf (show ¬ (k : Int) < (A.length : Int) by omega)]; simp only [cfa, obs]; rw [zh2 (show A.length ≤ k by omega)] at s5
     by_cases hc : c = 0
     · right; rw [dcf (show ¬ (c : Int) > 0 by omega), cfa]; refine ⟨_, rfl, row, _, _, rfl, s3, ?_, by omega⟩; rw [hc] at s5; simpa using s5
     · left; have hkA : k = A.length := by
        refine Classical.byContradiction fun h => hc (s6 (by omega))
       rw [dct (show (c : Int) > 0 by omega), ctr, hroom, ctr, Int.tmod_eq_emod_of_nonneg (by omega), Int.tdiv_eq_ediv_of_nonneg (by omega), w6e (n := (c : Int) / 10) (by omega) (by omega), w6e (n := (k : Int) + 1) (by omega) (by omega)]; refine ⟨_, rfl, ⟨row ++ [(c : Int)], 0, k + 1, ?_, ?_, by omega, zoh s3 (by omega) (by omega), by omega, ?_, fun _ => rfl⟩, ?_⟩
       · rw [show (c : Int) % 10 = (c : Int) by omega, show (c : Int) / 10 = ((0 : Nat) : Int) by omega]; rfl
       · rw [lna, lns, s1]; omega
       · rw [zm1, s1, itn, zh2 (show A.length ≤ k + 1 by omega)]; simp only [Nat.zero_mul, Nat.add_zero, Nat.mul_zero] at s5 ⊢; exact s5
       · show 2 * (A.length - ((k : Int) + 1).toNat) + (if (c : Int) / 10 = 0 then 0 else 1) < 2 * (A.length - (k : Int).toNat) + (if (c : Int) = 0 then 0 else 1); rw [ifp (by omega), ifn (by omega)]; omega)
  (N := N) (s := (o, (i : Int), List.replicate i (0 : Int), 0, 0, (⟨s, A⟩ : ref01_Long), L3, L4)) ⟨List.replicate i 0, 0, 0, rfl, by rw [List.length_replicate]; rfl, by omega, zpg i, by omega, by rw [zqt, List.drop_zero, vA]; simp, fun h => rfl⟩ (by show 2 * (A.length - (0 : Int).toNat) + (if (0 : Int) = 0 then 0 else 1) < N; rw [ifp rfl]; omega)
 obtain ⟨row, c, k, rfl, r1, r2, r3⟩ := h2
 exact ⟨row, c, k, h1, r1, r2, r3⟩
theorem z52 (N : Nat) (hN : 4000 < N) (s u : Bool) (p q : Nat) (hp : p < 10 ^ 90) (hq : q < 10 ^ 90) : za1 N ⟨s, dg p⟩ ⟨u, dg q⟩ = some ⟨(s != u) && decide (p * q ≠ 0), dg (p * q)⟩ := by
 have lq : (dg q).length ≤ 90 := (zg3 q 90).2 hq
 have hB := zjg q
 have vB := zjt q
 unfold za1
 obtain ⟨s', h1, h2⟩ := zj6 (f := za1.r0 N)
  (fun t => ∃ (o : List Int) (i : Nat), t = (o, (i : Int), (⟨s, dg p⟩ : ref01_Long), (⟨u, dg q⟩ : ref01_Long), (⟨false, []⟩ : ref01_Long)) ∧ i ≤ (dg q).length ∧ dok o ∧ o.length ≤ 300 + i ∧ dv o = p * dv ((dg q).take i))
  (fun t => (dg q).length - t.2.1.toNat) (fun t => ∃ o : List Int, (∃ i : Int, t = (o, i, (⟨s, dg p⟩ : ref01_Long), (⟨u, dg q⟩ : ref01_Long), (⟨false, []⟩ : ref01_Long))) ∧ dok o ∧ o.length ≤ 400 ∧ dv o = p * q)
  (fun t ht => by
   obtain ⟨o, i, rfl, s1, s2, s3, s4⟩ := ht; simp only [za1.r0, za1.b0]
   by_cases hi : i < (dg q).length
   · left; obtain ⟨y, hy⟩ : ∃ y, (dg q)[i]? = some y := zeh hi; obtain ⟨y0, y1⟩ := zph hB hy; obtain ⟨w, rfl⟩ : ∃ w : Nat, y = (w : Int) := ⟨y.toNat, by omega⟩; rw [dct (show (i : Int) < ((dg q).length : Int) by omega), ctr, ifp (by omega), ifp (by omega), zae (by omega), ctr, itn]; obtain ⟨row, c, k, r1, r2, r3, r4⟩ := zac5 N hN p (Nat.lt_of_lt_of_le hp (zbz (by decide))) o (⟨u, dg q⟩ : ref01_Long) (⟨false, []⟩ : ref01_Long) i (by omega) w (by omega) hy s; rw [r1]; simp only [obs]; obtain ⟨r, g1, g2, g3, g4, _⟩ := z43 N hN s2 r2 (by omega) (by omega); rw [g1]; simp only [obs]; rw [w6e (by omega) (by omega)]; refine ⟨_, rfl, ⟨r, i + 1, rfl, by omega, g2, ?_, ?_⟩, ?_⟩
     · omega
     · rw [g3, s4, r3, zsh _ i hy, itn, Nat.mul_add, Nat.mul_left_comm]
     · show (dg q).length - ((i : Int) + 1).toNat < (dg q).length - (i : Int).toNat; omega
   · right; rw [dcf (show ¬ (i : Int) < ((dg q).length : Int) by omega), cfa]; refine ⟨_, rfl, o, ⟨_, rfl⟩, s2, by omega, ?_⟩; rw [s4, List.take_of_length_le (by omega), vB])
  (N := N) (s := ([], 0, (⟨s, dg p⟩ : ref01_Long), (⟨u, dg q⟩ : ref01_Long), (⟨false, []⟩ : ref01_Long))) ⟨[], 0, rfl, by omega, fun d hd => (List.not_mem_nil hd).elim, by simp, by simp [dv]⟩ (by show (dg q).length - (0 : Int).toNat < N; omega)
 obtain ⟨o, ⟨i, rfl⟩, o1, o2, o3⟩ := h2
 rw [h1]
 simp only [obs]
 rw [zp6 N o o1 (by omega) (by omega), o3]
 simp only [obs, zp9]
 cases s <;> cases u <;> rfl
theorem z9k (N : Nat) (hN : 4000 < N) (A : List Int) (b r0 : Nat) (hb : 0 < b) (hb2 : b < 10 ^ 500) (Q : List Int) (hQ : dok Q) (i : Nat) (hi : i < Q.length) (hz : Q[i]? = some 0) (hr : r0 < 10 * b) :
 zl (zas.r2 N) N (A, dg b, Q, dg r0, (i : Int)) = some (A, dg b, Q.set i ((r0 / b : Nat) : Int), dg (r0 % b), (i : Int)) := by
 have h56 : (10 : Nat) ^ 500 * 10 ≤ 10 ^ 900 := by decide
 obtain ⟨s', h1, h2⟩ := zj6 (f := zas.r2 N)
  (fun t => ∃ (r c : Nat), t = (A, dg b, Q.set i (c : Int), dg r, (i : Int)) ∧ r + c * b = r0)
  (fun t => 10 - (zak t.2.2.1 i).toNat) (fun t => t = (A, dg b, Q.set i ((r0 / b : Nat) : Int), dg (r0 % b), (i : Int)))
  (fun t ht => by
   obtain ⟨r, c, rfl, s1⟩ := ht; have hc : c < 10 := by
    refine Classical.byContradiction fun h => ?_; have := Nat.mul_le_mul_right b (show 10 ≤ c by omega); omega
   have hl : (Q.set i (c : Int)).length = Q.length := List.length_set; have hx : (Q.set i (c : Int))[i]? = some (c : Int) := by rw [List.getElem?_set, ifp rfl, ifp hi]
   have hr0 : r ≤ r0 := by omega
   simp only [zas.r2, zas.b2]; rw [zx6 N hN r b (by omega) (by omega), obs, zr8]
   by_cases h : b ≤ r
   · left; rw [dct h, ctr, zx7 N hN r b (by omega) h, obs, hl, ifp (by omega), ifp (by omega), itn, hx]; simp only [obs]; rw [ifp (by omega), ifp (by omega), w6e (by omega) (by omega), List.set_set]; refine ⟨_, rfl, ⟨r - b, c + 1, rfl, ?_⟩, ?_⟩
     · rw [Nat.add_mul, Nat.one_mul]; omega
     · have g : ∀ v : Int, zak (Q.set i v) i = v := by
        intro v; clear hx hl hz
        induction Q generalizing i with
        | nil => simp at hi
        | cons q Q ih =>
         cases i with
         | zero => rfl
         | succ i =>
          rw [List.set_cons_succ]; show (if i + 1 = 0 then q else zak (Q.set i v) (i + 1 - 1)) = v; rw [ifn (by omega), Nat.add_sub_cancel]; exact ih (fun d hd => hQ d (List.mem_cons_of_mem _ hd)) i (by simpa using hi)
       show 10 - (zak (Q.set i ((c : Int) + 1)) i).toNat < 10 - (zak (Q.set i (c : Int)) i).toNat; rw [g, g]; omega
   · right; rw [dcf h, cfa]; refine ⟨_, rfl, ?_⟩; have e1 : r0 / b = c := by rw [← s1, Nat.add_mul_div_right _ _ hb, Nat.div_eq_of_lt (by omega), Nat.zero_add]
     have e2 : r0 % b = r := by rw [← s1, Nat.add_mul_mod_self_right, Nat.mod_eq_of_lt (by omega)]
     rw [e1, e2])
  (N := N) (s := (A, dg b, Q, dg r0, (i : Int))) ⟨r0, 0, by
   have : Q.set i ((0 : Nat) : Int) = Q := by
    refine List.ext_getElem? fun k => ?_; rw [List.getElem?_set]; split
    · rename_i hk; rw [← hk, hz]; rfl
    · rfl
   rw [this], by omega⟩ (by show 10 - (zak Q i).toNat < N; omega)
 rw [h1, h2]
theorem zzd (N : Nat) (hN : 4000 < N) (a b : Nat) (ha : a < 10 ^ 400) (hb : 0 < b) (hb2 : b < 10 ^ 400) : zas N (dg a) (dg b) = some (dg (a / b), dg (a % b)) := by
 have la : (dg a).length ≤ 400 := (zg3 a 400).2 ha
 have h45 : (10 : Nat) ^ 400 < 10 ^ 500 := by decide
 have hA := zjg a
 have vA := zjt a
 unfold zas
 generalize dg a = A at *
 rw [ifp (by omega), ifp (by omega), zae (by omega), ctr, itn, w6e (by omega) (by omega)]
 obtain ⟨s', h1, h2⟩ := zj6 (f := zas.r0 N)
  (fun t => ∃ (Q : List Int) (i : Nat), t = (A, dg b, Q, dg (dv (A.drop i) % b), (i : Int) - 1) ∧ i ≤ A.length ∧ Q.length = A.length ∧ dok Q ∧ dv (Q.drop i) = dv (A.drop i) / b ∧ (∀ k, k < i → Q[k]? = some 0))
  (fun t => (t.2.2.2.2 + 1).toNat) (fun t => dok t.2.2.1 ∧ t.2.2.1.length = A.length ∧ dv t.2.2.1 = a / b ∧ t.2.2.2.1 = dg (a % b))
  (fun t ht => by
   obtain ⟨Q, i, rfl, s1, s2, s3, s4, s5⟩ := ht; simp only [zas.r0, zas.b0]; cases i with
   | zero =>
    right; rw [List.drop_zero, List.drop_zero, vA] at s4; refine ⟨_, rfl, s3, s2, s4, ?_⟩; rw [List.drop_zero, vA]
   | succ i =>
    left; obtain ⟨x, hx⟩ : ∃ x, A[i]? = some x := zeh (by omega); obtain ⟨x0, x1⟩ := zph hA hx; obtain ⟨u, rfl⟩ : ∃ u : Nat, x = (u : Int) := ⟨x.toNat, by omega⟩; have hd := zog A i hx; rw [itn] at hd; have hrb : dv (A.drop (i + 1)) % b < b := Nat.mod_lt _ hb; have hdm := Nat.div_add_mod (dv (A.drop (i + 1))) b; rw [show ((i + 1 : Nat) : Int) - 1 = (i : Int) by omega, dct (show (i : Int) ≥ 0 by omega), ctr, zbg, hx]; simp only [obs]; generalize dv (A.drop (i + 1)) = p at *; have lr : (dg (p % b)).length ≤ 500 := (zg3 _ 500).2 (by omega); rw [zae (by simp only [List.length_cons, List.length_nil]; omega), ctr]; have hrest : dok ([(u : Int)] ++ dg (p % b)) := ztq (fun d hd => by
     rcases List.mem_cons.1 hd with rfl | hd
     · omega
     · cases hd) (zjg _)
    rw [zp6 N _ hrest (by rw [lna, lns]; omega) (by rw [lna, lns]; omega)]; have hv : dv ([(u : Int)] ++ dg (p % b)) = u + 10 * (p % b) := by
     show (u : Int).toNat + 10 * dv (dg (p % b)) = _; rw [zjt, itn]
    rw [hv]; simp only [obs]; rw [z9k N hN A b (u + 10 * (p % b)) hb (by omega) Q s3 i (by omega) (s5 i (by omega)) (by omega)]; simp only [obs]; rw [w6e (by omega) (by omega)]; have eq1 : u + 10 * p = b * (10 * (p / b)) + (u + 10 * (p % b)) := by
     rw [Nat.mul_left_comm]; omega
    have ed : (u + 10 * p) / b = 10 * (p / b) + (u + 10 * (p % b)) / b := by rw [eq1, Nat.mul_add_div hb]
    have em : (u + 10 * p) % b = (u + 10 * (p % b)) % b := by rw [eq1, Nat.mul_add_mod]
    have hdig : (u + 10 * (p % b)) / b < 10 := Nat.div_lt_of_lt_mul (by rw [Nat.mul_comm]; omega); generalize (u + 10 * (p % b)) / b = G at *; refine ⟨_, rfl, ⟨Q.set i (G : Int), i, ?_, by omega, by rw [List.length_set]; exact s2, ?_, ?_, ?_⟩, ?_⟩
    · rw [hd, em]
    · intro d hd; rcases List.mem_or_eq_of_mem_set hd with h | h
      · exact s3 d h
      · rw [h]; omega
    · have hxs : (Q.set i (G : Int))[i]? = some (G : Int) := by rw [List.getElem?_set, ifp rfl, ifp (by omega)]
      rw [zog _ i hxs, itn, List.drop_set_of_lt (by omega), s4, hd, ed]; omega
    · intro k hk; rw [List.getElem?_set, ifn (by omega)]; exact s5 k (by omega)
    · show ((i : Int) - 1 + 1).toNat < ((i : Int) + 1).toNat; omega)
  (N := N) (s := (A, dg b, List.replicate A.length 0, [], (A.length : Int) - 1)) ⟨List.replicate A.length 0, A.length, by rw [zh2 (Nat.le_refl _), Nat.zero_mod, zj1], by omega, List.length_replicate, zpg _, by rw [zh2 (Nat.le_refl _), Nat.zero_div, zh2 (by rw [List.length_replicate]; omega)], fun k hk => by rw [List.getElem?_replicate, ifp hk]⟩ (by show ((A.length : Int) - 1 + 1).toNat < N; omega)
 obtain ⟨o1, o2, o3, o4⟩ := h2
 rw [h1]
 simp only [obs]
 rw [zp6 N _ o1 (by omega) (by omega), o3, o4]
 rfl
theorem zup (k : Nat) (hk : k ≤ 100) : zfy (k : Int) = some (dg (10 ^ k)) := by
 unfold zfy
 rw [ifp (by omega), ifp (by omega), zae (by omega), ctr, itn, List.length_replicate, zae (by simp only [List.length_cons, List.length_nil]; omega), ctr]
 congr 1
 have h1 : dok (List.replicate k (0 : Int) ++ [1]) := zoh (zpg k) (by decide) (by decide)
 have h2 : dv (List.replicate k (0 : Int) ++ [1]) = 10 ^ k := by rw [zm1, zqt, List.length_replicate]; simp
 rw [← h2]
 refine (zz0 h1 ?_).symm
 unfold zmp
 rw [List.getLast?_append]
 simp
def zye (p q : Nat) (half : Bool) : Nat := p / q + cond (half && decide (q ≤ p % q + p % q)) 1 0
theorem z9g (N : Nat) (hN : 4000 < N) (s : Bool) (p q : Nat) (hp : p ≤ 10 ^ 100) (hq : 0 < q) (hq2 : q ≤ 10 ^ 100) (k : Nat) (hk : k ≤ 15) (half : Bool) :
 ∃ v, zjj N ⟨⟨s, dg p⟩, dg q⟩ (k : Int) half = some ⟨v, dg (zye (p * 10 ^ k) q half)⟩ ∧ (zye (p * 10 ^ k) q half ≠ 0 → v = s) := by
 have hs : p * 10 ^ k ≤ 10 ^ 100 * 10 ^ 15 := Nat.mul_le_mul hp (zbz hk)
 have h115 : (10 : Nat) ^ 100 * 10 ^ 15 < 10 ^ 400 := by decide
 have h4 : (10 : Nat) ^ 400 < 10 ^ 900 := by decide
 have h14 : (10 : Nat) ^ 100 < 10 ^ 400 := by decide
 have hr := Nat.mod_lt (p * 10 ^ k) hq
 have hdl := Nat.div_le_self (p * 10 ^ k) q
 have lp : (dg p).length ≤ 101 := (zg3 p 101).2 (by have : (10 : Nat) ^ 100 < 10 ^ 101 := (by decide); omega)
 unfold zjj
 rw [ifp (by omega), ifp (by omega), zae (by omega), ctr, itn, List.length_replicate, zae (by show (k + (dg p).length) * 8 ≤ 1000000; omega), ctr]
 have hd : dok (List.replicate k (0 : Int) ++ dg p) := ztq (zpg k) (zjg p)
 have hv : dv (List.replicate k (0 : Int) ++ dg p) = p * 10 ^ k := by rw [zrg, zqt, zjt, List.length_replicate, Nat.zero_add, Nat.mul_comm]
 show ∃ v, ((zbv N (List.replicate k (0 : Int) ++ dg p)).bind _) = _ ∧ _
 rw [zp6 N _ hd (by rw [lna, List.length_replicate]; omega) (by rw [lna, List.length_replicate]; omega), hv]
 simp only [obs]
 rw [zzd N hN _ q (by omega) hq (by omega)]
 simp only [obs]
 rw [zx5 N hN _ _ (by omega) (by omega)]
 simp only [obs]
 rw [zx6 N hN _ q (by omega) (by omega)]
 simp only [obs, zr8]
 have kk : (cond half (some (decide (q ≤ p * 10 ^ k % q + p * 10 ^ k % q))) (some false)) = some (half && decide (q ≤ p * 10 ^ k % q + p * 10 ^ k % q)) := by cases half <;> rfl
 rw [kk, obs]
 unfold zye
 cases (half && decide (q ≤ p * 10 ^ k % q + p * 10 ^ k % q)) with
 | true =>
  rw [ctr, ctr, show ([1] : List Int) = dg 1 by rw [znn (by decide), show 1 / 10 = 0 from rfl, zj1]; rfl, zx5 N hN _ 1 (by omega) (by omega)]; simp only [obs, zp9]; refine ⟨s && decide (p * 10 ^ k / q + 1 ≠ 0), by cases s <;> rfl, fun h => ?_⟩; rw [dct h, Bool.and_true]
 | false =>
  rw [cfa, cfa]; simp only [obs, zp9, Nat.add_zero]; refine ⟨s && decide (p * 10 ^ k / q ≠ 0), by cases s <;> rfl, fun h => ?_⟩; rw [dct h, Bool.and_true]
theorem z9i (N : Nat) (hN : 4000 < N) (v : Bool) (m : Nat) (hm : m < 10 ^ 16) : zc0 N ⟨v, dg m⟩ = some (sgn v m) := by
 have lm : (dg m).length ≤ 16 := (zg3 m 16).2 hm
 have hA := zjg m
 have vA := zjt m
 unfold zc0
 generalize dg m = A at *
 have lp := zbq (f := zc0.r0 N) (fun i => (((dv (A.drop (A.length - i)) : Nat) : Int), (A.length : Int) - 1 - (i : Int), (⟨v, A⟩ : ref01_Long))) A.length
  (fun i hi => by
   obtain ⟨x, hx⟩ : ∃ x, A[A.length - 1 - i]? = some x := zeh (by omega); obtain ⟨x0, x1⟩ := zph hA hx; have hd := zog A _ hx; rw [show A.length - 1 - i + 1 = A.length - i by omega] at hd; have hb := zzy (z94 hA (A.length - i)); have hb2 : 10 ^ (A.drop (A.length - i)).length ≤ 10 ^ 16 := zbz (by rw [List.length_drop]; omega); simp only [zc0.r0, zc0.b0, dct (show (A.length : Int) - 1 - (i : Int) ≥ 0 by omega), ctr]; rw [show (A.length : Int) - 1 - (i : Int) = ((A.length - 1 - i : Nat) : Int) by omega, zbg, hx]; simp only [obs]; rw [w6e (n := 10 * ((dv (A.drop (A.length - i)) : Nat) : Int)) (by omega) (by omega), w6e (n := 10 * ((dv (A.drop (A.length - i)) : Nat) : Int) + x) (by omega) (by omega), w6e (by omega) (by omega), show A.length - (i + 1) = A.length - 1 - i by omega, hd]
   congr 3
   · omega
   · congr 1
     omega)
  (by simp only [zc0.r0, zc0.b0, dcf (show ¬ (A.length : Int) - 1 - (A.length : Int) ≥ 0 by omega), cfa]) (N := N) (by omega)
 simp only [Nat.sub_zero, Int.natCast_zero, Int.sub_zero, Nat.sub_self, List.drop_zero, zh2 (Nat.le_refl A.length), vA] at lp
 show ((zl (zc0.r0 N) N (0, w6 ((A.length : Int) - 1), (⟨v, A⟩ : ref01_Long))).bind _) = _
 rw [w6e (by omega) (by omega), lp]
 simp only [obs]
 unfold sgn
 cases v
 · rfl
 · rw [ctr, ctr, w6e (by omega) (by omega), Int.zero_sub]
theorem z7o (N : Nat) (hN : 4000 < N) (s : Bool) (p q : Nat) (hp : p ≤ 10 ^ 100) (hq : 0 < q) (hq2 : q ≤ 10 ^ 100) {t : DataType} (ht : zh7 t) (half : Bool) :
 ∃ n e, zic N ⟨⟨s, dg p⟩, dg q⟩ t half = some (n, e) ∧ ((⟨n, ⟨#[]⟩⟩ : Value), e) = zhz s p q t half := by
 obtain ⟨⟨l1, l2⟩, l3, l4⟩ := zf4 ht
 obtain ⟨v, h1, h2⟩ := z9g N hN s p q hp hq hq2 t.Scale.toNat (by omega) half
 rw [Int.toNat_of_nonneg l3] at h1
 unfold zic
 show ∃ n e, ((zjj N ⟨⟨s, dg p⟩, dg q⟩ t.Scale half).bind _) = _ ∧ _
 rw [h1]
 simp only [obs]
 have hl := zg3 (zye (p * 10 ^ t.Scale.toNat) q half) t.Length.toNat
 have e : zhz s p q t half = if 10 ^ t.Length.toNat ≤ zye (p * 10 ^ t.Scale.toNat) q half then (⟨0, ⟨#[]⟩⟩, 19) else (⟨sgn s (zye (p * 10 ^ t.Scale.toNat) q half), ⟨#[]⟩⟩, 0) := rfl
 rw [e]
 generalize zye (p * 10 ^ t.Scale.toNat) q half = Q at *
 by_cases h : 10 ^ t.Length.toNat ≤ Q
 · rw [ifp h]; have : ¬ (dg Q).length ≤ t.Length.toNat := fun h3 => by have := hl.1 h3; omega
   rw [dct (by omega)]; exact ⟨_, _, rfl, rfl⟩
 · rw [ifn h]; have : (dg Q).length ≤ t.Length.toNat := hl.2 (by omega); have hQ : Q < 10 ^ 16 := Nat.lt_of_lt_of_le (by omega : Q < 10 ^ t.Length.toNat) (zbz (by omega)); rw [dcf (by omega), cfa, z9i N hN v Q hQ]; refine ⟨_, _, rfl, ?_⟩
   congr 2
   unfold sgn
   by_cases h0 : Q = 0
   · rw [h0]; cases v <;> cases s <;> rfl
   · rw [h2 h0]
theorem ztz {t : DataType} (ht : zh7 t) : ze8 t = some 0 := by
 obtain ⟨h0, h1, h2⟩ := ht
 unfold ze8
 rw [z0b, h0]
 simp only [obs, bsf, cfa]
 rw [zs1, zbc.2 ⟨h1, h2⟩]
 simp only [obs, zg5]
 decide
theorem zabe (N : Nat) (hN : 4000 < N) {x : Number} (hx : zcw x) {t : DataType} (ht : zh7 t) (half : Bool) : zgn N x t half = some (zlt x t half) := by
 have hx' := hx
 obtain ⟨⟨h1, h2⟩, h3, h4⟩ := hx'
 unfold zgn ziv
 rw [zq5, zkq.2 hx]
 simp only [obs, bsf, cfa, eN]
 rw [ztz ht]
 simp only [obs, bsf, cfa]
 have e1 := zur N (by omega) x.N ⟨by omega, by omega⟩ 0 (by omega)
 rw [Nat.pow_zero, Nat.mul_one, Int.natCast_zero] at e1
 have e2 := zup x.Scale.toNat (by omega)
 rw [Int.toNat_of_nonneg h3] at e2
 rw [e1, obs, e2, obs]
 simp only [obs]
 have hp : x.N.natAbs ≤ 10 ^ 100 := Nat.le_trans (show x.N.natAbs ≤ 10 ^ 15 by omega) (by decide)
 obtain ⟨n, e, g1, g2⟩ := z7o N hN (decide (x.N < 0)) x.N.natAbs (10 ^ x.Scale.toNat) hp (zb8 _) (zbz (by omega)) ht half
 show ((zic N ⟨⟨decide (x.N < 0), dg x.N.natAbs⟩, dg (10 ^ x.Scale.toNat)⟩ t half).bind _) = _
 rw [g1]
 simp only [obs]
 rw [g2]
 rfl
theorem z2y {n : Nat} (h : n ≤ 10 ^ 31) : n ≤ 10 ^ 100 := Nat.le_trans h (by decide)
theorem z2s (s : Bool) (p q : Nat) (hq : 0 < q) (t : DataType) (half : Bool) : zhz s p q t half = z0f (sgn s p) q t half := z2t s p q hq t half
theorem zabf (N : Nat) (hN : 4000 < N) {op : Int} (hop : 0 ≤ op ∧ op ≤ 4) {a b : Number} (ha : zcw a) (hb : zcw b) {t : DataType} (ht : zh7 t) (half : Bool) : zc9 N ⟨op, t, half⟩ a b = some (zg1 op a b t half) := by
 obtain ⟨s1, s2, s3, s4⟩ := zlm ha hb
 have la := zib ha s4
 have lb := zib hb s4
 have ha' := ha
 have hb' := hb
 obtain ⟨⟨a1, a2⟩, a3, a4⟩ := ha'
 obtain ⟨⟨b1, b2⟩, b3, b4⟩ := hb'
 have zb := zw4 b (zi a b)
 have ga := zpv a (zi a b)
 have gb := zpv b (zi a b)
 have q1 : 10 ^ (zi a b).toNat ≤ 10 ^ 100 := zbz (by omega)
 unfold zc9
 simp only [eD]
 rw [zhi, zbc.2 hop]
 simp only [obs, Bool.not_true, cfa]
 rw [zq5, zq5, zkq.2 ha, zkq.2 hb]
 simp only [obs, bsf, cfa]
 rw [ztz ht]
 simp only [obs, bsf, cfa, eN]
 have fin : ∀ (s : Bool) (p q : Nat), p ≤ 10 ^ 100 → 0 < q → q ≤ 10 ^ 100 → ((zic N ⟨⟨s, dg p⟩, dg q⟩ t half).bind fun r6 => some ((⟨r6.1, (⟨#[]⟩ : ByteArray)⟩ : Value), r6.2)) = some (zhz s p q t half) := fun s p q hp hq hq2 => by
  obtain ⟨n, e, g1, g2⟩ := z7o N hN s p q hp hq hq2 ht half; rw [g1, obs, g2]
 unfold zk9
 rw [zxa N (by omega) ha hb]
 simp only [obs, z29]
 have ep := zup (zi a b).toNat (by omega)
 rw [Int.toNat_of_nonneg s3] at ep
 have g : (cond (op == 3) (some true) (some (op == 4))) = some (decide (op = 3 ∨ op = 4)) := by
  rw [zam, zam]
  by_cases h : op = 3
  · rw [dct h, dct (show op = 3 ∨ op = 4 by omega)]; rfl
  · rw [dcf h]
    by_cases h2 : op = 4
    · rw [dct h2, dct (show op = 3 ∨ op = 4 by omega)]; rfl
    · rw [dcf h2, dcf (show ¬ (op = 3 ∨ op = 4) by omega)]; rfl
 rw [g]
 simp only [obs]
 have hbz : (zac b (zi a b)).natAbs = 0 ↔ b.N = 0 := by
  rw [Int.natAbs_eq_zero]; exact zb
 rw [show (cond (decide (op = 3 ∨ op = 4)) (some (decide ((zac b (zi a b)).natAbs = 0))) (some false)) = some (decide ((op = 3 ∨ op = 4) ∧ b.N = 0)) by
  by_cases h : op = 3 ∨ op = 4
  · rw [dct h, ctr]; congr 1; rw [decide_eq_decide]; constructor
    · intro h2; exact ⟨h, hbz.1 h2⟩
    · intro h2; exact hbz.2 h2.2
  · rw [dcf h, cfa, dcf (fun h2 => h h2.1)]]
 simp only [obs]
 unfold zg1
 by_cases hz : (op = 3 ∨ op = 4) ∧ b.N = 0
 · rw [dct hz, ifp hz]; rfl
 · rw [dcf hz, ifn hz, cfa]
   by_cases o0 : op = 0
   · obtain ⟨v, m, h1, h2, h3⟩ := z2g N hN (decide (a.N < 0)) (decide (b.N < 0)) _ _ (p30 la) (p30 lb); rw [ga, gb] at h2; rw [ifp o0, o0]; simp only [show ((0 : Int) == 1) = false from rfl, show ((0 : Int) == 2) = false from rfl, show ((0 : Int) == 3) = false from rfl, show ((0 : Int) == 4) = false from rfl, cfa]; rw [h1]; simp only [obs]; rw [ep]; simp only [obs, bsf, cfa]; rw [fin v m _ (z2y (by omega)) (zb8 _) q1, z2s _ _ _ (zb8 _), h2]
   · rw [ifn o0]
     by_cases o1 : op = 1
     · rw [ifp o1, zam, dct o1, ctr]; have hneg : (cond (!decide (b.N < 0)) (some (decide ((((dg (zac b (zi a b)).natAbs).length : Nat) : Int) > 0))) (some false)) = some (!decide (b.N < 0) && decide ((zac b (zi a b)).natAbs ≠ 0)) := by
        rw [zp9]; cases decide (b.N < 0) <;> rfl
       rw [hneg]; simp only [obs]; obtain ⟨v, m, h1, h2, h3⟩ := z2g N hN (decide (a.N < 0)) (!decide (b.N < 0) && decide ((zac b (zi a b)).natAbs ≠ 0)) _ _ (p30 la) (p30 lb); have gb2 : sgn (!decide (b.N < 0) && decide ((zac b (zi a b)).natAbs ≠ 0)) (zac b (zi a b)).natAbs = -zac b (zi a b) := by
        by_cases h0 : (zac b (zi a b)).natAbs = 0
        · have h00 := Int.natAbs_eq_zero.1 h0; rw [h0, dcf (show ¬ (0 : Nat) ≠ 0 by omega), Bool.and_false, h00]; rfl
        · rw [dct h0, Bool.and_true, z4z, gb]
       rw [ga, gb2] at h2; rw [h1]; simp only [obs]; rw [ep]; simp only [obs, bsf, cfa]; rw [fin v m _ (z2y (by omega)) (zb8 _) q1, z2s _ _ _ (zb8 _), h2, Int.sub_eq_add_neg]
     · rw [ifn o1, zam, dcf o1, cfa]
       by_cases o2 : op = 2
       · rw [ifp o2, zam, dct o2, ctr]; have p90 : ∀ n : Nat, n ≤ 10 ^ 30 → n < 10 ^ 90 := fun n h => Nat.lt_of_le_of_lt h (by decide); rw [z52 N hN _ _ _ _ (p90 _ la) (p90 _ lb)]; simp only [obs]; have e2 := zup (2 * zi a b).toNat (by omega); rw [Int.toNat_of_nonneg (by omega)] at e2; rw [w6e (by omega) (by omega), e2]; simp only [obs, bsf, cfa]; have hm : (zac a (zi a b)).natAbs * (zac b (zi a b)).natAbs ≤ 10 ^ 100 := Nat.le_trans (Nat.mul_le_mul la lb) (by decide); rw [fin _ _ _ hm (zb8 _) (zbz (by omega))]; have e3 : (zac a (zi a b)).natAbs * (zac b (zi a b)).natAbs = a.N.natAbs * b.N.natAbs * 10 ^ ((zi a b - a.Scale).toNat + (zi a b - b.Scale).toNat) := by
          rw [zh4, zh4, Nat.mul_mul_mul_comm, ← Nat.pow_add]
         have e4 : 10 ^ (2 * zi a b).toNat = 10 ^ (a.Scale + b.Scale).toNat * 10 ^ ((zi a b - a.Scale).toNat + (zi a b - b.Scale).toNat) := by
          rw [← Nat.pow_add]; congr 1; omega
         rw [z03 _ (decide (a.N < 0) != decide (b.N < 0)) _ _ (zb8 _) _ _ (fun h => by rw [dct h, Bool.and_true]), e3, e4, zzg _ _ _ _ (zb8 _) (zb8 _)]
       · rw [ifn o2, zam, dcf o2, cfa]
         by_cases o3 : op = 3
         · have hb0 : b.N ≠ 0 := fun h => hz ⟨.inl o3, h⟩; have hbp : 0 < (zac b (zi a b)).natAbs := by
            have : ¬ (zac b (zi a b)).natAbs = 0 := fun h => hb0 (hbz.1 h); omega
           rw [ifp o3, zam, dct o3, ctr]; simp only [obs, bsf, cfa]; rw [fin _ _ _ (z2y (by omega)) hbp (z2y (by omega))]; have hmin : 0 ≤ a.Scale + b.Scale - zi a b := by unfold zi; split <;> omega
           have e3 : a.N.natAbs * 10 ^ b.Scale.toNat = (zac a (zi a b)).natAbs * 10 ^ (a.Scale + b.Scale - zi a b).toNat := by
            rw [zh4, Nat.mul_assoc, ← Nat.pow_add]; congr 2; omega
           have e4 : b.N.natAbs * 10 ^ a.Scale.toNat = (zac b (zi a b)).natAbs * 10 ^ (a.Scale + b.Scale - zi a b).toNat := by
            rw [zh4, Nat.mul_assoc, ← Nat.pow_add]; congr 2; omega
           rw [e3, e4, zzg _ _ _ _ (zb8 _) hbp]; rfl
         · have hb0 : b.N ≠ 0 := fun h => hz ⟨by omega, h⟩; have hbp : 0 < (zac b (zi a b)).natAbs := by
            have : ¬ (zac b (zi a b)).natAbs = 0 := fun h => hb0 (hbz.1 h); omega
           have p400 : ∀ n : Nat, n ≤ 10 ^ 30 → n < 10 ^ 400 := fun n h => Nat.lt_of_le_of_lt h (by decide); have hm := Nat.mod_lt (zac a (zi a b)).natAbs hbp; rw [ifn o3, zam, dcf o3, cfa, zam, dct (show op = 4 by omega), ctr, zzd N hN _ _ (p400 _ la) hbp (p400 _ lb)]; simp only [obs]; rw [ep]; simp only [obs, bsf, cfa]; rw [fin _ _ _ (z2y (by omega)) (zb8 _) q1]
theorem zv9 (N : Nat) (hN : 2000 < N) {s : Storage} (h : zh9 s) {a : Int} (ha : zen s a = true) :
 zf3 N s a = some (match ldV s a with | some o => (zh0 o, 0) | none => (zyw, 22)) := by
 obtain ⟨a1, a2, a3⟩ := zjl ha
 have hl := h.le
 have hq := h.quad
 have ht := h.tags
 unfold zf3
 rw [z0c h.ok, ha]
 simp only [obs, Bool.not_true, cfa]
 have ed : w6 (a.tdiv 16) = (((a / 16).toNat : Nat) : Int) := by
  rw [Int.tdiv_eq_ediv_of_nonneg a1, w6e (by omega) (by omega)]; omega
 have hi : (a / 16).toNat < s.Tags.length := by omega
 rw [ed, zbg, lge hi]
 simp only [obs]
 unfold ldV
 rw [lge hi]
 cases hb : s.Tags[(a / 16).toNat] with
 | false => rfl
 | true =>
  simp only [Bool.not_true, cfa, if_true]; unfold zh5; rw [w6e (n := (((a / 16).toNat : Nat) : Int) * 16) (by omega) (by omega), w6e (by omega) (by omega), ifp (by omega), ifp (by omega)]; simp only [obs]; have e : s.Bytes.extract ((((a / 16).toNat : Nat) : Int) * 16).toNat ((((a / 16).toNat : Nat) : Int) * 16 + 16).toNat = s.Bytes.extract (16 * (a / 16).toNat) (16 * (a / 16).toNat + 16) := by
   rw [show ((((a / 16).toNat : Nat) : Int) * 16).toNat = 16 * (a / 16).toNat by omega, show ((((a / 16).toNat : Nat) : Int) * 16 + 16).toNat = 16 * (a / 16).toNat + 16 by omega]
  rw [e, z7p N (by omega) _ (by rw [zb0 _ _ _ (by omega) (by omega)]; omega), znc]; obtain ⟨off, _, h2⟩ := h.ptr (a / 16).toNat (by rw [lge hi, hb]); rw [h2]; rfl
theorem z0g {s : Storage} (h : s.Tags.length ≤ 100000) : zcl s = some s := by
 unfold zcl ziq
 rw [zae (by omega)]
 rfl
theorem zx2 (N : Nat) (hN : 2000 < N) {s : Storage} (h : zh9 s) {a : Nat} {d : ByteArray} (hd : a + d.size ≤ s.Bytes.size) (hd0 : 0 < d.size) : za6 N s (a : Int) d = some (wrV s a d) := by
 have hl := h.le
 have hq := h.quad
 have ht := h.tags
 have hmax : IntKind.i64.max = 9223372036854775807 := by decide
 unfold za6 zlj
 rw [z0g (by omega), hmax]
 simp only [obs]
 have z1 : (s.Bytes.extract (0 : Int).toNat (a : Int).toNat).size = a := by rw [zb0 _ _ _ (by omega) (by omega)]; omega
 rw [ifp (by omega), ifp (by omega), ifn (by rw [z1]; omega), w6e (n := (a : Int) + (d.size : Int)) (by omega) (by omega), ifp (by omega)]
 have z2 : (s.Bytes.extract ((a : Int) + (d.size : Int)).toNat s.Bytes.size).size = s.Bytes.size - (a + d.size) := by rw [zb0 _ _ _ (by omega) (by omega)]; omega
 rw [ifn (by rw [z2, ByteArray.size_append, z1]; omega)]
 simp only [obs]
 have f1 : ((s.Bytes.extract (0 : Int).toNat (a : Int).toNat) ++ d) ++ (s.Bytes.extract ((a : Int) + (d.size : Int)).toNat s.Bytes.size) = (wrV s a d).Bytes := by
  refine zgq ?_; rw [zc4, zc4, zej, zej, show (0 : Int).toNat = 0 from rfl, List.drop_zero, show ((a : Int) + (d.size : Int)).toNat = a + d.size by omega, ← zad s.Bytes, List.take_length, itn]; rfl
 rw [f1]
 have lp := zbq (f := za6.r0 N) (fun i => ((a : Int), d, (i : Int), (⟨⟨#[]⟩, []⟩ : Storage), (⟨(wrV s a d).Bytes, if i = 0 then s.Tags else clr s.Tags a i⟩ : Storage))) d.size
  (fun i hi => by
   have hlen : (if i = 0 then s.Tags else clr s.Tags a i).length = s.Tags.length := by split <;> simp [zwj]
   have ei : w6 ((w6 ((a : Int) + (i : Int))).tdiv 16) = (((a + i) / 16 : Nat) : Int) := by
    rw [w6e (n := (a : Int) + (i : Int)) (by omega) (by omega), Int.tdiv_eq_ediv_of_nonneg (by omega), w6e (by omega) (by omega)]; omega
   simp only [za6.r0, za6.b0, dct (show (i : Int) < (d.size : Int) by omega), ctr, ei, hlen]; rw [ifp (by omega), ifp (by omega), itn]; obtain ⟨x, hx⟩ : ∃ x, (if i = 0 then s.Tags else clr s.Tags a i)[(a + i) / 16]? = some x := zeh (by omega); rw [hx]; simp only [obs]; rw [w6e (by omega) (by omega)]; have e2 : (if i = 0 then s.Tags else clr s.Tags a i).set ((a + i) / 16) false = clr s.Tags a (i + 1) := by
    refine List.ext_getElem? fun k => ?_; rw [zwk, List.getElem?_set, hlen]; have hc : (if i = 0 then s.Tags else clr s.Tags a i)[k]? = if i ≠ 0 ∧ 16 * k < a + i ∧ a < 16 * k + 16 then (if k < s.Tags.length then some false else none) else s.Tags[k]? := by
     by_cases h0 : i = 0
     · rw [ifp h0, ifn (by omega)]
     · rw [ifn h0, zwk]
       by_cases h1 : 16 * k < a + i ∧ a < 16 * k + 16
       · rw [ifp h1, ifp (show i ≠ 0 ∧ 16 * k < a + i ∧ a < 16 * k + 16 from ⟨h0, h1⟩)]
       · rw [ifn h1, ifn (fun h => h1 h.2)]
    rw [hc]
    by_cases hk : (a + i) / 16 = k
    · rw [ifp hk, ifp (show (a + i) / 16 < s.Tags.length by omega), ifp (show 16 * k < a + (i + 1) ∧ a < 16 * k + 16 by omega), ifp (by omega)]
    · rw [ifn hk]
      by_cases h1 : i ≠ 0 ∧ 16 * k < a + i ∧ a < 16 * k + 16
      · rw [ifp h1, ifp (show 16 * k < a + (i + 1) ∧ a < 16 * k + 16 by omega)]
      · rw [ifn h1, ifn (show ¬ (16 * k < a + (i + 1) ∧ a < 16 * k + 16) by omega)]
   rw [e2, ifn (show ¬ i + 1 = 0 by omega)]; rfl)
  (by simp only [za6.r0, za6.b0, dcf (show ¬ (d.size : Int) < (d.size : Int) by omega), cfa]) (N := N) (by omega)
 simp only [if_true, Int.natCast_zero] at lp
 rw [lp, ifn (show ¬ d.size = 0 by omega)]
 rfl
theorem z4n (N : Nat) (hN : 200 < N) (off : Nat) (h : off ≤ 16777215) : zko N (zh0 off) = some (pbV off) := by
 unfold zko zh0
 have b := fun v k hv hk => zrq N (by omega) v k hv hk
 have hmax : IntKind.i64.max = 9223372036854775807 := by decide
 have sz : ∀ v k, (zc6 (zbb v k)).size = k := fun v k => by
  show (bl (zc6 (zbb v k))).length = k; rw [zf8, List.length_map, zyv]
 rw [show zag N 0 1 = _ from b 0 1 (by decide) (by decide), show zag N 0 2 = _ from b 0 2 (by decide) (by decide), show zag N 1 6 = _ from b 1 6 (by decide) (by decide), show zag N (off : Int) 6 = _ from b off 6 (by omega) (by decide), hmax]
 simp only [obs]
 have z0 : (⟨#[0]⟩ : ByteArray).size = 1 := rfl
 rw [ifn (by rw [sz, z0]; decide), ifn (by rw [ByteArray.size_append, sz, z0, sz]; decide), ifn (by rw [ByteArray.size_append, ByteArray.size_append, sz, z0, sz, sz]; decide), ifn (by rw [ByteArray.size_append, ByteArray.size_append, ByteArray.size_append, sz, z0, sz, sz, sz]; decide)]
 refine congrArg some (zgq ?_)
 unfold pbV
 rw [zc4, zc4, zc4, zc4, zf8, zf8, zf8, zf8, zf8]
 simp only [List.map_append]
 rfl
theorem zx4 (N : Nat) (hN : 2000 < N) {s : Storage} (h : zh9 s) {a : Int} (ha : zen s a = true) (off : Nat) (ho : off ≤ 16777215) : zep N s a (zh0 off) = some (stV s a.toNat off) := by
 obtain ⟨a1, a2, a3⟩ := zjl ha
 have hl := h.le
 have hq := h.quad
 have ht := h.tags
 have hA : a = ((a.toNat : Nat) : Int) := by omega
 have hw : a.toNat + (pbV off).size ≤ s.Bytes.size := by rw [zkc]; omega
 unfold zep
 simp only [eS]
 rw [z4n N (by omega) off ho]
 simp only [obs]
 have hp := zx2 N hN h hw (by rw [zkc]; omega)
 rw [← hA] at hp
 rw [hp]
 simp only [obs]
 have ed : w6 (a.tdiv 16) = ((a.toNat / 16 : Nat) : Int) := by
  rw [Int.tdiv_eq_ediv_of_nonneg a1, w6e (by omega) (by omega)]; omega
 have hlen : (wrV s a.toNat (pbV off)).Tags.length = s.Tags.length := zwj _ _ _
 rw [ed, ifp (by omega), ifp (by rw [hlen]; omega), itn, lge (by rw [hlen]; omega)]
 rfl
def zkd (b : ByteArray) (n : Nat) : ByteArray := ⟨((bl b).take n ++ List.replicate (n - b.size) 32).toArray⟩
theorem zu2 (b : ByteArray) (n : Nat) : (zkd b n).size = n := by
 show ((bl b).take n ++ List.replicate (n - b.size) 32).length = n
 rw [lna, List.length_take, List.length_replicate, zad]; omega
theorem z7n (N : Nat) (c : Nat) (hc : c < 256) (n : Nat) (hn : n < N) (hn2 : n ≤ 100000) : zco N (c : Int) (n : Int) = some ⟨(List.replicate n (UInt8.ofNat c)).toArray⟩ := by
 unfold zco
 have := zbq (f := zco.r0 N) (fun i => ((c : Int), (n : Int), List.replicate i (c : Int), (i : Int))) n
  (fun i hi => by
   simp only [zco.r0, zco.b0, dct (show (i : Int) < (n : Int) by omega), ctr]; rw [zae (by simp only [List.length_replicate, List.length_cons, List.length_nil]; omega), ctr, w6e (by omega) (by omega), ← List.replicate_succ']; rfl)
  (by simp only [zco.r0, zco.b0, dcf (show ¬ (n : Int) < (n : Int) by omega), cfa]) hn
 simp only [Int.natCast_zero, List.replicate_zero] at this
 rw [this, obs]
 congr 1
 refine zgq ?_
 rw [zf8, List.map_replicate]
 rfl
theorem zuq (N : Nat) (hN : 10000 < N) (b : ByteArray) (hb : b.size ≤ 5000) (n : Nat) (hn : n ≤ 5000) : zdy N b (n : Int) = some (zkd b n) := by
 have hmax : IntKind.i64.max = 9223372036854775807 := by decide
 unfold zdy
 by_cases h : n ≤ b.size
 · rw [dct (by omega), ctr, ifp (by omega), ifp (by omega)]
   congr 1
   refine zgq ?_; rw [zej, show (0 : Int).toNat = 0 from rfl, List.drop_zero, itn]; show _ = (bl b).take n ++ List.replicate (n - b.size) 32; rw [show n - b.size = 0 by omega, List.replicate_zero, List.append_nil]
 · rw [dcf (by omega), cfa, w6e (by omega) (by omega), show (n : Int) - (b.size : Int) = ((n - b.size : Nat) : Int) by omega, show (32 : Int) = ((32 : Nat) : Int) from rfl, z7n N 32 (by decide) _ (by omega) (by omega), obs, hmax]; have hs : (⟨(List.replicate (n - b.size) (UInt8.ofNat 32)).toArray⟩ : ByteArray).size = n - b.size := by
    show (List.replicate (n - b.size) (UInt8.ofNat 32)).length = _; rw [List.length_replicate]
   rw [ifn (by rw [hs]; omega)]
   congr 1
   refine zgq ?_; rw [zc4]; show bl b ++ List.replicate (n - b.size) 32 = (bl b).take n ++ List.replicate (n - b.size) 32; rw [List.take_of_length_le (by rw [zad]; omega)]
theorem zrr (c : UInt8) : ∀ n, Lib.repeatL [c] n = List.replicate n c
 | 0 => rfl
 | n + 1 => by show c :: Lib.repeatL [c] n = _; rw [zrr c n, List.replicate_succ]
theorem z3e (b : ByteArray) (hb : b.size ≤ 5000) (n : Nat) (hn : n ≤ 5000) : zdv b (n : Int) = some ⟨(bl b ++ List.replicate (n - b.size) 32).toArray⟩ := by
 have hmax : IntKind.i64.max = 9223372036854775807 := by decide
 unfold zdv znv
 rw [w6e (by omega) (by omega)]
 have e : (if (0 : Int) > (n : Int) - (b.size : Int) then 0 else (n : Int) - (b.size : Int)) = ((n - b.size : Nat) : Int) := by split <;> omega
 have hs1 : (⟨#[32]⟩ : ByteArray).size = 1 := rfl
 rw [e, ifp ⟨by omega, by omega, by rw [hs1]; omega⟩, obs, itn, zrr, hmax]
 have hs : (⟨(List.replicate (n - b.size) (32 : UInt8)).toArray⟩ : ByteArray).size = n - b.size := by
  show (List.replicate (n - b.size) (32 : UInt8)).length = _; rw [List.length_replicate]
 rw [ifn (by rw [hs]; omega)]
 refine congrArg some (zgq ?_)
 rw [zc4]
 rfl
theorem z8e (b : ByteArray) (n : Nat) : (⟨(bl b ++ List.replicate (n - b.size) 32).toArray⟩ : ByteArray).extract 0 n = zkd b n := by
 refine zgq ?_
 rw [zej, List.drop_zero]
 show (bl b ++ List.replicate (n - b.size) 32).take n = (bl b).take n ++ List.replicate (n - b.size) 32
 rw [List.take_append, zad, List.take_replicate, Nat.min_self]
theorem z1a (b : ByteArray) (n : Nat) : (⟨(bl b ++ List.replicate (n - b.size) 32).toArray⟩ : ByteArray) = zkd b (max b.size n) := by
 refine zgq ?_
 show bl b ++ List.replicate (n - b.size) 32 = (bl b).take (max b.size n) ++ List.replicate (max b.size n - b.size) 32
 rw [List.take_of_length_le (by rw [zad]; omega), show max b.size n - b.size = n - b.size by omega]
def zvx (x y : List UInt8) : Int := if Op.bytesLess x y = true then -1 else if x = y then 0 else 1
theorem z31 : ∀ (x y : List UInt8), x.length = y.length → (match (List.range x.length).find? (fun i => x.getD i 0 != y.getD i 0) with | some i => if x.getD i 0 < y.getD i 0 then (-1 : Int) else 1 | none => 0) = zvx x y
 | [], [], _ => rfl
 | [], _ :: _, h => by cases h
 | _ :: _, [], h => by cases h
 | a :: x, b :: y, h => by
  have ih := z31 x y (by simpa using h); rw [List.length_cons, List.range_succ_eq_map, List.find?_cons]; rw [List.getD_cons_zero, List.getD_cons_zero]
  by_cases hab : a = b
  · subst hab; simp only [bsf]; rw [List.find?_map]; have e : ((fun i => (a :: x).getD i 0 != (a :: y).getD i 0) ∘ Nat.succ) = fun i => x.getD i 0 != y.getD i 0 := by
     funext i
     rfl
    rw [e]; have e2 : zvx (a :: x) (a :: y) = zvx x y := by
     unfold zvx; have e3 : Op.bytesLess (a :: x) (a :: y) = Op.bytesLess x y := by
      show (decide (a < a) || (a == a && Op.bytesLess x y)) = _; rw [dcf (UInt8.lt_irrefl a)]; simp
     rw [e3]; simp
    rw [e2, ← ih]; cases (List.range x.length).find? (fun i => x.getD i 0 != y.getD i 0) <;> rfl
  · have hne : (a != b) = true := by simpa using hab
    rw [hne]; simp only [List.getD_cons_zero]; unfold zvx; have e3 : Op.bytesLess (a :: x) (b :: y) = decide (a < b) := by
     show (decide (a < b) || (a == b && Op.bytesLess x y)) = _; rw [show (a == b) = false from beq_eq_false_iff_ne.2 hab, Bool.false_and, Bool.or_false]
    rw [e3]
    by_cases hlt : a < b
    · rw [ifp hlt, ifp (dct hlt)]
    · rw [ifn hlt, ifn (by rw [dcf hlt]; decide), ifn (by intro h; exact hab (List.cons.inj h).1)]
theorem zad3 {a b : ByteArray} (h : a.size = b.size) : Extern.BytealgCompare.cmp a b = zvx (bl a) (bl b) := by
 unfold Extern.BytealgCompare.cmp
 rw [← z31 (bl a) (bl b) (by rw [zad, zad, h]), zad, show min a.size b.size = a.size by omega]
 have g : ∀ (c : ByteArray) (i : Nat), i < c.size → c[i]! = (bl c).getD i 0 := fun c i hi => by
  rw [getElem!_pos c i hi, List.getD_eq_getElem?_getD, lge (by rw [zad]; exact hi)]; rfl
 have e : (List.range a.size).find? (fun i => a[i]! != b[i]!) = (List.range a.size).find? (fun i => (bl a).getD i 0 != (bl b).getD i 0) := by
  have key : ∀ l : List Nat, (∀ i ∈ l, i < a.size) → l.find? (fun i => a[i]! != b[i]!) = l.find? (fun i => (bl a).getD i 0 != (bl b).getD i 0) := by
   intro l
   induction l with
   | nil => intro _; rfl
   | cons i l ih =>
    intro hl; have hi := hl i List.mem_cons_self; rw [List.find?_cons, List.find?_cons, g a i hi, g b i (by omega), ih fun j hj => hl j (List.mem_cons_of_mem _ hj)]
  exact key _ fun i hi => List.mem_range.1 hi
 rw [e]
 cases hf : (List.range a.size).find? (fun i => (bl a).getD i 0 != (bl b).getD i 0) with
 | none => simp only []; rw [ifn (by omega), ifn (by omega)]
 | some i =>
  have hi := List.mem_range.1 (List.mem_of_find?_eq_some hf); simp only []; rw [g a i hi, g b i (by omega)]
def zno (o : Int) : Int := if o < 0 then 1 else if o = 0 then 2 else 4
theorem z3f (o : Int) : zec o = some (zno o) := by
 unfold zec zno
 by_cases h : o < 0
 · rw [dct h, ifp h]; rfl
 · rw [dcf h, ifn h, cfa]
   by_cases h2 : o = 0
   · rw [dcf (by omega), ifp h2]; rfl
   · rw [dct (by omega), ifn h2]; rfl
theorem zqh (o : Int) : zc7 o = some (zno o) := by
 unfold zc7 zno
 by_cases h : o < 0
 · rw [dct h, ifp h]; rfl
 · rw [dcf h, ifn h, cfa, zam]
   by_cases h2 : o = 0
   · rw [dct h2, ifp h2]; rfl
   · rw [dcf h2, ifn h2]; rfl
def zm5 (a b : ByteArray) : Int := zno (zvx (bl (zkd a (max a.size b.size))) (bl (zkd b (max a.size b.size))))
theorem zyn (a b : ByteArray) (ha : a.size ≤ 5000) (hb : b.size ≤ 5000) : zck a b = some (zm5 a b) := by
 unfold zck zjb zdt
 rw [z3e a ha b.size hb, z3e b hb a.size ha]
 simp only [obs]
 rw [z1a, z1a, Nat.max_comm b.size a.size, zad3 (by rw [zu2, zu2]), z3f]
 rfl
theorem zx3 (N : Nat) (hN : 10000 < N) (a b : ByteArray) (ha : a.size ≤ 5000) (hb : b.size ≤ 5000) : zfw N a b = some (zm5 a b) := by
 unfold zfw
 have e : (if (b.size : Int) > (a.size : Int) then (b.size : Int) else (a.size : Int)) = ((max a.size b.size : Nat) : Int) := by split <;> omega
 rw [e, zuq N hN a ha _ (by omega), zuq N hN b hb _ (by omega)]
 simp only [obs]
 rw [zq0, zq0, zg5, zg5]
 simp only [obs]
 unfold zm5 zvx
 generalize bl (zkd a (max a.size b.size)) = x
 generalize bl (zkd b (max a.size b.size)) = y
 cases hx : Op.bytesLess x y with
 | true =>
  rw [ifp rfl]; simp only [Bool.true_or, Bool.not_true, cfa, ctr]; rw [show w6 ((0 : Int) - 1) = -1 by decide, zqh]; rfl
 | false =>
  rw [ifn (by decide)]; simp only [Bool.false_or, cfa]
  by_cases hxy : x = y
  · rw [hxy, ifp rfl]; simp only [beq_self_eq_true, Bool.not_true, cfa]; rw [show w6 ((0 : Int) - 0) = 0 by decide, zqh]; rfl
  · rw [ifn hxy, show (x == y) = false from beq_eq_false_iff_ne.2 hxy]; simp only [Bool.not_false, ctr]; rw [show w6 ((1 : Int) - 0) = 1 by decide, zqh]; rfl
theorem zacw (x : Int) (i : Nat) : (x.tdiv (10 ^ i)).tdiv 10 = x.tdiv (10 ^ (i + 1)) := by
 have key : ∀ m : Nat, ((m : Int).tdiv (10 ^ i)).tdiv 10 = (m : Int).tdiv (10 ^ (i + 1)) := fun m => by
  rw [show (10 : Int) ^ i = ((10 ^ i : Nat) : Int) by rw [Int.natCast_pow]; rfl, show (10 : Int) ^ (i + 1) = ((10 ^ (i + 1) : Nat) : Int) by rw [Int.natCast_pow]; rfl, ← Int.ofNat_tdiv, ← Int.ofNat_tdiv, show (10 : Int) = ((10 : Nat) : Int) from rfl, ← Int.ofNat_tdiv, Nat.div_div_eq_div_mul, Nat.pow_succ]
 obtain ⟨m, rfl | rfl⟩ := Int.eq_nat_or_neg x
 · exact key m
 · rw [Int.neg_tdiv, Int.neg_tdiv, key m, Int.neg_tdiv]
def zfs (x : Number) : Int := x.N.tdiv (10 ^ x.Scale.toNat)
theorem zub {x : Number} (hx : zcw x) : -999999999999999 ≤ zfs x ∧ zfs x ≤ 999999999999999 := by
 obtain ⟨⟨h1, h2⟩, _⟩ := hx
 have h := Int.natAbs_tdiv_le_natAbs x.N (10 ^ x.Scale.toNat)
 unfold zfs
 omega
theorem z3c (N : Nat) (hN : 100 < N) {x : Number} (hx : zcw x) : zbo N x = some (zfs x) := by
 have hx' := hx
 obtain ⟨⟨h1, h2⟩, h3, h4⟩ := hx'
 unfold zbo
 obtain ⟨k, hk⟩ : ∃ k : Nat, x.Scale = (k : Int) := ⟨x.Scale.toNat, by omega⟩
 have := zbq (f := zbo.r0 N) (fun i => (x.Scale, (i : Int), (⟨x.N.tdiv (10 ^ i), x.Scale⟩ : Number))) k
  (fun i hi => by
   have hb := Int.natAbs_tdiv_le_natAbs x.N (10 ^ i); have hb2 := Int.natAbs_tdiv_le_natAbs (x.N.tdiv (10 ^ i)) 10; simp only [zbo.r0, zbo.b0, hk, dct (show (i : Int) < (k : Int) by omega), ctr]; rw [w6e (n := (i : Int) + 1) (by omega) (by omega), w6e (by omega) (by omega), zacw]; rfl)
  (by simp only [zbo.r0, zbo.b0, hk, dcf (show ¬ (k : Int) < (k : Int) by omega), cfa]) (N := N) (by omega)
 simp only [Int.natCast_zero, Int.pow_zero, Int.tdiv_one, eN] at this
 rw [this]
 show some (x.N.tdiv (10 ^ k)) = some (zfs x)
 unfold zfs
 rw [hk, itn]
theorem zzb (N : Nat) (hN : 100 < N) {x : Number} (hx : zcw x) : zfv N x = some (zfs x) := by
 have hw := zub hx
 obtain ⟨⟨h1, h2⟩, h3, h4⟩ := hx
 unfold zfv
 have hp := z2h N hN x.Scale.toNat (by omega)
 rw [Int.toNat_of_nonneg h3] at hp
 have hpos := zb8 x.Scale.toNat
 rw [hp, obs, ifn (by omega), show ((10 ^ x.Scale.toNat : Nat) : Int) = 10 ^ x.Scale.toNat by rw [Int.natCast_pow]; rfl]
 show some (w6 (zfs x)) = _
 rw [w6e (by omega) (by omega)]
def zlz (m scale : Nat) : List UInt8 := List.replicate (scale + 1 - (Lib.decDigits m).length) 48 ++ Lib.decDigits m
def ptT (l : List UInt8) (scale : Nat) : List UInt8 := if 0 < scale then l.take (l.length - scale) ++ [46] ++ l.drop (l.length - scale) else l
def sgT (n : Int) (l : List UInt8) : ByteArray := ⟨(if n < 0 then [45] ++ l else l).toArray⟩
def zon (x : Number) : ByteArray := sgT x.N (ptT (zlz x.N.natAbs x.Scale.toNat) x.Scale.toNat)
theorem z3i {x : Number} (h0 : 0 ≤ x.Scale) (B : ByteArray) (h1 : x.Scale < (B.size : Int)) (h2 : B.size ≤ 100) :
 ((cond (decide (x.Scale > 0))
 (if 0 ≤ (w6 ((B.size : Int) - x.Scale)) ∧ (w6 ((B.size : Int) - x.Scale)) ≤ (B.size : Int) then (if 0 ≤ (0 : Int) ∧ (0 : Int) ≤ (w6 ((B.size : Int) - x.Scale)) then (if (((B.extract (0 : Int).toNat (w6 ((B.size : Int) - x.Scale)).toNat).size + (⟨#[46]⟩ : ByteArray).size : Nat) : Int) > IntKind.i64.max then none else if 0 ≤ (w6 ((B.size : Int) - x.Scale)) ∧ (w6 ((B.size : Int) - x.Scale)) ≤ (B.size : Int) then (if ((((B.extract (0 : Int).toNat (w6 ((B.size : Int) - x.Scale)).toNat) ++ (⟨#[46]⟩ : ByteArray)).size + (B.extract (w6 ((B.size : Int) - x.Scale)).toNat B.size).size : Nat) : Int) > IntKind.i64.max then none else cond (decide (x.N < 0))
 (if (((⟨#[45]⟩ : ByteArray).size + (((B.extract (0 : Int).toNat (w6 ((B.size : Int) - x.Scale)).toNat) ++ (⟨#[46]⟩ : ByteArray)) ++ (B.extract (w6 ((B.size : Int) - x.Scale)).toNat B.size)).size : Nat) : Int) > IntKind.i64.max then none else some (((⟨#[45]⟩ : ByteArray) ++ (((B.extract (0 : Int).toNat (w6 ((B.size : Int) - x.Scale)).toNat) ++ (⟨#[46]⟩ : ByteArray)) ++ (B.extract (w6 ((B.size : Int) - x.Scale)).toNat B.size))), 0))
 (some ((((B.extract (0 : Int).toNat (w6 ((B.size : Int) - x.Scale)).toNat) ++ (⟨#[46]⟩ : ByteArray)) ++ (B.extract (w6 ((B.size : Int) - x.Scale)).toNat B.size)), 0))) else none) else none) else none)
 (cond (decide (x.N < 0)) (if (((⟨#[45]⟩ : ByteArray).size + B.size : Nat) : Int) > IntKind.i64.max then none else some (((⟨#[45]⟩ : ByteArray) ++ B), 0)) (some (B, 0)))) : Option (ByteArray × Int)) = some (sgT x.N (ptT (bl B) x.Scale.toNat), 0) := by
 have hmax : IntKind.i64.max = 9223372036854775807 := by decide
 have z1 : (⟨#[46]⟩ : ByteArray).size = 1 := rfl
 have z2 : (⟨#[45]⟩ : ByteArray).size = 1 := rfl
 rw [hmax, w6e (by omega) (by omega)]
 obtain ⟨k, hk⟩ : ∃ k : Nat, (B.size : Int) - x.Scale = (k : Int) := ⟨((B.size : Int) - x.Scale).toNat, by omega⟩
 have hk2 : k = B.size - x.Scale.toNat := by omega
 rw [hk, itn, show (0 : Int).toNat = 0 from rfl]
 have s1 : (B.extract 0 k).size = k := by rw [zb0 _ _ _ (by omega) (by omega)]; omega
 have s2 : (B.extract k B.size).size = B.size - k := by rw [zb0 _ _ _ (by omega) (by omega)]
 by_cases hs : x.Scale > 0
 · rw [dct hs, ctr, ifp (by omega), ifp (by omega), ifn (by rw [s1, z1]; omega), ifp (by omega), ifn (by rw [ByteArray.size_append, s1, z1, s2]; omega)]; have e : bl ((B.extract 0 k ++ (⟨#[46]⟩ : ByteArray)) ++ B.extract k B.size) = ptT (bl B) x.Scale.toNat := by
    unfold ptT; rw [zc4, zc4, zej, zej, List.drop_zero, ifp (by omega), ← zad B, List.take_length, zad, hk2]; rfl
   by_cases hn : x.N < 0
   · rw [dct hn, ctr, ifn (by rw [ByteArray.size_append, ByteArray.size_append, s1, z1, s2, z2]; omega)]
     congr 2
     refine zgq ?_; rw [zc4, e]; unfold sgT; rw [ifp hn]; rfl
   · rw [dcf hn, cfa]
     congr 2
     refine zgq ?_; rw [e]; unfold sgT; rw [ifn hn]; rfl
 · rw [dcf hs, cfa]; have e : ptT (bl B) x.Scale.toNat = bl B := by unfold ptT; rw [ifn (by omega)]
   rw [e]
   by_cases hn : x.N < 0
   · rw [dct hn, ctr, ifn (by rw [z2]; omega)]
     congr 2
     refine zgq ?_; rw [zc4]; unfold sgT; rw [ifp hn]; rfl
   · rw [dcf hn, cfa]
     congr 2
     unfold sgT; rw [ifn hn]; rfl
theorem z87 {x : Number} (h0 : 0 ≤ x.Scale) (B : ByteArray) (h1 : x.Scale < (B.size : Int)) (h2 : B.size ≤ 100) :
 (cond (decide (x.Scale > 0))
 (if 0 ≤ (w6 ((B.size : Int) - x.Scale)) ∧ (w6 ((B.size : Int) - x.Scale)) ≤ (B.size : Int) then (if 0 ≤ (0 : Int) ∧ (0 : Int) ≤ (w6 ((B.size : Int) - x.Scale)) then (if (((B.extract (0 : Int).toNat (w6 ((B.size : Int) - x.Scale)).toNat).size + (⟨#[46]⟩ : ByteArray).size : Nat) : Int) > IntKind.i64.max then none else if 0 ≤ (w6 ((B.size : Int) - x.Scale)) ∧ (w6 ((B.size : Int) - x.Scale)) ≤ (B.size : Int) then (if ((((B.extract (0 : Int).toNat (w6 ((B.size : Int) - x.Scale)).toNat) ++ (⟨#[46]⟩ : ByteArray)).size + (B.extract (w6 ((B.size : Int) - x.Scale)).toNat B.size).size : Nat) : Int) > IntKind.i64.max then none else cond (decide (x.N < 0))
 (if (((⟨#[45]⟩ : ByteArray).size + (((B.extract (0 : Int).toNat (w6 ((B.size : Int) - x.Scale)).toNat) ++ (⟨#[46]⟩ : ByteArray)) ++ (B.extract (w6 ((B.size : Int) - x.Scale)).toNat B.size)).size : Nat) : Int) > IntKind.i64.max then none else some ((⟨#[45]⟩ : ByteArray) ++ (((B.extract (0 : Int).toNat (w6 ((B.size : Int) - x.Scale)).toNat) ++ (⟨#[46]⟩ : ByteArray)) ++ (B.extract (w6 ((B.size : Int) - x.Scale)).toNat B.size))))
 (some (((B.extract (0 : Int).toNat (w6 ((B.size : Int) - x.Scale)).toNat) ++ (⟨#[46]⟩ : ByteArray)) ++ (B.extract (w6 ((B.size : Int) - x.Scale)).toNat B.size)))) else none) else none) else none)
 (cond (decide (x.N < 0)) (if (((⟨#[45]⟩ : ByteArray).size + B.size : Nat) : Int) > IntKind.i64.max then none else some ((⟨#[45]⟩ : ByteArray) ++ B)) (some B))) = some (sgT x.N (ptT (bl B) x.Scale.toNat)) := by
 have hmax : IntKind.i64.max = 9223372036854775807 := by decide
 have z1 : (⟨#[46]⟩ : ByteArray).size = 1 := rfl
 have z2 : (⟨#[45]⟩ : ByteArray).size = 1 := rfl
 rw [hmax, w6e (by omega) (by omega)]
 obtain ⟨k, hk⟩ : ∃ k : Nat, (B.size : Int) - x.Scale = (k : Int) := ⟨((B.size : Int) - x.Scale).toNat, by omega⟩
 have hk2 : k = B.size - x.Scale.toNat := by omega
 rw [hk, itn, show (0 : Int).toNat = 0 from rfl]
 have s1 : (B.extract 0 k).size = k := by rw [zb0 _ _ _ (by omega) (by omega)]; omega
 have s2 : (B.extract k B.size).size = B.size - k := by rw [zb0 _ _ _ (by omega) (by omega)]
 by_cases hs : x.Scale > 0
 · rw [dct hs, ctr, ifp (by omega), ifp (by omega), ifn (by rw [s1, z1]; omega), ifp (by omega), ifn (by rw [ByteArray.size_append, s1, z1, s2]; omega)]; have e : bl ((B.extract 0 k ++ (⟨#[46]⟩ : ByteArray)) ++ B.extract k B.size) = ptT (bl B) x.Scale.toNat := by
    unfold ptT; rw [zc4, zc4, zej, zej, List.drop_zero, ifp (by omega), ← zad B, List.take_length, zad, hk2]; rfl
   by_cases hn : x.N < 0
   · rw [dct hn, ctr, ifn (by rw [ByteArray.size_append, ByteArray.size_append, s1, z1, s2, z2]; omega)]; refine congrArg some (zgq ?_); rw [zc4, e]; unfold sgT; rw [ifp hn]; rfl
   · rw [dcf hn, cfa]; refine congrArg some (zgq ?_); rw [e]; unfold sgT; rw [ifn hn]; rfl
 · rw [dcf hs, cfa]; have e : ptT (bl B) x.Scale.toNat = bl B := by unfold ptT; rw [ifn (by omega)]
   rw [e]
   by_cases hn : x.N < 0
   · rw [dct hn, ctr, ifn (by rw [z2]; omega)]; refine congrArg some (zgq ?_); rw [zc4]; unfold sgT; rw [ifp hn]; rfl
   · rw [dcf hn, cfa]; unfold sgT; rw [ifn hn]; rfl
theorem zwi (m : Nat) : ∀ k, 0 < k → m < 10 ^ k → (Lib.decDigits m).length ≤ k ∧ 0 < (Lib.decDigits m).length := by
 induction m using Nat.strongRecOn with
 | _ m ih =>
  intro k hk hm; rw [Lib.decDigits]
  by_cases h : m < 10
  · rw [dif_pos h, lns]; omega
  · rw [dif_neg h, lna, lns]; obtain ⟨j, rfl⟩ : ∃ j, k = j + 1 := ⟨k - 1, by omega⟩; rw [Nat.pow_succ] at hm; have hj : 0 < j := by
     refine Classical.byContradiction fun h0 => ?_; rw [show j = 0 by omega] at hm; omega
    have := ih (m / 10) (by omega) j hj (by omega); omega
theorem zys (m scale : Nat) (hm : m < 10 ^ 15) (hs : scale ≤ 15) : scale < (zlz m scale).length ∧ (zlz m scale).length ≤ 16 := by
 have := zwi m 15 (by decide) hm
 unfold zlz
 rw [lna, List.length_replicate]
 omega
theorem z73 {x : Number} (hx : zcw x) : zef x = some (zon x, 0) := by
 have hx' := hx
 obtain ⟨⟨h1, h2⟩, h3, h4⟩ := hx'
 have hmax : IntKind.i64.max = 9223372036854775807 := by decide
 have hlen := zwi x.N.natAbs 15 (by decide) (by omega)
 have hdl := zys x.N.natAbs x.Scale.toNat (by omega) (by omega)
 unfold zef
 rw [zle, zkq.2 hx]
 simp only [obs, bsf, cfa]
 rw [zns (by omega) (by omega)]
 have hi : zyx (((x.N.natAbs : Nat) : Int)) = some ⟨(Lib.decDigits x.N.natAbs).toArray⟩ := by
  unfold zyx Lib.itoa; rw [ifp ⟨by omega, by omega⟩, ifn (by omega), itn]
 rw [hi]
 simp only [obs]
 have hsz : (⟨(Lib.decDigits x.N.natAbs).toArray⟩ : ByteArray).size = (Lib.decDigits x.N.natAbs).length := rfl
 by_cases hle : ((Lib.decDigits x.N.natAbs).length : Int) ≤ x.Scale
 · rw [hsz, dct hle, ctr, w6e (n := x.Scale + 1) (by omega) (by omega), w6e (by omega) (by omega)]; have hr : znv (⟨#[48]⟩ : ByteArray) (x.Scale + 1 - ((Lib.decDigits x.N.natAbs).length : Int)) = some ⟨(List.replicate (x.Scale.toNat + 1 - (Lib.decDigits x.N.natAbs).length) 48).toArray⟩ := by
    unfold znv; have hs1 : (⟨#[48]⟩ : ByteArray).size = 1 := rfl; rw [ifp ⟨by omega, by omega, by rw [hs1]; omega⟩, zrr, show (x.Scale + 1 - ((Lib.decDigits x.N.natAbs).length : Int)).toNat = x.Scale.toNat + 1 - (Lib.decDigits x.N.natAbs).length by omega]
   rw [hr]; simp only [obs]; have hs2 : (⟨(List.replicate (x.Scale.toNat + 1 - (Lib.decDigits x.N.natAbs).length) (48 : UInt8)).toArray⟩ : ByteArray).size = x.Scale.toNat + 1 - (Lib.decDigits x.N.natAbs).length := by
    show (List.replicate (x.Scale.toNat + 1 - (Lib.decDigits x.N.natAbs).length) (48 : UInt8)).length = _; rw [List.length_replicate]
   rw [hmax, ifn (by rw [hs2]; omega)]; have hb : (⟨(List.replicate (x.Scale.toNat + 1 - (Lib.decDigits x.N.natAbs).length) (48 : UInt8)).toArray⟩ : ByteArray) ++ ⟨(Lib.decDigits x.N.natAbs).toArray⟩ = ⟨(zlz x.N.natAbs x.Scale.toNat).toArray⟩ := by
    refine zgq ?_; rw [zc4]; rfl
   rw [hb]; have := z3i h3 ⟨(zlz x.N.natAbs x.Scale.toNat).toArray⟩ (by show x.Scale < ((zlz x.N.natAbs x.Scale.toNat).length : Int); omega) (by show (zlz x.N.natAbs x.Scale.toNat).length ≤ 100; omega); rw [hmax, zaat] at this; unfold zon; exact this
 · rw [hsz, dcf hle, cfa, ← hsz]; have hb : bl (⟨(Lib.decDigits x.N.natAbs).toArray⟩ : ByteArray) = zlz x.N.natAbs x.Scale.toNat := by
    unfold zlz; rw [show x.Scale.toNat + 1 - (Lib.decDigits x.N.natAbs).length = 0 by omega]; rfl
   have := z3i h3 ⟨(Lib.decDigits x.N.natAbs).toArray⟩ (by rw [hsz]; omega) (by rw [hsz]; omega); rw [hb] at this; unfold zon; exact this
theorem zus : ∀ (N m : Nat), 0 < N → m < 10 ^ N → N ≤ 18 → ∀ K, zcp (N + K) (m : Int) = some ⟨(Lib.decDigits m).toArray⟩
 | 0, m, h, _, _ => by omega
 | N + 1, m, _, hm, hN => fun K => by
  have hmax : IntKind.i64.max = 9223372036854775807 := by decide
  have h18 : 10 ^ (N + 1) ≤ 10 ^ 18 := zbz hN; rw [show N + 1 + K = (N + K) + 1 by omega]; show (cond (decide ((m : Int) < (-9))) _ (cond (decide ((m : Int) < 0)) _ (cond (decide ((m : Int) < 10)) _ _))) = _; rw [dcf (by omega), dcf (by omega), cfa, cfa, Lib.decDigits]
  by_cases h : m < 10
  · rw [dct (by omega), ctr, dif_pos h, w6e (by omega) (by omega), zke (by omega) (by omega)]; refine congrArg some (zgq ?_); rw [zf8]; show [UInt8.ofNat (48 + (m : Int)).toNat] = [UInt8.ofNat (48 + m)]; rw [show (48 + (m : Int)).toNat = 48 + m by omega]
  · rw [Nat.pow_succ] at hm; have hN0 : 0 < N := by
     refine Classical.byContradiction fun h0 => ?_; rw [show N = 0 by omega] at hm; omega
    have ih := zus N (m / 10) hN0 (by omega) (by omega) K; rw [dcf (by omega), cfa, dif_neg h, Int.tdiv_eq_ediv_of_nonneg (by omega), Int.tmod_eq_emod_of_nonneg (by omega), w6e (n := (m : Int) / 10) (by omega) (by omega), show (m : Int) / 10 = ((m / 10 : Nat) : Int) by omega, ih, obs, w6e (by omega) (by omega), zke (by omega) (by omega), hmax]; have hl := zwi (m / 10) N hN0 (by omega); have hs : (⟨(Lib.decDigits (m / 10)).toArray⟩ : ByteArray).size = (Lib.decDigits (m / 10)).length := rfl; have hs2 : (zc6 ([48 + (m : Int) % 10] : List Int)).size = 1 := rfl; rw [ifn (by rw [hs, hs2]; omega)]; refine congrArg some (zgq ?_); rw [zc4, zf8]; show Lib.decDigits (m / 10) ++ [UInt8.ofNat (48 + (m : Int) % 10).toNat] = Lib.decDigits (m / 10) ++ [UInt8.ofNat (48 + m % 10)]; rw [show (48 + (m : Int) % 10).toNat = 48 + m % 10 by omega]
theorem zabc (N : Nat) (hN : 100 < N) {x : Number} (hx : zcw x) : zdq N x = some (zon x) := by
 have hx' := hx
 obtain ⟨⟨h1, h2⟩, h3, h4⟩ := hx'
 have hmax : IntKind.i64.max = 9223372036854775807 := by decide
 have hlen := zwi x.N.natAbs 15 (by decide) (by omega)
 have hdl := zys x.N.natAbs x.Scale.toNat (by omega) (by omega)
 unfold zdq ze9
 rw [zns (by omega) (by omega)]
 simp only [obs, eN]
 have hd := zus 15 x.N.natAbs (by decide) (by omega) (by decide) (N - 15)
 rw [show 15 + (N - 15) = N by omega] at hd
 rw [hd]
 simp only [obs]
 have z1 : (⟨#[48]⟩ : ByteArray).size = 1 := rfl
 have lp := zbq (f := zdq.r0 N) (fun i => ((⟨(List.replicate i (48 : UInt8) ++ Lib.decDigits x.N.natAbs).toArray⟩ : ByteArray), x)) (x.Scale.toNat + 1 - (Lib.decDigits x.N.natAbs).length)
  (fun i hi => by
   have hs : (⟨(List.replicate i (48 : UInt8) ++ Lib.decDigits x.N.natAbs).toArray⟩ : ByteArray).size = i + (Lib.decDigits x.N.natAbs).length := by
    show (List.replicate i (48 : UInt8) ++ Lib.decDigits x.N.natAbs).length = _; rw [lna, List.length_replicate]
   simp only [zdq.r0, zdq.b0]; rw [dct (by rw [hs]; omega), ctr, hmax, ifn (by rw [hs, z1]; omega)]; refine congrArg some (congrArg Stp.again (Prod.ext (zgq ?_) rfl)); show bl ((⟨#[48]⟩ : ByteArray) ++ ⟨(List.replicate i (48 : UInt8) ++ Lib.decDigits x.N.natAbs).toArray⟩) = List.replicate (i + 1) (48 : UInt8) ++ Lib.decDigits x.N.natAbs; rw [zc4, List.replicate_succ]; rfl)
  (by
   have hs : (⟨(List.replicate (x.Scale.toNat + 1 - (Lib.decDigits x.N.natAbs).length) (48 : UInt8) ++ Lib.decDigits x.N.natAbs).toArray⟩ : ByteArray).size = x.Scale.toNat + 1 - (Lib.decDigits x.N.natAbs).length + (Lib.decDigits x.N.natAbs).length := by
    show (List.replicate (x.Scale.toNat + 1 - (Lib.decDigits x.N.natAbs).length) (48 : UInt8) ++ Lib.decDigits x.N.natAbs).length = _; rw [lna, List.length_replicate]
   simp only [zdq.r0, zdq.b0]; rw [dcf (by rw [hs]; omega), cfa]) (N := N) (by omega)
 rw [List.replicate_zero, List.nil_append] at lp
 rw [lp]
 have := z87 h3 ⟨(zlz x.N.natAbs x.Scale.toNat).toArray⟩ (by show x.Scale < ((zlz x.N.natAbs x.Scale.toNat).length : Int); omega) (by show (zlz x.N.natAbs x.Scale.toNat).length ≤ 100; omega)
 rw [zaat] at this
 unfold zon
 exact this
theorem z5p {x : Number} (hx : zcw x) : (zon x).size ≤ 256 := by
 obtain ⟨⟨h1, h2⟩, h3, h4⟩ := hx
 have hdl := zys x.N.natAbs x.Scale.toNat (by omega) (by omega)
 have hp : (ptT (zlz x.N.natAbs x.Scale.toNat) x.Scale.toNat).length ≤ 17 := by
  unfold ptT; split
  · rw [lna, lna, List.length_take, List.length_drop, lns]; omega
  · omega
 unfold zon sgT
 show (if x.N < 0 then [45] ++ ptT (zlz x.N.natAbs x.Scale.toNat) x.Scale.toNat else ptT (zlz x.N.natAbs x.Scale.toNat) x.Scale.toNat).length ≤ 256
 split
 · rw [lna, lns]; omega
 · omega
structure InsV (m : HwModel) (c : HwCode) (x : HwInstruction) (u : ref15_fields) : Prop where
 r : u.R = true → 0 ≤ x.R ∧ x.R < m.Registers
 a : u.A = true → 0 ≤ x.A ∧ x.A < m.Registers
 b : u.B = true → 0 ≤ x.B ∧ x.B < m.Registers
 ty1 : u.Type_ = 1 → zh7 x.Type_
 ty2 : u.Type_ = 2 → zdk x.Type_ = 0 ∧ x.Type_.Kind = 0
 ty3 : u.Type_ = 3 → zdk x.Type_ = 0
 se1 : u.Second = 1 → zh7 x.Second
 se2 : u.Second = 2 → zdk x.Second = 0 ∧ x.Second.Kind = 0
 tg : u.Target = true → 0 ≤ x.Target ∧ x.Target < (c.Instructions.length : Int)
 ma : u.Mask = true → 1 ≤ x.Mask ∧ x.Mask ≤ 7
 pt : u.Pointer = true → zen c.Storage x.Pointer = true
 sr : u.Source = true → zen c.Storage x.Source = true
 pl : u.Place = true → zcf c.Storage x.Place (szE (zgf x)) = true
 fr : u.From = true → zcf c.Storage x.From (szE x.Second) = true
 ca : u.Calculation = true → 0 ≤ x.Calculation ∧ x.Calculation ≤ 4
 nu : zcw x.Number
 tx : x.Text.size ≤ 256
 ot : x.Other.size ≤ 256
 is : x.InStorage = true → x.Op = 4
theorem zaag {t : DataType} (h : zdz t 1 = 0) : zh7 t := by
 unfold zdz at h
 rw [ifn (by decide)] at h
 by_cases h0 : zdk t = 0
 · rw [ifp h0] at h; split at h
   · cases h
   · rename_i h1; refine ⟨h0, ?_⟩; refine Classical.byContradiction fun h2 => h1 (.inl ⟨rfl, h2⟩)
 · rw [ifn h0] at h; exact absurd h h0
theorem zaaf {t : DataType} (h : zdz t 2 = 0) : zdk t = 0 ∧ t.Kind = 0 := by
 unfold zdz at h
 rw [ifn (by decide)] at h
 by_cases h0 : zdk t = 0
 · rw [ifp h0] at h; split at h
   · cases h
   · rename_i h1; refine ⟨h0, ?_⟩; refine Classical.byContradiction fun h2 => h1 (.inr (.inl ⟨rfl, h2⟩))
 · rw [ifn h0] at h; exact absurd h h0
theorem zaan {m : HwModel} {c : HwCode} {x : HwInstruction} (h : zof m c x = 0) : (0 ≤ x.Op ∧ x.Op ≤ 26) ∧ ∃ u, zfh x = some u ∧ InsV m c x u := by
 unfold zof at h
 by_cases hop : inB x.Op 0 26 = true
 · refine ⟨zbc.1 hop, ?_⟩; obtain ⟨f, u, hf, hu, ag, _⟩ := z1b x hop; rw [ifp hop, hu] at h; have h' : zyl m c x u = 0 := h; unfold zyl at h'; cases he : zl9 x u with
   | true => rw [he] at h'; cases h'
   | false =>
    rw [he] at h'; simp only [cfa] at h'; cases hl : zpc m x with
    | true => rw [hl] at h'; cases h'
    | false =>
     rw [hl] at h'; simp only [cfa] at h'
     by_cases h1 : zdz x.Type_ u.Type_ = 0
     · by_cases h2 : zdz x.Second u.Second = 0
       · rw [ifn (by omega), ifn (by omega)] at h'; cases hr : zmm m c x u with
         | true => rw [hr] at h'; simp at h'
         | false =>
          rw [hr] at h'; simp only [cfa] at h'
          by_cases h3 : zpk x.Number = 0
          · rw [ifn (by omega)] at h'; cases hlg : zos x with
            | true => rw [hlg] at h'; cases h'
            | false =>
             unfold zmm at hr; simp only [Bool.or_eq_false_iff] at hr; obtain ⟨r1, r2, r3, r4, r5, r6, r7, r8⟩ := hr; rw [List.any_eq_false] at r1; have reg : ∀ i, i ∈ zna x u → 0 ≤ i ∧ i < m.Registers := fun i hi => by
              have := r1 i hi; unfold zfu at this; have h4 : inB i 0 (m.Registers - 1) = true := by simpa using this
              have := zbc.1 h4; omega
             have andF : ∀ {p q : Bool}, (p && !q) = false → p = true → q = true := fun {p q} h hp => by subst hp; simpa using h
             unfold zos at hlg; simp only [Bool.or_eq_false_iff, decide_eq_false_iff_not] at hlg; refine ⟨u, hu, ?_⟩; exact {
              r := fun hx => reg _ (by unfold zna; rw [hx]; simp)
              a := fun hx => reg _ (by unfold zna; rw [hx]; simp)
              b := fun hx => reg _ (by unfold zna; rw [hx]; simp)
              ty1 := fun hx => zaag (by rw [hx] at h1; exact h1)
              ty2 := fun hx => zaaf (by rw [hx] at h1; exact h1)
              ty3 := fun hx => zpr h1 (by rw [hx]; decide)
              se1 := fun hx => zaag (by rw [hx] at h2; exact h2)
              se2 := fun hx => zaaf (by rw [hx] at h2; exact h2)
              tg := fun hx => by have := zbc.1 (andF r2 hx); omega
              ma := fun hx => zbc.1 (andF r3 hx)
              pt := fun hx => andF r4 hx
              sr := fun hx => andF r5 hx
              pl := fun hx => andF r6 hx
              fr := fun hx => andF r7 hx
              ca := fun hx => zbc.1 (andF r8 hx)
              nu := zkq.1 h3
              tx := by omega
              ot := by omega
              is := (zrz he).1 }
          · rw [ifp h3] at h'; exact absurd h' h3
       · rw [ifn (by omega), ifp h2] at h'; exact absurd h' h2
     · rw [ifp h1] at h'; exact absurd h' h1
 · rw [ifn hop] at h; cases h
structure CodeV (m : HwModel) (c : HwCode) : Prop where
 m1 : 2 ≤ m.Registers
 m2 : m.Registers ≤ 8
 sto : zh9 c.Storage
 len : c.Instructions.length ≤ 240
 pos : 0 < c.Instructions.length
 traps : c.Traps.length ≤ 40
 ins : ∀ x ∈ c.Instructions, zof m c x = 0
 trap : ∀ t ∈ c.Traps, zpt c t = true
structure StV (m : HwModel) (c : HwCode) (s : HwState) : Prop where
 regs : (s.Registers.length : Int) = m.Registers
 nums : ∀ r ∈ s.Registers, zcw r
 cnd : s.Condition = 0 ∨ s.Condition = 1 ∨ s.Condition = 2 ∨ s.Condition = 4
 sto : zh9 s.Storage
 size : s.Storage.Bytes.size = c.Storage.Bytes.size
 at0 : 0 ≤ s.At
 at1 : s.At < (c.Instructions.length : Int)
 stk : s.Stack.length ≤ 6
 calls : ∀ i ∈ s.Stack, (0 ≤ i ∧ i < (c.Instructions.length : Int)) ∧ ∃ x, c.Instructions[i.toNat]? = some x ∧ x.Op = 18
 lines : s.Lines.length ≤ 40
 long : ∀ l ∈ s.Lines, l.size ≤ 256
 st0 : 0 ≤ s.Status
 st1 : s.Status ≤ 3
 ex0 : 0 ≤ s.Exception
 ex1 : s.Exception ≤ 999
 mk0 : 0 ≤ s.Marks
 mk1 : s.Marks ≤ 300
 sp0 : 0 ≤ s.Steps
 sp1 : s.Steps ≤ 3000
def zk0 (s : Storage) (p : HwPlace) (n : Int) : Except Int Int :=
 if p.Based = true then (match ldV s p.Pointer with | none => .error 4 | some o => if o + p.Offset > (s.Bytes.size : Int) - n then .error 5 else .ok (o + p.Offset)) else .ok p.Offset
def zkz (s : Storage) (p : HwPlace) (t : DataType) : Except Int ByteArray :=
 match zk0 s p (szE t) with | .error e => .error e | .ok a => .ok (s.Bytes.extract a.toNat (a + szE t).toNat)
def zyf (s : Storage) (p : HwPlace) (t : DataType) : Except Int Number :=
 match zkz s p t with | .error e => .error e | .ok b => match zlh t b with | none => .error 1 | some n => .ok ⟨n, t.Scale⟩
theorem zhu (s : HwState) (c : HwCode) (b : Bool) (n : Int) (hn : n ≠ 0) : zf ⟨s, c, 0⟩ b n = some (!b, ⟨s, c, cond b n 0⟩) := by
 unfold zf
 cases b
 · rfl
 · simp only [beq_self_eq_true, ctr, obs, zam, dcf hn]; rfl
theorem zpx (N : Nat) (hN : 2000 < N) (s : HwState) (c : HwCode) (h : zh9 s.Storage) {a : Int} (ha : zen s.Storage a = true) :
 zat N ⟨s, c, 0⟩ a = some (match ldV s.Storage a with | some o => (zh0 o, true, ⟨s, c, 0⟩) | none => (zyw, false, ⟨s, c, 4⟩)) := by
 unfold zat
 simp only []
 rw [zaa1 N hN h ha]
 cases ldV s.Storage a with
 | none => simp only [obs]; rw [zhu _ _ _ _ (by decide)]; rfl
 | some o => simp only [obs]; rw [zhu _ _ _ _ (by decide)]; rfl
theorem zmu {s t : Storage} (h : s.Bytes.size = t.Bytes.size) (a : Int) : zen s a = zen t a := by unfold zen; rw [h]
theorem zgo {s t : Storage} (h : s.Bytes.size = t.Bytes.size) (p : HwPlace) (n : Int) : zcf s p n = zcf t p n := by unfold zcf; rw [h, zmu h]
theorem zrk (N : Nat) (hN : 2000 < N) (s : HwState) (c : HwCode) (h : zh9 s.Storage) {p : HwPlace} {n : Int} (hp : zcf s.Storage p n = true) (hn : 0 < n) (hn2 : n ≤ 256) :
 (∃ e j k, (e = 4 ∨ e = 5) ∧ zk0 s.Storage p n = .error e ∧ za2 N ⟨s, c, 0⟩ p n = some (j, false, ⟨s, c, e⟩) ∧ zbl N s p n = some (k, e)) ∨
 ∃ a, zk0 s.Storage p n = .ok a ∧ za2 N ⟨s, c, 0⟩ p n = some (a, true, ⟨s, c, 0⟩) ∧ zbl N s p n = some (a, 0) ∧ 0 ≤ a ∧ a + n ≤ (s.Storage.Bytes.size : Int) := by
 have hl := h.le
 unfold zcf at hp
 unfold zk0 za2 zbl
 simp only [eS]
 by_cases hb : p.Based = true
 · rw [ifp hb] at hp; rw [Bool.and_eq_true] at hp; obtain ⟨hp1, hp2⟩ := hp; have hp3 := zbc.1 hp2; rw [ifp hb, hb]; simp only [Bool.not_true, cfa]; rw [zpx N hN s c h hp1, zv9 N hN h hp1]; cases hld : ldV s.Storage p.Pointer with
   | none =>
    left; exact ⟨4, 0, 0, .inl rfl, rfl, rfl, rfl⟩
   | some o =>
    have ho := zu9 h hld; simp only [obs, Bool.not_true, cfa, bsf]; rw [zhu _ _ _ _ (by decide)]; simp only [obs]; rw [show (zh0 o).Address.Offset = o from rfl, w6e (n := o + p.Offset) (by omega) (by omega), w6e (n := (s.Storage.Bytes.size : Int) - n) (by omega) (by omega)]; unfold zgv; rw [zhi, zhi, w6e (n := (s.Storage.Bytes.size : Int) - (o + p.Offset)) (by omega) (by omega)]; simp only [obs]
    by_cases hgt : o + p.Offset > (s.Storage.Bytes.size : Int) - n
    · left; refine ⟨5, o + p.Offset, 0, .inr rfl, ?_, ?_, ?_⟩
      · show (if o + p.Offset > (s.Storage.Bytes.size : Int) - n then (Except.error 5 : Except Int Int) else .ok (o + p.Offset)) = _; rw [ifp hgt]
      · rw [dct hgt]; rfl
      · by_cases h1 : inB (o + p.Offset) 0 (s.Storage.Bytes.size : Int) = true
        · rw [h1, ctr]; rw [show inB n 0 ((s.Storage.Bytes.size : Int) - (o + p.Offset)) = false by
           cases hh : inB n 0 ((s.Storage.Bytes.size : Int) - (o + p.Offset)) with
           | false => rfl
           | true => have := zbc.1 hh; omega]
          rfl
        · rw [show inB (o + p.Offset) 0 (s.Storage.Bytes.size : Int) = false by simpa using h1]; rfl
    · right; refine ⟨o + p.Offset, ?_, ?_, ?_, by omega, by omega⟩
      · show (if o + p.Offset > (s.Storage.Bytes.size : Int) - n then (Except.error 5 : Except Int Int) else .ok (o + p.Offset)) = _; rw [ifn hgt]
      · rw [dcf hgt]; rfl
      · rw [show inB (o + p.Offset) 0 (s.Storage.Bytes.size : Int) = true from zbc.2 ⟨by omega, by omega⟩, ctr, show inB n 0 ((s.Storage.Bytes.size : Int) - (o + p.Offset)) = true from zbc.2 ⟨by omega, by omega⟩]; rfl
 · have hb' : p.Based = false := by simpa using hb
   rw [ifn hb] at hp; have hp3 := zbc.1 hp; rw [ifn hb, hb']; right; exact ⟨p.Offset, rfl, rfl, rfl, by omega, by omega⟩
theorem zmt (N : Nat) (hN : 2000 < N) (s : HwState) (c : HwCode) (h : zh9 s.Storage) {p : HwPlace} {t : DataType} (ht : zdk t = 0) (hp : zcf s.Storage p (szE t) = true) :
 (∃ e b k, (e = 4 ∨ e = 5) ∧ zkz s.Storage p t = .error e ∧ zr N ⟨s, c, 0⟩ p t = some (b, false, ⟨s, c, e⟩) ∧ zcu N s p t = some (k, e)) ∨
 ∃ b, zkz s.Storage p t = .ok b ∧ zr N ⟨s, c, 0⟩ p t = some (b, true, ⟨s, c, 0⟩) ∧ zcu N s p t = some (b, 0) ∧ (b.size : Int) = szE t := by
 have hsz := zjv ht
 have hl := h.le
 unfold zkz zr zcu
 simp only [eS, eD, eP]
 rw [z0k N (by omega) ht, zi3 ht]
 simp only [obs]
 have eH : (⟨s.Registers, s.Condition, s.Storage, s.At, s.Stack, s.Lines, s.Status, s.Exception, s.Marks, s.Steps⟩ : HwState) = s := rfl
 rw [eH]
 rcases zrk N hN s c h hp hsz.1 hsz.2 with ⟨e, j, k, he, h1, h2, h3⟩ | ⟨a, h1, h2, h3, h4, h5⟩
 · left; rw [h1, h2, h3]; refine ⟨e, ⟨#[]⟩, ⟨#[]⟩, he, rfl, rfl, ?_⟩; rcases he with rfl | rfl <;> rfl
 · right; rw [h1, h2, h3]; simp only [obs, Bool.not_true, cfa, bsf]; rw [w6e (by omega) (by omega), ifp (by omega), ifp (by omega), ifp (by omega), ifp (by omega)]; refine ⟨_, rfl, rfl, rfl, ?_⟩; rw [zb0 _ _ _ (by omega) (by omega)]; omega
theorem z2z (N : Nat) (hN : 2000 < N) (s : HwState) (c : HwCode) (h : zh9 s.Storage) {p : HwPlace} {t : DataType} (ht : zh7 t) (hp : zcf s.Storage p (szE t) = true) :
 (∃ e b k, (e = 4 ∨ e = 5 ∨ e = 1) ∧ zyf s.Storage p t = .error e ∧ zbi N ⟨s, c, 0⟩ p t = some (b, false, ⟨s, c, e⟩) ∧ zfx N s p t = some (k, e)) ∨
 ∃ n, zyf s.Storage p t = .ok n ∧ zbi N ⟨s, c, 0⟩ p t = some (n, true, ⟨s, c, 0⟩) ∧ zfx N s p t = some (n, 0) ∧ zcw n := by
 unfold zyf zbi zfx
 rcases zmt N hN s c h ht.1 hp with ⟨e, b, k, he, h1, h2, h3⟩ | ⟨b, h1, h2, h3, h4⟩
 · left; rw [h1, h2, h3]; refine ⟨e, ⟨0, 0⟩, ⟨0, 0⟩, by omega, rfl, rfl, ?_⟩; rcases he with rfl | rfl <;> rfl
 · obtain ⟨v1, a1, e1, g1, g2⟩ := z76 N hN ht h4; obtain ⟨v2, a2, e2, g3, g4⟩ := z7s N hN ht h4; rw [h1, h2, h3]; simp only [obs, Bool.not_true, cfa, bsf]; rw [g1, g3]; simp only [obs]; rw [zhu _ _ _ _ (by decide)]; simp only [obs]; have hbound : ∀ n, zlh t b = some n → -((10 ^ t.Length.toNat : Nat) : Int) < n ∧ n < ((10 ^ t.Length.toNat : Nat) : Int) := by
    intro n hn; obtain ⟨⟨l1, l2⟩, l3, l4⟩ := zf4 ht; unfold zlh at hn; split at hn
    · split at hn
      · rename_i hh; cases hn; exact hh
      · cases hn
    · rename_i hk3; have key : ∀ l : List Int, (∀ d ∈ l, 0 ≤ d ∧ d ≤ 15) → (List.range (l.length - 1)).any (zh8 l t.Length) = false → (l.length : Int) - 1 - t.Length ≤ 1 → 0 ≤ zew (l.take (l.length - 1)) ∧ zew (l.take (l.length - 1)) < ((10 ^ t.Length.toNat : Nat) : Int) := by
       intro l hr hg hle; rw [List.any_eq_false] at hg; have g9 : ∀ i, i < l.length - 1 → 0 ≤ l.getD i 0 ∧ l.getD i 0 ≤ 9 := fun i hi => by
        have h1 := hg i (List.mem_range.2 hi); unfold zh8 at h1; have hx : l[i]? = some (l.getD i 0) := by rw [List.getD_eq_getElem?_getD, lge (by omega)]; rfl
        have h2 := hr _ (lmg hx); rw [Bool.or_eq_true, decide_eq_true_eq] at h1; omega
       have step : ∀ i, i ≤ l.length - 1 → 0 ≤ zew (l.take i) ∧ (zew (l.take i) < ((10 ^ (i - ((l.length : Int) - 1 - t.Length).toNat) : Nat) : Int)) := by
        intro i
        induction i with
        | zero => intro _; rw [List.take_zero]; exact ⟨by decide, by simp [zew]⟩
        | succ i ih =>
         intro hi; have hx : l[i]? = some (l.getD i 0) := by rw [List.getD_eq_getElem?_getD, lge (by omega)]; rfl
         obtain ⟨i1, i2⟩ := ih (by omega); have hd := g9 i (by omega); rw [zd2 l i hx, znk]; refine ⟨by omega, ?_⟩
         by_cases hlead : (i : Int) < (l.length : Int) - 1 - t.Length
         · have h1 := hg i (List.mem_range.2 (by omega)); unfold zh8 at h1; rw [Bool.or_eq_true, Bool.and_eq_true, decide_eq_true_eq, decide_eq_true_eq, decide_eq_true_eq] at h1; have h0 : l.getD i 0 = 0 := by
            refine Classical.byContradiction fun h2 => h1 (.inr ⟨by omega, hlead⟩)
           rw [show i - ((l.length : Int) - 1 - t.Length).toNat = 0 by omega, Nat.pow_zero] at i2; rw [h0, show i + 1 - ((l.length : Int) - 1 - t.Length).toNat = 0 by omega, Nat.pow_zero]; omega
         · rw [show i + 1 - ((l.length : Int) - 1 - t.Length).toNat = (i - ((l.length : Int) - 1 - t.Length).toNat) + 1 by omega, Nat.pow_succ]; omega
       obtain ⟨s1, s2⟩ := step (l.length - 1) (Nat.le_refl _); refine ⟨s1, ?_⟩; have hpw : 10 ^ (l.length - 1 - ((l.length : Int) - 1 - t.Length).toNat) ≤ 10 ^ t.Length.toNat := zbz (by omega); omega
      have hbs := h4; rw [zp5 ht] at hbs; obtain ⟨_, k1, k2⟩ := ht; have hlen : ((if t.Kind = 1 then zht (bl b) else zd1 (bl b)).length : Int) - 1 - t.Length ≤ 1 := by
       by_cases hk1 : t.Kind = 1
       · rw [ifp hk1] at hbs; rw [ifp hk1, zoa, zad]; omega
       · rw [ifn hk1, ifn hk3] at hbs; rw [ifn hk1]; unfold zd1 zfa; rw [lna, List.length_map, zad, lns]; omega
      have hrange : ∀ d ∈ (if t.Kind = 1 then zht (bl b) else zd1 (bl b)), 0 ≤ d ∧ d ≤ 15 := by
       split
       · exact zpa.1
       · exact zpa.2
      generalize (if t.Kind = 1 then zht (bl b) else zd1 (bl b)) = l at *; unfold zvw at hn
      by_cases hbad : (List.range (l.length - 1)).any (zh8 l t.Length) = true ∨ zjw l < 10
      · rw [ifp hbad] at hn; cases hn
      · rw [ifn hbad] at hn; rw [not_or] at hbad; obtain ⟨q1, q2⟩ := key l hrange (by simpa using hbad.1) hlen; have hn2 := Option.some.inj hn; split at hn2 <;> omega
   cases hdv : zlh t b with
   | none =>
    rw [hdv] at g2 g4; simp only [] at g2 g4; left; refine ⟨1, ⟨v1.N, t.Scale⟩, ⟨0, 0⟩, by omega, rfl, ?_, ?_⟩
    · rw [zcx, dct g2]; rfl
    · rw [zcx, dct g4]; rfl
   | some n =>
    rw [hdv] at g2 g4; simp only [] at g2 g4; right; have hb := hbound n hdv; obtain ⟨⟨l1, l2⟩, l3, l4⟩ := zf4 ht; have hpw : 10 ^ t.Length.toNat ≤ 10 ^ 15 := zbz (by omega); refine ⟨⟨n, t.Scale⟩, rfl, ?_, ?_, ⟨⟨?_, ?_⟩, l3, ?_⟩⟩
    · rw [g2.2, g2.1]; rfl
    · rw [g4.2, g4.1]; rfl
    · show -999999999999999 ≤ n; omega
    · show n ≤ 999999999999999; omega
    · show t.Scale ≤ 15; omega
def updR (s : HwState) (i : Int) (n : Number) : HwState := ⟨s.Registers.set i.toNat n, s.Condition, s.Storage, s.At, s.Stack, s.Lines, s.Status, s.Exception, s.Marks, s.Steps⟩
def updS (s : HwState) (t : Storage) : HwState := ⟨s.Registers, s.Condition, t, s.At, s.Stack, s.Lines, s.Status, s.Exception, s.Marks, s.Steps⟩
def updC (s : HwState) (k : Int) : HwState := ⟨s.Registers, k, s.Storage, s.At, s.Stack, s.Lines, s.Status, s.Exception, s.Marks, s.Steps⟩
def updL (s : HwState) (l : List ByteArray) : HwState := ⟨s.Registers, s.Condition, s.Storage, s.At, s.Stack, l, s.Status, s.Exception, s.Marks, s.Steps⟩
def updT (s : HwState) (k : Int) : HwState := ⟨s.Registers, s.Condition, s.Storage, s.At, s.Stack, s.Lines, k, s.Exception, s.Marks, s.Steps⟩
def updK (s : HwState) (l : List Int) : HwState := ⟨s.Registers, s.Condition, s.Storage, s.At, l, s.Lines, s.Status, s.Exception, s.Marks, s.Steps⟩
def updM (s : HwState) (k : Int) : HwState := ⟨s.Registers, s.Condition, s.Storage, s.At, s.Stack, s.Lines, s.Status, s.Exception, k, s.Steps⟩
def rg (s : HwState) (i : Int) : Number := s.Registers.getD i.toNat ⟨0, 0⟩
def zqi (s : HwState) (a b : Int) : Int := zno (z0h (zac (rg s a) (zi (rg s a) (rg s b))) (zac (rg s b) (zi (rg s a) (rg s b))))
def zo1 (s : HwState) (l : ByteArray) : Except Int (Int × HwState) := if s.Lines.length = 40 then .ok (s.At + 1, updT s 3) else .ok (s.At + 1, updL s (s.Lines ++ [l]))
def zeo (s : HwState) (x : HwInstruction) : Except Int (Int × HwState) :=
 match x.Op.toNat with
 | 0 => match zyf s.Storage x.Place x.Type_ with | .error e => .error e | .ok n => .ok (s.At + 1, updR s x.R n)
 | 1 => if (zlt (rg s x.R) x.Type_ x.Half).2 ≠ 0 then .error 2 else match zk0 s.Storage x.Place (szE x.Type_) with | .error e => .error e | .ok a => .ok (s.At + 1, updS s (wrV s.Storage a.toNat (zqs x.Type_ (zlt (rg s x.R) x.Type_ x.Half).1.N)))
 | 2 => .ok (s.At + 1, updR s x.R x.Number)
 | 3 => .ok (s.At + 1, updR s x.R (rg s x.A))
 | 4 => match (if x.InStorage = true then zyf s.Storage x.Place x.Second else .ok (rg s x.B)) with
  | .error e => .error e
  | .ok b => if (zg1 x.Calculation (rg s x.A) b x.Type_ false).2 = 20 then .error 3 else if (zg1 x.Calculation (rg s x.A) b x.Type_ false).2 ≠ 0 then .error 2 else .ok (s.At + 1, updR s x.R ⟨(zg1 x.Calculation (rg s x.A) b x.Type_ false).1.N, x.Type_.Scale⟩)
 | 5 => .ok (s.At + 1, updC s (zqi s x.A x.B))
 | 6 => .ok (cond (zh .i64 s.Condition x.Mask != 0) x.Target (s.At + 1), s)
 | 7 => .ok (cond (zh .i64 (zqi s x.A x.B) x.Mask != 0) x.Target (s.At + 1), s)
 | 8 => .ok (x.Target, s)
 | 9 => match zkz s.Storage x.From x.Second with
  | .error e => .error e
  | .ok b => match zk0 s.Storage x.Place (szE x.Type_) with | .error e => .error e | .ok a => .ok (s.At + 1, updS s (wrV s.Storage a.toNat (zkd b x.Type_.Length.toNat)))
 | 10 => match zk0 s.Storage x.Place (szE x.Type_) with | .error e => .error e | .ok a => .ok (s.At + 1, updS s (wrV s.Storage a.toNat (zkd x.Text x.Type_.Length.toNat)))
 | 11 => match zkz s.Storage x.Place x.Type_ with
  | .error e => .error e
  | .ok a => match zkz s.Storage x.From x.Second with | .error e => .error e | .ok b => .ok (s.At + 1, updC s (zm5 a b))
 | 12 => match zkz s.Storage x.Place x.Type_ with | .error e => .error e | .ok a => .ok (s.At + 1, updC s (zm5 a x.Text))
 | 13 => .ok (s.At + 1, updC s (zm5 x.Text x.Other))
 | 14 => match zk0 s.Storage x.Place (szE x.Type_) with | .error e => .error e | .ok a => .ok (s.At + 1, updS s (stV s.Storage x.Pointer.toNat a.toNat))
 | 15 => match ldV s.Storage x.Source with | none => .error 4 | some o => .ok (s.At + 1, updS s (stV s.Storage x.Pointer.toNat o.toNat))
 | 16 => match ldV s.Storage x.Pointer with
  | none => .error 4
  | some o => if inB (o + zfs (rg s x.R)) 0 16777215 = true then .ok (s.At + 1, updS s (stV s.Storage x.Pointer.toNat (o + zfs (rg s x.R)).toNat)) else .error 5
 | 17 => match ldV s.Storage x.Pointer with | none => .error 4 | some _ => .ok (s.At + 1, s)
 | 18 => if 6 ≤ s.Stack.length then .error 6 else .ok (x.Target, updK s (s.Stack ++ [s.At]))
 | 19 => if s.Stack.length = 0 then .ok (s.At, updT s 1) else .ok (s.Stack.getD (s.Stack.length - 1) 0 + 1, updK s (s.Stack.take (s.Stack.length - 1)))
 | 20 => if inB (zfs (rg s x.R)) 100 999 = true then .error (zfs (rg s x.R)) else .error 2
 | 21 => .ok (s.At + 1, updR s x.R ⟨s.Exception, 0⟩)
 | 22 => zo1 s (zon (rg s x.R))
 | 23 => match zkz s.Storage x.Place x.Type_ with | .error e => .error e | .ok b => zo1 s b
 | 24 => zo1 s x.Text
 | 25 => if s.Marks = 300 then .ok (s.At + 1, updT s 3) else .ok (s.At + 1, updM s (s.Marks + 1))
 | _ => .ok (s.At + 1, updT s 1)
section
variable {m : HwModel} {c : HwCode} {s : HwState}
theorem StV.updR (h : StV m c s) {i : Int} {n : Number} (hn : zcw n) : StV m c (updR s i n) := {
 regs := by show ((s.Registers.set i.toNat n).length : Int) = _; rw [List.length_set]; exact h.regs
 nums := fun r hr => by
  rcases List.mem_or_eq_of_mem_set (show r ∈ s.Registers.set i.toNat n from hr) with h1 | h1
  · exact h.nums r h1
  · rw [h1]; exact hn
 cnd := h.cnd, sto := h.sto, size := h.size, at0 := h.at0, at1 := h.at1, stk := h.stk, calls := h.calls, lines := h.lines, long := h.long, st0 := h.st0, st1 := h.st1, ex0 := h.ex0, ex1 := h.ex1, mk0 := h.mk0, mk1 := h.mk1, sp0 := h.sp0, sp1 := h.sp1 }
theorem StV.updS (h : StV m c s) {t : Storage} (ht : zh9 t) (hz : t.Bytes.size = s.Storage.Bytes.size) : StV m c (updS s t) := {
 regs := h.regs, nums := h.nums, cnd := h.cnd, sto := ht, size := hz.trans h.size, at0 := h.at0, at1 := h.at1, stk := h.stk, calls := h.calls, lines := h.lines, long := h.long, st0 := h.st0, st1 := h.st1, ex0 := h.ex0, ex1 := h.ex1, mk0 := h.mk0, mk1 := h.mk1, sp0 := h.sp0, sp1 := h.sp1 }
theorem StV.updC (h : StV m c s) {k : Int} (hk : k = 1 ∨ k = 2 ∨ k = 4) : StV m c (updC s k) := {
 regs := h.regs, nums := h.nums, cnd := .inr hk, sto := h.sto, size := h.size, at0 := h.at0, at1 := h.at1, stk := h.stk, calls := h.calls, lines := h.lines, long := h.long, st0 := h.st0, st1 := h.st1, ex0 := h.ex0, ex1 := h.ex1, mk0 := h.mk0, mk1 := h.mk1, sp0 := h.sp0, sp1 := h.sp1 }
theorem StV.updL (h : StV m c s) {l : ByteArray} (h1 : s.Lines.length < 40) (h2 : l.size ≤ 256) : StV m c (updL s (s.Lines ++ [l])) := {
 regs := h.regs, nums := h.nums, cnd := h.cnd, sto := h.sto, size := h.size, at0 := h.at0, at1 := h.at1, stk := h.stk, calls := h.calls
 lines := by show (s.Lines ++ [l]).length ≤ 40; rw [lna, lns]; omega
 long := fun y hy => by
  rcases List.mem_append.1 (show y ∈ s.Lines ++ [l] from hy) with h3 | h3
  · exact h.long y h3
  · rw [List.mem_singleton.1 h3]; exact h2
 st0 := h.st0, st1 := h.st1, ex0 := h.ex0, ex1 := h.ex1, mk0 := h.mk0, mk1 := h.mk1, sp0 := h.sp0, sp1 := h.sp1 }
theorem StV.updT (h : StV m c s) {k : Int} (h1 : 0 ≤ k) (h2 : k ≤ 3) : StV m c (updT s k) := {
 regs := h.regs, nums := h.nums, cnd := h.cnd, sto := h.sto, size := h.size, at0 := h.at0, at1 := h.at1, stk := h.stk, calls := h.calls, lines := h.lines, long := h.long, st0 := h1, st1 := h2, ex0 := h.ex0, ex1 := h.ex1, mk0 := h.mk0, mk1 := h.mk1, sp0 := h.sp0, sp1 := h.sp1 }
theorem StV.updK (h : StV m c s) {l : List Int} (h1 : l.length ≤ 6) (h2 : ∀ i ∈ l, (0 ≤ i ∧ i < (c.Instructions.length : Int)) ∧ ∃ x, c.Instructions[i.toNat]? = some x ∧ x.Op = 18) : StV m c (updK s l) := {
 regs := h.regs, nums := h.nums, cnd := h.cnd, sto := h.sto, size := h.size, at0 := h.at0, at1 := h.at1, stk := h1, calls := h2, lines := h.lines, long := h.long, st0 := h.st0, st1 := h.st1, ex0 := h.ex0, ex1 := h.ex1, mk0 := h.mk0, mk1 := h.mk1, sp0 := h.sp0, sp1 := h.sp1 }
theorem StV.updM (h : StV m c s) {k : Int} (h1 : 0 ≤ k) (h2 : k ≤ 300) : StV m c (updM s k) := {
 regs := h.regs, nums := h.nums, cnd := h.cnd, sto := h.sto, size := h.size, at0 := h.at0, at1 := h.at1, stk := h.stk, calls := h.calls, lines := h.lines, long := h.long, st0 := h.st0, st1 := h.st1, ex0 := h.ex0, ex1 := h.ex1, mk0 := h1, mk1 := h2, sp0 := h.sp0, sp1 := h.sp1 }
theorem zft (h : StV m c s) {i : Int} (hi : 0 ≤ i ∧ i < m.Registers) : 0 ≤ i ∧ i < (s.Registers.length : Int) ∧ s.Registers[i.toNat]? = some (rg s i) ∧ idx s.Registers i = some (rg s i) ∧ zcw (rg s i) := by
 have hr := h.regs
 have hx : s.Registers[i.toNat]? = some (rg s i) := by
  unfold rg; rw [List.getD_eq_getElem?_getD, lge (by omega)]; rfl
 refine ⟨hi.1, by omega, hx, ?_, h.nums _ (lmg hx)⟩
 unfold idx
 rw [ifp hi.1, hx]
theorem zow (o : Int) : zno o = 1 ∨ zno o = 2 ∨ zno o = 4 := by
 unfold zno
 repeat' split
 all_goals simp
theorem zvb (h : StV m c s) (hm : m.Registers ≤ 8) {i : Int} (hi : 0 ≤ i ∧ i < m.Registers) (n : Number) (e : Int) : zy ⟨s, c, e⟩ i n = some ⟨updR s i n, c, e⟩ := by
 obtain ⟨h1, h2, h3, _⟩ := zft h hi
 have hr := h.regs
 unfold zy zdh
 simp only []
 rw [zae (by omega), ctr, obs, ifp h1, ifp h2, h3]
 rfl
theorem z09 (N : Nat) (hN : 300 < N) (h : StV m c s) (x : HwInstruction) (ha : 0 ≤ x.A ∧ x.A < m.Registers) (hb : 0 ≤ x.B ∧ x.B < m.Registers) (e : Int) : zao N ⟨s, c, e⟩ x = some (zqi s x.A x.B) := by
 obtain ⟨_, _, _, a4, a5⟩ := zft h ha
 obtain ⟨_, _, _, b4, b5⟩ := zft h hb
 unfold zao
 simp only []
 rw [a4, b4]
 simp only [obs]
 rw [z4q N hN a5 b5]
 simp only [obs]
 rw [z3f]
 rfl
theorem z1k (x y : Int) : zh .i64 x y = zh .i64 y x := by unfold zh; rw [BitVec.and_comm]
def zcb (N : Nat) (m : HwModel) (c : HwCode) (s : HwState) (x : HwInstruction) : Prop :=
 (∃ e nx ny t, zeo s x = .error e ∧ (1 ≤ e ∧ e ≤ 999) ∧ ze N ⟨s, c, 0⟩ x = some (nx, ⟨s, c, e⟩) ∧ zd N c s = some (ny, e, t)) ∨
 ∃ n k t, zeo s x = .ok (n, t) ∧ ze N ⟨s, c, 0⟩ x = some (n, ⟨t, c, 0⟩) ∧ zd N c s = some (k, 0, t) ∧ (t.Status = 0 → k = n ∧ 0 ≤ n ∧ n ≤ (c.Instructions.length : Int)) ∧ StV m c t ∧ t.At = s.At ∧ t.Steps = s.Steps ∧ t.Exception = s.Exception
theorem zgz {x : HwInstruction} (hc : CodeV m c) (hx : x ∈ c.Instructions) {k : Int} (hop : x.Op = k) {U : ref15_fields} (hU : z5m k x.InStorage = some U) : InsV m c x U := by
 obtain ⟨_, u, h1, h2⟩ := zaan (hc.ins x hx)
 rw [z67, hop, hU] at h1
 cases h1
 exact h2
end
section
variable {m : HwModel} {c : HwCode} {s : HwState}
theorem zlq {b : Bool} {p q : Nat} {t : DataType} {half : Bool} (h : (zhz b p q t half).2 = 0) : -((10 ^ t.Length.toNat : Nat) : Int) < (zhz b p q t half).1.N ∧ (zhz b p q t half).1.N < ((10 ^ t.Length.toNat : Nat) : Int) := by
 unfold zhz at h ⊢
 have := zb8 t.Length.toNat
 generalize (p * 10 ^ t.Scale.toNat / q + cond (half && decide (q ≤ p * 10 ^ t.Scale.toNat % q + p * 10 ^ t.Scale.toNat % q)) 1 0) = Q at *
 generalize 10 ^ t.Length.toNat = T at *
 split at h
 · cases h
 · rename_i hn; rw [ifn hn]; cases b
   · show -(T : Int) < (Q : Int) ∧ (Q : Int) < T; omega
   · show -(T : Int) < -(Q : Int) ∧ -(Q : Int) < T; omega
theorem zadb (b : Bool) (p q : Nat) (t : DataType) (half : Bool) : (zhz b p q t half).1 = ⟨(zhz b p q t half).1.N, ⟨#[]⟩⟩ := by
 unfold zhz
 split <;> rfl
theorem zab3 {x : Number} {t : DataType} {half : Bool} (h : (zlt x t half).2 = 0) : (zhz (decide (x.N < 0)) x.N.natAbs (10 ^ x.Scale.toNat) t half).2 = 0 := h
theorem zad1 (x : Number) (t : DataType) (half : Bool) : (zlt x t half).1 = ⟨(zlt x t half).1.N, ⟨#[]⟩⟩ := zadb _ _ _ _ _
theorem ex_0 (s : HwState) {x : HwInstruction} (hop : x.Op = 0) : zeo s x = (match zyf s.Storage x.Place x.Type_ with | .error e => .error e | .ok n => .ok (s.At + 1, updR s x.R n)) := by
 cases x; cases hop; rfl
theorem hx_0 (N : Nat) (M : hardware_machine) {x : HwInstruction} (hop : x.Op = 0) : ze N M x = (zbi N M x.Place x.Type_).bind fun r1 => cond r1.2.1 ((zy r1.2.2 x.R r1.1).bind fun r => some (w6 (r.HwState.At + 1), r)) (some (w6 (r1.2.2.HwState.At + 1), r1.2.2)) := by
 cases x; cases hop; rfl
theorem rx_0 (N : Nat) {x : HwInstruction} (hop : x.Op = 0) (hi : idx c.Instructions s.At = some x) : zd N c s = ((zfx N s x.Place x.Type_).bind fun r1 => cond (r1.2 != 0) (some (r1.2, s)) (if 0 ≤ x.R then (if x.R < (s.Registers.length : Int) then ((s.Registers[x.R.toNat]?).bind fun _ => some (0, updR s x.R r1.1)) else none) else none)).bind fun r => some (w6 (s.At + 1), r.1, r.2) := by
 unfold zd
 rw [hi, obs]
 clear hi
 cases x; cases hop; rfl
theorem zaed (N : Nat) (hN : 20000 < N) (hc : CodeV m c) (hs : StV m c s) {x : HwInstruction} (hx : c.Instructions[s.At.toNat]? = some x) (hop : x.Op = 0) : zcb N m c s x := by
 have iv := zgz hc (lmg hx) hop (U := ⟨true, false, false, true, false, false, false, false, false, false, false, false, false, false, 1, 0⟩) rfl
 have hi : idx c.Instructions s.At = some x := by unfold idx; rw [ifp hs.at0, hx]
 have m8 := hc.m2
 have a0 := hs.at0
 have a1 := hs.at1
 have n240 := hc.len
 have wn1 : w6 (s.At + 1) = s.At + 1 := w6e (by omega) (by omega)
 unfold zcb
 rw [ex_0 s hop, hx_0 N _ hop, rx_0 N hop hi]
 obtain ⟨g1, g2, g3, g4, g5⟩ := zft hs (iv.r rfl)
 have hp : zcf s.Storage x.Place (szE x.Type_) = true := by rw [zgo hs.size]; have := iv.pl rfl; unfold zgf at this; rw [ifn (by omega)] at this; exact this
 rcases z2z N (by omega) s c hs.sto (iv.ty1 rfl) hp with ⟨e, b, k, he, h1, h2, h3⟩ | ⟨n, h1, h2, h3, h4⟩
 · rw [h1, h2, h3]; refine .inl ⟨e, _, w6 (s.At + 1), s, rfl, by omega, rfl, ?_⟩; rcases he with rfl | rfl | rfl <;> rfl
 · rw [h1, h2, h3]; refine .inr ⟨_, _, _, rfl, ?_, ?_, fun _ => ⟨rfl, by omega, by omega⟩, hs.updR h4, rfl, rfl, rfl⟩
   · simp only [obs, ctr]; rw [zvb hs m8 (iv.r rfl)]; show some (w6 (s.At + 1), _) = _; rw [wn1]
   · simp only [obs, bsf, cfa]; rw [ifp g1, ifp g2, g3]; show some (w6 (s.At + 1), _) = _; rw [wn1]
theorem ex_1 (s : HwState) {x : HwInstruction} (hop : x.Op = 1) : zeo s x = (if (zlt (rg s x.R) x.Type_ x.Half).2 ≠ 0 then .error 2 else match zk0 s.Storage x.Place (szE x.Type_) with | .error e => .error e | .ok a => .ok (s.At + 1, updS s (wrV s.Storage a.toNat (zqs x.Type_ (zlt (rg s x.R) x.Type_ x.Half).1.N)))) := by
 cases x; cases hop; rfl
theorem hx_1 (N : Nat) (M : hardware_machine) {x : HwInstruction} (hop : x.Op = 1) : ze N M x = (zer N M x).bind fun r => some (w6 (r.HwState.At + 1), r) := by
 cases x; cases hop; rfl
theorem rx_1 (N : Nat) {x : HwInstruction} (hop : x.Op = 1) (hi : idx c.Instructions s.At = some x) : zd N c s = (if 0 ≤ x.R then (if x.R < (s.Registers.length : Int) then ((s.Registers[x.R.toNat]?).bind fun x3 => (zgn N x3 x.Type_ x.Half).bind fun r4 =>
 cond (r4.2 != 0) (some (2, s)) ((zau x.Type_).bind fun r5 => (zbl N s x.Place r5).bind fun r6 => cond (r6.2 != 0) (some (r6.2, s))
 ((zav N x.Type_ r4.1).bind fun r7 => (za6 N s.Storage r6.1 r7).bind fun r8 => some (0, updS s r8)))) else none) else none).bind fun r => some (w6 (s.At + 1), r.1, r.2) := by
 unfold zd
 rw [hi, obs]
 clear hi
 cases x; cases hop; rfl
theorem zaec (N : Nat) (hN : 20000 < N) (hc : CodeV m c) (hs : StV m c s) {x : HwInstruction} (hx : c.Instructions[s.At.toNat]? = some x) (hop : x.Op = 1) : zcb N m c s x := by
 have iv := zgz hc (lmg hx) hop (U := ⟨true, false, false, true, false, true, false, false, false, false, false, false, false, false, 1, 0⟩) rfl
 have hi : idx c.Instructions s.At = some x := by unfold idx; rw [ifp hs.at0, hx]
 have m8 := hc.m2
 have a0 := hs.at0
 have a1 := hs.at1
 have n240 := hc.len
 have wn1 : w6 (s.At + 1) = s.At + 1 := w6e (by omega) (by omega)
 unfold zcb
 rw [ex_1 s hop, hx_1 N _ hop, rx_1 N hop hi]
 obtain ⟨g1, g2, g3, g4, g5⟩ := zft hs (iv.r rfl)
 have ht := iv.ty1 rfl
 have hp : zcf s.Storage x.Place (szE x.Type_) = true := by rw [zgo hs.size]; have := iv.pl rfl; unfold zgf at this; rw [ifn (by omega)] at this; exact this
 have hsz := zjv ht.1
 unfold zer
 rw [ifp g1, ifp g2, g3]
 simp only []
 rw [g4]
 simp only [obs]
 rw [zabo N (by omega) g5 ht, zabe N (by omega) g5 ht]
 simp only [obs]
 rw [zhu _ _ _ _ (by decide)]
 simp only [obs]
 by_cases hv : (zlt (rg s x.R) x.Type_ x.Half).2 = 0
 · rw [hv, ifn (by decide)]; simp only [bsf, Bool.not_false, ctr, cfa]; have hr : -((10 ^ x.Type_.Length.toNat : Nat) : Int) < (zlt (rg s x.R) x.Type_ x.Half).1.N ∧ (zlt (rg s x.R) x.Type_ x.Half).1.N < ((10 ^ x.Type_.Length.toNat : Nat) : Int) := zlq (zab3 hv); obtain ⟨n, hcv⟩ : ∃ n, (zlt (rg s x.R) x.Type_ x.Half).1 = ⟨n, ⟨#[]⟩⟩ := ⟨_, zad1 _ _ _⟩; rw [hcv] at hr ⊢; simp only [] at hr ⊢; rw [z74 N (by omega) ht _ hr, zi3 ht.1]; simp only [obs]; have hes := z8l ht n; unfold za4; rw [hes]; rcases zrk N (by omega) s c hs.sto hp hsz.1 hsz.2 with ⟨e, j, k, he, h1, h2, h3⟩ | ⟨a, h1, h2, h3, h4, h5⟩
   · rw [h1, h2, h3]; refine .inl ⟨e, _, w6 (s.At + 1), s, rfl, by omega, rfl, ?_⟩; rcases he with rfl | rfl <;> rfl
   · rw [h1, h2, h3]; obtain ⟨a, rfl⟩ : ∃ k : Nat, a = (k : Int) := ⟨a.toNat, by omega⟩; have hw : a + (zqs x.Type_ n).size ≤ s.Storage.Bytes.size := by omega
     have hw0 : 0 < (zqs x.Type_ n).size := by omega
     refine .inr ⟨_, _, _, rfl, ?_, ?_, fun _ => ⟨rfl, by omega, by omega⟩, hs.updS (z1w hs.sto hw hw0) (zsp hw), rfl, rfl, rfl⟩
     · simp only [obs, ctr]; rw [z1y N (by omega) hs.sto hw hw0]; show some (w6 (s.At + 1), _) = _; rw [wn1]; rfl
     · simp only [obs, bsf, cfa]; rw [z9n N (by omega) ht _ hr]; simp only [obs]; rw [zx2 N (by omega) hs.sto hw hw0]; show some (w6 (s.At + 1), _) = _; rw [wn1]; rfl
 · rw [ifp hv, zcx, dct hv]; exact .inl ⟨2, _, _, s, rfl, by omega, rfl, rfl⟩
theorem ex_2 (s : HwState) {x : HwInstruction} (hop : x.Op = 2) : zeo s x = (.ok (s.At + 1, updR s x.R x.Number)) := by
 cases x; cases hop; rfl
theorem hx_2 (N : Nat) (M : hardware_machine) {x : HwInstruction} (hop : x.Op = 2) : ze N M x = (zy M x.R x.Number).bind fun r => some (w6 (r.HwState.At + 1), r) := by
 cases x; cases hop; rfl
theorem rx_2 (N : Nat) {x : HwInstruction} (hop : x.Op = 2) (hi : idx c.Instructions s.At = some x) : zd N c s = (if 0 ≤ x.R then (if x.R < (s.Registers.length : Int) then ((s.Registers[x.R.toNat]?).bind fun _ => some (0, updR s x.R x.Number)) else none) else none).bind fun r => some (w6 (s.At + 1), r.1, r.2) := by
 unfold zd
 rw [hi, obs]
 clear hi
 cases x; cases hop; rfl
theorem zaeb (N : Nat) (hN : 20000 < N) (hc : CodeV m c) (hs : StV m c s) {x : HwInstruction} (hx : c.Instructions[s.At.toNat]? = some x) (hop : x.Op = 2) : zcb N m c s x := by
 have iv := zgz hc (lmg hx) hop (U := ⟨true, false, false, false, false, false, true, false, false, false, false, false, false, false, 0, 0⟩) rfl
 have hi : idx c.Instructions s.At = some x := by unfold idx; rw [ifp hs.at0, hx]
 have m8 := hc.m2
 have a0 := hs.at0
 have a1 := hs.at1
 have n240 := hc.len
 have wn1 : w6 (s.At + 1) = s.At + 1 := w6e (by omega) (by omega)
 unfold zcb
 rw [ex_2 s hop, hx_2 N _ hop, rx_2 N hop hi]
 obtain ⟨g1, g2, g3, g4, g5⟩ := zft hs (iv.r rfl)
 refine .inr ⟨_, _, _, rfl, ?_, ?_, fun _ => ⟨rfl, by omega, by omega⟩, hs.updR iv.nu, rfl, rfl, rfl⟩
 · rw [zvb hs m8 (iv.r rfl)]; show some (w6 (s.At + 1), _) = _; rw [wn1]
 · rw [ifp g1, ifp g2, g3]; show some (w6 (s.At + 1), _) = _; rw [wn1]
theorem ex_3 (s : HwState) {x : HwInstruction} (hop : x.Op = 3) : zeo s x = (.ok (s.At + 1, updR s x.R (rg s x.A))) := by
 cases x; cases hop; rfl
theorem hx_3 (N : Nat) (M : hardware_machine) {x : HwInstruction} (hop : x.Op = 3) : ze N M x = (idx M.HwState.Registers x.A).bind fun v => (zy M x.R v).bind fun r => some (w6 (r.HwState.At + 1), r) := by
 cases x; cases hop; rfl
theorem rx_3 (N : Nat) {x : HwInstruction} (hop : x.Op = 3) (hi : idx c.Instructions s.At = some x) : zd N c s = (if 0 ≤ x.A then (if x.A < (s.Registers.length : Int) then ((s.Registers[x.A.toNat]?).bind fun v => if 0 ≤ x.R then (if x.R < (s.Registers.length : Int) then ((s.Registers[x.R.toNat]?).bind fun _ => some (0, updR s x.R v)) else none) else none) else none) else none).bind fun r => some (w6 (s.At + 1), r.1, r.2) := by
 unfold zd
 rw [hi, obs]
 clear hi
 cases x; cases hop; rfl
theorem zaea (N : Nat) (hN : 20000 < N) (hc : CodeV m c) (hs : StV m c s) {x : HwInstruction} (hx : c.Instructions[s.At.toNat]? = some x) (hop : x.Op = 3) : zcb N m c s x := by
 have iv := zgz hc (lmg hx) hop (U := ⟨true, true, false, false, false, false, false, false, false, false, false, false, false, false, 0, 0⟩) rfl
 have hi : idx c.Instructions s.At = some x := by unfold idx; rw [ifp hs.at0, hx]
 have m8 := hc.m2
 have a0 := hs.at0
 have a1 := hs.at1
 have n240 := hc.len
 have wn1 : w6 (s.At + 1) = s.At + 1 := w6e (by omega) (by omega)
 unfold zcb
 rw [ex_3 s hop, hx_3 N _ hop, rx_3 N hop hi]
 obtain ⟨g1, g2, g3, g4, g5⟩ := zft hs (iv.r rfl)
 obtain ⟨f1, f2, f3, f4, f5⟩ := zft hs (iv.a rfl)
 refine .inr ⟨_, _, _, rfl, ?_, ?_, fun _ => ⟨rfl, by omega, by omega⟩, hs.updR f5, rfl, rfl, rfl⟩
 · show ((idx s.Registers x.A).bind _) = _; rw [f4, obs, zvb hs m8 (iv.r rfl)]; show some (w6 (s.At + 1), _) = _; rw [wn1]
 · rw [ifp f1, ifp f2, f3, obs, ifp g1, ifp g2, g3]; show some (w6 (s.At + 1), _) = _; rw [wn1]
theorem ex_5 (s : HwState) {x : HwInstruction} (hop : x.Op = 5) : zeo s x = (.ok (s.At + 1, updC s (zqi s x.A x.B))) := by
 cases x; cases hop; rfl
theorem hx_5 (N : Nat) (M : hardware_machine) {x : HwInstruction} (hop : x.Op = 5) : ze N M x = (zao N M x).bind fun r => some (w6 (M.HwState.At + 1), ⟨updC M.HwState r, M.code, M.raised⟩) := by
 cases x; cases hop; rfl
theorem rx_5 (N : Nat) {x : HwInstruction} (hop : x.Op = 5) (hi : idx c.Instructions s.At = some x) : zd N c s = (if 0 ≤ x.A then (if x.A < (s.Registers.length : Int) then ((s.Registers[x.A.toNat]?).bind fun v => if 0 ≤ x.B then (if x.B < (s.Registers.length : Int) then ((s.Registers[x.B.toNat]?).bind fun w => (zgl N v w).bind fun r14 => (zc7 r14).bind fun r15 => some (0, updC s r15)) else none) else none) else none) else none).bind fun r => some (w6 (s.At + 1), r.1, r.2) := by
 unfold zd
 rw [hi, obs]
 clear hi
 cases x; cases hop; rfl
theorem zad8 (N : Nat) (hN : 20000 < N) (hc : CodeV m c) (hs : StV m c s) {x : HwInstruction} (hx : c.Instructions[s.At.toNat]? = some x) (hop : x.Op = 5) : zcb N m c s x := by
 have iv := zgz hc (lmg hx) hop (U := ⟨false, true, true, false, false, false, false, false, false, false, false, false, false, false, 0, 0⟩) rfl
 have hi : idx c.Instructions s.At = some x := by unfold idx; rw [ifp hs.at0, hx]
 have m8 := hc.m2
 have a0 := hs.at0
 have a1 := hs.at1
 have n240 := hc.len
 have wn1 : w6 (s.At + 1) = s.At + 1 := w6e (by omega) (by omega)
 unfold zcb
 rw [ex_5 s hop, hx_5 N _ hop, rx_5 N hop hi]
 obtain ⟨g1, g2, g3, g4, g5⟩ := zft hs (iv.b rfl)
 obtain ⟨f1, f2, f3, f4, f5⟩ := zft hs (iv.a rfl)
 refine .inr ⟨_, _, _, rfl, ?_, ?_, fun _ => ⟨rfl, by omega, by omega⟩, hs.updC (zow _), rfl, rfl, rfl⟩
 · rw [z09 N (by omega) hs x (iv.a rfl) (iv.b rfl)]; show some (w6 (s.At + 1), _) = _; rw [wn1]
 · rw [ifp f1, ifp f2, f3, obs, ifp g1, ifp g2, g3, obs, z2l N (by omega) f5 g5, obs, zqh]; show some (w6 (s.At + 1), _) = _; rw [wn1]; rfl
theorem zagi (s : HwState) {x : HwInstruction} (hop : x.Op = 21) : zeo s x = (.ok (s.At + 1, updR s x.R ⟨s.Exception, 0⟩)) := by
 cases x; cases hop; rfl
theorem zafx (N : Nat) (M : hardware_machine) {x : HwInstruction} (hop : x.Op = 21) : ze N M x = (zy M x.R ⟨M.HwState.Exception, 0⟩).bind fun r => some (w6 (r.HwState.At + 1), r) := by
 cases x; cases hop; rfl
theorem zaew (N : Nat) {x : HwInstruction} (hop : x.Op = 21) (hi : idx c.Instructions s.At = some x) : zd N c s = (if 0 ≤ x.R then (if x.R < (s.Registers.length : Int) then ((s.Registers[x.R.toNat]?).bind fun _ => some (0, updR s x.R ⟨s.Exception, 0⟩)) else none) else none).bind fun r => some (w6 (s.At + 1), r.1, r.2) := by
 unfold zd
 rw [hi, obs]
 clear hi
 cases x; cases hop; rfl
theorem zacc (N : Nat) (hN : 20000 < N) (hc : CodeV m c) (hs : StV m c s) {x : HwInstruction} (hx : c.Instructions[s.At.toNat]? = some x) (hop : x.Op = 21) : zcb N m c s x := by
 have iv := zgz hc (lmg hx) hop (U := ⟨true, false, false, false, false, false, false, false, false, false, false, false, false, false, 0, 0⟩) rfl
 have hi : idx c.Instructions s.At = some x := by unfold idx; rw [ifp hs.at0, hx]
 have m8 := hc.m2
 have a0 := hs.at0
 have a1 := hs.at1
 have n240 := hc.len
 have wn1 : w6 (s.At + 1) = s.At + 1 := w6e (by omega) (by omega)
 unfold zcb
 rw [zagi s hop, zafx N _ hop, zaew N hop hi]
 obtain ⟨g1, g2, g3, g4, g5⟩ := zft hs (iv.r rfl)
 have hn : zcw ⟨s.Exception, 0⟩ := by
  have := hs.ex0; have := hs.ex1; exact ⟨⟨by show -999999999999999 ≤ s.Exception; omega, by show s.Exception ≤ 999999999999999; omega⟩, by show (0 : Int) ≤ 0; omega, by show (0 : Int) ≤ 15; omega⟩
 refine .inr ⟨_, _, _, rfl, ?_, ?_, fun _ => ⟨rfl, by omega, by omega⟩, hs.updR hn, rfl, rfl, rfl⟩
 · rw [zvb hs m8 (iv.r rfl)]; show some (w6 (s.At + 1), _) = _; rw [wn1]
 · rw [ifp g1, ifp g2, g3]; show some (w6 (s.At + 1), _) = _; rw [wn1]
end
section
variable {m : HwModel} {c : HwCode} {s : HwState}
theorem z4t {op : Int} {a b : Number} {t : DataType} {half : Bool} (h : (zg1 op a b t half).2 = 0) : -((10 ^ t.Length.toNat : Nat) : Int) < (zg1 op a b t half).1.N ∧ (zg1 op a b t half).1.N < ((10 ^ t.Length.toNat : Nat) : Int) := by
 unfold zg1 at h ⊢
 by_cases h1 : (op = 3 ∨ op = 4) ∧ b.N = 0
 · rw [ifp h1] at h; cases h
 · rw [ifn h1] at h ⊢
   by_cases h2 : op = 0
   · rw [ifp h2] at h ⊢; exact zlq h
   · rw [ifn h2] at h ⊢
     by_cases h3 : op = 1
     · rw [ifp h3] at h ⊢; exact zlq h
     · rw [ifn h3] at h ⊢
       by_cases h4 : op = 2
       · rw [ifp h4] at h ⊢; exact zlq h
       · rw [ifn h4] at h ⊢
         by_cases h5 : op = 3
         · rw [ifp h5] at h ⊢; exact zlq h
         · rw [ifn h5] at h ⊢; exact zlq h
theorem zadh {t : DataType} (ht : zh7 t) {n : Int} (h : -((10 ^ t.Length.toNat : Nat) : Int) < n ∧ n < ((10 ^ t.Length.toNat : Nat) : Int)) : zcw ⟨n, t.Scale⟩ := by
 obtain ⟨⟨l1, l2⟩, l3, l4⟩ := zf4 ht
 have hpw : 10 ^ t.Length.toNat ≤ 10 ^ 15 := zbz (by omega)
 refine ⟨⟨?_, ?_⟩, l3, ?_⟩
 · show -999999999999999 ≤ n; omega
 · show n ≤ 999999999999999; omega
 · show t.Scale ≤ 15; omega
theorem z32 (N : Nat) (hN : 20000 < N) (hs : StV m c s) (m8 : m.Registers ≤ 8) {x : HwInstruction} (hr : 0 ≤ x.R ∧ x.R < m.Registers) (ha : 0 ≤ x.A ∧ x.A < m.Registers) (ht : zh7 x.Type_) (ho : 0 ≤ x.Calculation ∧ x.Calculation ≤ 4) {b : Number} (hb : zcw b) :
 (∃ e, (e = 3 ∨ e = 2) ∧ (if (zg1 x.Calculation (rg s x.A) b x.Type_ false).2 = 20 then (.error 3 : Except Int (Int × HwState)) else if (zg1 x.Calculation (rg s x.A) b x.Type_ false).2 ≠ 0 then .error 2 else .ok (s.At + 1, updR s x.R ⟨(zg1 x.Calculation (rg s x.A) b x.Type_ false).1.N, x.Type_.Scale⟩)) = .error e ∧
  ((zcg N x.Calculation (rg s x.A) b x.Type_ false).bind fun r3 => (zf ⟨s, c, 0⟩ (r3.2 == 20) 3).bind fun r4 => cond r4.1 ((zf r4.2 (r3.2 != 0) 2).bind fun r5 => cond r5.1 ((zy r5.2 x.R (⟨r3.1.N, x.Type_.Scale⟩ : Number)).bind fun r6 => some r6) (some r5.2)) (some r4.2)) = some ⟨s, c, e⟩ ∧
  ((zc9 N (⟨x.Calculation, x.Type_, false⟩ : ref01_Request) (rg s x.A) b).bind fun r19 => cond (r19.2 == 20) (some ((3 : Int), s)) (cond (r19.2 != 0) (some (2, s)) (if 0 ≤ x.R then (if x.R < (s.Registers.length : Int) then ((s.Registers[x.R.toNat]?).bind fun _ => some (0, updR s x.R ⟨r19.1.N, x.Type_.Scale⟩)) else none) else none))) = some (e, s)) ∨
 ∃ n, zcw n ∧ (if (zg1 x.Calculation (rg s x.A) b x.Type_ false).2 = 20 then (.error 3 : Except Int (Int × HwState)) else if (zg1 x.Calculation (rg s x.A) b x.Type_ false).2 ≠ 0 then .error 2 else .ok (s.At + 1, updR s x.R ⟨(zg1 x.Calculation (rg s x.A) b x.Type_ false).1.N, x.Type_.Scale⟩)) = .ok (s.At + 1, updR s x.R n) ∧
  ((zcg N x.Calculation (rg s x.A) b x.Type_ false).bind fun r3 => (zf ⟨s, c, 0⟩ (r3.2 == 20) 3).bind fun r4 => cond r4.1 ((zf r4.2 (r3.2 != 0) 2).bind fun r5 => cond r5.1 ((zy r5.2 x.R (⟨r3.1.N, x.Type_.Scale⟩ : Number)).bind fun r6 => some r6) (some r5.2)) (some r4.2)) = some ⟨updR s x.R n, c, 0⟩ ∧
  ((zc9 N (⟨x.Calculation, x.Type_, false⟩ : ref01_Request) (rg s x.A) b).bind fun r19 => cond (r19.2 == 20) (some ((3 : Int), s)) (cond (r19.2 != 0) (some (2, s)) (if 0 ≤ x.R then (if x.R < (s.Registers.length : Int) then ((s.Registers[x.R.toNat]?).bind fun _ => some (0, updR s x.R ⟨r19.1.N, x.Type_.Scale⟩)) else none) else none))) = some (0, updR s x.R n) := by
 obtain ⟨g1, g2, g3, g4, g5⟩ := zft hs hr
 obtain ⟨f1, f2, f3, f4, f5⟩ := zft hs ha
 rw [zabp N (by omega) ho f5 hb ht, zabf N (by omega) ho f5 hb ht]
 simp only [obs]
 rw [zhu _ _ _ _ (by decide)]
 simp only [obs, zam]
 by_cases h20 : (zg1 x.Calculation (rg s x.A) b x.Type_ false).2 = 20
 · left; rw [dct h20, ifp h20]; exact ⟨3, .inl rfl, rfl, rfl, rfl⟩
 · rw [dcf h20, ifn h20]; simp only [Bool.not_false, ctr, cfa]; rw [zhu _ _ _ _ (by decide)]; simp only [obs]
   by_cases h0 : (zg1 x.Calculation (rg s x.A) b x.Type_ false).2 = 0
   · right; have hn := zadh ht (z4t h0); rw [ifn (by rw [h0]; decide), h0]; refine ⟨_, hn, rfl, ?_, ?_⟩
     · simp only [bsf, Bool.not_false, ctr, cfa]; rw [zvb hs m8 hr]; rfl
     · simp only [bsf, cfa]; rw [ifp g1, ifp g2, g3]; rfl
   · left; rw [ifp h0, zcx, dct h0]; exact ⟨2, .inr rfl, rfl, rfl, rfl⟩
theorem ex_4 (s : HwState) {x : HwInstruction} (hop : x.Op = 4) : zeo s x = (match (if x.InStorage = true then zyf s.Storage x.Place x.Second else .ok (rg s x.B)) with
 | .error e => .error e
 | .ok b => if (zg1 x.Calculation (rg s x.A) b x.Type_ false).2 = 20 then .error 3 else if (zg1 x.Calculation (rg s x.A) b x.Type_ false).2 ≠ 0 then .error 2 else .ok (s.At + 1, updR s x.R ⟨(zg1 x.Calculation (rg s x.A) b x.Type_ false).1.N, x.Type_.Scale⟩)) := by
 cases x; cases hop; rfl
theorem hx_4 (N : Nat) (M : hardware_machine) {x : HwInstruction} (hop : x.Op = 4) : ze N M x = (cond x.InStorage ((zbi N M x.Place x.Second).bind fun r1 => cond (!r1.2.1) (some r1.2.2) ((idx r1.2.2.HwState.Registers x.A).bind fun x2 =>
 (zcg N x.Calculation x2 r1.1 x.Type_ false).bind fun r3 => (zf r1.2.2 (r3.2 == 20) 3).bind fun r4 =>
 cond r4.1 ((zf r4.2 (r3.2 != 0) 2).bind fun r5 => cond r5.1 ((zy r5.2 x.R (⟨r3.1.N, x.Type_.Scale⟩ : Number)).bind fun r6 => some r6)
 (some r5.2)) (some r4.2))) ((idx M.HwState.Registers x.B).bind fun x7 => (idx M.HwState.Registers x.A).bind fun x8 =>
 (zcg N x.Calculation x8 x7 x.Type_ false).bind fun r9 => (zf M (r9.2 == 20) 3).bind fun r10 =>
 cond r10.1 ((zf r10.2 (r9.2 != 0) 2).bind fun r11 => cond r11.1 ((zy r11.2 x.R (⟨r9.1.N, x.Type_.Scale⟩ : Number)).bind fun r12 =>
 some r12) (some r11.2)) (some r10.2))).bind fun r => some (w6 (r.HwState.At + 1), r) := by
 cases x; cases hop; rfl
theorem rx_4 (N : Nat) {x : HwInstruction} (hop : x.Op = 4) (hi : idx c.Instructions s.At = some x) : zd N c s = (cond x.InStorage ((zfx N s x.Place x.Second).bind fun r17 => cond (r17.2 != 0) (some (r17.2, s))
 (if 0 ≤ x.A then (if x.A < (s.Registers.length : Int) then ((s.Registers[x.A.toNat]?).bind fun x18 =>
 (zc9 N (⟨x.Calculation, x.Type_, false⟩ : ref01_Request) x18 r17.1).bind fun r19 => cond (r19.2 == 20) (some (3, s)) (cond (r19.2 != 0) (some (2, s)) (if 0 ≤ x.R then (if x.R < (s.Registers.length : Int) then ((s.Registers[x.R.toNat]?).bind fun _ => some (0, updR s x.R ⟨r19.1.N, x.Type_.Scale⟩)) else none) else none))) else none) else none))
 (if 0 ≤ x.B then (if x.B < (s.Registers.length : Int) then ((s.Registers[x.B.toNat]?).bind fun x21 =>
 if 0 ≤ x.A then (if x.A < (s.Registers.length : Int) then ((s.Registers[x.A.toNat]?).bind fun x22 =>
 (zc9 N (⟨x.Calculation, x.Type_, false⟩ : ref01_Request) x22 x21).bind fun r19 => cond (r19.2 == 20) (some (3, s)) (cond (r19.2 != 0) (some (2, s)) (if 0 ≤ x.R then (if x.R < (s.Registers.length : Int) then ((s.Registers[x.R.toNat]?).bind fun _ => some (0, updR s x.R ⟨r19.1.N, x.Type_.Scale⟩)) else none) else none))) else none) else none) else none) else none)).bind fun r => some (w6 (s.At + 1), r.1, r.2) := by
 unfold zd
 rw [hi, obs]
 clear hi
 cases x; cases hop; rfl
theorem zad9 (N : Nat) (hN : 20000 < N) (hc : CodeV m c) (hs : StV m c s) {x : HwInstruction} (hx : c.Instructions[s.At.toNat]? = some x) (hop : x.Op = 4) : zcb N m c s x := by
 have hi : idx c.Instructions s.At = some x := by unfold idx; rw [ifp hs.at0, hx]
 have m8 := hc.m2
 have a0 := hs.at0
 have a1 := hs.at1
 have n240 := hc.len
 have wn1 : w6 (s.At + 1) = s.At + 1 := w6e (by omega) (by omega)
 unfold zcb
 rw [ex_4 s hop, hx_4 N _ hop, rx_4 N hop hi]
 by_cases hst : x.InStorage = true
 · have iv := zgz hc (lmg hx) hop (U := ⟨true, true, false, true, false, false, false, true, false, false, false, false, false, false, 1, 1⟩) (by rw [hst]; rfl); obtain ⟨f1, f2, f3, f4, f5⟩ := zft hs (iv.a rfl); have hp : zcf s.Storage x.Place (szE x.Second) = true := by rw [zgo hs.size]; have := iv.pl rfl; unfold zgf at this; rw [ifp hop] at this; exact this
   rw [hst]; simp only [ctr, if_true]; rcases z2z N (by omega) s c hs.sto (iv.se1 rfl) hp with ⟨e, b, k, he, h1, h2, h3⟩ | ⟨n, h1, h2, h3, h4⟩
   · rw [h1, h2, h3]; refine .inl ⟨e, _, w6 (s.At + 1), s, rfl, by omega, rfl, ?_⟩; rcases he with rfl | rfl | rfl <;> rfl
   · rw [h1, h2, h3]; simp only [obs, Bool.not_true, cfa, bsf]; rw [f4, ifp f1, ifp f2, f3]; simp only [obs]; rcases z32 (c := c) N hN hs m8 (iv.r rfl) (iv.a rfl) (iv.ty1 rfl) (iv.ca rfl) h4 with ⟨e, he, k1, k2, k3⟩ | ⟨n, hn, k1, k2, k3⟩
     · rw [k1, k2, k3]; exact .inl ⟨e, _, w6 (s.At + 1), s, rfl, by omega, rfl, rfl⟩
     · rw [k1, k2, k3]; refine .inr ⟨_, _, _, rfl, ?_, ?_, fun _ => ⟨rfl, by omega, by omega⟩, hs.updR hn, rfl, rfl, rfl⟩
       · show some (w6 (s.At + 1), _) = _; rw [wn1]
       · show some (w6 (s.At + 1), _) = _; rw [wn1]
 · have hst' : x.InStorage = false := by simpa using hst
   have iv := zgz hc (lmg hx) hop (U := ⟨true, true, true, false, false, false, false, true, false, false, false, false, false, false, 1, 0⟩) (by rw [hst']; rfl); obtain ⟨f1, f2, f3, f4, f5⟩ := zft hs (iv.a rfl); obtain ⟨b1, b2, b3, b4, b5⟩ := zft hs (iv.b rfl); rw [hst']; simp only [cfa, Bool.false_eq_true, if_false]; rw [b4, obs, f4, ifp b1, ifp b2, b3]; simp only [obs]; rw [ifp f1, ifp f2, f3]; simp only [obs]; rcases z32 (c := c) N hN hs m8 (iv.r rfl) (iv.a rfl) (iv.ty1 rfl) (iv.ca rfl) b5 with ⟨e, he, k1, k2, k3⟩ | ⟨n, hn, k1, k2, k3⟩
   · rw [k1, k2, k3]; exact .inl ⟨e, _, w6 (s.At + 1), s, rfl, by omega, rfl, rfl⟩
   · rw [k1, k2, k3]; refine .inr ⟨_, _, _, rfl, ?_, ?_, fun _ => ⟨rfl, by omega, by omega⟩, hs.updR hn, rfl, rfl, rfl⟩
     · show some (w6 (s.At + 1), _) = _; rw [wn1]
     · show some (w6 (s.At + 1), _) = _; rw [wn1]
theorem ex_6 (s : HwState) {x : HwInstruction} (hop : x.Op = 6) : zeo s x = (.ok (cond (zh .i64 s.Condition x.Mask != 0) x.Target (s.At + 1), s)) := by
 cases x; cases hop; rfl
theorem hx_6 (N : Nat) (M : hardware_machine) {x : HwInstruction} (hop : x.Op = 6) : ze N M x = (cond ((zh .i64 M.HwState.Condition x.Mask) != 0) (some (x.Target, M)) (some ((w6 (M.HwState.At + 1)), M))).bind fun r => some (r.1, r.2) := by
 cases x; cases hop; rfl
theorem rx_6 (N : Nat) {x : HwInstruction} (hop : x.Op = 6) (hi : idx c.Instructions s.At = some x) : zd N c s = cond ((zh .i64 x.Mask s.Condition) != 0) (some (x.Target, 0, s)) (some ((w6 (s.At + 1)), 0, s)) := by
 unfold zd
 rw [hi, obs]
 clear hi
 cases x; cases hop; rfl
theorem zad7 (N : Nat) (hN : 20000 < N) (hc : CodeV m c) (hs : StV m c s) {x : HwInstruction} (hx : c.Instructions[s.At.toNat]? = some x) (hop : x.Op = 6) : zcb N m c s x := by
 have iv := zgz hc (lmg hx) hop (U := ⟨false, false, false, false, false, false, false, false, true, true, false, false, false, false, 0, 0⟩) rfl
 have hi : idx c.Instructions s.At = some x := by unfold idx; rw [ifp hs.at0, hx]
 have m8 := hc.m2
 have a0 := hs.at0
 have a1 := hs.at1
 have n240 := hc.len
 have wn1 : w6 (s.At + 1) = s.At + 1 := w6e (by omega) (by omega)
 unfold zcb
 rw [ex_6 s hop, hx_6 N _ hop, rx_6 N hop hi]
 have ht := iv.tg rfl
 rw [z1k x.Mask s.Condition]
 simp only [wn1]
 cases (zh .i64 s.Condition x.Mask != 0) with
 | true => exact .inr ⟨_, _, _, rfl, rfl, rfl, fun _ => ⟨rfl, by show 0 ≤ x.Target; omega, by show x.Target ≤ _; omega⟩, hs, rfl, rfl, rfl⟩
 | false => exact .inr ⟨_, _, _, rfl, rfl, rfl, fun _ => ⟨rfl, by show 0 ≤ s.At + 1; omega, by show s.At + 1 ≤ _; omega⟩, hs, rfl, rfl, rfl⟩
theorem ex_7 (s : HwState) {x : HwInstruction} (hop : x.Op = 7) : zeo s x = (.ok (cond (zh .i64 (zqi s x.A x.B) x.Mask != 0) x.Target (s.At + 1), s)) := by
 cases x; cases hop; rfl
theorem hx_7 (N : Nat) (M : hardware_machine) {x : HwInstruction} (hop : x.Op = 7) : ze N M x = ((zao N M x).bind fun r3 => cond ((zh .i64 r3 x.Mask) != 0) (some (x.Target, M)) (some ((w6 (M.HwState.At + 1)), M))).bind fun r => some (r.1, r.2) := by
 cases x; cases hop; rfl
theorem rx_7 (N : Nat) {x : HwInstruction} (hop : x.Op = 7) (hi : idx c.Instructions s.At = some x) : zd N c s = if 0 ≤ x.A then (if x.A < (s.Registers.length : Int) then ((s.Registers[x.A.toNat]?).bind fun x2 =>
 if 0 ≤ x.B then (if x.B < (s.Registers.length : Int) then ((s.Registers[x.B.toNat]?).bind fun x3 => (zgl N x2 x3).bind fun r4 => (zc7 r4).bind fun r5 =>
 cond ((zh .i64 x.Mask r5) != 0) (some (x.Target, 0, s)) (some ((w6 (s.At + 1)), 0, s))) else none) else none) else none) else none := by
 unfold zd
 rw [hi, obs]
 clear hi
 cases x; cases hop; rfl
theorem zad6 (N : Nat) (hN : 20000 < N) (hc : CodeV m c) (hs : StV m c s) {x : HwInstruction} (hx : c.Instructions[s.At.toNat]? = some x) (hop : x.Op = 7) : zcb N m c s x := by
 have iv := zgz hc (lmg hx) hop (U := ⟨false, true, true, false, false, false, false, false, true, true, false, false, false, false, 0, 0⟩) rfl
 have hi : idx c.Instructions s.At = some x := by unfold idx; rw [ifp hs.at0, hx]
 have m8 := hc.m2
 have a0 := hs.at0
 have a1 := hs.at1
 have n240 := hc.len
 have wn1 : w6 (s.At + 1) = s.At + 1 := w6e (by omega) (by omega)
 unfold zcb
 rw [ex_7 s hop, hx_7 N _ hop, rx_7 N hop hi]
 have ht := iv.tg rfl
 obtain ⟨g1, g2, g3, g4, g5⟩ := zft hs (iv.b rfl)
 obtain ⟨f1, f2, f3, f4, f5⟩ := zft hs (iv.a rfl)
 rw [z09 N (by omega) hs x (iv.a rfl) (iv.b rfl), ifp f1, ifp f2, f3, obs, obs, ifp g1, ifp g2, g3, obs, z2l N (by omega) f5 g5, obs, zqh, obs]
 rw [show zno (z0h (zac (rg s x.A) (zi (rg s x.A) (rg s x.B))) (zac (rg s x.B) (zi (rg s x.A) (rg s x.B)))) = zqi s x.A x.B from rfl, z1k x.Mask]
 simp only [wn1]
 cases (zh .i64 (zqi s x.A x.B) x.Mask != 0) with
 | true => exact .inr ⟨_, _, _, rfl, rfl, rfl, fun _ => ⟨rfl, by show 0 ≤ x.Target; omega, by show x.Target ≤ _; omega⟩, hs, rfl, rfl, rfl⟩
 | false => exact .inr ⟨_, _, _, rfl, rfl, rfl, fun _ => ⟨rfl, by show 0 ≤ s.At + 1; omega, by show s.At + 1 ≤ _; omega⟩, hs, rfl, rfl, rfl⟩
theorem ex_8 (s : HwState) {x : HwInstruction} (hop : x.Op = 8) : zeo s x = (.ok (x.Target, s)) := by
 cases x; cases hop; rfl
theorem hx_8 (N : Nat) (M : hardware_machine) {x : HwInstruction} (hop : x.Op = 8) : ze N M x = some (x.Target, M) := by
 cases x; cases hop; rfl
theorem rx_8 (N : Nat) {x : HwInstruction} (hop : x.Op = 8) (hi : idx c.Instructions s.At = some x) : zd N c s = some (x.Target, 0, s) := by
 unfold zd
 rw [hi, obs]
 clear hi
 cases x; cases hop; rfl
theorem zad5 (N : Nat) (hN : 20000 < N) (hc : CodeV m c) (hs : StV m c s) {x : HwInstruction} (hx : c.Instructions[s.At.toNat]? = some x) (hop : x.Op = 8) : zcb N m c s x := by
 have iv := zgz hc (lmg hx) hop (U := ⟨false, false, false, false, false, false, false, false, false, true, false, false, false, false, 0, 0⟩) rfl
 have hi : idx c.Instructions s.At = some x := by unfold idx; rw [ifp hs.at0, hx]
 have m8 := hc.m2
 have a0 := hs.at0
 have a1 := hs.at1
 have n240 := hc.len
 have wn1 : w6 (s.At + 1) = s.At + 1 := w6e (by omega) (by omega)
 unfold zcb
 rw [ex_8 s hop, hx_8 N _ hop, rx_8 N hop hi]
 have ht := iv.tg rfl
 exact .inr ⟨_, _, _, rfl, rfl, rfl, fun _ => ⟨rfl, by omega, by omega⟩, hs, rfl, rfl, rfl⟩
theorem z23 (N : Nat) (hN : 20000 < N) (hc : CodeV m c) (hs : StV m c s) {p : HwPlace} {t : DataType} (ht : zdk t = 0) (hk : t.Kind = 0) (hp : zcf s.Storage p (szE t) = true) (b : ByteArray) (hb : b.size ≤ 5000) :
 (∃ e, (e = 4 ∨ e = 5) ∧ zk0 s.Storage p (szE t) = .error e ∧
  ((zdv b t.Length).bind fun r4 => if 0 ≤ t.Length ∧ t.Length ≤ (r4.size : Int) then (if 0 ≤ (0 : Int) ∧ (0 : Int) ≤ t.Length then ((za4 N ⟨s, c, 0⟩ p (r4.extract (0 : Int).toNat t.Length.toNat)).bind fun r5 => some r5) else none) else none) = some ⟨s, c, e⟩ ∧
  (((zbl N s p (szE t)).bind fun r12 => cond (r12.2 != 0) (some (r12.2, s)) ((zdy N b (szE t)).bind fun r13 => (za6 N s.Storage r12.1 r13).bind fun r14 => some (0, updS s r14))) = some (e, s))) ∨
 ∃ a, zk0 s.Storage p (szE t) = .ok a ∧ StV m c (updS s (wrV s.Storage a.toNat (zkd b t.Length.toNat))) ∧
  ((zdv b t.Length).bind fun r4 => if 0 ≤ t.Length ∧ t.Length ≤ (r4.size : Int) then (if 0 ≤ (0 : Int) ∧ (0 : Int) ≤ t.Length then ((za4 N ⟨s, c, 0⟩ p (r4.extract (0 : Int).toNat t.Length.toNat)).bind fun r5 => some r5) else none) else none) = some ⟨updS s (wrV s.Storage a.toNat (zkd b t.Length.toNat)), c, 0⟩ ∧
  (((zbl N s p (szE t)).bind fun r12 => cond (r12.2 != 0) (some (r12.2, s)) ((zdy N b (szE t)).bind fun r13 => (za6 N s.Storage r12.1 r13).bind fun r14 => some (0, updS s r14))) = some (0, updS s (wrV s.Storage a.toNat (zkd b t.Length.toNat)))) := by
 have hsz := zjv ht
 have hle : szE t = t.Length := by unfold szE; rw [ifn (by omega), ifn (by omega), ifn (by omega)]
 have hL : t.Length = ((t.Length.toNat : Nat) : Int) := by omega
 have hpad := z3e b hb t.Length.toNat (by omega)
 rw [← hL] at hpad
 rw [hpad, obs]
 have hps : (⟨(bl b ++ List.replicate (t.Length.toNat - b.size) 32).toArray⟩ : ByteArray).size = b.size + (t.Length.toNat - b.size) := by
  show (bl b ++ List.replicate (t.Length.toNat - b.size) 32).length = _; rw [lna, List.length_replicate, zad]
 rw [ifp ⟨by omega, by rw [hps]; omega⟩, ifp (by omega), show (0 : Int).toNat = 0 from rfl, z8e]
 have hrp : zdy N b (szE t) = some (zkd b t.Length.toNat) := by
  have h := zuq N (by omega) b hb t.Length.toNat (by omega); rw [← hL] at h; rw [hle]; exact h
 unfold za4
 have hpz : ((zkd b t.Length.toNat).size : Int) = szE t := by rw [zu2]; omega
 rw [hpz]
 rcases zrk N (by omega) s c hs.sto hp hsz.1 hsz.2 with ⟨e, j, k, he, h1, h2, h3⟩ | ⟨a, h1, h2, h3, h4, h5⟩
 · left; rw [h1, h2, h3]; refine ⟨e, he, rfl, rfl, ?_⟩; rcases he with rfl | rfl <;> rfl
 · right; rw [h1, h2, h3]; obtain ⟨a, rfl⟩ : ∃ k : Nat, a = (k : Int) := ⟨a.toNat, by omega⟩; have hw : a + (zkd b t.Length.toNat).size ≤ s.Storage.Bytes.size := by omega
   have hw0 : 0 < (zkd b t.Length.toNat).size := by omega
   refine ⟨_, rfl, hs.updS (z1w hs.sto hw hw0) (zsp hw), ?_, ?_⟩
   · simp only [obs, ctr]; rw [z1y N (by omega) hs.sto hw hw0]; rfl
   · simp only [obs, bsf, cfa]; rw [hrp]; simp only [obs]; rw [zx2 N (by omega) hs.sto hw hw0]; rfl
theorem ex_9 (s : HwState) {x : HwInstruction} (hop : x.Op = 9) : zeo s x = (match zkz s.Storage x.From x.Second with
 | .error e => .error e
 | .ok b => match zk0 s.Storage x.Place (szE x.Type_) with | .error e => .error e | .ok a => .ok (s.At + 1, updS s (wrV s.Storage a.toNat (zkd b x.Type_.Length.toNat)))) := by
 cases x; cases hop; rfl
theorem hx_9 (N : Nat) (M : hardware_machine) {x : HwInstruction} (hop : x.Op = 9) : ze N M x = ((zr N M x.From x.Second).bind fun r1 => cond r1.2.1 ((zdv r1.1 x.Type_.Length).bind fun r4 => if 0 ≤ x.Type_.Length ∧ x.Type_.Length ≤ (r4.size : Int) then (if 0 ≤ (0 : Int) ∧ (0 : Int) ≤ x.Type_.Length then ((za4 N r1.2.2 x.Place (r4.extract (0 : Int).toNat x.Type_.Length.toNat)).bind fun r5 => some r5) else none) else none) (some r1.2.2)).bind fun r => some (w6 (r.HwState.At + 1), r) := by
 cases x; cases hop; rfl
theorem rx_9 (N : Nat) {x : HwInstruction} (hop : x.Op = 9) (hi : idx c.Instructions s.At = some x) : zd N c s = ((zau x.Type_).bind fun r1 => (zcu N s x.From x.Second).bind fun r8 => cond (r8.2 != 0) (some (r8.2, s)) ((zbl N s x.Place r1).bind fun r12 => cond (r12.2 != 0) (some (r12.2, s)) ((zdy N r8.1 r1).bind fun r13 => (za6 N s.Storage r12.1 r13).bind fun r14 => some (0, updS s r14)))).bind fun r => some (w6 (s.At + 1), r.1, r.2) := by
 unfold zd
 rw [hi, obs]
 clear hi
 cases x; cases hop; rfl
theorem zad4 (N : Nat) (hN : 20000 < N) (hc : CodeV m c) (hs : StV m c s) {x : HwInstruction} (hx : c.Instructions[s.At.toNat]? = some x) (hop : x.Op = 9) : zcb N m c s x := by
 have iv := zgz hc (lmg hx) hop (U := ⟨false, false, false, true, true, false, false, false, false, false, false, false, false, false, 2, 2⟩) rfl
 have hi : idx c.Instructions s.At = some x := by unfold idx; rw [ifp hs.at0, hx]
 have m8 := hc.m2
 have a0 := hs.at0
 have a1 := hs.at1
 have n240 := hc.len
 have wn1 : w6 (s.At + 1) = s.At + 1 := w6e (by omega) (by omega)
 unfold zcb
 rw [ex_9 s hop, hx_9 N _ hop, rx_9 N hop hi]
 have hp : zcf s.Storage x.Place (szE x.Type_) = true := by rw [zgo hs.size]; have := iv.pl rfl; unfold zgf at this; rw [ifn (by omega)] at this; exact this
 have hf : zcf s.Storage x.From (szE x.Second) = true := by rw [zgo hs.size]; exact iv.fr rfl
 rw [zi3 (iv.ty2 rfl).1, obs]
 have hz2 := zjv (iv.se2 rfl).1
 rcases zmt N (by omega) s c hs.sto (iv.se2 rfl).1 hf with ⟨e, b, k, he, h1, h2, h3⟩ | ⟨b, h1, h2, h3, h4⟩
 · rw [h1, h2, h3]; refine .inl ⟨e, _, w6 (s.At + 1), s, rfl, by omega, rfl, ?_⟩; rcases he with rfl | rfl <;> rfl
 · rw [h1, h2, h3]; simp only [obs, ctr, bsf, cfa]; rcases z23 N hN hc hs (iv.ty2 rfl).1 (iv.ty2 rfl).2 hp b (by omega) with ⟨e, he, k1, k2, k3⟩ | ⟨a, k1, k4, k2, k3⟩
   · rw [k1, k2, k3]; exact .inl ⟨e, _, w6 (s.At + 1), s, rfl, by omega, rfl, rfl⟩
   · rw [k1, k2, k3]; refine .inr ⟨_, _, _, rfl, ?_, ?_, fun _ => ⟨rfl, by omega, by omega⟩, k4, rfl, rfl, rfl⟩
     · show some (w6 (s.At + 1), _) = _; rw [wn1]
     · show some (w6 (s.At + 1), _) = _; rw [wn1]
theorem zagt (s : HwState) {x : HwInstruction} (hop : x.Op = 10) : zeo s x = (match zk0 s.Storage x.Place (szE x.Type_) with | .error e => .error e | .ok a => .ok (s.At + 1, updS s (wrV s.Storage a.toNat (zkd x.Text x.Type_.Length.toNat)))) := by
 cases x; cases hop; rfl
theorem zaf8 (N : Nat) (M : hardware_machine) {x : HwInstruction} (hop : x.Op = 10) : ze N M x = ((zdv x.Text x.Type_.Length).bind fun r4 => if 0 ≤ x.Type_.Length ∧ x.Type_.Length ≤ (r4.size : Int) then (if 0 ≤ (0 : Int) ∧ (0 : Int) ≤ x.Type_.Length then ((za4 N M x.Place (r4.extract (0 : Int).toNat x.Type_.Length.toNat)).bind fun r5 => some r5) else none) else none).bind fun r => some (w6 (r.HwState.At + 1), r) := by
 cases x; cases hop; rfl
theorem zae7 (N : Nat) {x : HwInstruction} (hop : x.Op = 10) (hi : idx c.Instructions s.At = some x) : zd N c s = ((zau x.Type_).bind fun r1 => (zbl N s x.Place r1).bind fun r12 => cond (r12.2 != 0) (some (r12.2, s)) ((zdy N x.Text r1).bind fun r13 => (za6 N s.Storage r12.1 r13).bind fun r14 => some (0, updS s r14))).bind fun r => some (w6 (s.At + 1), r.1, r.2) := by
 unfold zd
 rw [hi, obs]
 clear hi
 cases x; cases hop; rfl
theorem zacn (N : Nat) (hN : 20000 < N) (hc : CodeV m c) (hs : StV m c s) {x : HwInstruction} (hx : c.Instructions[s.At.toNat]? = some x) (hop : x.Op = 10) : zcb N m c s x := by
 have iv := zgz hc (lmg hx) hop (U := ⟨false, false, false, true, false, false, false, false, false, false, true, false, false, false, 2, 0⟩) rfl
 have hi : idx c.Instructions s.At = some x := by unfold idx; rw [ifp hs.at0, hx]
 have m8 := hc.m2
 have a0 := hs.at0
 have a1 := hs.at1
 have n240 := hc.len
 have wn1 : w6 (s.At + 1) = s.At + 1 := w6e (by omega) (by omega)
 unfold zcb
 rw [zagt s hop, zaf8 N _ hop, zae7 N hop hi]
 have hp : zcf s.Storage x.Place (szE x.Type_) = true := by rw [zgo hs.size]; have := iv.pl rfl; unfold zgf at this; rw [ifn (by omega)] at this; exact this
 have htx := iv.tx
 rw [zi3 (iv.ty2 rfl).1, obs]
 rcases z23 N hN hc hs (iv.ty2 rfl).1 (iv.ty2 rfl).2 hp x.Text (by omega) with ⟨e, he, k1, k2, k3⟩ | ⟨a, k1, k4, k2, k3⟩
 · rw [k1, k2, k3]; exact .inl ⟨e, _, w6 (s.At + 1), s, rfl, by omega, rfl, rfl⟩
 · rw [k1, k2, k3]; refine .inr ⟨_, _, _, rfl, ?_, ?_, fun _ => ⟨rfl, by omega, by omega⟩, k4, rfl, rfl, rfl⟩
   · show some (w6 (s.At + 1), _) = _; rw [wn1]
   · show some (w6 (s.At + 1), _) = _; rw [wn1]
theorem zags (s : HwState) {x : HwInstruction} (hop : x.Op = 11) : zeo s x = (match zkz s.Storage x.Place x.Type_ with
 | .error e => .error e
 | .ok a => match zkz s.Storage x.From x.Second with | .error e => .error e | .ok b => .ok (s.At + 1, updC s (zm5 a b))) := by
 cases x; cases hop; rfl
theorem zaf7 (N : Nat) (M : hardware_machine) {x : HwInstruction} (hop : x.Op = 11) : ze N M x = ((zr N M x.Place x.Type_).bind fun r1 => (cond r1.2.1 (some true) (some false)).bind fun g2 => cond g2 ((zr N r1.2.2 x.From x.Second).bind fun r3 => cond r3.2.1 ((zck r1.1 r3.1).bind fun r4 => some (⟨updC r3.2.2.HwState r4, r3.2.2.code, r3.2.2.raised⟩ : hardware_machine)) (some r3.2.2)) (cond r1.2.1 ((zck r1.1 x.Text).bind fun r5 => some (⟨updC r1.2.2.HwState r5, r1.2.2.code, r1.2.2.raised⟩ : hardware_machine)) (some r1.2.2))).bind fun r => some (w6 (r.HwState.At + 1), r) := by
 cases x; cases hop; rfl
theorem zae6 (N : Nat) {x : HwInstruction} (hop : x.Op = 11) (hi : idx c.Instructions s.At = some x) : zd N c s = ((zau x.Type_).bind fun r1 => (zcu N s x.Place x.Type_).bind fun r5 => cond (r5.2 != 0) (some (r5.2, s)) ((zcu N s x.From x.Second).bind fun r6 => cond (r6.2 != 0) (some (r6.2, s)) ((zfw N r5.1 r6.1).bind fun r7 => some (0, updC s r7)))).bind fun r => some (w6 (s.At + 1), r.1, r.2) := by
 unfold zd
 rw [hi, obs]
 clear hi
 cases x; cases hop; rfl
theorem zacm (N : Nat) (hN : 20000 < N) (hc : CodeV m c) (hs : StV m c s) {x : HwInstruction} (hx : c.Instructions[s.At.toNat]? = some x) (hop : x.Op = 11) : zcb N m c s x := by
 have iv := zgz hc (lmg hx) hop (U := ⟨false, false, false, true, true, false, false, false, false, false, false, false, false, false, 2, 2⟩) rfl
 have hi : idx c.Instructions s.At = some x := by unfold idx; rw [ifp hs.at0, hx]
 have m8 := hc.m2
 have a0 := hs.at0
 have a1 := hs.at1
 have n240 := hc.len
 have wn1 : w6 (s.At + 1) = s.At + 1 := w6e (by omega) (by omega)
 unfold zcb
 rw [zags s hop, zaf7 N _ hop, zae6 N hop hi]
 have hp : zcf s.Storage x.Place (szE x.Type_) = true := by rw [zgo hs.size]; have := iv.pl rfl; unfold zgf at this; rw [ifn (by omega)] at this; exact this
 have hf : zcf s.Storage x.From (szE x.Second) = true := by rw [zgo hs.size]; exact iv.fr rfl
 rw [zi3 (iv.ty2 rfl).1, obs]
 have hz1 := zjv (iv.ty2 rfl).1
 have hz2 := zjv (iv.se2 rfl).1
 rcases zmt N (by omega) s c hs.sto (iv.ty2 rfl).1 hp with ⟨e, b, k, he, h1, h2, h3⟩ | ⟨b, h1, h2, h3, h4⟩
 · rw [h1, h2, h3]; refine .inl ⟨e, _, w6 (s.At + 1), s, rfl, by omega, rfl, ?_⟩; rcases he with rfl | rfl <;> rfl
 · rw [h1, h2, h3]; simp only [obs, ctr, bsf, cfa]; rcases zmt N (by omega) s c hs.sto (iv.se2 rfl).1 hf with ⟨e, d, k, he, k1, k2, k3⟩ | ⟨d, k1, k2, k3, k4⟩
   · rw [k1, k2, k3]; refine .inl ⟨e, _, w6 (s.At + 1), s, rfl, by omega, rfl, ?_⟩; rcases he with rfl | rfl <;> rfl
   · rw [k1, k2, k3]; refine .inr ⟨_, _, _, rfl, ?_, ?_, fun _ => ⟨rfl, by omega, by omega⟩, hs.updC (zow _), rfl, rfl, rfl⟩
     · simp only [obs, ctr]; rw [zyn b d (by omega) (by omega)]; show some (w6 (s.At + 1), _) = _; rw [wn1]
     · simp only [obs, bsf, cfa]; rw [zx3 N (by omega) b d (by omega) (by omega)]; show some (w6 (s.At + 1), _) = _; rw [wn1]
theorem zagr (s : HwState) {x : HwInstruction} (hop : x.Op = 12) : zeo s x = (match zkz s.Storage x.Place x.Type_ with | .error e => .error e | .ok a => .ok (s.At + 1, updC s (zm5 a x.Text))) := by
 cases x; cases hop; rfl
theorem zaf6 (N : Nat) (M : hardware_machine) {x : HwInstruction} (hop : x.Op = 12) : ze N M x = ((zr N M x.Place x.Type_).bind fun r1 => (cond r1.2.1 (some false) (some false)).bind fun g2 => cond g2 ((zr N r1.2.2 x.From x.Second).bind fun r3 => cond r3.2.1 ((zck r1.1 r3.1).bind fun r4 => some (⟨updC r3.2.2.HwState r4, r3.2.2.code, r3.2.2.raised⟩ : hardware_machine)) (some r3.2.2)) (cond r1.2.1 ((zck r1.1 x.Text).bind fun r5 => some (⟨updC r1.2.2.HwState r5, r1.2.2.code, r1.2.2.raised⟩ : hardware_machine)) (some r1.2.2))).bind fun r => some (w6 (r.HwState.At + 1), r) := by
 cases x; cases hop; rfl
theorem zae5 (N : Nat) {x : HwInstruction} (hop : x.Op = 12) (hi : idx c.Instructions s.At = some x) : zd N c s = ((zau x.Type_).bind fun r1 => (zcu N s x.Place x.Type_).bind fun r5 => cond (r5.2 != 0) (some (r5.2, s)) ((zfw N r5.1 x.Text).bind fun r7 => some (0, updC s r7))).bind fun r => some (w6 (s.At + 1), r.1, r.2) := by
 unfold zd
 rw [hi, obs]
 clear hi
 cases x; cases hop; rfl
theorem zacl (N : Nat) (hN : 20000 < N) (hc : CodeV m c) (hs : StV m c s) {x : HwInstruction} (hx : c.Instructions[s.At.toNat]? = some x) (hop : x.Op = 12) : zcb N m c s x := by
 have iv := zgz hc (lmg hx) hop (U := ⟨false, false, false, true, false, false, false, false, false, false, true, false, false, false, 2, 0⟩) rfl
 have hi : idx c.Instructions s.At = some x := by unfold idx; rw [ifp hs.at0, hx]
 have m8 := hc.m2
 have a0 := hs.at0
 have a1 := hs.at1
 have n240 := hc.len
 have wn1 : w6 (s.At + 1) = s.At + 1 := w6e (by omega) (by omega)
 unfold zcb
 rw [zagr s hop, zaf6 N _ hop, zae5 N hop hi]
 have hp : zcf s.Storage x.Place (szE x.Type_) = true := by rw [zgo hs.size]; have := iv.pl rfl; unfold zgf at this; rw [ifn (by omega)] at this; exact this
 rw [zi3 (iv.ty2 rfl).1, obs]
 have hz1 := zjv (iv.ty2 rfl).1
 have htx := iv.tx
 rcases zmt N (by omega) s c hs.sto (iv.ty2 rfl).1 hp with ⟨e, b, k, he, h1, h2, h3⟩ | ⟨b, h1, h2, h3, h4⟩
 · rw [h1, h2, h3]; refine .inl ⟨e, _, w6 (s.At + 1), s, rfl, by omega, rfl, ?_⟩; rcases he with rfl | rfl <;> rfl
 · rw [h1, h2, h3]; refine .inr ⟨_, _, _, rfl, ?_, ?_, fun _ => ⟨rfl, by omega, by omega⟩, hs.updC (zow _), rfl, rfl, rfl⟩
   · simp only [obs, ctr, cfa]; rw [zyn b x.Text (by omega) (by omega)]; show some (w6 (s.At + 1), _) = _; rw [wn1]
   · simp only [obs, bsf, cfa]; rw [zx3 N (by omega) b x.Text (by omega) (by omega)]; show some (w6 (s.At + 1), _) = _; rw [wn1]
theorem zagq (s : HwState) {x : HwInstruction} (hop : x.Op = 13) : zeo s x = (.ok (s.At + 1, updC s (zm5 x.Text x.Other))) := by
 cases x; cases hop; rfl
theorem zaf5 (N : Nat) (M : hardware_machine) {x : HwInstruction} (hop : x.Op = 13) : ze N M x = (zck x.Text x.Other).bind fun r => some (w6 (M.HwState.At + 1), ⟨updC M.HwState r, M.code, M.raised⟩) := by
 cases x; cases hop; rfl
theorem zae4 (N : Nat) {x : HwInstruction} (hop : x.Op = 13) (hi : idx c.Instructions s.At = some x) : zd N c s = ((zau x.Type_).bind fun r1 => (zfw N x.Text x.Other).bind fun r2 => some (0, updC s r2)).bind fun r => some (w6 (s.At + 1), r.1, r.2) := by
 unfold zd
 rw [hi, obs]
 clear hi
 cases x; cases hop; rfl
theorem zack (N : Nat) (hN : 20000 < N) (hc : CodeV m c) (hs : StV m c s) {x : HwInstruction} (hx : c.Instructions[s.At.toNat]? = some x) (hop : x.Op = 13) : zcb N m c s x := by
 have iv := zgz hc (lmg hx) hop (U := ⟨false, false, false, false, false, false, false, false, false, false, true, true, false, false, 0, 0⟩) rfl
 have hi : idx c.Instructions s.At = some x := by unfold idx; rw [ifp hs.at0, hx]
 have m8 := hc.m2
 have a0 := hs.at0
 have a1 := hs.at1
 have n240 := hc.len
 have wn1 : w6 (s.At + 1) = s.At + 1 := w6e (by omega) (by omega)
 unfold zcb
 rw [zagq s hop, zaf5 N _ hop, zae4 N hop hi]
 have htx := iv.tx
 have hot := iv.ot
 have hsz : ∃ k, zau x.Type_ = some k := by
  unfold zau; rw [zg5]; cases (x.Type_.Kind == 1) <;> cases (x.Type_.Kind == 3) <;> cases (x.Type_.Kind == 4) <;> exact ⟨_, rfl⟩
 obtain ⟨k, hk⟩ := hsz
 rw [hk, obs, zyn _ _ (by omega) (by omega), zx3 N (by omega) _ _ (by omega) (by omega)]
 refine .inr ⟨_, _, _, rfl, ?_, ?_, fun _ => ⟨rfl, by omega, by omega⟩, hs.updC (zow _), rfl, rfl, rfl⟩
 · show some (w6 (s.At + 1), _) = _; rw [wn1]
 · show some (w6 (s.At + 1), _) = _; rw [wn1]
end
section
variable {m : HwModel} {c : HwCode} {s : HwState}
theorem zagp (s : HwState) {x : HwInstruction} (hop : x.Op = 14) : zeo s x = (match zk0 s.Storage x.Place (szE x.Type_) with | .error e => .error e | .ok a => .ok (s.At + 1, updS s (stV s.Storage x.Pointer.toNat a.toNat))) := by
 cases x; cases hop; rfl
theorem zaf4 (N : Nat) (M : hardware_machine) {x : HwInstruction} (hop : x.Op = 14) : ze N M x = ((zel N x.Type_).bind fun r1 => (za2 N M x.Place r1).bind fun r2 => cond r2.2.1 ((zb4 N r2.2.2.HwState.Storage x.Pointer (⟨0, (⟨1, r2.1⟩ : Address), 0⟩ : Pointer)).bind fun r3 => some (⟨updS r2.2.2.HwState r3.1, r2.2.2.code, r2.2.2.raised⟩ : hardware_machine)) (some r2.2.2)).bind fun r => some (w6 (r.HwState.At + 1), r) := by
 cases x; cases hop; rfl
theorem zae3 (N : Nat) {x : HwInstruction} (hop : x.Op = 14) (hi : idx c.Instructions s.At = some x) : zd N c s = ((zau x.Type_).bind fun r1 => (zbl N s x.Place r1).bind fun r2 => cond (r2.2 != 0) (some (r2.2, s)) ((zep N s.Storage x.Pointer (⟨0, (⟨1, r2.1⟩ : Address), 0⟩ : Pointer)).bind fun r3 => some (0, updS s r3))).bind fun r => some (w6 (s.At + 1), r.1, r.2) := by
 unfold zd
 rw [hi, obs]
 clear hi
 cases x; cases hop; rfl
theorem zacj (N : Nat) (hN : 20000 < N) (hc : CodeV m c) (hs : StV m c s) {x : HwInstruction} (hx : c.Instructions[s.At.toNat]? = some x) (hop : x.Op = 14) : zcb N m c s x := by
 have iv := zgz hc (lmg hx) hop (U := ⟨false, false, false, true, false, false, false, false, false, false, false, false, true, false, 3, 0⟩) rfl
 have hi : idx c.Instructions s.At = some x := by unfold idx; rw [ifp hs.at0, hx]
 have m8 := hc.m2
 have a0 := hs.at0
 have a1 := hs.at1
 have n240 := hc.len
 have wn1 : w6 (s.At + 1) = s.At + 1 := w6e (by omega) (by omega)
 unfold zcb
 rw [zagp s hop, zaf4 N _ hop, zae3 N hop hi]
 have ht := iv.ty3 rfl
 have hp : zcf s.Storage x.Place (szE x.Type_) = true := by rw [zgo hs.size]; have := iv.pl rfl; unfold zgf at this; rw [ifn (by omega)] at this; exact this
 have hq : zen s.Storage x.Pointer = true := by rw [zmu hs.size]; exact iv.pt rfl
 obtain ⟨q1, q2, q3⟩ := zjl hq
 have hsz := zjv ht
 have hle := hs.sto.le
 have hqd := hs.sto.quad
 rw [z0k N (by omega) ht, zi3 ht, obs, obs]
 rcases zrk N (by omega) s c hs.sto hp hsz.1 hsz.2 with ⟨e, j, k, he, h1, h2, h3⟩ | ⟨a, h1, h2, h3, h4, h5⟩
 · rw [h1, h2, h3]; refine .inl ⟨e, _, w6 (s.At + 1), s, rfl, by omega, rfl, ?_⟩; rcases he with rfl | rfl <;> rfl
 · rw [h1, h2, h3]; obtain ⟨a, rfl⟩ : ∃ k : Nat, a = (k : Int) := ⟨a.toNat, by omega⟩; refine .inr ⟨_, _, _, rfl, ?_, ?_, fun _ => ⟨rfl, by omega, by omega⟩, hs.updS (z14 (off := a) hs.sto (by omega) (by omega) (by omega)) (zxs (by omega)), rfl, rfl, rfl⟩
   · simp only [obs, ctr]; rw [show (⟨0, ⟨1, (a : Int)⟩, 0⟩ : Pointer) = zh0 a from rfl, zxp N (by omega) hs.sto hq a (by omega)]; show some (w6 (s.At + 1), _) = _; rw [wn1]; rfl
   · simp only [obs, bsf, cfa]; rw [show (⟨0, ⟨1, (a : Int)⟩, 0⟩ : Pointer) = zh0 a from rfl, zx4 N (by omega) hs.sto hq a (by omega)]; show some (w6 (s.At + 1), _) = _; rw [wn1]; rfl
theorem zago (s : HwState) {x : HwInstruction} (hop : x.Op = 15) : zeo s x = (match ldV s.Storage x.Source with | none => .error 4 | some o => .ok (s.At + 1, updS s (stV s.Storage x.Pointer.toNat o.toNat))) := by
 cases x; cases hop; rfl
theorem zaf3 (N : Nat) (M : hardware_machine) {x : HwInstruction} (hop : x.Op = 15) : ze N M x = ((zat N M x.Source).bind fun r4 => cond r4.2.1 ((zb4 N r4.2.2.HwState.Storage x.Pointer r4.1).bind fun r5 => some (⟨updS r4.2.2.HwState r5.1, r4.2.2.code, r4.2.2.raised⟩ : hardware_machine)) (some r4.2.2)).bind fun r => some (w6 (r.HwState.At + 1), r) := by
 cases x; cases hop; rfl
theorem zae2 (N : Nat) {x : HwInstruction} (hop : x.Op = 15) (hi : idx c.Instructions s.At = some x) : zd N c s = ((zf3 N s.Storage x.Source).bind fun r4 => cond (r4.2 != 0) (some (4, s)) ((zep N s.Storage x.Pointer r4.1).bind fun r5 => some (0, updS s r5))).bind fun r => some (w6 (s.At + 1), r.1, r.2) := by
 unfold zd
 rw [hi, obs]
 clear hi
 cases x; cases hop; rfl
theorem zaci (N : Nat) (hN : 20000 < N) (hc : CodeV m c) (hs : StV m c s) {x : HwInstruction} (hx : c.Instructions[s.At.toNat]? = some x) (hop : x.Op = 15) : zcb N m c s x := by
 have iv := zgz hc (lmg hx) hop (U := ⟨false, false, false, false, false, false, false, false, false, false, false, false, true, true, 0, 0⟩) rfl
 have hi : idx c.Instructions s.At = some x := by unfold idx; rw [ifp hs.at0, hx]
 have m8 := hc.m2
 have a0 := hs.at0
 have a1 := hs.at1
 have n240 := hc.len
 have wn1 : w6 (s.At + 1) = s.At + 1 := w6e (by omega) (by omega)
 unfold zcb
 rw [zago s hop, zaf3 N _ hop, zae2 N hop hi]
 have hq : zen s.Storage x.Pointer = true := by rw [zmu hs.size]; exact iv.pt rfl
 have hq2 : zen s.Storage x.Source = true := by rw [zmu hs.size]; exact iv.sr rfl
 obtain ⟨q1, q2, q3⟩ := zjl hq
 have hle := hs.sto.le
 have hqd := hs.sto.quad
 rw [zpx N (by omega) s c hs.sto hq2, zv9 N (by omega) hs.sto hq2]
 cases hld : ldV s.Storage x.Source with
 | none => exact .inl ⟨4, _, _, s, rfl, by omega, rfl, rfl⟩
 | some o =>
  have ho := zu9 hs.sto hld; obtain ⟨o, rfl⟩ : ∃ k : Nat, o = (k : Int) := ⟨o.toNat, by omega⟩; refine .inr ⟨_, _, _, rfl, ?_, ?_, fun _ => ⟨rfl, by omega, by omega⟩, hs.updS (z14 (off := o) hs.sto (by omega) (by omega) (by omega)) (zxs (by omega)), rfl, rfl, rfl⟩
  · simp only [obs, ctr]; rw [zxp N (by omega) hs.sto hq o (by omega)]; show some (w6 (s.At + 1), _) = _; rw [wn1]; rfl
  · simp only [obs, bsf, cfa]; rw [zx4 N (by omega) hs.sto hq o (by omega)]; show some (w6 (s.At + 1), _) = _; rw [wn1]; rfl
theorem zagn (s : HwState) {x : HwInstruction} (hop : x.Op = 16) : zeo s x = (match ldV s.Storage x.Pointer with
 | none => .error 4
 | some o => if inB (o + zfs (rg s x.R)) 0 16777215 = true then .ok (s.At + 1, updS s (stV s.Storage x.Pointer.toNat (o + zfs (rg s x.R)).toNat)) else .error 5) := by
 cases x; cases hop; rfl
theorem zaf2 (N : Nat) (M : hardware_machine) {x : HwInstruction} (hop : x.Op = 16) : ze N M x = ((zd8 N M x).bind fun r6 => some r6).bind fun r => some (w6 (r.HwState.At + 1), r) := by
 cases x; cases hop; rfl
theorem zae1 (N : Nat) {x : HwInstruction} (hop : x.Op = 16) (hi : idx c.Instructions s.At = some x) : zd N c s = ((zf3 N s.Storage x.Pointer).bind fun r10 => cond (r10.2 != 0) (some (4, s)) (if 0 ≤ x.R then (if x.R < (s.Registers.length : Int) then ((s.Registers[x.R.toNat]?).bind fun x12 => (zfv N x12).bind fun r13 => (zg (w6 (r10.1.Address.Offset + r13)) 0 16777215).bind fun r14 => cond (!r14) (some (5, s)) ((zep N s.Storage x.Pointer (⟨r10.1.Kind, (⟨r10.1.Address.Segment, (w6 (r10.1.Address.Offset + r13))⟩ : Address), r10.1.Authority⟩ : Pointer)).bind fun r15 => some (0, updS s r15))) else none) else none)).bind fun r => some (w6 (s.At + 1), r.1, r.2) := by
 unfold zd
 rw [hi, obs]
 clear hi
 cases x; cases hop; rfl
theorem zach (N : Nat) (hN : 20000 < N) (hc : CodeV m c) (hs : StV m c s) {x : HwInstruction} (hx : c.Instructions[s.At.toNat]? = some x) (hop : x.Op = 16) : zcb N m c s x := by
 have iv := zgz hc (lmg hx) hop (U := ⟨true, false, false, false, false, false, false, false, false, false, false, false, true, false, 0, 0⟩) rfl
 have hi : idx c.Instructions s.At = some x := by unfold idx; rw [ifp hs.at0, hx]
 have m8 := hc.m2
 have a0 := hs.at0
 have a1 := hs.at1
 have n240 := hc.len
 have wn1 : w6 (s.At + 1) = s.At + 1 := w6e (by omega) (by omega)
 unfold zcb
 rw [zagn s hop, zaf2 N _ hop, zae1 N hop hi]
 have hq : zen s.Storage x.Pointer = true := by rw [zmu hs.size]; exact iv.pt rfl
 obtain ⟨q1, q2, q3⟩ := zjl hq
 obtain ⟨g1, g2, g3, g4, g5⟩ := zft hs (iv.r rfl)
 have hle := hs.sto.le
 have hqd := hs.sto.quad
 unfold zd8
 rw [zpx N (by omega) s c hs.sto hq, zv9 N (by omega) hs.sto hq]
 cases hld : ldV s.Storage x.Pointer with
 | none => exact .inl ⟨4, _, _, s, rfl, by omega, rfl, rfl⟩
 | some o =>
  have ho := zu9 hs.sto hld; have hwb := zub g5; simp only [obs, Bool.not_true, cfa, bsf]; rw [g4, ifp g1, ifp g2, g3]; simp only [obs]; rw [z3c N (by omega) g5, zzb N (by omega) g5]; simp only [obs]; rw [show (zh0 o).Address.Offset = o from rfl, w6e (n := o + zfs (rg s x.R)) (by omega) (by omega), zni, zhi]; simp only [obs]; rw [zhu _ _ _ _ (by decide)]; simp only [obs]; cases hin : inB (o + zfs (rg s x.R)) 0 16777215 with
  | false =>
   rw [ifn (by decide)]; exact .inl ⟨5, _, _, s, rfl, by omega, rfl, rfl⟩
  | true =>
   have hr := zbc.1 hin; rw [ifp rfl]; obtain ⟨k, hk⟩ : ∃ k : Nat, o + zfs (rg s x.R) = (k : Int) := ⟨(o + zfs (rg s x.R)).toNat, by omega⟩; rw [hk]; rw [show (⟨(zh0 o).Kind, ⟨(zh0 o).Address.Segment, (k : Int)⟩, (zh0 o).Authority⟩ : Pointer) = zh0 k from rfl]; refine .inr ⟨_, _, _, rfl, ?_, ?_, fun _ => ⟨rfl, by omega, by omega⟩, hs.updS (z14 (off := k) hs.sto (by omega) (by omega) (by omega)) (zxs (by omega)), rfl, rfl, rfl⟩
   · simp only [Bool.not_true, Bool.not_false, ctr]; rw [zxp N (by omega) hs.sto hq k (by omega)]; show some (w6 (s.At + 1), _) = _; rw [wn1]; rfl
   · simp only [Bool.not_true, cfa]; rw [zx4 N (by omega) hs.sto hq k (by omega)]; show some (w6 (s.At + 1), _) = _; rw [wn1]; rfl
theorem zagm (s : HwState) {x : HwInstruction} (hop : x.Op = 17) : zeo s x = (match ldV s.Storage x.Pointer with | none => .error 4 | some _ => .ok (s.At + 1, s)) := by
 cases x; cases hop; rfl
theorem zaf1 (N : Nat) (M : hardware_machine) {x : HwInstruction} (hop : x.Op = 17) : ze N M x = ((zat N M x.Pointer).bind fun r7 => some r7.2.2).bind fun r => some (w6 (r.HwState.At + 1), r) := by
 cases x; cases hop; rfl
theorem zae0 (N : Nat) {x : HwInstruction} (hop : x.Op = 17) (hi : idx c.Instructions s.At = some x) : zd N c s = ((zf3 N s.Storage x.Pointer).bind fun r10 => cond (r10.2 != 0) (some (4, s)) (some (0, s))).bind fun r => some (w6 (s.At + 1), r.1, r.2) := by
 unfold zd
 rw [hi, obs]
 clear hi
 cases x; cases hop; rfl
theorem zacg (N : Nat) (hN : 20000 < N) (hc : CodeV m c) (hs : StV m c s) {x : HwInstruction} (hx : c.Instructions[s.At.toNat]? = some x) (hop : x.Op = 17) : zcb N m c s x := by
 have iv := zgz hc (lmg hx) hop (U := ⟨false, false, false, false, false, false, false, false, false, false, false, false, true, false, 0, 0⟩) rfl
 have hi : idx c.Instructions s.At = some x := by unfold idx; rw [ifp hs.at0, hx]
 have m8 := hc.m2
 have a0 := hs.at0
 have a1 := hs.at1
 have n240 := hc.len
 have wn1 : w6 (s.At + 1) = s.At + 1 := w6e (by omega) (by omega)
 unfold zcb
 rw [zagm s hop, zaf1 N _ hop, zae0 N hop hi]
 have hq : zen s.Storage x.Pointer = true := by rw [zmu hs.size]; exact iv.pt rfl
 rw [zpx N (by omega) s c hs.sto hq, zv9 N (by omega) hs.sto hq]
 cases hld : ldV s.Storage x.Pointer with
 | none => exact .inl ⟨4, _, _, s, rfl, by omega, rfl, rfl⟩
 | some o =>
  refine .inr ⟨_, _, _, rfl, ?_, ?_, fun _ => ⟨rfl, by omega, by omega⟩, hs, rfl, rfl, rfl⟩
  · show some (w6 (s.At + 1), _) = _; rw [wn1]
  · show some (w6 (s.At + 1), _) = _; rw [wn1]
theorem zagl (s : HwState) {x : HwInstruction} (hop : x.Op = 18) : zeo s x = (if 6 ≤ s.Stack.length then .error 6 else .ok (x.Target, updK s (s.Stack ++ [s.At]))) := by
 cases x; cases hop; rfl
theorem zaf0 (N : Nat) (M : hardware_machine) {x : HwInstruction} (hop : x.Op = 18) : ze N M x = ((zey M x.Target).bind fun r1 => some (r1.1, r1.2)).bind fun r => some (r.1, r.2) := by
 cases x; cases hop; rfl
theorem zaez (N : Nat) {x : HwInstruction} (hop : x.Op = 18) (hi : idx c.Instructions s.At = some x) : zd N c s = cond ((s.Stack.length : Int) == 6) (some (0, 6, s)) (cond (Nat.ble ((s.Stack.length + ([s.At] : List Int).length) * 8) z9) (some (x.Target, 0, updK s (s.Stack ++ [s.At]))) none) := by
 unfold zd
 rw [hi, obs]
 clear hi
 cases x; cases hop; rfl
theorem zacf (N : Nat) (hN : 20000 < N) (hc : CodeV m c) (hs : StV m c s) {x : HwInstruction} (hx : c.Instructions[s.At.toNat]? = some x) (hop : x.Op = 18) : zcb N m c s x := by
 have iv := zgz hc (lmg hx) hop (U := ⟨false, false, false, false, false, false, false, false, false, true, false, false, false, false, 0, 0⟩) rfl
 have hi : idx c.Instructions s.At = some x := by unfold idx; rw [ifp hs.at0, hx]
 have m8 := hc.m2
 have a0 := hs.at0
 have a1 := hs.at1
 have n240 := hc.len
 have wn1 : w6 (s.At + 1) = s.At + 1 := w6e (by omega) (by omega)
 unfold zcb
 rw [zagl s hop, zaf0 N _ hop, zaez N hop hi]
 have ht := iv.tg rfl
 have h6 := hs.stk
 unfold zey
 simp only []
 rw [zhu _ _ _ _ (by decide)]
 simp only [obs, zam]
 by_cases h : 6 ≤ s.Stack.length
 · rw [ifp h, dct (show (s.Stack.length : Int) ≥ 6 by omega), dct (show (s.Stack.length : Int) = 6 by omega)]; exact .inl ⟨6, _, _, s, rfl, by omega, rfl, rfl⟩
 · rw [ifn h, dcf (show ¬ (s.Stack.length : Int) ≥ 6 by omega), dcf (show ¬ (s.Stack.length : Int) = 6 by omega)]; have hcl : zdh 8 s.Stack = some s.Stack := by unfold zdh; rw [zae (by omega)]; rfl
   have hrm : Nat.ble ((s.Stack.length + ([s.At] : List Int).length) * 8) z9 = true := zae (by simp only [List.length_cons, List.length_nil]; omega); simp only [Bool.not_false, ctr, cfa]; rw [hcl]; simp only [obs]; rw [hrm]; refine .inr ⟨_, _, _, rfl, rfl, rfl, fun _ => ⟨rfl, by omega, by omega⟩, hs.updK ?_ ?_, rfl, rfl, rfl⟩
   · rw [lna, lns]; omega
   · intro i hmem; rcases List.mem_append.1 hmem with h2 | h2
     · exact hs.calls i h2
     · rw [List.mem_singleton.1 h2]; exact ⟨⟨a0, a1⟩, x, hx, hop⟩
theorem zagk (s : HwState) {x : HwInstruction} (hop : x.Op = 19) : zeo s x = (if s.Stack.length = 0 then .ok (s.At, updT s 1) else .ok (s.Stack.getD (s.Stack.length - 1) 0 + 1, updK s (s.Stack.take (s.Stack.length - 1)))) := by
 cases x; cases hop; rfl
theorem zafz (N : Nat) (M : hardware_machine) {x : HwInstruction} (hop : x.Op = 19) : ze N M x = ((zez M).bind fun r2 => some (r2.1, r2.2)).bind fun r => some (r.1, r.2) := by
 cases x; cases hop; rfl
theorem zaey (N : Nat) {x : HwInstruction} (hop : x.Op = 19) (hi : idx c.Instructions s.At = some x) : zd N c s = cond ((s.Stack.length : Int) == 0) (some ((w6 (s.At + 1)), 0, updT s 1)) (if 0 ≤ (w6 ((s.Stack.length : Int) - 1)) then (if (w6 ((s.Stack.length : Int) - 1)) < (s.Stack.length : Int) then ((s.Stack[(w6 ((s.Stack.length : Int) - 1)).toNat]?).bind fun x6 => if 0 ≤ (w6 ((s.Stack.length : Int) - 1)) ∧ (w6 ((s.Stack.length : Int) - 1)) ≤ (s.Stack.length : Int) then (if 0 ≤ (0 : Int) ∧ (0 : Int) ≤ (w6 ((s.Stack.length : Int) - 1)) then (some ((w6 (x6 + 1)), 0, updK s ((s.Stack.drop ((0 : Int).toNat)).take ((w6 ((s.Stack.length : Int) - 1)).toNat - (0 : Int).toNat)))) else none) else none) else none) else none) := by
 unfold zd
 rw [hi, obs]
 clear hi
 cases x; cases hop; rfl
theorem zace (N : Nat) (hN : 20000 < N) (hc : CodeV m c) (hs : StV m c s) {x : HwInstruction} (hx : c.Instructions[s.At.toNat]? = some x) (hop : x.Op = 19) : zcb N m c s x := by
 have iv := zgz hc (lmg hx) hop (U := ⟨false, false, false, false, false, false, false, false, false, false, false, false, false, false, 0, 0⟩) rfl
 have hi : idx c.Instructions s.At = some x := by unfold idx; rw [ifp hs.at0, hx]
 have m8 := hc.m2
 have a0 := hs.at0
 have a1 := hs.at1
 have n240 := hc.len
 have wn1 : w6 (s.At + 1) = s.At + 1 := w6e (by omega) (by omega)
 unfold zcb
 rw [zagk s hop, zafz N _ hop, zaey N hop hi]
 have h6 := hs.stk
 unfold zez
 simp only [zam]
 by_cases h : s.Stack.length = 0
 · rw [ifp h, w6e (by omega) (by omega), dct (show (s.Stack.length : Int) - 1 < 0 by omega), dct (show (s.Stack.length : Int) = 0 by omega)]; exact .inr ⟨_, _, _, rfl, rfl, rfl, (fun h => by have h' : (1 : Int) = 0 := h; omega), hs.updT (by omega) (by omega), rfl, rfl, rfl⟩
 · have hl : (s.Stack.length : Int) - 1 = ((s.Stack.length - 1 : Nat) : Int) := by omega
   have hx1 : s.Stack[s.Stack.length - 1]? = some (s.Stack.getD (s.Stack.length - 1) 0) := by rw [List.getD_eq_getElem?_getD, lge (by omega)]; rfl
   obtain ⟨hr, _⟩ := hs.calls _ (lmg hx1); have hcl : ∀ l : List Int, l.length ≤ 6 → zdh 8 l = some l := fun l hl => by unfold zdh; rw [zae (by omega)]; rfl
   rw [ifn h, w6e (n := (s.Stack.length : Int) - 1) (by omega) (by omega), dcf (show ¬ (s.Stack.length : Int) - 1 < 0 by omega), dcf (show ¬ (s.Stack.length : Int) = 0 by omega)]; simp only [cfa]; rw [hl, zbg, hx1]; simp only [obs]; rw [ifp (by omega), ifp (by omega), ifp (by omega), ifp (by omega), itn, hx1]; simp only [obs]; rw [ifp (by omega), ifp (by omega), show (0 : Int).toNat = 0 from rfl, List.drop_zero, List.drop_zero, Nat.sub_zero, hcl _ (by rw [List.length_take]; omega), w6e (by omega) (by omega)]; refine .inr ⟨_, _, _, rfl, rfl, rfl, fun _ => ⟨rfl, by omega, by omega⟩, hs.updK ?_ ?_, rfl, rfl, rfl⟩
   · rw [List.length_take]; omega
   · intro i hi2; exact hs.calls i (List.mem_of_mem_take hi2)
theorem zagj (s : HwState) {x : HwInstruction} (hop : x.Op = 20) : zeo s x = (if inB (zfs (rg s x.R)) 100 999 = true then .error (zfs (rg s x.R)) else .error 2) := by
 cases x; cases hop; rfl
theorem zafy (N : Nat) (M : hardware_machine) {x : HwInstruction} (hop : x.Op = 20) : ze N M x = (zed N M x).bind fun r => some (w6 (r.HwState.At + 1), r) := by
 cases x; cases hop; rfl
theorem zaex (N : Nat) {x : HwInstruction} (hop : x.Op = 20) (hi : idx c.Instructions s.At = some x) : zd N c s = if 0 ≤ x.R then (if x.R < (s.Registers.length : Int) then ((s.Registers[x.R.toNat]?).bind fun x7 => (zfv N x7).bind fun r8 => (zg r8 100 999).bind fun r9 => cond r9 (some (0, r8, s)) (some (0, 2, s))) else none) else none := by
 unfold zd
 rw [hi, obs]
 clear hi
 cases x; cases hop; rfl
theorem zacd (N : Nat) (hN : 20000 < N) (hc : CodeV m c) (hs : StV m c s) {x : HwInstruction} (hx : c.Instructions[s.At.toNat]? = some x) (hop : x.Op = 20) : zcb N m c s x := by
 have iv := zgz hc (lmg hx) hop (U := ⟨true, false, false, false, false, false, false, false, false, false, false, false, false, false, 0, 0⟩) rfl
 have hi : idx c.Instructions s.At = some x := by unfold idx; rw [ifp hs.at0, hx]
 have m8 := hc.m2
 have a0 := hs.at0
 have a1 := hs.at1
 have n240 := hc.len
 have wn1 : w6 (s.At + 1) = s.At + 1 := w6e (by omega) (by omega)
 unfold zcb
 rw [zagj s hop, zafy N _ hop, zaex N hop hi]
 obtain ⟨g1, g2, g3, g4, g5⟩ := zft hs (iv.r rfl)
 unfold zed
 simp only []
 rw [g4, ifp g1, ifp g2, g3]
 simp only [obs]
 rw [z3c N (by omega) g5, zzb N (by omega) g5]
 simp only [obs]
 rw [zni, zhi]
 simp only [obs]
 cases hin : inB (zfs (rg s x.R)) 100 999 with
 | false =>
  rw [ifn (by decide)]; simp only [Bool.not_false, ctr, cfa]; rw [zhu _ _ _ _ (by decide)]; exact .inl ⟨2, _, _, s, rfl, by omega, rfl, rfl⟩
 | true =>
  have hr := zbc.1 hin; rw [ifp rfl]; simp only [Bool.not_true, ctr, cfa]; rw [zhu _ _ _ _ (by omega)]; exact .inl ⟨_, _, _, s, rfl, by omega, rfl, rfl⟩
theorem zuz (hs : StV m c s) (l : ByteArray) (hl : l.size ≤ 256) (n240 : c.Instructions.length ≤ 240) :
 ∃ t, zo1 s l = .ok (s.At + 1, t) ∧
  (cond ((s.Lines.length : Int) == 40) (some (⟨updT s 3, c, 0⟩ : hardware_machine)) ((zdh 16 s.Lines).bind fun r6 => cond (Nat.ble ((r6.length + ([l] : List ByteArray).length) * 16) z9) (some (⟨updL s (r6 ++ [l]), c, 0⟩ : hardware_machine)) none)) = some ⟨t, c, 0⟩ ∧
  (cond ((s.Lines.length : Int) == 40) (some ((0 : Int), updT s 3)) (cond (Nat.ble ((s.Lines.length + ([l] : List ByteArray).length) * 16) z9) (some (0, updL s (s.Lines ++ [l]))) none)) = some (0, t) ∧ StV m c t ∧ t.At = s.At ∧ t.Steps = s.Steps ∧ t.Exception = s.Exception := by
 have h40 := hs.lines
 unfold zo1
 rw [zam]
 by_cases h : s.Lines.length = 40
 · rw [ifp h, dct (show (s.Lines.length : Int) = 40 by omega)]; exact ⟨_, rfl, rfl, rfl, hs.updT (by omega) (by omega), rfl, rfl, rfl⟩
 · rw [ifn h, dcf (show ¬ (s.Lines.length : Int) = 40 by omega)]; have hcl : zdh 16 s.Lines = some s.Lines := by unfold zdh; rw [zae (by omega)]; rfl
   have hrm : Nat.ble ((s.Lines.length + ([l] : List ByteArray).length) * 16) z9 = true := zae (by simp only [List.length_cons, List.length_nil]; omega); simp only [cfa]; rw [hcl]; simp only [obs]; rw [hrm]; exact ⟨_, rfl, rfl, rfl, hs.updL (by omega) hl, rfl, rfl, rfl⟩
theorem zagh (s : HwState) {x : HwInstruction} (hop : x.Op = 22) : zeo s x = (zo1 s (zon (rg s x.R))) := by
 cases x; cases hop; rfl
theorem zafw (N : Nat) (M : hardware_machine) {x : HwInstruction} (hop : x.Op = 22) : ze N M x = ((idx M.HwState.Registers x.R).bind fun x1 => (zef x1).bind fun r2 => cond ((M.HwState.Lines.length : Int) == 40) (some (⟨updT M.HwState 3, M.code, M.raised⟩ : hardware_machine)) ((zdh 16 M.HwState.Lines).bind fun r6 => cond (Nat.ble ((r6.length + ([r2.1] : List ByteArray).length) * 16) z9) (some (⟨updL M.HwState (r6 ++ [r2.1]), M.code, M.raised⟩ : hardware_machine)) none)).bind fun r => some (w6 (r.HwState.At + 1), r) := by
 cases x; cases hop; rfl
theorem zaev (N : Nat) {x : HwInstruction} (hop : x.Op = 22) (hi : idx c.Instructions s.At = some x) : zd N c s = (if 0 ≤ x.R then (if x.R < (s.Registers.length : Int) then ((s.Registers[x.R.toNat]?).bind fun x1 => (zdq N x1).bind fun r2 => cond ((s.Lines.length : Int) == 40) (some (0, updT s 3)) (cond (Nat.ble ((s.Lines.length + ([r2] : List ByteArray).length) * 16) z9) (some (0, updL s (s.Lines ++ [r2]))) none)) else none) else none).bind fun r => some (w6 (s.At + 1), r.1, r.2) := by
 unfold zd
 rw [hi, obs]
 clear hi
 cases x; cases hop; rfl
theorem zacb (N : Nat) (hN : 20000 < N) (hc : CodeV m c) (hs : StV m c s) {x : HwInstruction} (hx : c.Instructions[s.At.toNat]? = some x) (hop : x.Op = 22) : zcb N m c s x := by
 have iv := zgz hc (lmg hx) hop (U := ⟨true, false, false, false, false, false, false, false, false, false, false, false, false, false, 0, 0⟩) rfl
 have hi : idx c.Instructions s.At = some x := by unfold idx; rw [ifp hs.at0, hx]
 have m8 := hc.m2
 have a0 := hs.at0
 have a1 := hs.at1
 have n240 := hc.len
 have wn1 : w6 (s.At + 1) = s.At + 1 := w6e (by omega) (by omega)
 unfold zcb
 rw [zagh s hop, zafw N _ hop, zaev N hop hi]
 obtain ⟨g1, g2, g3, g4, g5⟩ := zft hs (iv.r rfl)
 simp only []
 rw [g4, ifp g1, ifp g2, g3]
 simp only [obs]
 rw [z73 g5, zabc N (by omega) g5]
 simp only [obs]
 obtain ⟨t, p1, p2, p3, p4, p5, p6, p7⟩ := zuz hs (zon (rg s x.R)) (z5p g5) n240
 rw [p1, p2, p3]
 refine .inr ⟨_, _, _, rfl, ?_, ?_, fun _ => ⟨rfl, by omega, by omega⟩, p4, p5, p6, p7⟩
 · show some (w6 (t.At + 1), _) = _; rw [p5, wn1]
 · show some (w6 (s.At + 1), _) = _; rw [wn1]
theorem zagg (s : HwState) {x : HwInstruction} (hop : x.Op = 23) : zeo s x = (match zkz s.Storage x.Place x.Type_ with | .error e => .error e | .ok b => zo1 s b) := by
 cases x; cases hop; rfl
theorem zafv (N : Nat) (M : hardware_machine) {x : HwInstruction} (hop : x.Op = 23) : ze N M x = ((zr N M x.Place x.Type_).bind fun r4 => cond (!r4.2.1) (some r4.2.2) (cond ((r4.2.2.HwState.Lines.length : Int) == 40) (some (⟨updT r4.2.2.HwState 3, r4.2.2.code, r4.2.2.raised⟩ : hardware_machine)) ((zdh 16 r4.2.2.HwState.Lines).bind fun r6 => cond (Nat.ble ((r6.length + ([r4.1] : List ByteArray).length) * 16) z9) (some (⟨updL r4.2.2.HwState (r6 ++ [r4.1]), r4.2.2.code, r4.2.2.raised⟩ : hardware_machine)) none))).bind fun r => some (w6 (r.HwState.At + 1), r) := by
 cases x; cases hop; rfl
theorem zaeu (N : Nat) {x : HwInstruction} (hop : x.Op = 23) (hi : idx c.Instructions s.At = some x) : zd N c s = ((zcu N s x.Place x.Type_).bind fun r3 => cond (r3.2 != 0) (some (r3.2, s)) (cond ((s.Lines.length : Int) == 40) (some (0, updT s 3)) (cond (Nat.ble ((s.Lines.length + ([r3.1] : List ByteArray).length) * 16) z9) (some (0, updL s (s.Lines ++ [r3.1]))) none))).bind fun r => some (w6 (s.At + 1), r.1, r.2) := by
 unfold zd
 rw [hi, obs]
 clear hi
 cases x; cases hop; rfl
theorem zaca (N : Nat) (hN : 20000 < N) (hc : CodeV m c) (hs : StV m c s) {x : HwInstruction} (hx : c.Instructions[s.At.toNat]? = some x) (hop : x.Op = 23) : zcb N m c s x := by
 have iv := zgz hc (lmg hx) hop (U := ⟨false, false, false, true, false, false, false, false, false, false, false, false, false, false, 2, 0⟩) rfl
 have hi : idx c.Instructions s.At = some x := by unfold idx; rw [ifp hs.at0, hx]
 have m8 := hc.m2
 have a0 := hs.at0
 have a1 := hs.at1
 have n240 := hc.len
 have wn1 : w6 (s.At + 1) = s.At + 1 := w6e (by omega) (by omega)
 unfold zcb
 rw [zagg s hop, zafv N _ hop, zaeu N hop hi]
 have hp : zcf s.Storage x.Place (szE x.Type_) = true := by rw [zgo hs.size]; have := iv.pl rfl; unfold zgf at this; rw [ifn (by omega)] at this; exact this
 have hz1 := zjv (iv.ty2 rfl).1
 rcases zmt N (by omega) s c hs.sto (iv.ty2 rfl).1 hp with ⟨e, b, k, he, h1, h2, h3⟩ | ⟨b, h1, h2, h3, h4⟩
 · rw [h1, h2, h3]; refine .inl ⟨e, _, w6 (s.At + 1), s, rfl, by omega, rfl, ?_⟩; rcases he with rfl | rfl <;> rfl
 rw [h1, h2, h3]
 simp only [obs, Bool.not_true, cfa, bsf]
 obtain ⟨t, p1, p2, p3, p4, p5, p6, p7⟩ := zuz hs b (by omega) n240
 rw [p1, p2, p3]
 refine .inr ⟨_, _, _, rfl, ?_, ?_, fun _ => ⟨rfl, by omega, by omega⟩, p4, p5, p6, p7⟩
 · show some (w6 (t.At + 1), _) = _; rw [p5, wn1]
 · show some (w6 (s.At + 1), _) = _; rw [wn1]
theorem zagf (s : HwState) {x : HwInstruction} (hop : x.Op = 24) : zeo s x = (zo1 s x.Text) := by
 cases x; cases hop; rfl
theorem zafu (N : Nat) (M : hardware_machine) {x : HwInstruction} (hop : x.Op = 24) : ze N M x = (cond ((M.HwState.Lines.length : Int) == 40) (some (⟨updT M.HwState 3, M.code, M.raised⟩ : hardware_machine)) ((zdh 16 M.HwState.Lines).bind fun r6 => cond (Nat.ble ((r6.length + ([x.Text] : List ByteArray).length) * 16) z9) (some (⟨updL M.HwState (r6 ++ [x.Text]), M.code, M.raised⟩ : hardware_machine)) none)).bind fun r => some (w6 (r.HwState.At + 1), r) := by
 cases x; cases hop; rfl
theorem zaet (N : Nat) {x : HwInstruction} (hop : x.Op = 24) (hi : idx c.Instructions s.At = some x) : zd N c s = (cond ((s.Lines.length : Int) == 40) (some (0, updT s 3)) (cond (Nat.ble ((s.Lines.length + ([x.Text] : List ByteArray).length) * 16) z9) (some (0, updL s (s.Lines ++ [x.Text]))) none)).bind fun r => some (w6 (s.At + 1), r.1, r.2) := by
 unfold zd
 rw [hi, obs]
 clear hi
 cases x; cases hop; rfl
theorem zab9 (N : Nat) (hN : 20000 < N) (hc : CodeV m c) (hs : StV m c s) {x : HwInstruction} (hx : c.Instructions[s.At.toNat]? = some x) (hop : x.Op = 24) : zcb N m c s x := by
 have iv := zgz hc (lmg hx) hop (U := ⟨false, false, false, false, false, false, false, false, false, false, true, false, false, false, 0, 0⟩) rfl
 have hi : idx c.Instructions s.At = some x := by unfold idx; rw [ifp hs.at0, hx]
 have m8 := hc.m2
 have a0 := hs.at0
 have a1 := hs.at1
 have n240 := hc.len
 have wn1 : w6 (s.At + 1) = s.At + 1 := w6e (by omega) (by omega)
 unfold zcb
 rw [zagf s hop, zafu N _ hop, zaet N hop hi]
 simp only []
 obtain ⟨t, p1, p2, p3, p4, p5, p6, p7⟩ := zuz hs x.Text (iv.tx) n240
 rw [p1, p2, p3]
 refine .inr ⟨_, _, _, rfl, ?_, ?_, fun _ => ⟨rfl, by omega, by omega⟩, p4, p5, p6, p7⟩
 · show some (w6 (t.At + 1), _) = _; rw [p5, wn1]
 · show some (w6 (s.At + 1), _) = _; rw [wn1]
theorem zage (s : HwState) {x : HwInstruction} (hop : x.Op = 25) : zeo s x = (if s.Marks = 300 then .ok (s.At + 1, updT s 3) else .ok (s.At + 1, updM s (s.Marks + 1))) := by
 cases x; cases hop; rfl
theorem zaft (N : Nat) (M : hardware_machine) {x : HwInstruction} (hop : x.Op = 25) : ze N M x = (zex M).bind fun r => some (w6 (r.HwState.At + 1), r) := by
 cases x; cases hop; rfl
theorem zaes (N : Nat) {x : HwInstruction} (hop : x.Op = 25) (hi : idx c.Instructions s.At = some x) : zd N c s = cond (s.Marks == 300) (some ((w6 (s.At + 1)), 0, updT s 3)) (some ((w6 (s.At + 1)), 0, updM s (w6 (s.Marks + 1)))) := by
 unfold zd
 rw [hi, obs]
 clear hi
 cases x; cases hop; rfl
theorem zab8 (N : Nat) (hN : 20000 < N) (hc : CodeV m c) (hs : StV m c s) {x : HwInstruction} (hx : c.Instructions[s.At.toNat]? = some x) (hop : x.Op = 25) : zcb N m c s x := by
 have iv := zgz hc (lmg hx) hop (U := ⟨false, false, false, false, false, false, false, false, false, false, false, false, false, false, 0, 0⟩) rfl
 have hi : idx c.Instructions s.At = some x := by unfold idx; rw [ifp hs.at0, hx]
 have m8 := hc.m2
 have a0 := hs.at0
 have a1 := hs.at1
 have n240 := hc.len
 have wn1 : w6 (s.At + 1) = s.At + 1 := w6e (by omega) (by omega)
 unfold zcb
 rw [zage s hop, zaft N _ hop, zaes N hop hi]
 have k0 := hs.mk0
 have k1 := hs.mk1
 unfold zex
 simp only [zam]
 rw [w6e (n := s.Marks + 1) (by omega) (by omega), wn1]
 by_cases h : s.Marks = 300
 · rw [ifp h, dct h]; refine .inr ⟨_, _, _, rfl, ?_, rfl, fun _ => ⟨rfl, by omega, by omega⟩, hs.updT (by omega) (by omega), rfl, rfl, rfl⟩; show some (w6 (s.At + 1), _) = _; rw [wn1]; rfl
 · rw [ifn h, dcf h]; refine .inr ⟨_, _, _, rfl, ?_, rfl, fun _ => ⟨rfl, by omega, by omega⟩, hs.updM (by omega) (by omega), rfl, rfl, rfl⟩; show some (w6 (s.At + 1), _) = _; rw [wn1]; rfl
theorem zagd (s : HwState) {x : HwInstruction} (hop : x.Op = 26) : zeo s x = (.ok (s.At + 1, updT s 1)) := by
 cases x; cases hop; rfl
theorem zafs (N : Nat) (M : hardware_machine) {x : HwInstruction} (hop : x.Op = 26) : ze N M x = some (w6 (M.HwState.At + 1), ⟨updT M.HwState 1, M.code, M.raised⟩) := by
 cases x; cases hop; rfl
theorem zaer (N : Nat) {x : HwInstruction} (hop : x.Op = 26) (hi : idx c.Instructions s.At = some x) : zd N c s = some (w6 (s.At + 1), 0, updT s 1) := by
 unfold zd
 rw [hi, obs]
 clear hi
 cases x; cases hop; rfl
theorem zab7 (N : Nat) (hN : 20000 < N) (hc : CodeV m c) (hs : StV m c s) {x : HwInstruction} (hx : c.Instructions[s.At.toNat]? = some x) (hop : x.Op = 26) : zcb N m c s x := by
 have iv := zgz hc (lmg hx) hop (U := ⟨false, false, false, false, false, false, false, false, false, false, false, false, false, false, 0, 0⟩) rfl
 have hi : idx c.Instructions s.At = some x := by unfold idx; rw [ifp hs.at0, hx]
 have m8 := hc.m2
 have a0 := hs.at0
 have a1 := hs.at1
 have n240 := hc.len
 have wn1 : w6 (s.At + 1) = s.At + 1 := w6e (by omega) (by omega)
 unfold zcb
 rw [zagd s hop, zafs N _ hop, zaer N hop hi]
 rw [wn1]
 exact .inr ⟨_, _, _, rfl, rfl, rfl, fun _ => ⟨rfl, by omega, by omega⟩, hs.updT (by omega) (by omega), rfl, rfl, rfl⟩
theorem z8j (N : Nat) (hN : 20000 < N) (hc : CodeV m c) (hs : StV m c s) {x : HwInstruction} (hx : c.Instructions[s.At.toNat]? = some x) : zcb N m c s x := by
 obtain ⟨⟨h0, h26⟩, _⟩ := zaan (hc.ins x (lmg hx))
 rcases (by omega : x.Op = 0 ∨ x.Op = 1 ∨ x.Op = 2 ∨ x.Op = 3 ∨ x.Op = 4 ∨ x.Op = 5 ∨ x.Op = 6 ∨ x.Op = 7 ∨ x.Op = 8 ∨ x.Op = 9 ∨ x.Op = 10 ∨ x.Op = 11 ∨ x.Op = 12 ∨ x.Op = 13 ∨ x.Op = 14 ∨ x.Op = 15 ∨ x.Op = 16 ∨ x.Op = 17 ∨ x.Op = 18 ∨ x.Op = 19 ∨ x.Op = 20 ∨ x.Op = 21 ∨ x.Op = 22 ∨ x.Op = 23 ∨ x.Op = 24 ∨ x.Op = 25 ∨ x.Op = 26) with h | h | h | h | h | h | h | h | h | h | h | h | h | h | h | h | h | h | h | h | h | h | h | h | h | h | h
 · exact zaed N hN hc hs hx h
 · exact zaec N hN hc hs hx h
 · exact zaeb N hN hc hs hx h
 · exact zaea N hN hc hs hx h
 · exact zad9 N hN hc hs hx h
 · exact zad8 N hN hc hs hx h
 · exact zad7 N hN hc hs hx h
 · exact zad6 N hN hc hs hx h
 · exact zad5 N hN hc hs hx h
 · exact zad4 N hN hc hs hx h
 · exact zacn N hN hc hs hx h
 · exact zacm N hN hc hs hx h
 · exact zacl N hN hc hs hx h
 · exact zack N hN hc hs hx h
 · exact zacj N hN hc hs hx h
 · exact zaci N hN hc hs hx h
 · exact zach N hN hc hs hx h
 · exact zacg N hN hc hs hx h
 · exact zacf N hN hc hs hx h
 · exact zace N hN hc hs hx h
 · exact zacd N hN hc hs hx h
 · exact zacc N hN hc hs hx h
 · exact zacb N hN hc hs hx h
 · exact zaca N hN hc hs hx h
 · exact zab9 N hN hc hs hx h
 · exact zab8 N hN hc hs hx h
 · exact zab7 N hN hc hs hx h
end
end
end Go.Proofs.YtppbpnknfigboaaGreatDoor.M
