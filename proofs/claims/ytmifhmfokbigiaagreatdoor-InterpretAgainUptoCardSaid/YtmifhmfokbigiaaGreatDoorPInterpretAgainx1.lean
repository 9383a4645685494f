/- The plain law of InterpretAgain: part 1. -/
import Derived.Test.YtmifhmfokbigiaaGreatDoorPInterpretAgainx0
namespace Go.Proofs.YtmifhmfokbigiaaGreatDoor.M
open Go Go.Amx
set_option linter.unusedVariables false
set_option linter.unusedSimpArgs false
set_option maxRecDepth 100000
noncomputable section
theorem z9f : ∀ (l : List UInt8) (i : Nat) (x : UInt8), l[i / 2]? = some x → (zkd l)[i]? = some (((if i % 2 = 1 then x.toNat % 16 else x.toNat / 16 : Nat) : Nat) : Int)
 | [], i, x, h => by simp at h
 | y :: l, 0, x, h => by
  simp only [Nat.zero_div, List.getElem?_cons_zero, Option.some.injEq] at h; subst h; rfl
 | y :: l, 1, x, h => by
  simp only [show 1 / 2 = 0 from rfl, List.getElem?_cons_zero, Option.some.injEq] at h; subst h; rfl
 | y :: l, i + 2, x, h => by
  rw [show (i + 2) / 2 = i / 2 + 1 by omega, List.getElem?_cons_succ] at h; have := z9f l i x h; have e : zkd (y :: l) = ((y.toNat / 16 : Nat) : Int) :: ((y.toNat % 16 : Nat) : Int) :: zkd l := rfl; rw [e, List.getElem?_cons_succ, List.getElem?_cons_succ, this]
  congr 3
  rw [show (i + 2) % 2 = i % 2 by omega]
theorem z69 (n h : Int) (hn : -9223372036854775807 ≤ n ∧ n ≤ 9223372036854775807) : zle n h = some (if h = 11 ∨ h = 13 then -n else n, decide (h ≥ 10)) := by
 unfold zle
 rw [w6e, zcn, zcn]
 by_cases h1 : h = 11
 · rw [dct h1, ifp (.inl h1), Int.zero_sub]; rfl
 · rw [dcf h1]
   by_cases h2 : h = 13
   · rw [dct h2, ifp (.inr h2), Int.zero_sub]; rfl
   · rw [dcf h2, ifn]; rfl
theorem z98 (n : Nat) (bad : Nat → Bool) (f : Nat → Value × Int × Int) : (List.range n).any bad = ((List.range n).findSome? (fun i => if bad i = true then some (f i) else none)).isSome := by
 rw [Bool.eq_iff_iff, List.any_eq_true, List.findSome?_isSome_iff]
 constructor
 · rintro ⟨x, hx, hb⟩
   exact ⟨x, hx, by rw [ifp hb]; rfl⟩
 · rintro ⟨x, hx, hb⟩
   refine ⟨x, hx, ?_⟩; split at hb
   · assumption
   · cases hb
def ztv : Value := ⟨0, ⟨#[]⟩⟩
theorem zado (N : Nat) (hN : 2000 < N) (t : DataType) (hk : t.Kind = 2) (b : ByteArray) (hb : 0 < b.size) (hb3 : b.size ≤ 15) (hl : (b.size : Int) = t.Length) :
 ∃ v a e, zc1 N b = some (v, a, e) ∧ (match zpm t b with | some n => v.N = n ∧ e = 0 | none => e ≠ 0) := by
 have hd : zpm t b = z2o (zeh (bl b)) t.Length := by unfold zpm; rw [ifn, ifn]
 have hzl : (zeh (bl b)).length = b.size + 1 := by unfold zeh zgl; rw [lna, lnm, lns, zax]
 have hzs : zna (zeh (bl b)) = (((bl b).getD (b.size - 1) 0).toNat / 16 : Nat) := by
  unfold zna; rw [hzl, Nat.add_sub_cancel]; unfold zeh; have hl2 : (zgl (bl b)).length = b.size := by unfold zgl; rw [lnm, zax]
  rw [gdd, List.getElem?_append_right (by omega), hl2, Nat.sub_self]; rfl
 have hzd : ∀ i, i < b.size → ∀ x, (bl b)[i]? = some x → (zeh (bl b)).getD i 0 = ((x.toNat % 16 : Nat) : Int) := fun i hi x hx => by
  have hl2 : (zgl (bl b)).length = b.size := by unfold zgl; rw [lnm, zax]
  unfold zeh; rw [gdd, List.getElem?_append_left (by omega)]; unfold zgl; rw [List.getElem?_map, hx]; rfl
 have hzt : (zeh (bl b)).take b.size = zgl (bl b) := by
  have hl2 : (zgl (bl b)).length = b.size := by unfold zgl; rw [lnm, zax]
  unfold zeh; rw [List.take_append_of_le_length (by omega), List.take_of_length_le (by omega)]
 have hx1 : (bl b)[b.size - 1]? = some ((bl b).getD (b.size - 1) 0) := zwd (by rw [zax]; omega)
 have hlb := ((bl b).getD (b.size - 1) 0).toNat_lt
 generalize hS : ((bl b).getD (b.size - 1) 0).toNat / 16 = S at *
 have hS16 : S < 16 := by omega
 rw [hd]
 unfold zc1
 have lp := zbh (f := zc1.r0 N) (fun i => (b, zgd ((zgl (bl b)).take i), (if i = b.size then (S : Int) else 15), (i : Int), ztv))
  (fun i => if (decide ((zeh (bl b)).getD i 0 > 9) || (decide (i = b.size - 1) && decide ((S : Int) < 10))) = true then some (ztv, (i : Int), (21 : Int)) else none) b.size
  (fun i hi => by
   obtain ⟨x, hx⟩ : ∃ x, (bl b)[i]? = some x := zfh (by rw [zax]; exact hi); have hxl := x.toNat_lt; have hnx : (zgl (bl b))[i]? = some ((x.toNat % 16 : Nat) : Int) := by unfold zgl; rw [List.getElem?_map, hx]; rfl
   have hf := zqg ((zgl (bl b)).take i) _ (List.reverse_reverse _).symm fun d hd => by
    obtain ⟨y, _, rfl⟩ := List.mem_map.1 (List.mem_of_mem_take hd); omega
   have hpow : 10 ^ ((zgl (bl b)).take i).length ≤ 10 ^ 15 := zcs (by rw [lnt]; omega); have hm : (w6 (x.toNat : Int)).tmod 16 = ((x.toNat % 16 : Nat) : Int) := by rw [w6e, tme]; omega
   have hm2 : ((x.toNat : Int).tmod 16) = ((x.toNat % 16 : Nat) : Int) := by rw [tme]; omega
   have hdv : w6 ((w6 (x.toNat : Int)).tdiv 16) = ((x.toNat / 16 : Nat) : Int) := by rw [w6e (n := (x.toNat : Int)), tde, w6e]; omega
   have hnext : zgd ((zgl (bl b)).take (i + 1)) = 10 * zgd ((zgl (bl b)).take i) + ((x.toNat % 16 : Nat) : Int) := by rw [zel _ _ hnx, zsm]; omega
   rw [hnext]; generalize zgd ((zgl (bl b)).take i) = F at *; rw [hzd i hi x hx]; simp only [zc1.r0, zc1.b0, dct (show (i : Int) < (b.size : Int) by omega), ctr, zjv, hx, obs, hm, hm2, hdv]; rw [w6e (n := (b.size : Int) - 1), w6e (n := (i : Int) + 1), w6e (n := 10 * F), w6e (n := 10 * F + ((x.toNat % 16 : Nat) : Int)), zcn]
   by_cases hi1 : i = b.size - 1
   · have hxe : x = (bl b).getD (b.size - 1) 0 := by rw [hi1] at hx; rw [hx1] at hx; exact (Option.some.inj hx).symm
     have hxS : x.toNat / 16 = S := by rw [hxe]; exact hS
     rw [dct (show (i : Int) = (b.size : Int) - 1 by omega), dct hi1, hxS, ifn (show ¬ i = b.size by omega), ifp (show i + 1 = b.size by omega)]; simp only [ctr, Bool.true_and]; cases h1 : decide ((S : Int) < 10) <;> cases h2 : decide (((x.toNat % 16 : Nat) : Int) > 9) <;> rfl
   · rw [dcf (show ¬ (i : Int) = (b.size : Int) - 1 by omega), dcf hi1, ifn (show ¬ i = b.size by omega), ifn (show ¬ i + 1 = b.size by omega)]; simp only [cfa, Bool.false_and, Bool.or_false]; cases h2 : decide (((x.toNat % 16 : Nat) : Int) > 9) <;> rfl)
  (by simp only [zc1.r0, zc1.b0, dcf (show ¬ (b.size : Int) < (b.size : Int) by omega), cfa]) (N := N) (by omega)
 simp only [List.take_zero, nc0] at lp
 rw [show zgd [] = 0 from rfl, ifn (show ¬ 0 = b.size by omega)] at lp
 rw [show (⟨0, (⟨#[]⟩ : ByteArray)⟩ : Value) = ztv from rfl, lp]
 simp only [obs]
 have ha := z98 b.size (fun i => decide ((zeh (bl b)).getD i 0 > 9) || (decide (i = b.size - 1) && decide ((S : Int) < 10))) (fun i => (ztv, (i : Int), (21 : Int)))
 have hc : (List.range b.size).any (fun i => decide ((zeh (bl b)).getD i 0 > 9) || (decide (i = b.size - 1) && decide ((S : Int) < 10))) = ((List.range ((zeh (bl b)).length - 1)).any (zks (zeh (bl b)) t.Length) || decide (zna (zeh (bl b)) < 10)) := by
  rw [hzl, Nat.add_sub_cancel, hzs, Bool.eq_iff_iff, Bool.or_eq_true, List.any_eq_true, List.any_eq_true]; constructor
  · rintro ⟨i, hi, hb⟩
    rw [Bool.or_eq_true, Bool.and_eq_true] at hb; rcases hb with hb | ⟨_, hb⟩
    · exact .inl ⟨i, hi, by unfold zks; rw [hb, Bool.true_or]⟩
    · exact .inr hb
  · rintro (⟨i, hi, hb⟩ | hb)
    · refine ⟨i, hi, ?_⟩; unfold zks at hb; rw [Bool.or_eq_true] at hb; rcases hb with hb | hb
      · rw [hb, Bool.true_or]
      · rw [Bool.and_eq_true] at hb; have h2 := of_decide_eq_true hb.2; rw [hzl] at h2; omega
    · exact ⟨b.size - 1, by rw [List.mem_range]; omega, by rw [hb]; simp⟩
 rw [ha] at hc
 unfold z2o
 cases hf : (List.range b.size).findSome? (fun i => if (decide ((zeh (bl b)).getD i 0 > 9) || (decide (i = b.size - 1) && decide ((S : Int) < 10))) = true then some (ztv, (i : Int), (21 : Int)) else none) with
 | some r =>
  obtain ⟨i, _, hi⟩ := eof hf; split at hi
  · cases hi; rw [hf] at hc; have hc' : ((List.range ((zeh (bl b)).length - 1)).any (zks (zeh (bl b)) t.Length) || decide (zna (zeh (bl b)) < 10)) = true := hc.symm; rw [Bool.or_eq_true, decide_eq_true_eq] at hc'; rw [ifp hc']; exact ⟨_, _, _, rfl, by decide⟩
  · cases hi
 | none =>
  rw [hf] at hc; have hc' : ((List.range ((zeh (bl b)).length - 1)).any (zks (zeh (bl b)) t.Length) || decide (zna (zeh (bl b)) < 10)) = false := hc.symm; rw [Bool.or_eq_false_iff, decide_eq_false_iff_not] at hc'; have hf := zqg (zgl (bl b)) _ (List.reverse_reverse _).symm fun d hd => by
   obtain ⟨y, _, rfl⟩ := List.mem_map.1 hd; omega
  have hpow : 10 ^ (zgl (bl b)).length ≤ 10 ^ 15 := zcs (by unfold zgl; rw [lnm, zax]; omega); have hnc : ¬ ((List.range ((zeh (bl b)).length - 1)).any (zks (zeh (bl b)) t.Length) = true ∨ zna (zeh (bl b)) < 10) := by rw [hc'.1]; simpa using hc'.2
  rw [ifn hnc, hzl, Nat.add_sub_cancel, hzt, hzs]; simp only [zb5, if_true]; rw [show (zgl (bl b)).take b.size = zgl (bl b) from List.take_of_length_le (by unfold zgl; rw [lnm, zax]; omega), z69 _ _ ⟨by omega, by omega⟩]; refine ⟨_, _, _, rfl, ?_, rfl⟩
  by_cases h1 : (S : Int) = 11 ∨ (S : Int) = 13
  · rw [ifp h1]
  · rw [ifn h1]
theorem zace (N : Nat) (hN : 2000 < N) (t : DataType) (hk : t.Kind = 1) (b : ByteArray) (hl1 : 1 ≤ t.Length ∧ t.Length ≤ 15) (hl : (b.size : Int) = t.Length / 2 + 1) :
 ∃ v a e, zcw N t b = some (v, a, e) ∧ (match zpm t b with | some n => v.N = n ∧ e = 0 | none => e ≠ 0) := by
 have hd : zpm t b = z2o (zkd (bl b)) t.Length := by unfold zpm; rw [ifn, ifp hk]
 have hzl : (zkd (bl b)).length = 2 * b.size := by rw [ztj, zax]
 have hr := (zu3 (l := bl b)).1
 rw [hd]
 have zc := z9f (bl b)
 generalize zkd (bl b) = l at *
 have hS : zna l = l.getD (2 * b.size - 1) 0 := by unfold zna; rw [hzl]
 generalize zna l = S at *
 unfold zcw
 have lp := zbh (f := zcw.r0 N) (fun i => (b, (if i = 2 * b.size then (if S = 11 ∨ S = 13 then -zgd (l.take (2 * b.size - 1)) else zgd (l.take (2 * b.size - 1))) else zgd (l.take i)), (i : Int), t, ztv))
  (fun i => if (if i = 2 * b.size - 1 then decide (S < 10) else (decide (l.getD i 0 > 9) || (decide (i = 0) && (decide (t.Length % 2 = 0) && decide (l.getD i 0 ≠ 0))))) = true then some (ztv, ((i / 2 : Nat) : Int), (21 : Int)) else none) (2 * b.size)
  (fun i hi => by
   obtain ⟨x, hx⟩ : ∃ x, (bl b)[i / 2]? = some x := zfh (by rw [zax]; omega); have hxl := x.toNat_lt; have hxi := zc i x hx; have hxd : l.getD i 0 = ((if i % 2 = 1 then x.toNat % 16 else x.toNat / 16 : Nat) : Int) := by rw [gdd, hxi]; rfl
   have hf := zqg (l.take i) _ (List.reverse_reverse _).symm fun d hd => hr d (List.mem_of_mem_take hd); have hpow : 10 ^ (l.take i).length ≤ 10 ^ 16 := zcs (by rw [lnt]; omega); have hm : ((w6 (x.toNat : Int)).tmod 16) = ((x.toNat % 16 : Nat) : Int) := by rw [w6e, tme]; omega
   have hdv : w6 ((w6 (x.toNat : Int)).tdiv 16) = ((x.toNat / 16 : Nat) : Int) := by rw [w6e (n := (x.toNat : Int)), tde, w6e]; omega
   have hnext : zgd (l.take (i + 1)) = 10 * zgd (l.take i) + l.getD i 0 := by rw [zel _ _ hxi, zsm, hxd]; omega
   have hidx : w6 ((i : Int).tdiv 2) = ((i / 2 : Nat) : Int) := by rw [tde, w6e]; omega
   have hpar : ((i : Int).tmod 2 == 1) = decide (i % 2 = 1) := by rw [tme, zcn]; simp only [decide_eq_decide]; omega
   have hev : (t.Length.tmod 2 == 0) = decide (t.Length % 2 = 0) := by rw [tme, zcn]
   have hw1 : w6 (2 * (b.size : Int)) = ((2 * b.size : Nat) : Int) := by rw [w6e]; omega
   have hw2 : w6 (((2 * b.size : Nat) : Int) - 1) = ((2 * b.size - 1 : Nat) : Int) := by rw [w6e]; omega
   have hi0 : ((i : Int) == 0) = decide (i = 0) := by rw [zcn]; simp only [decide_eq_decide]; omega
   have hil : ((i : Int) == ((2 * b.size - 1 : Nat) : Int)) = decide (i = 2 * b.size - 1) := by rw [zcn]; simp only [decide_eq_decide]; omega
   have sg := z69 (zgd (l.take i)) (l.getD i 0) ⟨by omega, by omega⟩; rw [hxd] at hnext sg ⊢; simp only [zcw.r0, zcw.b0, hw1, hw2, dct (show (i : Int) < ((2 * b.size : Nat) : Int) by omega), ctr, hidx, zjv, hx, obs, hm, hdv, hpar, hev, hi0, hil]; rw [w6e (n := (i : Int) + 1), ifn (show ¬ i = 2 * b.size by omega)]
   by_cases hp : i % 2 = 1
   · rw [ifp hp] at hnext sg; rw [dct hp, ctr]; simp only [ifp hp]; have hH : x.toNat % 16 < 16 := by omega
     by_cases hl : i = 2 * b.size - 1
     · have hSx : S = ((x.toNat % 16 : Nat) : Int) := by rw [hS, ← hl, hxd, ifp hp]
       rw [dct hl, ifp hl, ifp (show i + 1 = 2 * b.size by omega), ← hl, hSx, sg, dcf (show ¬ i = 0 by omega)]; simp only [ctr, cfa, obs]; cases h1 : decide (((x.toNat % 16 : Nat) : Int) < 10) <;> rfl
     · rw [dcf hl, ifn hl, ifn (show ¬ i + 1 = 2 * b.size by omega), hnext, dcf (show ¬ i = 0 by omega)]; generalize x.toNat % 16 = h at *; generalize zgd (l.take i) = F at *; simp only [ctr, cfa, obs, Bool.false_and, Bool.or_false]; rw [w6e (n := 10 * F), w6e (n := 10 * F + (h : Int))]; cases h1 : decide ((h : Int) > 9) <;> rfl
   · rw [ifn hp] at hnext sg; rw [dcf hp, cfa]; simp only [ifn hp]; have hl : ¬ i = 2 * b.size - 1 := by omega
     have hH : x.toNat / 16 < 16 := by omega
     rw [dcf hl, ifn hl, ifn (show ¬ i + 1 = 2 * b.size by omega), hnext]; generalize x.toNat / 16 = h at *; generalize zgd (l.take i) = F at *; simp only [ctr, cfa, obs]; rw [w6e (n := 10 * F), w6e (n := 10 * F + (h : Int)), zd1]; cases h1 : decide ((h : Int) > 9) <;> cases h2 : decide (i = 0) <;> cases h3 : decide (t.Length % 2 = 0) <;> cases h4 : decide ((h : Int) ≠ 0) <;> rfl)
  (by
   have hw1 : w6 (2 * (b.size : Int)) = ((2 * b.size : Nat) : Int) := by rw [w6e]; omega
   simp only [zcw.r0, zcw.b0, hw1, dcf (show ¬ ((2 * b.size : Nat) : Int) < ((2 * b.size : Nat) : Int) by omega), cfa]) (N := N) (by omega)
 simp only [List.take_zero, nc0, if_true] at lp
 rw [show zgd [] = 0 from rfl, ifn (show ¬ 0 = 2 * b.size by omega)] at lp
 rw [show (⟨0, (⟨#[]⟩ : ByteArray)⟩ : Value) = ztv from rfl, lp]
 simp only [obs]
 have ha := z98 (2 * b.size) (fun i => (if i = 2 * b.size - 1 then decide (S < 10) else (decide (l.getD i 0 > 9) || (decide (i = 0) && (decide (t.Length % 2 = 0) && decide (l.getD i 0 ≠ 0)))))) (fun i => (ztv, ((i / 2 : Nat) : Int), (21 : Int)))
 have hc : (List.range (2 * b.size)).any (fun i => (if i = 2 * b.size - 1 then decide (S < 10) else (decide (l.getD i 0 > 9) || (decide (i = 0) && (decide (t.Length % 2 = 0) && decide (l.getD i 0 ≠ 0)))))) = ((List.range (l.length - 1)).any (zks l t.Length) || decide (S < 10)) := by
  rw [hzl, Bool.eq_iff_iff, Bool.or_eq_true, List.any_eq_true, List.any_eq_true]; have key : ∀ i, i < 2 * b.size - 1 → (decide (l.getD i 0 > 9) || (decide (i = 0) && (decide (t.Length % 2 = 0) && decide (l.getD i 0 ≠ 0)))) = zks l t.Length i := by
   intro i hi; unfold zks; have hxi : l[i]? = some (l.getD i 0) := by rw [gdd, lge (by omega)]; rfl
   have := hr _ (lmg hxi); rw [hzl]; rw [Bool.eq_iff_iff]; simp only [Bool.or_eq_true, Bool.and_eq_true, decide_eq_true_eq]; omega
  constructor
  · rintro ⟨i, hi, hb⟩
    have hi' := List.mem_range.1 hi; split at hb
    · exact .inr hb
    · rw [key i (by omega)] at hb; exact .inl ⟨i, List.mem_range.2 (by omega), hb⟩
  · rintro (⟨i, hi, hb⟩ | hb)
    · have hi' := List.mem_range.1 hi; refine ⟨i, List.mem_range.2 (by omega), ?_⟩; rw [ifn, key i hi']; exact hb
    · exact ⟨2 * b.size - 1, List.mem_range.2 (by omega), by rw [ifp rfl]; exact hb⟩
 rw [ha] at hc
 unfold z2o
 rw [show zna l = S by unfold zna; rw [hzl]; exact hS.symm]
 cases hf : (List.range (2 * b.size)).findSome? (fun i => if (if i = 2 * b.size - 1 then decide (S < 10) else (decide (l.getD i 0 > 9) || (decide (i = 0) && (decide (t.Length % 2 = 0) && decide (l.getD i 0 ≠ 0))))) = true then some (ztv, ((i / 2 : Nat) : Int), (21 : Int)) else none) with
 | some r =>
  obtain ⟨i, _, hi⟩ := eof hf
  by_cases hq : (if i = 2 * b.size - 1 then decide (S < 10) else (decide (l.getD i 0 > 9) || (decide (i = 0) && (decide (t.Length % 2 = 0) && decide (l.getD i 0 ≠ 0))))) = true
  · rw [ifp hq] at hi; cases hi; rw [hf] at hc; have hc' : ((List.range (l.length - 1)).any (zks l t.Length) || decide (S < 10)) = true := hc.symm; rw [Bool.or_eq_true, decide_eq_true_eq] at hc'; rw [ifp hc']; exact ⟨_, _, _, rfl, by decide⟩
  · rw [ifn hq] at hi; cases hi
 | none =>
  rw [hf] at hc; have hc' : ((List.range (l.length - 1)).any (zks l t.Length) || decide (S < 10)) = false := hc.symm; rw [Bool.or_eq_false_iff, decide_eq_false_iff_not] at hc'; have hnc : ¬ ((List.range (l.length - 1)).any (zks l t.Length) = true ∨ S < 10) := by rw [hc'.1]; simpa using hc'.2
  rw [ifn hnc, hzl]; exact ⟨_, _, _, rfl, rfl, rfl⟩
theorem zach (N : Nat) (hN : 2000 < N) {t : DataType} (ht : zkh t) {b : ByteArray} (hb : (b.size : Int) = szE t) :
 ∃ v a e, zwl N t b = some (v, a, e) ∧ (match zpm t b with | some n => v.N = n ∧ e = 0 | none => e ≠ 0) := by
 obtain ⟨⟨l1, l2⟩, l3, l4⟩ := zgc ht
 have hsz := zv3 ht
 have ht' := ht
 obtain ⟨h0, h1, h2⟩ := ht'
 unfold zwl
 rw [z2v, h0]
 simp only [obs, bsf, cfa, zcn]
 rw [dcf (show ¬ t.Kind = 4 by omega), dcf (show ¬ t.Kind = 0 by omega), zs5 h0]
 simp only [obs, cfa]
 rw [hb]
 simp only [bsf, cfa]
 by_cases hk : t.Kind = 3
 · rw [dct hk, ctr]; have hs4 : b.size ≤ 4 ∧ 0 < b.size := by
    rw [hsz, ifn, ifp hk] at hb; split at hb <;> omega
   have hbig : zfj N b 0 (szE t) = some ((beV (bl b) : Nat) : Int) := by
    have := z2w N (by omega) b 0 b.size (by omega) (by omega) (by omega); rw [dr0, ← zax, List.take_length, zax, hb] at this; exact this
   obtain ⟨x0, hx0⟩ : ∃ x, (bl b)[0]? = some x := zfh (by rw [zax]; omega); have i0 : zhl b 0 = some x0 := by rw [show (0 : Int) = ((0 : Nat) : Int) from rfl, zjv, hx0]
   have hx00 : (bl b).getD 0 0 = x0 := by rw [gdd, hx0]; rfl
   have hp := z4a N (by omega) t.Length.toNat (by omega); rw [Int.toNat_of_nonneg (by omega)] at hp; have hp2 : 10 ^ t.Length.toNat ≤ 10 ^ 15 := zcs (by omega); have hp3 := zcx t.Length.toNat; have hv := z56 (bl b); have hv2 : 256 ^ (bl b).length ≤ 256 ^ 4 := Nat.pow_le_pow_right (by decide) (by rw [zax]; omega); rw [hbig, i0]; simp only [obs, ziw, hp]; have hbd : zo6 (bl b) = if 128 ≤ x0.toNat then (beV (bl b) : Int) - (256 ^ (bl b).length : Nat) else (beV (bl b) : Int) := by unfold zo6; rw [hx00]
   unfold zpm; rw [ifp hk, hbd]; have hsz8 : w6 (8 * szE t) = ((8 * b.size : Nat) : Int) := by rw [← hb, w6e]; omega
   rw [hsz8]; have hpow : (1 : Int) * 2 ^ (min (((8 * b.size : Nat) : Int)).toNat 64) = ((256 ^ (bl b).length : Nat) : Int) := by
    rw [itn, Nat.min_eq_left (by omega), Int.one_mul, zax, show (256 : Nat) = 2 ^ 8 from rfl, ← Nat.pow_mul, Int.natCast_pow]; rfl
   rw [hpow]; generalize 256 ^ (bl b).length = P at *; generalize 10 ^ t.Length.toNat = T at *; rw [w6e (n := (T : Int) - 1), w6e (n := 0 - ((T : Int) - 1)), w6e (n := (P : Int))]
   by_cases hx : 128 ≤ x0.toNat
   · rw [dct (show (x0.toNat : Int) ≥ 128 by omega), ctr, ifn, ifp hx, w6e, zjg]; simp only [obs]
     by_cases hr : -(T : Int) < (beV (bl b) : Int) - (P : Int) ∧ (beV (bl b) : Int) - (P : Int) < (T : Int)
     · rw [ifp hr, zbf.2 ⟨by omega, by omega⟩]; exact ⟨_, _, _, rfl, rfl, rfl⟩
     · rw [ifn hr, show inB ((beV (bl b) : Int) - (P : Int)) (0 - ((T : Int) - 1)) ((T : Int) - 1) = false by
        cases hb : inB ((beV (bl b) : Int) - (P : Int)) (0 - ((T : Int) - 1)) ((T : Int) - 1) with
        | false => rfl
        | true => have := zbf.1 hb; omega]
       exact ⟨_, _, _, rfl, by decide⟩
   · rw [dcf (show ¬ (x0.toNat : Int) ≥ 128 by omega), cfa, ifn hx, zjg]; simp only [obs]
     by_cases hr : -(T : Int) < (beV (bl b) : Int) ∧ (beV (bl b) : Int) < (T : Int)
     · rw [ifp hr, zbf.2 ⟨by omega, by omega⟩]; exact ⟨_, _, _, rfl, rfl, rfl⟩
     · rw [ifn hr, show inB ((beV (bl b) : Int)) (0 - ((T : Int) - 1)) ((T : Int) - 1) = false by
        cases hb : inB ((beV (bl b) : Int)) (0 - ((T : Int) - 1)) ((T : Int) - 1) with
        | false => rfl
        | true => have := zbf.1 hb; omega]
       exact ⟨_, _, _, rfl, by decide⟩
 · rw [dcf hk, cfa]
   by_cases hk2 : t.Kind = 2
   · rw [dct hk2, ctr]; have hl : (b.size : Int) = t.Length := by rw [hb, hsz, ifn, ifn hk]
     obtain ⟨v, a, e, g1, g2⟩ := zado N hN t hk2 b (by omega) (by omega) hl; rw [g1]; exact ⟨_, _, _, rfl, g2⟩
   · rw [dcf hk2, cfa]; have hk1 : t.Kind = 1 := by omega
     obtain ⟨v, a, e, g1, g2⟩ := zace N hN t hk1 b ⟨l1, l2⟩ (by rw [hb, hsz, ifp hk1]); rw [g1]; exact ⟨_, _, _, rfl, g2⟩
set_option exponentiation.threshold 3000
theorem zrv (l : List Int) (x : Int) : dv (l ++ [x]) = dv l + 10 ^ l.length * x.toNat := by
 rw [zxf]; simp [dv]
theorem zye (l : List Int) (i : Nat) {x : Int} (h : l[i]? = some x) : dv (l.take (i + 1)) = dv (l.take i) + 10 ^ i * x.toNat := by
 have hl := (gei h).1
 rw [zel l i h, zrv, lnt, Nat.min_eq_left (Nat.le_of_lt hl)]
theorem ztm (l : List Int) (i : Nat) {x : Int} (h : l[i]? = some x) : dv (l.drop i) = x.toNat + 10 * dv (l.drop (i + 1)) := by
 obtain ⟨h1, h2⟩ := gei h
 rw [List.drop_eq_getElem_cons h1, h2]; rfl
theorem ztt {l : List Int} (h : dok l) {x : Int} (h0 : 0 ≤ x) (h1 : x < 10) : dok (l ++ [x]) := z0n h fun d hd => by
 rcases List.mem_cons.1 hd with rfl | hd
 · exact ⟨h0, h1⟩
 · cases hd
theorem zaa4 {l : List Int} (h : dok l) (hc : zq6 l) (hl : l ≠ []) : 10 ^ (l.length - 1) ≤ dv l := by
 refine cbc fun hn => ?_
 have := (zji (dv l) (l.length - 1)).2 (by omega)
 rw [z54 h hc] at this
 have : l.length ≠ 0 := fun h => hl (List.length_eq_zero_iff.1 h)
 omega
theorem zabz {l : List Int} (h : dok l) (hg : l ≠ [] → 10 ^ (l.length - 1) ≤ dv l) : zq6 l := by
 unfold zq6
 intro hlast
 have hne : l ≠ [] := by intro h; rw [h] at hlast; cases hlast
 have hg' := hg hne
 have hlen : l.length ≠ 0 := fun h => hne (List.length_eq_zero_iff.1 h)
 have hx : l[l.length - 1]? = some 0 := by rw [← List.getLast?_eq_getElem?]; exact hlast
 have := zye l (l.length - 1) hx
 rw [show l.length - 1 + 1 = l.length by omega, List.take_length] at this
 have hlt := z50 (z4o h (l.length - 1))
 rw [lnt, Nat.min_eq_left (by omega)] at hlt
 simp only [Int.toNat_zero, Nat.mul_zero, Nat.add_zero] at this
 omega
theorem zva {l : List Int} (h : dok l) {i : Nat} {x : Int} (hx : l[i]? = some x) : 0 ≤ x ∧ x < 10 := h x (lmg hx)
theorem zv6 (N : Nat) (l : List Int) (h : dok l) (hN : l.length < N) (hl : l.length < 1000000) : zen N l = some (dg (dv l)) := by
 unfold zen
 obtain ⟨s', h1, h2⟩ := zn6 (f := zen.r0 N) (fun s => dok s ∧ dv s = dv l ∧ s.length < 1000000) (fun s => s.length) (fun s => s = dg (dv l))
  (fun s hs => by
   obtain ⟨s1, s2, s3⟩ := hs; simp only [zen.r0, zen.b0]
   by_cases h0 : s.length = 0
   · have hn : s = [] := List.length_eq_zero_iff.1 h0; right; rw [dcf (by omega)]; refine ⟨s, rfl, ?_⟩; rw [← s2, hn]; exact znz.symm
   · obtain ⟨x, hx⟩ : ∃ x, s[s.length - 1]? = some x := zfh (by omega); rw [dct (show (s.length : Int) > 0 by omega), w6e, show (s.length : Int) - 1 = ((s.length - 1 : Nat) : Int) by omega, zai, hx]; simp only [ctr, obs]
     by_cases hz : x = 0
     · left; rw [zcn, dct hz, ctr, ifp, ifp]; refine ⟨_, rfl, ⟨?_, ?_, ?_⟩, ?_⟩
       · rw [itn, show (0 : Int).toNat = 0 from rfl, dr0]; exact z4o s1 _
       · rw [itn, show (0 : Int).toNat = 0 from rfl, dr0, ← s2]; have := zye s (s.length - 1) hx; rw [show s.length - 1 + 1 = s.length by omega, List.take_length, hz] at this; simp only [Int.toNat_zero, Nat.mul_zero, Nat.add_zero] at this; exact this.symm
       · rw [itn, show (0 : Int).toNat = 0 from rfl, dr0, lnt]; omega
       · rw [itn, show (0 : Int).toNat = 0 from rfl, dr0, lnt]; omega
     · right; rw [zcn, dcf hz, cfa]; refine ⟨s, rfl, ?_⟩; rw [← s2]; refine (z54 s1 ?_).symm; unfold zq6; rw [List.getLast?_eq_getElem?, hx]; intro h; exact hz (Option.some.inj h))
  (N := N) (s := l) ⟨h, rfl, hl⟩ hN
 rw [h1, h2]
 rfl
theorem zabr {n : Nat} (h : n ≠ 0) : (dg n).length = (dg (n / 10)).length + 1 := by rw [zsp h, lnc]
theorem z1r (N : Nat) (hN : 1000 < N) (n : Int) (hn : -1000000000000000 ≤ n ∧ n ≤ 1000000000000000) (z : Nat) (hz : z < 100) : zfn N n (z : Int) = some ⟨decide (n < 0), dg (n.natAbs * 10 ^ z)⟩ := by
 unfold zfn znf
 rw [ifp, ifp, zao (by omega), ctr, zsq (by omega) (by omega), itn]
 simp only [obs]
 have hd19 : (dg n.natAbs).length ≤ 18 := (zji _ 18).2 (by omega)
 obtain ⟨s', h1, h2⟩ := zn6 (f := zfn.r0 N) (fun s => ∃ (l : List Int) (x : Nat), s = (n, l, (x : Int), (⟨false, []⟩ : zK)) ∧ dok l ∧ dv l + 10 ^ l.length * x = n.natAbs * 10 ^ z ∧ l.length + (dg x).length ≤ 200 ∧ x ≤ 1000000000000000)
  (fun s => (dg s.2.2.1.toNat).length) (fun s => ∃ l : List Int, s = (n, l, 0, (⟨false, []⟩ : zK)) ∧ dok l ∧ dv l = n.natAbs * 10 ^ z ∧ l.length ≤ 200)
  (fun s hs => by
   obtain ⟨l, x, rfl, s1, s2, s3, s4⟩ := hs; simp only [zfn.r0, zfn.b0]
   by_cases h0 : x = 0
   · right; subst h0; refine ⟨_, rfl, l, rfl, s1, by rw [← s2]; simp, by omega⟩
   · left; have hl := zabr h0; rw [dct (show (x : Int) > 0 by omega), ctr, zao (by simp only [lnc, ln0]; omega), ctr, tme, tde, w6e]; refine ⟨_, rfl, ⟨l ++ [((x % 10 : Nat) : Int)], x / 10, ?_, ztt s1 (by omega) (by omega), ?_, ?_, by omega⟩, ?_⟩
     · rw [show (x : Int) % 10 = ((x % 10 : Nat) : Int) by omega, show (x : Int) / 10 = ((x / 10 : Nat) : Int) by omega]
     · rw [zrv, itn, lna, lns, Nat.pow_succ, ← s2, Nat.mul_assoc, Nat.add_assoc, ← Nat.mul_add]
       congr 2
       omega
     · rw [lna, lns]; omega
     · show (dg ((x : Int) / 10).toNat).length < (dg ((x : Int)).toNat).length; rw [itn, show ((x : Int) / 10).toNat = x / 10 by omega]; omega)
  (N := N) (s := (n, List.replicate z 0, ((n.natAbs : Nat) : Int), (⟨false, []⟩ : zK))) ⟨List.replicate z 0, n.natAbs, rfl, zu9 z, by rw [zwt, lnr, Nat.zero_add, Nat.mul_comm], by rw [lnr]; omega, by omega⟩ (by show (dg (((n.natAbs : Nat) : Int)).toNat).length < N; rw [itn]; omega)
 obtain ⟨l, rfl, l1, l2, l3⟩ := h2
 rw [h1]
 simp only [obs]
 rw [zv6 N l l1 (by omega) (by omega), l2]
 rfl
theorem zkk {l : List Int} {i : Nat} (h : l.length ≤ i) : dv (l.drop i) = 0 := by rw [List.drop_of_length_le h]; rfl
theorem zad0 (O c x y A B T P : Nat) (hP : O + P * (c + (x + 10 * A) + (y + 10 * B)) = T) : O + P * ((c + x + y) % 10) + P * 10 * ((c + x + y) / 10 + A + B) = T := by
 rw [← hP, Nat.mul_assoc, Nat.add_assoc, ← Nat.mul_add]
 congr 2
 omega
theorem zaal (N : Nat) (hN : 4000 < N) {a b : List Int} (ha : dok a) (hb : dok b) (la : a.length ≤ 1000) (lb : b.length ≤ 1000) :
 ∃ r, zgb N a b = some r ∧ dok r ∧ dv r = dv a + dv b ∧ r.length ≤ max a.length b.length + 1 ∧ (zq6 a → zq6 b → r = dg (dv a + dv b)) := by
 unfold zgb
 obtain ⟨s', h1, h2⟩ := zn6 (f := zgb.r0 N)
  (fun s => ∃ (o : List Int) (c i : Nat), s = (a, b, o, (c : Int), (i : Int)) ∧ o.length = i ∧ dok o ∧ c ≤ 1 ∧ dv o + 10 ^ i * (c + dv (a.drop i) + dv (b.drop i)) = dv a + dv b ∧ (i ≤ max a.length b.length ∨ (i = max a.length b.length + 1 ∧ c = 0 ∧ 10 ^ (max a.length b.length) ≤ dv o)))
  (fun s => 2 * (max a.length b.length - s.2.2.2.2.toNat) + s.2.2.2.1.toNat) (fun s => ∃ (o : List Int), s.2.2.1 = o ∧ dok o ∧ dv o = dv a + dv b ∧ o.length ≤ max a.length b.length + 1 ∧ (o.length ≤ max a.length b.length ∨ 10 ^ (o.length - 1) ≤ dv o) ∧ max a.length b.length ≤ o.length)
  (fun s hs => by
   obtain ⟨o, c, i, rfl, s1, s2, s3, s4, s5⟩ := hs; simp only [zgb.r0, zgb.b0]; have hg : ((cond (decide ((i : Int) < (a.length : Int))) (some true) (some (decide ((i : Int) < (b.length : Int))))).bind fun g1001 => (cond g1001 (some true) (some (decide ((c : Int) > 0))))) = some (decide (i < a.length ∨ i < b.length ∨ 0 < c)) := by
    by_cases h1 : i < a.length
    · rw [dct (show (i : Int) < (a.length : Int) by omega), dct (show i < a.length ∨ i < b.length ∨ 0 < c by omega)]; rfl
    · rw [dcf (show ¬ (i : Int) < (a.length : Int) by omega)]
      by_cases h2 : i < b.length
      · rw [dct (show (i : Int) < (b.length : Int) by omega), dct (show i < a.length ∨ i < b.length ∨ 0 < c by omega)]; rfl
      · rw [dcf (show ¬ (i : Int) < (b.length : Int) by omega)]
        by_cases h3 : 0 < c
        · rw [dct (show (c : Int) > 0 by omega), dct (show i < a.length ∨ i < b.length ∨ 0 < c by omega)]; rfl
        · rw [dcf (show ¬ (c : Int) > 0 by omega), dcf (by omega)]; rfl
   rw [← Option.bind_assoc, hg]; simp only [obs]
   by_cases hgo : i < a.length ∨ i < b.length ∨ 0 < c
   · left; rw [dct hgo, ctr]; have hi : i ≤ max a.length b.length := by
      rcases s5 with s5 | ⟨s5, s6, _⟩ <;> omega
     have hroom : ∀ x : Int, Nat.ble ((o.length + ([x] : List Int).length) * 8) zbr = true := fun x => zao (by simp only [lnc, ln0]; omega); obtain ⟨x, A, hx1, hx2⟩ : ∃ (x A : Nat), dv (a.drop i) = x + 10 * A ∧ (dv (a.drop (i + 1)) = A ∧ x < 10 ∧ (if i < a.length then a[i]? = some (x : Int) else x = 0)) := by
      by_cases h : i < a.length
      · obtain ⟨x, hx⟩ : ∃ x, a[i]? = some x := zfh h; have hb := zva ha hx; have hdr := ztm a i hx; exact ⟨x.toNat, dv (a.drop (i + 1)), hdr, rfl, by omega, by rw [ifp h, hx]; congr 1; omega⟩
      · exact ⟨0, 0, by rw [zkk (by omega)], by rw [zkk (by omega)], by omega, by rw [ifn h]⟩
     obtain ⟨y, B, hy1, hy2⟩ : ∃ (y B : Nat), dv (b.drop i) = y + 10 * B ∧ (dv (b.drop (i + 1)) = B ∧ y < 10 ∧ (if i < b.length then b[i]? = some (y : Int) else y = 0)) := by
      by_cases h : i < b.length
      · obtain ⟨x, hx⟩ : ∃ x, b[i]? = some x := zfh h; have hb := zva hb hx; have hdr := ztm b i hx; exact ⟨x.toNat, dv (b.drop (i + 1)), hdr, rfl, by omega, by rw [ifp h, hx]; congr 1; omega⟩
      · exact ⟨0, 0, by rw [zkk (by omega)], by rw [zkk (by omega)], by omega, by rw [ifn h]⟩
     obtain ⟨hA, hx3, hx4⟩ := hx2; obtain ⟨hB, hy3, hy4⟩ := hy2; rw [hx1, hy1] at s4; have alg := zad0 _ _ _ _ _ _ _ _ s4; refine ⟨(a, b, o ++ [(((c + x + y) % 10 : Nat) : Int)], (((c + x + y) / 10 : Nat) : Int), ((i + 1 : Nat) : Int)), ?_, ⟨o ++ [(((c + x + y) % 10 : Nat) : Int)], (c + x + y) / 10, i + 1, rfl, by rw [lna, lns, s1], ztt s2 (by omega) (by omega), by omega, ?_, ?_⟩, ?_⟩
     · have fin : ∀ v : Int, v = ((c + x + y : Nat) : Int) → (cond (Nat.ble ((o.length + ([v.tmod 10] : List Int).length) * 8) zbr) (some (Stp.again (a, b, o ++ [v.tmod 10], w6 (v.tdiv 10), w6 ((i : Int) + 1)))) none) = some (.again (a, b, o ++ [(((c + x + y) % 10 : Nat) : Int)], (((c + x + y) / 10 : Nat) : Int), ((i + 1 : Nat) : Int))) := by
        intro v hv; rw [hroom, ctr, hv, tme, tde, w6e, w6e]
        congr 1
       by_cases h1 : i < a.length
       · rw [ifp h1] at hx4; rw [dct (show (i : Int) < (a.length : Int) by omega), ctr, zai, hx4, obs]
         by_cases h2 : i < b.length
         · rw [ifp h2] at hy4; rw [dct (show (i : Int) < (b.length : Int) by omega), ctr, zai, hy4, obs]; refine fin _ ?_; rw [w6e (n := (c : Int) + (x : Int)), w6e]; omega
         · rw [ifn h2] at hy4; rw [dcf (show ¬ (i : Int) < (b.length : Int) by omega), cfa]; refine fin _ ?_; rw [w6e]; omega
       · rw [ifn h1] at hx4; rw [dcf (show ¬ (i : Int) < (a.length : Int) by omega), cfa]
         by_cases h2 : i < b.length
         · rw [ifp h2] at hy4; rw [dct (show (i : Int) < (b.length : Int) by omega), ctr, zai, hy4, obs]; refine fin _ ?_; rw [w6e]; omega
         · rw [ifn h2] at hy4; rw [dcf (show ¬ (i : Int) < (b.length : Int) by omega), cfa]; refine fin _ ?_; omega
     · rw [zrv, s1, itn, hA, hB, Nat.pow_succ]; exact alg
     · by_cases him : i = max a.length b.length
       · right; have hx0 : x = 0 := by rw [ifn] at hx4; exact hx4
         have hy0 : y = 0 := by rw [ifn] at hy4; exact hy4
         have hc1 : c = 1 := by omega
         refine ⟨by omega, by omega, ?_⟩; rw [zrv, s1, itn, hx0, hy0, hc1, him]; omega
       · left; omega
     · show 2 * (max a.length b.length - ((i + 1 : Nat) : Int).toNat) + (((c + x + y) / 10 : Nat) : Int).toNat < 2 * (max a.length b.length - (i : Int).toNat) + (c : Int).toNat; simp only [itn]
       by_cases him : i = max a.length b.length
       · have hx0 : x = 0 := by rw [ifn] at hx4; exact hx4
         have hy0 : y = 0 := by rw [ifn] at hy4; exact hy4
         omega
       · omega
   · right; rw [dcf hgo, cfa]; rw [zkk (by omega), zkk (by omega), show c = 0 by omega] at s4; refine ⟨_, rfl, o, rfl, s2, by omega, ?_, ?_, by omega⟩
     · rcases s5 with s5 | ⟨s5, _, _⟩ <;> omega
     · rcases s5 with s5 | ⟨s5, _, s7⟩
       · left; omega
       · right; rw [s1, s5, Nat.add_sub_cancel]; exact s7)
  (N := N) (s := (a, b, [], 0, 0)) ⟨[], 0, 0, rfl, rfl, fun d hd => (List.not_mem_nil hd).elim, by omega, by simp [dv], .inl (by omega)⟩ (by show 2 * (max a.length b.length - (0 : Int).toNat) + (0 : Int).toNat < N; simp only [Int.toNat_zero]; omega)
 obtain ⟨o, ho, o1, o2, o3, o4, o5⟩ := h2
 rw [h1]
 simp only [obs, ho]
 refine ⟨o, rfl, o1, o2, o3, fun hca hcb => ?_⟩
 rw [← o2]
 refine (z54 o1 (zabz o1 fun hne => ?_)).symm
 rcases o4 with o4 | o4
 · have hol : o.length ≠ 0 := fun h => hne (List.length_eq_zero_iff.1 h); have hm : o.length = a.length ∨ o.length = b.length := by omega
   rcases hm with hm | hm
   · have := zaa4 ha hca (fun h => by rw [h] at hm; exact hol hm); rw [hm, o2]; omega
   · have := zaa4 hb hcb (fun h => by rw [h] at hm; exact hol hm); rw [hm, o2]; omega
 · exact o4
theorem z4c (N : Nat) (hN : 4000 < N) (a b : Nat) (ha : a < 10 ^ 900) (hb : b < 10 ^ 900) : zgb N (dg a) (dg b) = some (dg (a + b)) := by
 obtain ⟨r, h1, _, _, _, h2⟩ := zaal N hN (zmx a) (zmx b) (Nat.le_trans ((zji a 900).2 ha) (by decide)) (Nat.le_trans ((zji b 900).2 hb) (by decide))
 rw [h1, h2 (zaa5 a) (zaa5 b), zm9, zm9]
theorem z4e (N : Nat) (hN : 4000 < N) (a b : Nat) (ha : a < 10 ^ 900) (hb : b < 10 ^ 900) : zgn N (dg a) (dg b) = some (zkb a b) := by
 have la : (dg a).length ≤ 900 := (zji a 900).2 ha
 have lb : (dg b).length ≤ 900 := (zji b 900).2 hb
 unfold zgn
 by_cases hl : (dg a).length = (dg b).length
 · rw [zd1, dcf (by omega), cfa]; have key := zacw (f := zgn.r0 N) (fun s => ∃ i : Nat, s = (dg a, dg b, (i : Int) - 1) ∧ i ≤ (dg a).length ∧ (dg a).drop i = (dg b).drop i) (fun s => (s.2.2 + 1).toNat) (fun r => r = zkb a b) (fun s => dg a = dg b)
    (fun s hs => by
     obtain ⟨i, rfl, s1, s2⟩ := hs; simp only [zgn.r0, zgn.b0]; cases i with
     | zero =>
      right; left; refine ⟨_, rfl, ?_⟩; rw [dr0, dr0] at s2; exact s2
     | succ i =>
      obtain ⟨x, hx⟩ : ∃ x, (dg a)[i]? = some x := zfh (by omega); obtain ⟨y, hy⟩ : ∃ y, (dg b)[i]? = some y := zfh (by omega); rw [dct (show ((i + 1 : Nat) : Int) - 1 ≥ 0 by omega), ctr, show ((i + 1 : Nat) : Int) - 1 = (i : Int) by omega, zai, zai, hx, hy]; simp only [obs, ziu]; obtain ⟨hxl, hxe⟩ := gei hx; obtain ⟨hyl, hye⟩ := gei hy
      by_cases hxy : x = y
      · left; rw [zd1, dcf (by omega), cfa, w6e]; refine ⟨_, rfl, ⟨i, rfl, by omega, ?_⟩, ?_⟩
        · rw [List.drop_eq_getElem_cons hxl, List.drop_eq_getElem_cons hyl, hxe, hye, hxy, s2]
        · show ((i : Int) - 1 + 1).toNat < ((i : Int) + 1).toNat; omega
      · right; right; rw [zd1, dct hxy, ctr]; refine ⟨_, rfl, ?_⟩; unfold zkb
        by_cases hlt : x < y
        · have := zac2 (zmx a) (zmx b) i hxl hyl s2 (by rw [hxe, hye]; exact hlt); rw [zm9, zm9] at this; rw [dcf (by omega), ifp this]; decide
        · have := zac2 (zmx b) (zmx a) i hyl hxl s2.symm (by rw [hxe, hye]; omega); rw [zm9, zm9] at this; rw [dct (by omega), ifn, ifp this]; decide)
    (N := N) (s := (dg a, dg b, ((dg a).length : Int) - 1)) ⟨(dg a).length, rfl, Nat.le_refl _, by rw [List.drop_of_length_le (Nat.le_refl _), List.drop_of_length_le (by omega)]⟩ (by show (((dg a).length : Int) - 1 + 1).toNat < N; omega)
   rw [w6e]; rcases key with ⟨s', h1, h2⟩ | ⟨r, h1, h2⟩
   · have e := congrArg dv h2; rw [zm9, zm9] at e; rw [h1, e]; unfold zkb; rw [ifn, ifn]; rfl
   · rw [h1, h2]; rfl
 · rw [zd1, dct (by omega), ctr, ziu]; simp only [obs]; unfold zkb
   by_cases hlt : (dg a).length < (dg b).length
   · rw [dcf (by omega), ifp (z52 hlt)]; rfl
   · have h2 := z52 (a := b) (b := a) (by omega); rw [dct (by omega), ifn, ifp h2]; rfl
theorem z4f (N : Nat) (hN : 4000 < N) (a b : Nat) (ha : a < 10 ^ 900) (hba : b ≤ a) : zgp N (dg a) (dg b) = some (dg (a - b)) := by
 have la : (dg a).length ≤ 900 := (zji a 900).2 ha
 have lab : (dg b).length ≤ (dg a).length := (zji b _).2 (Nat.lt_of_le_of_lt hba ((zji a _).1 (Nat.le_refl _)))
 have hA := zmx a
 have hB := zmx b
 have vA := zm9 a
 have vB := zm9 b
 unfold zgp
 generalize dg a = A at *
 generalize dg b = B at *
 obtain ⟨s', h1, h2⟩ := zn6 (f := zgp.r0 N)
  (fun s => ∃ (o : List Int) (c i : Nat), s = (A, B, o, (c : Int), (i : Int)) ∧ o.length = i ∧ i ≤ A.length ∧ dok o ∧ c ≤ 1 ∧ dv o + dv (B.take i) = dv (A.take i) + 10 ^ i * c)
  (fun s => A.length - s.2.2.2.2.toNat) (fun s => ∃ c : Nat, dok s.2.2.1 ∧ s.2.2.1.length = A.length ∧ dv s.2.2.1 + b = a + 10 ^ A.length * c)
  (fun s hs => by
   obtain ⟨o, c, i, rfl, s1, s2, s3, s4, s5⟩ := hs; simp only [zgp.r0, zgp.b0]
   by_cases hi : i < A.length
   · left; obtain ⟨x, hx⟩ : ∃ x, A[i]? = some x := zfh hi; obtain ⟨x0, x1⟩ := zva hA hx; have tA := zye A i hx; have hroom : ∀ x : Int, Nat.ble ((o.length + ([x] : List Int).length) * 8) zbr = true := fun x => zao (by simp only [lnc, ln0]; omega); rw [dct (show (i : Int) < (A.length : Int) by omega), ctr, zai, hx]; simp only [obs, ziu]; obtain ⟨y, hy1, hy2, hy3⟩ : ∃ y : Int, (0 ≤ y ∧ y < 10) ∧ dv (B.take (i + 1)) = dv (B.take i) + 10 ^ i * y.toNat ∧ (if i < B.length then B[i]? = some y else y = 0) := by
      by_cases h : i < B.length
      · obtain ⟨y, hy⟩ : ∃ y, B[i]? = some y := zfh h; exact ⟨y, zva hB hy, zye B i hy, by rw [ifp h]; exact hy⟩
      · exact ⟨0, by omega, by rw [List.take_of_length_le (by omega), List.take_of_length_le (by omega)]; simp, by rw [ifn h]⟩
     have fin : ∀ v : Int, v = x - (c : Int) - y → (cond (Nat.ble ((o.length + ([w6 (v + w6 (10 * cond (decide (v < 0)) 1 0))] : List Int).length) * 8) zbr) (some (Stp.again (A, B, o ++ [w6 (v + w6 (10 * cond (decide (v < 0)) 1 0))], cond (decide (v < 0)) (1 : Int) 0, w6 ((i : Int) + 1)))) none) = some (Stp.again (A, B, o ++ [if v < 0 then v + 10 else v], ((if v < 0 then 1 else 0 : Nat) : Int), ((i + 1 : Nat) : Int))) := by
      intro v hv; rw [hroom, ctr, w6e (n := (i : Int) + 1)]
      by_cases hneg : v < 0
      · rw [dct hneg, ifp hneg, ifp hneg, ctr, w6e (n := 10 * 1) (by decide) (by decide), w6e]; rfl
      · rw [dcf hneg, ifn hneg, ifn hneg, cfa, w6e (n := 10 * 0) (by decide) (by decide), w6e, Int.mul_zero, Int.add_zero]; rfl
     refine ⟨(A, B, o ++ [if x - (c : Int) - y < 0 then x - (c : Int) - y + 10 else x - (c : Int) - y], ((if x - (c : Int) - y < 0 then 1 else 0 : Nat) : Int), ((i + 1 : Nat) : Int)), ?_, ⟨_, _, _, rfl, by rw [lna, lns, s1], by omega, ztt s3 (by split <;> omega) (by split <;> omega), z5u _, ?_⟩, ?_⟩
     · by_cases h : i < B.length
       · rw [ifp h] at hy3; rw [dct (show (i : Int) < (B.length : Int) by omega), ctr, zai, hy3, obs, w6e (n := x - (c : Int)), w6e (n := x - (c : Int) - y)]; exact fin _ rfl
       · rw [ifn h] at hy3; rw [dcf (show ¬ (i : Int) < (B.length : Int) by omega), cfa, w6e (n := x - (c : Int))]; have := fin (x - (c : Int)) (by omega); rw [this, hy3, Int.sub_zero]
     · rw [zrv, hy2, tA, s1, Nat.pow_succ]; generalize 10 ^ i = P at *; have e : ∀ u : Nat, P * 10 * u = P * (10 * u) := fun u => Nat.mul_assoc _ _ _; rw [e]; have lin : (if x - (c : Int) - y < 0 then x - (c : Int) - y + 10 else x - (c : Int) - y).toNat + y.toNat + c = x.toNat + 10 * (if x - (c : Int) - y < 0 then 1 else 0) := by split <;> omega
       have := congrArg (P * ·) lin; simp only [Nat.mul_add] at this; generalize P * (if x - (c : Int) - y < 0 then x - (c : Int) - y + 10 else x - (c : Int) - y).toNat = U at *; generalize P * (10 * (if x - (c : Int) - y < 0 then 1 else 0)) = V at *; omega
     · show A.length - ((i + 1 : Nat) : Int).toNat < A.length - (i : Int).toNat; simp only [itn]; omega
   · right; rw [dcf (show ¬ (i : Int) < (A.length : Int) by omega), cfa]; rw [List.take_of_length_le (by omega), List.take_of_length_le (by omega), vA, vB] at s5; exact ⟨_, rfl, c, s3, (show o.length = A.length by omega), by rw [show A.length = i by omega]; exact s5⟩)
  (N := N) (s := (A, B, [], 0, 0)) ⟨[], 0, 0, rfl, rfl, by omega, fun d hd => (List.not_mem_nil hd).elim, by omega, by simp [dv]⟩ (by show A.length - (0 : Int).toNat < N; omega)
 obtain ⟨c, o1, o2, o3⟩ := h2
 have hlt := z50 o1
 rw [o2] at hlt
 have hc : c = 0 := by
  refine cbc fun h => ?_; have := Nat.mul_le_mul_left (10 ^ A.length) (show 1 ≤ c by omega); rw [Nat.mul_one] at this; clear ha; generalize 10 ^ A.length * c = M at *; generalize 10 ^ A.length = P at *; omega
 rw [h1]
 simp only [obs]
 rw [zv6 N _ o1 (by omega) (by omega), show dv s'.2.2.1 = a - b by rw [hc] at o3; omega]
 rfl
def sgn (s : Bool) (m : Nat) : Int := cond s (-(m : Int)) m
theorem zwb (m : Nat) : decide (((dg m).length : Int) > 0) = decide (m ≠ 0) := by
 simp only [decide_eq_decide]
 constructor
 · intro h h2; rw [h2, znz] at h; simp at h
 · intro h; rw [zsp h, lnc]; omega
theorem z9h (m : Nat) : (((dg m).length : Int) == 0) = decide (m = 0) := by
 rw [zcn]
 simp only [decide_eq_decide]
 constructor
 · intro h; refine cbc fun h2 => ?_; rw [zsp h2, lnc] at h; omega
 · intro h; rw [h, znz]; rfl
theorem z8s (N : Nat) (hN : 4000 < N) (s u : Bool) (p q : Nat) (hp : p < 10 ^ 800) (hq : q < 10 ^ 800) : ∃ v m, zul N ⟨s, dg p⟩ ⟨u, dg q⟩ = some ⟨v, dg m⟩ ∧ sgn v m = sgn s p + sgn u q ∧ m ≤ p + q := by
 have h89 : (10 : Nat) ^ 800 < 10 ^ 900 := by decide
 unfold zul
 rw [z4c N hN p q (by omega) (by omega), z4e N hN p q (by omega) (by omega)]
 simp only [obs]
 by_cases hsu : s = u
 · subst hsu; simp only [bst, ctr]; exact ⟨_, _, rfl, by unfold sgn; cases s <;> simp <;> omega, by omega⟩
 · rw [show (s == u) = false from beq_eq_false_iff_ne.2 hsu, cfa]; unfold zkb
   by_cases h : p < q
   · rw [ifp h, z4f N hN q p (by omega) (Nat.le_of_lt h)]; simp only [show decide ((-1 : Int) < 0) = true from rfl, ctr, obs, zwb]; have hz : decide (q - p ≠ 0) = true := dct (by omega); rw [hz]; refine ⟨u, q - p, by cases u <;> rfl, ?_, by omega⟩; unfold sgn; cases s <;> cases u <;> simp_all <;> omega
   · have hf : ∀ k : Int, decide ((if q < p then (1 : Int) else 0) < 0) = false := fun _ => by split <;> rfl
     rw [ifn h, hf 0, z4f N hN p q (by omega) (by omega)]; simp only [cfa, obs, zwb]; refine ⟨s && decide (p - q ≠ 0), p - q, by cases s <;> rfl, ?_, by omega⟩; unfold sgn
     by_cases hz : p - q = 0
     · rw [dcf (by omega)]; cases s <;> cases u <;> simp_all <;> omega
     · rw [dct hz]; cases s <;> cases u <;> simp_all <;> omega
theorem z30 (N : Nat) (hN : 1000 < N) {a b : Number} (ha : zdq a) (hb : zdq b) : zqi N a b = some (⟨decide (a.N < 0), dg (zal a (zf a b)).natAbs⟩, ⟨decide (b.N < 0), dg (zal b (zf a b)).natAbs⟩, zf a b) := by
 obtain ⟨s1, s2, s3, s4⟩ := zps ha hb
 obtain ⟨⟨a1, a2⟩, a3, a4⟩ := ha
 obtain ⟨⟨b1, b2⟩, b3, b4⟩ := hb
 unfold zqi
 rw [show (if b.Scale > a.Scale then b.Scale else a.Scale) = zf a b from rfl, w6e, w6e]
 have e1 := z1r N hN a.N ⟨by omega, by omega⟩ (zf a b - a.Scale).toNat (by omega)
 have e2 := z1r N hN b.N ⟨by omega, by omega⟩ (zf a b - b.Scale).toNat (by omega)
 rw [Int.toNat_of_nonneg (by omega)] at e1 e2
 rw [e1, obs, e2, obs, zkl, zkl]
theorem zvj (x : Number) (s : Int) : sgn (decide (x.N < 0)) (zal x s).natAbs = zal x s := by
 have := zrw x s
 unfold sgn
 by_cases h : x.N < 0
 · rw [dct h, ctr]; have := this.2 h; omega
 · rw [dcf h, cfa]; have : ¬ zal x s < 0 := fun h2 => h (this.1 h2); omega
theorem zaak (s : Bool) (m : Nat) : sgn (!s) m = -sgn s m := by unfold sgn; cases s <;> simp
theorem p30 {n : Nat} (h : n ≤ 10 ^ 30) : n < 10 ^ 800 := Nat.lt_of_le_of_lt h (by decide)
theorem zadw (N : Nat) (hN : 4000 < N) {a b : Number} (ha : zdq a) (hb : zdq b) : zxr N a b = some (z86 (zal a (zf a b)) (zal b (zf a b))) := by
 obtain ⟨s1, s2, s3, s4⟩ := zps ha hb
 unfold zxr
 try simp only [eN]
 rw [z30 N (by omega) ha hb]
 simp only [obs]
 obtain ⟨v, m, h1, h2, _⟩ := z8s N hN (decide (a.N < 0)) (!decide (b.N < 0)) _ _ (p30 (zkt ha s4)) (p30 (zkt hb s4))
 rw [h1]
 simp only [obs, z9h, ziu]
 rw [zaak, zvj, zvj] at h2
 generalize zal a (zf a b) = A at *
 generalize zal b (zf a b) = B at *
 unfold sgn at h2
 unfold z86
 by_cases hz : m = 0
 · rw [dct hz, ctr]; have : A = B := by cases v <;> simp_all <;> omega
   rw [ifn, ifn]
 · rw [dcf hz, cfa]; cases v with
   | true =>
    rw [ctr] at h2; rw [ifp]; decide
   | false =>
    rw [cfa] at h2; rw [ifn, ifp]; decide
theorem zafk (O c x y A P T : Nat) (hP : O + P * (c + (x + 10 * A) * y) = T) : O + P * ((c + x * y) % 10) + P * 10 * ((c + x * y) / 10 + A * y) = T := by
 rw [← hP, Nat.mul_assoc, Nat.add_assoc, ← Nat.mul_add, Nat.add_mul, Nat.mul_assoc 10 A y]
 congr 2
 generalize x * y = z at *
 generalize A * y = w at *
 omega
theorem zagk (N : Nat) (hN : 4000 < N) (p : Nat) (hp : p < 10 ^ 100) (o : List Int) (L3 L4 : zK) (i : Nat) (hi : i ≤ 100) (y : Nat) (hy : y < 10) (hy2 : L3.zR[i]? = some (y : Int)) (s : Bool) :
 ∃ row c k, zl (zcl.r2 N) N (o, (i : Int), List.replicate i (0 : Int), 0, 0, (⟨s, dg p⟩ : zK), L3, L4) = some (o, (i : Int), row, c, k, ⟨s, dg p⟩, L3, L4) ∧ dok row ∧ dv row = 10 ^ i * (p * y) ∧ row.length ≤ 300 := by
 have lp : (dg p).length ≤ 100 := (zji p 100).2 hp
 have hA := zmx p
 have vA := zm9 p
 generalize dg p = A at *
 obtain ⟨s', h1, h2⟩ := zn6 (f := zcl.r2 N)
  (fun t => ∃ (row : List Int) (c k : Nat), t = (o, (i : Int), row, (c : Int), (k : Int), (⟨s, A⟩ : zK), L3, L4) ∧ row.length = i + k ∧ k ≤ A.length + 1 ∧ dok row ∧ c ≤ 8 ∧ dv row + 10 ^ (i + k) * (c + dv (A.drop k) * y) = 10 ^ i * (p * y) ∧ (A.length < k → c = 0))
  (fun t => 2 * (A.length - t.2.2.2.2.1.toNat) + (if t.2.2.2.1 = 0 then 0 else 1)) (fun t => ∃ (row : List Int) (c k : Int), t = (o, (i : Int), row, c, k, (⟨s, A⟩ : zK), L3, L4) ∧ dok row ∧ dv row = 10 ^ i * (p * y) ∧ row.length ≤ 300)
  (fun t ht => by
   obtain ⟨row, c, k, rfl, s1, s2, s3, s4, s5, s6⟩ := ht; have hroom : ∀ x : Int, Nat.ble ((row.length + ([x] : List Int).length) * 8) zbr = true := fun x => zao (by simp only [lnc, ln0]; omega); simp only [zcl.r2, zcl.b2]
   by_cases hk : k < A.length
   · left; obtain ⟨x, hx⟩ : ∃ x, A[k]? = some x := zfh hk; obtain ⟨x0, x1⟩ := zva hA hx; obtain ⟨u, rfl⟩ : ∃ u : Nat, x = (u : Int) := ⟨x.toNat, by omega⟩; have hd := ztm A k hx; rw [itn] at hd; have hmul : u * y ≤ 9 * 9 := Nat.mul_le_mul (by omega) (by omega); rw [dct (show (k : Int) < (A.length : Int) by omega)]; simp only [ctr, obs]; rw [zai, hx, zai, hy2]; simp only [obs]; have hv : w6 ((c : Int) + w6 ((u : Int) * (y : Int))) = ((c + u * y : Nat) : Int) := by
      rw [← Int.natCast_mul, w6e (n := ((u * y : Nat) : Int)), w6e]; omega
     rw [hv, hroom, ctr, tme, tde, w6e (n := ((c + u * y : Nat) : Int) / 10), w6e (n := (k : Int) + 1)]; rw [hd] at s5; have alg := zafk _ _ _ _ _ _ _ s5; refine ⟨_, rfl, ⟨row ++ [(((c + u * y) % 10 : Nat) : Int)], (c + u * y) / 10, k + 1, ?_, ?_, by omega, ztt s3 (by omega) (by omega), by omega, ?_, fun h => by omega⟩, ?_⟩
     · generalize u * y = z; rw [show ((c + z : Nat) : Int) % 10 = (((c + z) % 10 : Nat) : Int) by omega, show ((c + z : Nat) : Int) / 10 = (((c + z) / 10 : Nat) : Int) by omega]; rfl
     · rw [lna, lns, s1]; omega
     · rw [zrv, s1, itn, show i + (k + 1) = i + k + 1 by omega, Nat.pow_succ]; exact alg
     · show 2 * (A.length - ((k : Int) + 1).toNat) + (if ((c + u * y : Nat) : Int) / 10 = 0 then 0 else 1) < 2 * (A.length - (k : Int).toNat) + (if (c : Int) = 0 then 0 else 1); have := z5u (((c + u * y : Nat) : Int) / 10 = 0); split <;> split <;> omega
   · rw [dcf (show ¬ (k : Int) < (A.length : Int) by omega)]; simp only [cfa, obs]; rw [zkk (show A.length ≤ k by omega)] at s5
     by_cases hc : c = 0
     · right; rw [dcf (show ¬ (c : Int) > 0 by omega), cfa]; refine ⟨_, rfl, row, _, _, rfl, s3, ?_, by omega⟩; rw [hc] at s5; simpa using s5
     · left; have hkA : k = A.length := by
        refine cbc fun h => hc (s6 (by omega))
       rw [dct (show (c : Int) > 0 by omega), ctr, hroom, ctr, tme, tde, w6e (n := (c : Int) / 10), w6e (n := (k : Int) + 1)]; refine ⟨_, rfl, ⟨row ++ [(c : Int)], 0, k + 1, ?_, ?_, by omega, ztt s3 (by omega) (by omega), by omega, ?_, fun _ => rfl⟩, ?_⟩
       · rw [show (c : Int) % 10 = (c : Int) by omega, show (c : Int) / 10 = ((0 : Nat) : Int) by omega]; rfl
       · rw [lna, lns, s1]; omega
       · rw [zrv, s1, itn, zkk (show A.length ≤ k + 1 by omega)]; simp only [Nat.zero_mul, Nat.add_zero, Nat.mul_zero] at s5 ⊢; exact s5
       · show 2 * (A.length - ((k : Int) + 1).toNat) + (if (c : Int) / 10 = 0 then 0 else 1) < 2 * (A.length - (k : Int).toNat) + (if (c : Int) = 0 then 0 else 1); rw [ifp, ifn]; omega)
  (N := N) (s := (o, (i : Int), List.replicate i (0 : Int), 0, 0, (⟨s, A⟩ : zK), L3, L4)) ⟨List.replicate i 0, 0, 0, rfl, by rw [lnr]; rfl, by omega, zu9 i, by omega, by rw [zwt, dr0, vA]; simp, fun h => rfl⟩ (by show 2 * (A.length - (0 : Int).toNat) + (if (0 : Int) = 0 then 0 else 1) < N; rw [ifp rfl]; omega)
 obtain ⟨row, c, k, rfl, r1, r2, r3⟩ := h2
 exact ⟨row, c, k, h1, r1, r2, r3⟩
theorem zabj (N : Nat) (hN : 4000 < N) (s u : Bool) (p q : Nat) (hp : p < 10 ^ 90) (hq : q < 10 ^ 90) : zcl N ⟨s, dg p⟩ ⟨u, dg q⟩ = some ⟨(s != u) && decide (p * q ≠ 0), dg (p * q)⟩ := by
 have lq : (dg q).length ≤ 90 := (zji q 90).2 hq
 have hB := zmx q
 have vB := zm9 q
 unfold zcl
 obtain ⟨s', h1, h2⟩ := zn6 (f := zcl.r0 N)
  (fun t => ∃ (o : List Int) (i : Nat), t = (o, (i : Int), (⟨s, dg p⟩ : zK), (⟨u, dg q⟩ : zK), (⟨false, []⟩ : zK)) ∧ i ≤ (dg q).length ∧ dok o ∧ o.length ≤ 300 + i ∧ dv o = p * dv ((dg q).take i))
  (fun t => (dg q).length - t.2.1.toNat) (fun t => ∃ o : List Int, (∃ i : Int, t = (o, i, (⟨s, dg p⟩ : zK), (⟨u, dg q⟩ : zK), (⟨false, []⟩ : zK))) ∧ dok o ∧ o.length ≤ 400 ∧ dv o = p * q)
  (fun t ht => by
   obtain ⟨o, i, rfl, s1, s2, s3, s4⟩ := ht; simp only [zcl.r0, zcl.b0]
   by_cases hi : i < (dg q).length
   · left; obtain ⟨y, hy⟩ : ∃ y, (dg q)[i]? = some y := zfh hi; obtain ⟨y0, y1⟩ := zva hB hy; obtain ⟨w, rfl⟩ : ∃ w : Nat, y = (w : Int) := ⟨y.toNat, by omega⟩; rw [dct (show (i : Int) < ((dg q).length : Int) by omega), ctr, ifp, ifp, zao (by omega), ctr, itn]; obtain ⟨row, c, k, r1, r2, r3, r4⟩ := zagk N hN p (Nat.lt_of_lt_of_le hp (zcs (by decide))) o (⟨u, dg q⟩ : zK) (⟨false, []⟩ : zK) i (by omega) w (by omega) hy s; rw [r1]; simp only [obs]; obtain ⟨r, g1, g2, g3, g4, _⟩ := zaal N hN s2 r2 (by omega) (by omega); rw [g1]; simp only [obs]; rw [w6e]; refine ⟨_, rfl, ⟨r, i + 1, rfl, by omega, g2, ?_, ?_⟩, ?_⟩
     · omega
     · rw [g3, s4, r3, zye _ i hy, itn, Nat.mul_add, Nat.mul_left_comm]
     · show (dg q).length - ((i : Int) + 1).toNat < (dg q).length - (i : Int).toNat; omega
   · right; rw [dcf (show ¬ (i : Int) < ((dg q).length : Int) by omega), cfa]; refine ⟨_, rfl, o, ⟨_, rfl⟩, s2, by omega, ?_⟩; rw [s4, List.take_of_length_le (by omega), vB])
  (N := N) (s := ([], 0, (⟨s, dg p⟩ : zK), (⟨u, dg q⟩ : zK), (⟨false, []⟩ : zK))) ⟨[], 0, rfl, by omega, fun d hd => (List.not_mem_nil hd).elim, by simp, by simp [dv]⟩ (by show (dg q).length - (0 : Int).toNat < N; omega)
 obtain ⟨o, ⟨i, rfl⟩, o1, o2, o3⟩ := h2
 rw [h1]
 simp only [obs]
 rw [zv6 N o o1 (by omega) (by omega), o3]
 simp only [obs, zwb]
 cases s <;> cases u <;> rfl
theorem zadu (N : Nat) (hN : 4000 < N) (A : List Int) (b r0 : Nat) (hb : 0 < b) (hb2 : b < 10 ^ 500) (Q : List Int) (hQ : dok Q) (i : Nat) (hi : i < Q.length) (hz : Q[i]? = some 0) (hr : r0 < 10 * b) :
 zl (zb6.r2 N) N (A, dg b, Q, dg r0, (i : Int)) = some (A, dg b, Q.set i ((r0 / b : Nat) : Int), dg (r0 % b), (i : Int)) := by
 have h56 : (10 : Nat) ^ 500 * 10 ≤ 10 ^ 900 := by decide
 obtain ⟨s', h1, h2⟩ := zn6 (f := zb6.r2 N)
  (fun t => ∃ (r c : Nat), t = (A, dg b, Q.set i (c : Int), dg r, (i : Int)) ∧ r + c * b = r0)
  (fun t => 10 - (zaq t.2.2.1 i).toNat) (fun t => t = (A, dg b, Q.set i ((r0 / b : Nat) : Int), dg (r0 % b), (i : Int)))
  (fun t ht => by
   obtain ⟨r, c, rfl, s1⟩ := ht; have hc : c < 10 := by
    refine cbc fun h => ?_; have := Nat.mul_le_mul_right b (show 10 ≤ c by omega); omega
   have hl : (Q.set i (c : Int)).length = Q.length := List.length_set; have hx : (Q.set i (c : Int))[i]? = some (c : Int) := by rw [List.getElem?_set, ifp rfl, ifp hi]
   have hr0 : r ≤ r0 := by omega
   simp only [zb6.r2, zb6.b2]; rw [z4e N hN r b (by omega) (by omega), obs, zx3]
   by_cases h : b ≤ r
   · left; rw [dct h, ctr, z4f N hN r b (by omega) h, obs, hl, ifp, ifp, itn, hx]; simp only [obs]; rw [ifp, ifp, w6e, List.set_set]; refine ⟨_, rfl, ⟨r - b, c + 1, rfl, ?_⟩, ?_⟩
     · rw [Nat.add_mul, Nat.one_mul]; omega
     · have g : ∀ v : Int, zaq (Q.set i v) i = v := by
        intro v; clear hx hl hz
        induction Q generalizing i with
        | nil => simp at hi
        | cons q Q ih =>
         cases i with
         | zero => rfl
         | succ i =>
          rw [List.set_cons_succ]; show (if i + 1 = 0 then q else zaq (Q.set i v) (i + 1 - 1)) = v; rw [ifn, Nat.add_sub_cancel]; exact ih (fun d hd => hQ d (List.mem_cons_of_mem _ hd)) i (by simpa using hi)
       show 10 - (zaq (Q.set i ((c : Int) + 1)) i).toNat < 10 - (zaq (Q.set i (c : Int)) i).toNat; rw [g, g]; omega
   · right; rw [dcf h, cfa]; refine ⟨_, rfl, ?_⟩; have e1 : r0 / b = c := by rw [← s1, Nat.add_mul_div_right _ _ hb, Nat.div_eq_of_lt (by omega), Nat.zero_add]
     have e2 : r0 % b = r := by rw [← s1, Nat.add_mul_mod_self_right, mel (by omega)]
     rw [e1, e2])
  (N := N) (s := (A, dg b, Q, dg r0, (i : Int))) ⟨r0, 0, by
   have : Q.set i ((0 : Nat) : Int) = Q := by
    refine List.ext_getElem? fun k => ?_; rw [List.getElem?_set]; split
    · rename_i hk; rw [← hk, hz]; rfl
    · rfl
   rw [this], by omega⟩ (by show 10 - (zaq Q i).toNat < N; omega)
 rw [h1, h2]
theorem z5a (N : Nat) (hN : 4000 < N) (a b : Nat) (ha : a < 10 ^ 400) (hb : 0 < b) (hb2 : b < 10 ^ 400) : zb6 N (dg a) (dg b) = some (dg (a / b), dg (a % b)) := by
 have la : (dg a).length ≤ 400 := (zji a 400).2 ha
 have h45 : (10 : Nat) ^ 400 < 10 ^ 500 := by decide
 have hA := zmx a
 have vA := zm9 a
 unfold zb6
 generalize dg a = A at *
 rw [ifp, ifp, zao (by omega), ctr, itn, w6e]
 obtain ⟨s', h1, h2⟩ := zn6 (f := zb6.r0 N)
  (fun t => ∃ (Q : List Int) (i : Nat), t = (A, dg b, Q, dg (dv (A.drop i) % b), (i : Int) - 1) ∧ i ≤ A.length ∧ Q.length = A.length ∧ dok Q ∧ dv (Q.drop i) = dv (A.drop i) / b ∧ (∀ k, k < i → Q[k]? = some 0))
  (fun t => (t.2.2.2.2 + 1).toNat) (fun t => dok t.2.2.1 ∧ t.2.2.1.length = A.length ∧ dv t.2.2.1 = a / b ∧ t.2.2.2.1 = dg (a % b))
  (fun t ht => by
   obtain ⟨Q, i, rfl, s1, s2, s3, s4, s5⟩ := ht; simp only [zb6.r0, zb6.b0]; cases i with
   | zero =>
    right; rw [dr0, dr0, vA] at s4; refine ⟨_, rfl, s3, s2, s4, ?_⟩; rw [dr0, vA]
   | succ i =>
    left; obtain ⟨x, hx⟩ : ∃ x, A[i]? = some x := zfh (by omega); obtain ⟨x0, x1⟩ := zva hA hx; obtain ⟨u, rfl⟩ : ∃ u : Nat, x = (u : Int) := ⟨x.toNat, by omega⟩; have hd := ztm A i hx; rw [itn] at hd; have hrb : dv (A.drop (i + 1)) % b < b := Nat.mod_lt _ hb; have hdm := Nat.div_add_mod (dv (A.drop (i + 1))) b; rw [show ((i + 1 : Nat) : Int) - 1 = (i : Int) by omega, dct (show (i : Int) ≥ 0 by omega), ctr, zai, hx]; simp only [obs]; generalize dv (A.drop (i + 1)) = p at *; have lr : (dg (p % b)).length ≤ 500 := (zji _ 500).2 (by omega); rw [zao (by simp only [lnc, ln0]; omega), ctr]; have hrest : dok ([(u : Int)] ++ dg (p % b)) := z0n (fun d hd => by
     rcases List.mem_cons.1 hd with rfl | hd
     · omega
     · cases hd) (zmx _)
    rw [zv6 N _ hrest (by rw [lna, lns]; omega) (by rw [lna, lns]; omega)]; have hv : dv ([(u : Int)] ++ dg (p % b)) = u + 10 * (p % b) := by
     show (u : Int).toNat + 10 * dv (dg (p % b)) = _; rw [zm9, itn]
    rw [hv]; simp only [obs]; rw [zadu N hN A b (u + 10 * (p % b)) hb (by omega) Q s3 i (by omega) (s5 i (by omega)) (by omega)]; simp only [obs]; rw [w6e]; have eq1 : u + 10 * p = b * (10 * (p / b)) + (u + 10 * (p % b)) := by
     rw [Nat.mul_left_comm]; omega
    have ed : (u + 10 * p) / b = 10 * (p / b) + (u + 10 * (p % b)) / b := by rw [eq1, Nat.mul_add_div hb]
    have em : (u + 10 * p) % b = (u + 10 * (p % b)) % b := by rw [eq1, Nat.mul_add_mod]
    have hdig : (u + 10 * (p % b)) / b < 10 := Nat.div_lt_of_lt_mul (by rw [Nat.mul_comm]; omega); generalize (u + 10 * (p % b)) / b = G at *; refine ⟨_, rfl, ⟨Q.set i (G : Int), i, ?_, by omega, by rw [List.length_set]; exact s2, ?_, ?_, ?_⟩, ?_⟩
    · rw [hd, em]
    · intro d hd; rcases List.mem_or_eq_of_mem_set hd with h | h
      · exact s3 d h
      · rw [h]; omega
    · have hxs : (Q.set i (G : Int))[i]? = some (G : Int) := by rw [List.getElem?_set, ifp rfl, ifp]
      rw [ztm _ i hxs, itn, List.drop_set_of_lt (by omega), s4, hd, ed]; omega
    · intro k hk; rw [List.getElem?_set, ifn]; exact s5 k (by omega)
    · show ((i : Int) - 1 + 1).toNat < ((i : Int) + 1).toNat; omega)
  (N := N) (s := (A, dg b, List.replicate A.length 0, [], (A.length : Int) - 1)) ⟨List.replicate A.length 0, A.length, by rw [zkk (Nat.le_refl _), Nat.zero_mod, znz], by omega, lnr, zu9 _, by rw [zkk (Nat.le_refl _), Nat.zero_div, zkk (by rw [lnr]; omega)], fun k hk => by rw [List.getElem?_replicate, ifp hk]⟩ (by show ((A.length : Int) - 1 + 1).toNat < N; omega)
 obtain ⟨o1, o2, o3, o4⟩ := h2
 rw [h1]
 simp only [obs]
 rw [zv6 N _ o1 (by omega) (by omega), o3, o4]
 rfl
theorem z1o (k : Nat) (hk : k ≤ 100) : zm4 (k : Int) = some (dg (10 ^ k)) := by
 unfold zm4
 rw [ifp, ifp, zao (by omega), ctr, itn, lnr, zao (by simp only [lnc, ln0]; omega), ctr]
 congr 1
 have h1 : dok (List.replicate k (0 : Int) ++ [1]) := ztt (zu9 k) (by decide) (by decide)
 have h2 : dv (List.replicate k (0 : Int) ++ [1]) = 10 ^ k := by rw [zrv, zwt, lnr]; simp
 rw [← h2]
 refine (z54 h1 ?_).symm
 unfold zq6
 rw [List.getLast?_append]
 simp
def z4i (p q : Nat) (half : Bool) : Nat := p / q + cond (half && decide (q ≤ p % q + p % q)) 1 0
theorem zadp (N : Nat) (hN : 4000 < N) (s : Bool) (p q : Nat) (hp : p ≤ 10 ^ 100) (hq : 0 < q) (hq2 : q ≤ 10 ^ 100) (k : Nat) (hk : k ≤ 15) (half : Bool) :
 ∃ v, zt3 N ⟨⟨s, dg p⟩, dg q⟩ (k : Int) half = some ⟨v, dg (z4i (p * 10 ^ k) q half)⟩ ∧ (z4i (p * 10 ^ k) q half ≠ 0 → v = s) := by
 have hs : p * 10 ^ k ≤ 10 ^ 100 * 10 ^ 15 := Nat.mul_le_mul hp (zcs hk)
 have h115 : (10 : Nat) ^ 100 * 10 ^ 15 < 10 ^ 400 := by decide
 have h4 : (10 : Nat) ^ 400 < 10 ^ 900 := by decide
 have h14 : (10 : Nat) ^ 100 < 10 ^ 400 := by decide
 have hr := Nat.mod_lt (p * 10 ^ k) hq
 have hdl := Nat.div_le_self (p * 10 ^ k) q
 have lp : (dg p).length ≤ 101 := (zji p 101).2 (by have : (10 : Nat) ^ 100 < 10 ^ 101 := (by decide); omega)
 unfold zt3
 rw [ifp, ifp, zao (by omega), ctr, itn, lnr, zao (by show (k + (dg p).length) * 8 ≤ 1000000; omega), ctr]
 have hd : dok (List.replicate k (0 : Int) ++ dg p) := z0n (zu9 k) (zmx p)
 have hv : dv (List.replicate k (0 : Int) ++ dg p) = p * 10 ^ k := by rw [zxf, zwt, zm9, lnr, Nat.zero_add, Nat.mul_comm]
 show ∃ v, ((zen N (List.replicate k (0 : Int) ++ dg p)).bind _) = _ ∧ _
 rw [zv6 N _ hd (by rw [lna, lnr]; omega) (by rw [lna, lnr]; omega), hv]
 simp only [obs]
 rw [z5a N hN _ q (by omega) hq (by omega)]
 simp only [obs]
 rw [z4c N hN _ _ (by omega) (by omega)]
 simp only [obs]
 rw [z4e N hN _ q (by omega) (by omega)]
 simp only [obs, zx3]
 have kk : (cond half (some (decide (q ≤ p * 10 ^ k % q + p * 10 ^ k % q))) (some false)) = some (half && decide (q ≤ p * 10 ^ k % q + p * 10 ^ k % q)) := by cases half <;> rfl
 rw [kk, obs]
 unfold z4i
 cases (half && decide (q ≤ p * 10 ^ k % q + p * 10 ^ k % q)) with
 | true =>
  rw [ctr, ctr, show ([1] : List Int) = dg 1 by rw [zsp (by decide), show 1 / 10 = 0 from rfl, znz]; rfl, z4c N hN _ 1 (by omega) (by omega)]; simp only [obs, zwb]; refine ⟨s && decide (p * 10 ^ k / q + 1 ≠ 0), by cases s <;> rfl, fun h => ?_⟩; rw [dct h, Bool.and_true]
 | false =>
  rw [cfa, cfa]; simp only [obs, zwb, Nat.add_zero]; refine ⟨s && decide (p * 10 ^ k / q ≠ 0), by cases s <;> rfl, fun h => ?_⟩; rw [dct h, Bool.and_true]
theorem zads (N : Nat) (hN : 4000 < N) (v : Bool) (m : Nat) (hm : m < 10 ^ 16) : zfq N ⟨v, dg m⟩ = some (sgn v m) := by
 have lm : (dg m).length ≤ 16 := (zji m 16).2 hm
 have hA := zmx m
 have vA := zm9 m
 unfold zfq
 generalize dg m = A at *
 have lp := za1 (f := zfq.r0 N) (fun i => (((dv (A.drop (A.length - i)) : Nat) : Int), (A.length : Int) - 1 - (i : Int), (⟨v, A⟩ : zK))) A.length
  (fun i hi => by
   obtain ⟨x, hx⟩ : ∃ x, A[A.length - 1 - i]? = some x := zfh (by omega); obtain ⟨x0, x1⟩ := zva hA hx; have hd := ztm A _ hx; rw [show A.length - 1 - i + 1 = A.length - i by omega] at hd; have hb := z50 (zaeg hA (A.length - i)); have hb2 : 10 ^ (A.drop (A.length - i)).length ≤ 10 ^ 16 := zcs (by rw [List.length_drop]; omega); simp only [zfq.r0, zfq.b0, dct (show (A.length : Int) - 1 - (i : Int) ≥ 0 by omega), ctr]; rw [show (A.length : Int) - 1 - (i : Int) = ((A.length - 1 - i : Nat) : Int) by omega, zai, hx]; simp only [obs]; rw [w6e (n := 10 * ((dv (A.drop (A.length - i)) : Nat) : Int)), w6e (n := 10 * ((dv (A.drop (A.length - i)) : Nat) : Int) + x), w6e, show A.length - (i + 1) = A.length - 1 - i by omega, hd]
   congr 3
   · omega
   · congr 1
     omega)
  (by simp only [zfq.r0, zfq.b0, dcf (show ¬ (A.length : Int) - 1 - (A.length : Int) ≥ 0 by omega), cfa]) (N := N) (by omega)
 simp only [Nat.sub_zero, nc0, Int.sub_zero, Nat.sub_self, dr0, zkk (Nat.le_refl A.length), vA] at lp
 show ((zl (zfq.r0 N) N (0, w6 ((A.length : Int) - 1), (⟨v, A⟩ : zK))).bind _) = _
 rw [w6e, lp]
 simp only [obs]
 unfold sgn
 cases v
 · rfl
 · rw [ctr, ctr, w6e, Int.zero_sub]
theorem zacc (N : Nat) (hN : 4000 < N) (s : Bool) (p q : Nat) (hp : p ≤ 10 ^ 100) (hq : 0 < q) (hq2 : q ≤ 10 ^ 100) {t : DataType} (ht : zkh t) (half : Bool) :
 ∃ n e, zre N ⟨⟨s, dg p⟩, dg q⟩ t half = some (n, e) ∧ ((⟨n, ⟨#[]⟩⟩ : Value), e) = zjt s p q t half := by
 obtain ⟨⟨l1, l2⟩, l3, l4⟩ := zgc ht
 obtain ⟨v, h1, h2⟩ := zadp N hN s p q hp hq hq2 t.Scale.toNat (by omega) half
 rw [Int.toNat_of_nonneg l3] at h1
 unfold zre
 show ∃ n e, ((zt3 N ⟨⟨s, dg p⟩, dg q⟩ t.Scale half).bind _) = _ ∧ _
 rw [h1]
 simp only [obs]
 have hl := zji (z4i (p * 10 ^ t.Scale.toNat) q half) t.Length.toNat
 have e : zjt s p q t half = if 10 ^ t.Length.toNat ≤ z4i (p * 10 ^ t.Scale.toNat) q half then (⟨0, ⟨#[]⟩⟩, 19) else (⟨sgn s (z4i (p * 10 ^ t.Scale.toNat) q half), ⟨#[]⟩⟩, 0) := rfl
 rw [e]
 generalize z4i (p * 10 ^ t.Scale.toNat) q half = Q at *
 by_cases h : 10 ^ t.Length.toNat ≤ Q
 · rw [ifp h]; have : ¬ (dg Q).length ≤ t.Length.toNat := fun h3 => by have := hl.1 h3; omega
   rw [dct (by omega)]; exact ⟨_, _, rfl, rfl⟩
 · rw [ifn h]; have : (dg Q).length ≤ t.Length.toNat := hl.2 (by omega); have hQ : Q < 10 ^ 16 := Nat.lt_of_lt_of_le (by omega : Q < 10 ^ t.Length.toNat) (zcs (by omega)); rw [dcf (by omega), cfa, zads N hN v Q hQ]; refine ⟨_, _, rfl, ?_⟩
   congr 2
   unfold sgn
   by_cases h0 : Q = 0
   · rw [h0]; cases v <;> cases s <;> rfl
   · rw [h2 h0]
theorem z00 {t : DataType} (ht : zkh t) : zoi t = some 0 := by
 obtain ⟨h0, h1, h2⟩ := ht
 unfold zoi
 rw [z2v, h0]
 simp only [obs, bsf, cfa]
 rw [zvk, zbf.2 ⟨h1, h2⟩]
 simp only [obs, ziu]
 decide
theorem zafd (N : Nat) (hN : 4000 < N) {x : Number} (hx : zdq x) {t : DataType} (ht : zkh t) (half : Bool) : zr1 N x t half = some (zol x t half) := by
 have hx' := hx
 obtain ⟨⟨h1, h2⟩, h3, h4⟩ := hx'
 unfold zr1 zwi
 rw [z1q, zp8.2 hx]
 simp only [obs, bsf, cfa, eN]
 rw [z00 ht]
 simp only [obs, bsf, cfa]
 have e1 := z1r N (by omega) x.N ⟨by omega, by omega⟩ 0 (by omega)
 rw [Nat.pow_zero, Nat.mul_one, nc0] at e1
 have e2 := z1o x.Scale.toNat (by omega)
 rw [Int.toNat_of_nonneg h3] at e2
 rw [e1, obs, e2, obs]
 simp only [obs]
 have hp : x.N.natAbs ≤ 10 ^ 100 := Nat.le_trans (show x.N.natAbs ≤ 10 ^ 15 by omega) (by decide)
 obtain ⟨n, e, g1, g2⟩ := zacc N hN (decide (x.N < 0)) x.N.natAbs (10 ^ x.Scale.toNat) hp (zcx _) (zcs (by omega)) ht half
 show ((zre N ⟨⟨decide (x.N < 0), dg x.N.natAbs⟩, dg (10 ^ x.Scale.toNat)⟩ t half).bind _) = _
 rw [g1]
 simp only [obs]
 rw [g2]
 rfl
theorem z84 {n : Nat} (h : n ≤ 10 ^ 31) : n ≤ 10 ^ 100 := Nat.le_trans h (by decide)
theorem z8y (s : Bool) (p q : Nat) (hq : 0 < q) (t : DataType) (half : Bool) : zjt s p q t half = z14 (sgn s p) q t half := z80 s p q hq t half
theorem zafe (N : Nat) (hN : 4000 < N) {op : Int} (hop : 0 ≤ op ∧ op ≤ 4) {a b : Number} (ha : zdq a) (hb : zdq b) {t : DataType} (ht : zkh t) (half : Bool) : zlg N ⟨op, t, half⟩ a b = some (zlu op a b t half) := by
 obtain ⟨s1, s2, s3, s4⟩ := zps ha hb
 have la := zkt ha s4
 have lb := zkt hb s4
 have ha' := ha
 have hb' := hb
 obtain ⟨⟨a1, a2⟩, a3, a4⟩ := ha'
 obtain ⟨⟨b1, b2⟩, b3, b4⟩ := hb'
 have zb := z3v b (zf a b)
 have ga := zvj a (zf a b)
 have gb := zvj b (zf a b)
 have q1 : 10 ^ (zf a b).toNat ≤ 10 ^ 100 := zcs (by omega)
 unfold zlg
 try simp only [eD]
 rw [zjg, zbf.2 hop]
 simp only [obs, bnt, cfa]
 rw [z1q, z1q, zp8.2 ha, zp8.2 hb]
 simp only [obs, bsf, cfa]
 rw [z00 ht]
 simp only [obs, bsf, cfa, eN]
 have fin : ∀ (s : Bool) (p q : Nat), p ≤ 10 ^ 100 → 0 < q → q ≤ 10 ^ 100 → ((zre N ⟨⟨s, dg p⟩, dg q⟩ t half).bind fun r6 => some ((⟨r6.1, (⟨#[]⟩ : ByteArray)⟩ : Value), r6.2)) = some (zjt s p q t half) := fun s p q hp hq hq2 => by
  obtain ⟨n, e, g1, g2⟩ := zacc N hN s p q hp hq hq2 ht half; rw [g1, obs, g2]
 unfold z1x
 rw [z30 N (by omega) ha hb]
 simp only [obs, z9h]
 have ep := z1o (zf a b).toNat (by omega)
 rw [Int.toNat_of_nonneg s3] at ep
 have g : (cond (op == 3) (some true) (some (op == 4))) = some (decide (op = 3 ∨ op = 4)) := by
  rw [zcn, zcn]
  by_cases h : op = 3
  · rw [dct h, dct (show op = 3 ∨ op = 4 by omega)]; rfl
  · rw [dcf h]
    by_cases h2 : op = 4
    · rw [dct h2, dct (show op = 3 ∨ op = 4 by omega)]; rfl
    · rw [dcf h2, dcf (show ¬ (op = 3 ∨ op = 4) by omega)]; rfl
 rw [g]
 simp only [obs]
 have hbz : (zal b (zf a b)).natAbs = 0 ↔ b.N = 0 := by
  rw [Int.natAbs_eq_zero]; exact zb
 rw [show (cond (decide (op = 3 ∨ op = 4)) (some (decide ((zal b (zf a b)).natAbs = 0))) (some false)) = some (decide ((op = 3 ∨ op = 4) ∧ b.N = 0)) by
  by_cases h : op = 3 ∨ op = 4
  · rw [dct h, ctr]; congr 1; rw [decide_eq_decide]; constructor
    · intro h2; exact ⟨h, hbz.1 h2⟩
    · intro h2; exact hbz.2 h2.2
  · rw [dcf h, cfa, dcf (fun h2 => h h2.1)]]
 simp only [obs]
 unfold zlu
 by_cases hz : (op = 3 ∨ op = 4) ∧ b.N = 0
 · rw [dct hz, ifp hz]; rfl
 · rw [dcf hz, ifn hz, cfa]
   by_cases o0 : op = 0
   · obtain ⟨v, m, h1, h2, h3⟩ := z8s N hN (decide (a.N < 0)) (decide (b.N < 0)) _ _ (p30 la) (p30 lb); rw [ga, gb] at h2; rw [ifp o0, o0]; simp only [show ((0 : Int) == 1) = false from rfl, show ((0 : Int) == 2) = false from rfl, show ((0 : Int) == 3) = false from rfl, show ((0 : Int) == 4) = false from rfl, cfa]; rw [h1]; simp only [obs]; rw [ep]; simp only [obs, bsf, cfa]; rw [fin v m _ (z84 (by omega)) (zcx _) q1, z8y _ _ _ (zcx _), h2]
   · rw [ifn o0]
     by_cases o1 : op = 1
     · rw [ifp o1, zcn, dct o1, ctr]; have hneg : (cond (!decide (b.N < 0)) (some (decide ((((dg (zal b (zf a b)).natAbs).length : Nat) : Int) > 0))) (some false)) = some (!decide (b.N < 0) && decide ((zal b (zf a b)).natAbs ≠ 0)) := by
        rw [zwb]; cases decide (b.N < 0) <;> rfl
       rw [hneg]; simp only [obs]; obtain ⟨v, m, h1, h2, h3⟩ := z8s N hN (decide (a.N < 0)) (!decide (b.N < 0) && decide ((zal b (zf a b)).natAbs ≠ 0)) _ _ (p30 la) (p30 lb); have gb2 : sgn (!decide (b.N < 0) && decide ((zal b (zf a b)).natAbs ≠ 0)) (zal b (zf a b)).natAbs = -zal b (zf a b) := by
        by_cases h0 : (zal b (zf a b)).natAbs = 0
        · have h00 := Int.natAbs_eq_zero.1 h0; rw [h0, dcf (show ¬ (0 : Nat) ≠ 0 by omega), Bool.and_false, h00]; rfl
        · rw [dct h0, Bool.and_true, zaak, gb]
       rw [ga, gb2] at h2; rw [h1]; simp only [obs]; rw [ep]; simp only [obs, bsf, cfa]; rw [fin v m _ (z84 (by omega)) (zcx _) q1, z8y _ _ _ (zcx _), h2, Int.sub_eq_add_neg]
     · rw [ifn o1, zcn, dcf o1, cfa]
       by_cases o2 : op = 2
       · rw [ifp o2, zcn, dct o2, ctr]; have p90 : ∀ n : Nat, n ≤ 10 ^ 30 → n < 10 ^ 90 := fun n h => Nat.lt_of_le_of_lt h (by decide); rw [zabj N hN _ _ _ _ (p90 _ la) (p90 _ lb)]; simp only [obs]; have e2 := z1o (2 * zf a b).toNat (by omega); rw [Int.toNat_of_nonneg (by omega)] at e2; rw [w6e, e2]; simp only [obs, bsf, cfa]; have hm : (zal a (zf a b)).natAbs * (zal b (zf a b)).natAbs ≤ 10 ^ 100 := Nat.le_trans (Nat.mul_le_mul la lb) (by decide); rw [fin _ _ _ hm (zcx _) (zcs (by omega))]; have e3 : (zal a (zf a b)).natAbs * (zal b (zf a b)).natAbs = a.N.natAbs * b.N.natAbs * 10 ^ ((zf a b - a.Scale).toNat + (zf a b - b.Scale).toNat) := by
          rw [zkl, zkl, Nat.mul_mul_mul_comm, ← Nat.pow_add]
         have e4 : 10 ^ (2 * zf a b).toNat = 10 ^ (a.Scale + b.Scale).toNat * 10 ^ ((zf a b - a.Scale).toNat + (zf a b - b.Scale).toNat) := by
          rw [← Nat.pow_add]; congr 1; omega
         rw [z7f _ (decide (a.N < 0) != decide (b.N < 0)) _ _ (zcx _) _ _ (fun h => by rw [dct h, Bool.and_true]), e3, e4, z5c _ _ _ _ (zcx _) (zcx _)]
       · rw [ifn o2, zcn, dcf o2, cfa]
         by_cases o3 : op = 3
         · have hb0 : b.N ≠ 0 := fun h => hz ⟨.inl o3, h⟩; have hbp : 0 < (zal b (zf a b)).natAbs := by
            have : ¬ (zal b (zf a b)).natAbs = 0 := fun h => hb0 (hbz.1 h); omega
           rw [ifp o3, zcn, dct o3, ctr]; simp only [obs, bsf, cfa]; rw [fin _ _ _ (z84 (by omega)) hbp (z84 (by omega))]; have hmin : 0 ≤ a.Scale + b.Scale - zf a b := by unfold zf; split <;> omega
           have e3 : a.N.natAbs * 10 ^ b.Scale.toNat = (zal a (zf a b)).natAbs * 10 ^ (a.Scale + b.Scale - zf a b).toNat := by
            rw [zkl, Nat.mul_assoc, ← Nat.pow_add]; congr 2; omega
           have e4 : b.N.natAbs * 10 ^ a.Scale.toNat = (zal b (zf a b)).natAbs * 10 ^ (a.Scale + b.Scale - zf a b).toNat := by
            rw [zkl, Nat.mul_assoc, ← Nat.pow_add]; congr 2; omega
           rw [e3, e4, z5c _ _ _ _ (zcx _) hbp]; rfl
         · have hb0 : b.N ≠ 0 := fun h => hz ⟨by omega, h⟩; have hbp : 0 < (zal b (zf a b)).natAbs := by
            have : ¬ (zal b (zf a b)).natAbs = 0 := fun h => hb0 (hbz.1 h); omega
           have p400 : ∀ n : Nat, n ≤ 10 ^ 30 → n < 10 ^ 400 := fun n h => Nat.lt_of_le_of_lt h (by decide); have hm := Nat.mod_lt (zal a (zf a b)).natAbs hbp; rw [ifn o3, zcn, dcf o3, cfa, zcn, dct (show op = 4 by omega), ctr, z5a N hN _ _ (p400 _ la) hbp (p400 _ lb)]; simp only [obs]; rw [ep]; simp only [obs, bsf, cfa]; rw [fin _ _ _ (z84 (by omega)) (zcx _) q1]
theorem z6k (N : Nat) (hN : 2000 < N) {s : Storage} (h : zo9 s) {a : Int} (ha : zt5 s a = true) :
 zoh N s a = some (match ldV s a with | some o => (zka o, 0) | none => (z40, 22)) := by
 obtain ⟨a1, a2, a3⟩ := zt4 ha
 have hl := h.le
 have hq := h.quad
 have ht := h.tags
 unfold zoh
 rw [zafb h.ok, ha]
 simp only [obs, bnt, cfa]
 have ed : w6 (a.tdiv 16) = (((a / 16).toNat : Nat) : Int) := by
  rw [tde a1, w6e]; omega
 have hi : (a / 16).toNat < s.Tags.length := by omega
 rw [ed, zai, lge hi]
 simp only [obs]
 unfold ldV
 rw [lge hi]
 cases hb : s.Tags[(a / 16).toNat] with
 | false => rfl
 | true =>
  simp only [bnt, cfa, if_true]; unfold zvn; rw [w6e (n := (((a / 16).toNat : Nat) : Int) * 16), w6e, ifp, ifp]; simp only [obs]; have e : s.Bytes.extract ((((a / 16).toNat : Nat) : Int) * 16).toNat ((((a / 16).toNat : Nat) : Int) * 16 + 16).toNat = s.Bytes.extract (16 * (a / 16).toNat) (16 * (a / 16).toNat + 16) := by
   rw [show ((((a / 16).toNat : Nat) : Int) * 16).toNat = 16 * (a / 16).toNat by omega, show ((((a / 16).toNat : Nat) : Int) * 16 + 16).toNat = 16 * (a / 16).toNat + 16 by omega]
  rw [e, zacd N (by omega) _ (by rw [zdf _ _ _ (by omega) (by omega)]; omega), zph]; obtain ⟨off, _, h2⟩ := h.ptr (a / 16).toNat (by rw [lge hi, hb]); rw [h2]; rfl
theorem zaar {s : Storage} (h : s.Tags.length ≤ 100000) : zhm s = some s := by
 unfold zhm zk7
 rw [zao (by omega)]
 rfl
theorem z8r (N : Nat) (hN : 2000 < N) {s : Storage} (h : zo9 s) {a : Nat} {d : ByteArray} (hd : a + d.size ≤ s.Bytes.size) (hd0 : 0 < d.size) : zc9 N s (a : Int) d = some (wrV s a d) := by
 have hl := h.le
 have hq := h.quad
 have ht := h.tags
 have hmax : IntKind.i64.max = 9223372036854775807 := by decide
 unfold zc9 zwz
 rw [zaar (by omega), hmax]
 simp only [obs]
 have z1 : (s.Bytes.extract (0 : Int).toNat (a : Int).toNat).size = a := by rw [zdf _ _ _ (by omega) (by omega)]; omega
 rw [ifp, ifp, ifn (by rw [z1]; omega), w6e (n := (a : Int) + (d.size : Int)), ifp]
 have z2 : (s.Bytes.extract ((a : Int) + (d.size : Int)).toNat s.Bytes.size).size = s.Bytes.size - (a + d.size) := by rw [zdf _ _ _ (by omega) (by omega)]; omega
 rw [ifn (by rw [z2, bsa, z1]; omega)]
 simp only [obs]
 have f1 : ((s.Bytes.extract (0 : Int).toNat (a : Int).toNat) ++ d) ++ (s.Bytes.extract ((a : Int) + (d.size : Int)).toNat s.Bytes.size) = (wrV s a d).Bytes := by
  refine zi0 ?_; rw [zdl, zdl, zfi, zfi, show (0 : Int).toNat = 0 from rfl, dr0, show ((a : Int) + (d.size : Int)).toNat = a + d.size by omega, ← zax s.Bytes, List.take_length, itn]; rfl
 rw [f1]
 have lp := za1 (f := zc9.r0 N) (fun i => ((a : Int), d, (i : Int), (⟨⟨#[]⟩, []⟩ : Storage), (⟨(wrV s a d).Bytes, if i = 0 then s.Tags else clr s.Tags a i⟩ : Storage))) d.size
  (fun i hi => by
   have hlen : (if i = 0 then s.Tags else clr s.Tags a i).length = s.Tags.length := by split <;> simp [z3p]
   have ei : w6 ((w6 ((a : Int) + (i : Int))).tdiv 16) = (((a + i) / 16 : Nat) : Int) := by
    rw [w6e (n := (a : Int) + (i : Int)), tde, w6e]; omega
   simp only [zc9.r0, zc9.b0, dct (show (i : Int) < (d.size : Int) by omega), ctr, ei, hlen]; rw [ifp, ifp, itn]; obtain ⟨x, hx⟩ : ∃ x, (if i = 0 then s.Tags else clr s.Tags a i)[(a + i) / 16]? = some x := zfh (by omega); rw [hx]; simp only [obs]; rw [w6e]; have e2 : (if i = 0 then s.Tags else clr s.Tags a i).set ((a + i) / 16) false = clr s.Tags a (i + 1) := by
    refine List.ext_getElem? fun k => ?_; rw [zyg, List.getElem?_set, hlen]; have hc : (if i = 0 then s.Tags else clr s.Tags a i)[k]? = if i ≠ 0 ∧ 16 * k < a + i ∧ a < 16 * k + 16 then (if k < s.Tags.length then some false else none) else s.Tags[k]? := by
     by_cases h0 : i = 0
     · rw [ifp h0, ifn]
     · rw [ifn h0, zyg]
       by_cases h1 : 16 * k < a + i ∧ a < 16 * k + 16
       · rw [ifp h1, ifp (show i ≠ 0 ∧ 16 * k < a + i ∧ a < 16 * k + 16 from ⟨h0, h1⟩)]
       · rw [ifn h1, ifn (fun h => h1 h.2)]
    rw [hc]
    by_cases hk : (a + i) / 16 = k
    · rw [ifp hk, ifp (show (a + i) / 16 < s.Tags.length by omega), ifp (show 16 * k < a + (i + 1) ∧ a < 16 * k + 16 by omega), ifp]
    · rw [ifn hk]
      by_cases h1 : i ≠ 0 ∧ 16 * k < a + i ∧ a < 16 * k + 16
      · rw [ifp h1, ifp (show 16 * k < a + (i + 1) ∧ a < 16 * k + 16 by omega)]
      · rw [ifn h1, ifn (show ¬ (16 * k < a + (i + 1) ∧ a < 16 * k + 16) by omega)]
   rw [e2, ifn (show ¬ i + 1 = 0 by omega)]; rfl)
  (by simp only [zc9.r0, zc9.b0, dcf (show ¬ (d.size : Int) < (d.size : Int) by omega), cfa]) (N := N) (by omega)
 simp only [if_true, nc0] at lp
 rw [lp, ifn (show ¬ d.size = 0 by omega)]
 rfl
theorem zaab (N : Nat) (hN : 200 < N) (off : Nat) (h : off ≤ 16777215) : zxq N (zka off) = some (pbV off) := by
 unfold zxq zka
 have b := fun v k hv hk => zxn N (by omega) v k hv hk
 have hmax : IntKind.i64.max = 9223372036854775807 := by decide
 have sz : ∀ v k, (zd3 (zbp v k)).size = k := fun v k => by
  show (bl (zd3 (zbp v k))).length = k; rw [zhz, lnm, z4s]
 rw [show zbt N 0 1 = _ from b 0 1 (by decide) (by decide), show zbt N 0 2 = _ from b 0 2 (by decide) (by decide), show zbt N 1 6 = _ from b 1 6 (by decide) (by decide), show zbt N (off : Int) 6 = _ from b off 6 (by omega) (by decide), hmax]
 simp only [obs]
 have z0 : (⟨#[0]⟩ : ByteArray).size = 1 := rfl
 rw [ifn (by rw [sz, z0]; decide), ifn (by rw [bsa, sz, z0, sz]; decide), ifn (by rw [bsa, bsa, sz, z0, sz, sz]; decide), ifn (by rw [bsa, bsa, bsa, sz, z0, sz, sz, sz]; decide)]
 refine congrArg some (zi0 ?_)
 unfold pbV
 rw [zdl, zdl, zdl, zdl, zhz, zhz, zhz, zhz, zhz]
 simp only [List.map_append]
 rfl
theorem zadr (N : Nat) (hN : 2000 < N) {s : Storage} (h : zo9 s) {a : Int} (ha : zt5 s a = true) (off : Nat) (ho : off ≤ 16777215) : zj6 N s a (zka off) = some (stV s a.toNat off) := by
 obtain ⟨a1, a2, a3⟩ := zt4 ha
 have hl := h.le
 have hq := h.quad
 have ht := h.tags
 have hA : a = ((a.toNat : Nat) : Int) := by omega
 have hw : a.toNat + (pbV off).size ≤ s.Bytes.size := by rw [zok]; omega
 unfold zj6
 try simp only [eS]
 rw [zaab N (by omega) off ho]
 simp only [obs]
 have hp := z8r N hN h hw (by rw [zok]; omega)
 rw [← hA] at hp
 rw [hp]
 simp only [obs]
 have ed : w6 (a.tdiv 16) = ((a.toNat / 16 : Nat) : Int) := by
  rw [tde a1, w6e]; omega
 have hlen : (wrV s a.toNat (pbV off)).Tags.length = s.Tags.length := z3p _ _ _
 rw [ed, ifp, ifp (by rw [hlen]; omega), itn, lge (by rw [hlen]; omega)]
 rfl
def zr4 (b : ByteArray) (n : Nat) : ByteArray := ⟨((bl b).take n ++ List.replicate (n - b.size) 32).toArray⟩
theorem z2i (b : ByteArray) (n : Nat) : (zr4 b n).size = n := by
 show ((bl b).take n ++ List.replicate (n - b.size) 32).length = n
 rw [lna, lnt, lnr, zax]; omega
theorem zacb (N : Nat) (c : Nat) (hc : c < 256) (n : Nat) (hn : n < N) (hn2 : n ≤ 100000) : zf2 N (c : Int) (n : Int) = some ⟨(List.replicate n (UInt8.ofNat c)).toArray⟩ := by
 unfold zf2
 have := za1 (f := zf2.r0 N) (fun i => ((c : Int), (n : Int), List.replicate i (c : Int), (i : Int))) n
  (fun i hi => by
   simp only [zf2.r0, zf2.b0, dct (show (i : Int) < (n : Int) by omega), ctr]; rw [zao (by simp only [lnr, lnc, ln0]; omega), ctr, w6e, ← List.replicate_succ']; rfl)
  (by simp only [zf2.r0, zf2.b0, dcf (show ¬ (n : Int) < (n : Int) by omega), cfa]) hn
 simp only [nc0, List.replicate_zero] at this
 rw [this, obs]
 congr 1
 refine zi0 ?_
 rw [zhz, List.map_replicate]
 rfl
theorem z1p (N : Nat) (hN : 10000 < N) (b : ByteArray) (hb : b.size ≤ 5000) (n : Nat) (hn : n ≤ 5000) : zj7 N b (n : Int) = some (zr4 b n) := by
 have hmax : IntKind.i64.max = 9223372036854775807 := by decide
 unfold zj7
 by_cases h : n ≤ b.size
 · rw [dct (by omega), ctr, ifp, ifp]
   congr 1
   refine zi0 ?_; rw [zfi, show (0 : Int).toNat = 0 from rfl, dr0, itn]; show _ = (bl b).take n ++ List.replicate (n - b.size) 32; rw [show n - b.size = 0 by omega, List.replicate_zero, List.append_nil]
 · rw [dcf (by omega), cfa, w6e, show (n : Int) - (b.size : Int) = ((n - b.size : Nat) : Int) by omega, show (32 : Int) = ((32 : Nat) : Int) from rfl, zacb N 32 (by decide) _ (by omega) (by omega), obs, hmax]; have hs : (⟨(List.replicate (n - b.size) (UInt8.ofNat 32)).toArray⟩ : ByteArray).size = n - b.size := by
    show (List.replicate (n - b.size) (UInt8.ofNat 32)).length = _; rw [lnr]
   rw [ifn (by rw [hs]; omega)]
   congr 1
   refine zi0 ?_; rw [zdl]; show bl b ++ List.replicate (n - b.size) 32 = (bl b).take n ++ List.replicate (n - b.size) 32; rw [List.take_of_length_le (by rw [zax]; omega)]
theorem ztx (c : UInt8) : ∀ n, Lib.repeatL [c] n = List.replicate n c
 | 0 => rfl
 | n + 1 => by show c :: Lib.repeatL [c] n = _; rw [ztx c n, List.replicate_succ]
theorem zacy (b : ByteArray) (n : Nat) : (⟨(bl b ++ List.replicate (n - b.size) 32).toArray⟩ : ByteArray).extract 0 n = zr4 b n := by
 refine zi0 ?_
 rw [zfi, dr0]
 show (bl b ++ List.replicate (n - b.size) 32).take n = (bl b).take n ++ List.replicate (n - b.size) 32
 rw [List.take_append, zax, List.take_replicate, Nat.min_self]
theorem z7x (b : ByteArray) (n : Nat) : (⟨(bl b ++ List.replicate (n - b.size) 32).toArray⟩ : ByteArray) = zr4 b (max b.size n) := by
 refine zi0 ?_
 show bl b ++ List.replicate (n - b.size) 32 = (bl b).take (max b.size n) ++ List.replicate (max b.size n - b.size) 32
 rw [List.take_of_length_le (by rw [zax]; omega), show max b.size n - b.size = n - b.size by omega]
def z2p (x y : List UInt8) : Int := if Op.bytesLess x y = true then -1 else if x = y then 0 else 1
theorem z92 : ∀ (x y : List UInt8), x.length = y.length → (match (List.range x.length).find? (fun i => x.getD i 0 != y.getD i 0) with | some i => if x.getD i 0 < y.getD i 0 then (-1 : Int) else 1 | none => 0) = z2p x y
 | [], [], _ => rfl
 | [], _ :: _, h => by cases h
 | _ :: _, [], h => by cases h
 | a :: x, b :: y, h => by
  have ih := z92 x y (by simpa using h); rw [lnc, List.range_succ_eq_map, List.find?_cons]; rw [List.getD_cons_zero, List.getD_cons_zero]
  by_cases hab : a = b
  · subst hab; simp only [bsf]; rw [List.find?_map]; have e : ((fun i => (a :: x).getD i 0 != (a :: y).getD i 0) ∘ Nat.succ) = fun i => x.getD i 0 != y.getD i 0 := by
     funext i
     rfl
    rw [e]; have e2 : z2p (a :: x) (a :: y) = z2p x y := by
     unfold z2p; have e3 : Op.bytesLess (a :: x) (a :: y) = Op.bytesLess x y := by
      show (decide (a < a) || (a == a && Op.bytesLess x y)) = _; rw [dcf (UInt8.lt_irrefl a)]; simp
     rw [e3]; simp
    rw [e2, ← ih]; cases (List.range x.length).find? (fun i => x.getD i 0 != y.getD i 0) <;> rfl
  · have hne : (a != b) = true := by simpa using hab
    rw [hne]; simp only [List.getD_cons_zero]; unfold z2p; have e3 : Op.bytesLess (a :: x) (b :: y) = decide (a < b) := by
     show (decide (a < b) || (a == b && Op.bytesLess x y)) = _; rw [show (a == b) = false from beq_eq_false_iff_ne.2 hab, Bool.false_and, Bool.or_false]
    rw [e3]
    by_cases hlt : a < b
    · rw [ifp hlt, ifp (dct hlt)]
    · rw [ifn hlt, ifn (by rw [dcf hlt]; decide), ifn (by intro h; exact hab (List.cons.inj h).1)]
theorem zag9 {a b : ByteArray} (h : a.size = b.size) : Extern.BytealgCompare.cmp a b = z2p (bl a) (bl b) := by
 unfold Extern.BytealgCompare.cmp
 rw [← z92 (bl a) (bl b) (by rw [zax, zax, h]), zax, show min a.size b.size = a.size by omega]
 have g : ∀ (c : ByteArray) (i : Nat), i < c.size → c[i]! = (bl c).getD i 0 := fun c i hi => by
  rw [getElem!_pos c i hi, gdd, lge (by rw [zax]; exact hi)]; rfl
 have e : (List.range a.size).find? (fun i => a[i]! != b[i]!) = (List.range a.size).find? (fun i => (bl a).getD i 0 != (bl b).getD i 0) := by
  have key : ∀ l : List Nat, (∀ i ∈ l, i < a.size) → l.find? (fun i => a[i]! != b[i]!) = l.find? (fun i => (bl a).getD i 0 != (bl b).getD i 0) := by
   intro l
   induction l with
   | nil => intro _; rfl
   | cons i l ih =>
    intro hl; have hi := hl i List.mem_cons_self; rw [List.find?_cons, List.find?_cons, g a i hi, g b i (by omega), ih fun j hj => hl j (List.mem_cons_of_mem _ hj)]
  exact key _ fun i hi => List.mem_range.1 hi
 rw [e]
 cases hf : (List.range a.size).find? (fun i => (bl a).getD i 0 != (bl b).getD i 0) with
 | none => simp only []; rw [ifn, ifn]
 | some i =>
  have hi := List.mem_range.1 (List.mem_of_find?_eq_some hf); simp only []; rw [g a i hi, g b i (by omega)]
theorem zage (x : Int) (i : Nat) : (x.tdiv (10 ^ i)).tdiv 10 = x.tdiv (10 ^ (i + 1)) := by
 have key : ∀ m : Nat, ((m : Int).tdiv (10 ^ i)).tdiv 10 = (m : Int).tdiv (10 ^ (i + 1)) := fun m => by
  rw [show (10 : Int) ^ i = ((10 ^ i : Nat) : Int) by rw [Int.natCast_pow]; rfl, show (10 : Int) ^ (i + 1) = ((10 ^ (i + 1) : Nat) : Int) by rw [Int.natCast_pow]; rfl, ← Int.ofNat_tdiv, ← Int.ofNat_tdiv, show (10 : Int) = ((10 : Nat) : Int) from rfl, ← Int.ofNat_tdiv, Nat.div_div_eq_div_mul, Nat.pow_succ]
 obtain ⟨m, rfl | rfl⟩ := Int.eq_nat_or_neg x
 · exact key m
 · rw [Int.neg_tdiv, Int.neg_tdiv, key m, Int.neg_tdiv]
def zge (x : Number) : Int := x.N.tdiv (10 ^ x.Scale.toNat)
theorem zwf {x : Number} (hx : zdq x) : -999999999999999 ≤ zge x ∧ zge x ≤ 999999999999999 := by
 obtain ⟨⟨h1, h2⟩, _⟩ := hx
 have h := Int.natAbs_tdiv_le_natAbs x.N (10 ^ x.Scale.toNat)
 unfold zge
 omega
def zqd (m scale : Nat) : List UInt8 := List.replicate (scale + 1 - (Lib.decDigits m).length) 48 ++ Lib.decDigits m
def ptT (l : List UInt8) (scale : Nat) : List UInt8 := if 0 < scale then l.take (l.length - scale) ++ [46] ++ l.drop (l.length - scale) else l
def sgT (n : Int) (l : List UInt8) : ByteArray := ⟨(if n < 0 then [45] ++ l else l).toArray⟩
def zw0 (x : Number) : ByteArray := sgT x.N (ptT (zqd x.N.natAbs x.Scale.toNat) x.Scale.toNat)
theorem z9q {x : Number} (h0 : 0 ≤ x.Scale) (B : ByteArray) (h1 : x.Scale < (B.size : Int)) (h2 : B.size ≤ 100) :
 ((cond (decide (x.Scale > 0))
 (if 0 ≤ (w6 ((B.size : Int) - x.Scale)) ∧ (w6 ((B.size : Int) - x.Scale)) ≤ (B.size : Int) then (if 0 ≤ (0 : Int) ∧ (0 : Int) ≤ (w6 ((B.size : Int) - x.Scale)) then (if (((B.extract (0 : Int).toNat (w6 ((B.size : Int) - x.Scale)).toNat).size + (⟨#[46]⟩ : ByteArray).size : Nat) : Int) > IntKind.i64.max then none else if 0 ≤ (w6 ((B.size : Int) - x.Scale)) ∧ (w6 ((B.size : Int) - x.Scale)) ≤ (B.size : Int) then (if ((((B.extract (0 : Int).toNat (w6 ((B.size : Int) - x.Scale)).toNat) ++ (⟨#[46]⟩ : ByteArray)).size + (B.extract (w6 ((B.size : Int) - x.Scale)).toNat B.size).size : Nat) : Int) > IntKind.i64.max then none else cond (decide (x.N < 0))
 (if (((⟨#[45]⟩ : ByteArray).size + (((B.extract (0 : Int).toNat (w6 ((B.size : Int) - x.Scale)).toNat) ++ (⟨#[46]⟩ : ByteArray)) ++ (B.extract (w6 ((B.size : Int) - x.Scale)).toNat B.size)).size : Nat) : Int) > IntKind.i64.max then none else some (((⟨#[45]⟩ : ByteArray) ++ (((B.extract (0 : Int).toNat (w6 ((B.size : Int) - x.Scale)).toNat) ++ (⟨#[46]⟩ : ByteArray)) ++ (B.extract (w6 ((B.size : Int) - x.Scale)).toNat B.size))), 0))
 (some ((((B.extract (0 : Int).toNat (w6 ((B.size : Int) - x.Scale)).toNat) ++ (⟨#[46]⟩ : ByteArray)) ++ (B.extract (w6 ((B.size : Int) - x.Scale)).toNat B.size)), 0))) else none) else none) else none)
 (cond (decide (x.N < 0)) (if (((⟨#[45]⟩ : ByteArray).size + B.size : Nat) : Int) > IntKind.i64.max then none else some (((⟨#[45]⟩ : ByteArray) ++ B), 0)) (some (B, 0)))) : Option (ByteArray × Int)) = some (sgT x.N (ptT (bl B) x.Scale.toNat), 0) := by
 have hmax : IntKind.i64.max = 9223372036854775807 := by decide
 have z1 : (⟨#[46]⟩ : ByteArray).size = 1 := rfl
 have z2 : (⟨#[45]⟩ : ByteArray).size = 1 := rfl
 rw [hmax, w6e]
 obtain ⟨k, hk⟩ : ∃ k : Nat, (B.size : Int) - x.Scale = (k : Int) := ⟨((B.size : Int) - x.Scale).toNat, by omega⟩
 have hk2 : k = B.size - x.Scale.toNat := by omega
 rw [hk, itn, show (0 : Int).toNat = 0 from rfl]
 have s1 : (B.extract 0 k).size = k := by rw [zdf _ _ _ (by omega) (by omega)]; omega
 have s2 : (B.extract k B.size).size = B.size - k := by rw [zdf _ _ _ (by omega) (by omega)]
 by_cases hs : x.Scale > 0
 · rw [dct hs, ctr, ifp, ifp, ifn (by rw [s1, z1]; omega), ifp, ifn (by rw [bsa, s1, z1, s2]; omega)]; have e : bl ((B.extract 0 k ++ (⟨#[46]⟩ : ByteArray)) ++ B.extract k B.size) = ptT (bl B) x.Scale.toNat := by
    unfold ptT; rw [zdl, zdl, zfi, zfi, dr0, ifp, ← zax B, List.take_length, zax, hk2]; rfl
   by_cases hn : x.N < 0
   · rw [dct hn, ctr, ifn (by rw [bsa, bsa, s1, z1, s2, z2]; omega)]
     congr 2
     refine zi0 ?_; rw [zdl, e]; unfold sgT; rw [ifp hn]; rfl
   · rw [dcf hn, cfa]
     congr 2
     refine zi0 ?_; rw [e]; unfold sgT; rw [ifn hn]; rfl
 · rw [dcf hs, cfa]; have e : ptT (bl B) x.Scale.toNat = bl B := by unfold ptT; rw [ifn]
   rw [e]
   by_cases hn : x.N < 0
   · rw [dct hn, ctr, ifn (by rw [z2]; omega)]
     congr 2
     refine zi0 ?_; rw [zdl]; unfold sgT; rw [ifp hn]; rfl
   · rw [dcf hn, cfa]
     congr 2
     unfold sgT; rw [ifn hn]; rfl
theorem zadg {x : Number} (h0 : 0 ≤ x.Scale) (B : ByteArray) (h1 : x.Scale < (B.size : Int)) (h2 : B.size ≤ 100) :
 (cond (decide (x.Scale > 0))
 (if 0 ≤ (w6 ((B.size : Int) - x.Scale)) ∧ (w6 ((B.size : Int) - x.Scale)) ≤ (B.size : Int) then (if 0 ≤ (0 : Int) ∧ (0 : Int) ≤ (w6 ((B.size : Int) - x.Scale)) then (if (((B.extract (0 : Int).toNat (w6 ((B.size : Int) - x.Scale)).toNat).size + (⟨#[46]⟩ : ByteArray).size : Nat) : Int) > IntKind.i64.max then none else if 0 ≤ (w6 ((B.size : Int) - x.Scale)) ∧ (w6 ((B.size : Int) - x.Scale)) ≤ (B.size : Int) then (if ((((B.extract (0 : Int).toNat (w6 ((B.size : Int) - x.Scale)).toNat) ++ (⟨#[46]⟩ : ByteArray)).size + (B.extract (w6 ((B.size : Int) - x.Scale)).toNat B.size).size : Nat) : Int) > IntKind.i64.max then none else cond (decide (x.N < 0))
 (if (((⟨#[45]⟩ : ByteArray).size + (((B.extract (0 : Int).toNat (w6 ((B.size : Int) - x.Scale)).toNat) ++ (⟨#[46]⟩ : ByteArray)) ++ (B.extract (w6 ((B.size : Int) - x.Scale)).toNat B.size)).size : Nat) : Int) > IntKind.i64.max then none else some ((⟨#[45]⟩ : ByteArray) ++ (((B.extract (0 : Int).toNat (w6 ((B.size : Int) - x.Scale)).toNat) ++ (⟨#[46]⟩ : ByteArray)) ++ (B.extract (w6 ((B.size : Int) - x.Scale)).toNat B.size))))
 (some (((B.extract (0 : Int).toNat (w6 ((B.size : Int) - x.Scale)).toNat) ++ (⟨#[46]⟩ : ByteArray)) ++ (B.extract (w6 ((B.size : Int) - x.Scale)).toNat B.size)))) else none) else none) else none)
 (cond (decide (x.N < 0)) (if (((⟨#[45]⟩ : ByteArray).size + B.size : Nat) : Int) > IntKind.i64.max then none else some ((⟨#[45]⟩ : ByteArray) ++ B)) (some B))) = some (sgT x.N (ptT (bl B) x.Scale.toNat)) := by
 have hmax : IntKind.i64.max = 9223372036854775807 := by decide
 have z1 : (⟨#[46]⟩ : ByteArray).size = 1 := rfl
 have z2 : (⟨#[45]⟩ : ByteArray).size = 1 := rfl
 rw [hmax, w6e]
 obtain ⟨k, hk⟩ : ∃ k : Nat, (B.size : Int) - x.Scale = (k : Int) := ⟨((B.size : Int) - x.Scale).toNat, by omega⟩
 have hk2 : k = B.size - x.Scale.toNat := by omega
 rw [hk, itn, show (0 : Int).toNat = 0 from rfl]
 have s1 : (B.extract 0 k).size = k := by rw [zdf _ _ _ (by omega) (by omega)]; omega
 have s2 : (B.extract k B.size).size = B.size - k := by rw [zdf _ _ _ (by omega) (by omega)]
 by_cases hs : x.Scale > 0
 · rw [dct hs, ctr, ifp, ifp, ifn (by rw [s1, z1]; omega), ifp, ifn (by rw [bsa, s1, z1, s2]; omega)]; have e : bl ((B.extract 0 k ++ (⟨#[46]⟩ : ByteArray)) ++ B.extract k B.size) = ptT (bl B) x.Scale.toNat := by
    unfold ptT; rw [zdl, zdl, zfi, zfi, dr0, ifp, ← zax B, List.take_length, zax, hk2]; rfl
   by_cases hn : x.N < 0
   · rw [dct hn, ctr, ifn (by rw [bsa, bsa, s1, z1, s2, z2]; omega)]; refine congrArg some (zi0 ?_); rw [zdl, e]; unfold sgT; rw [ifp hn]; rfl
   · rw [dcf hn, cfa]; refine congrArg some (zi0 ?_); rw [e]; unfold sgT; rw [ifn hn]; rfl
 · rw [dcf hs, cfa]; have e : ptT (bl B) x.Scale.toNat = bl B := by unfold ptT; rw [ifn]
   rw [e]
   by_cases hn : x.N < 0
   · rw [dct hn, ctr, ifn (by rw [z2]; omega)]; refine congrArg some (zi0 ?_); rw [zdl]; unfold sgT; rw [ifp hn]; rfl
   · rw [dcf hn, cfa]; unfold sgT; rw [ifn hn]; rfl
theorem z3i (m : Nat) : ∀ k, 0 < k → m < 10 ^ k → (Lib.decDigits m).length ≤ k ∧ 0 < (Lib.decDigits m).length := by
 induction m using Nat.strongRecOn with
 | _ m ih =>
  intro k hk hm; rw [Lib.decDigits]
  by_cases h : m < 10
  · rw [dif_pos h, lns]; omega
  · rw [dif_neg h, lna, lns]; obtain ⟨j, rfl⟩ : ∃ j, k = j + 1 := ⟨k - 1, by omega⟩; rw [Nat.pow_succ] at hm; have hj : 0 < j := by
     refine cbc fun h0 => ?_; rw [show j = 0 by omega] at hm; omega
    have := ih (m / 10) (by omega) j hj (by omega); omega
theorem z4p (m scale : Nat) (hm : m < 10 ^ 15) (hs : scale ≤ 15) : scale < (zqd m scale).length ∧ (zqd m scale).length ≤ 16 := by
 have := z3i m 15 (by decide) hm
 unfold zqd
 rw [lna, lnr]
 omega
theorem z7i {x : Number} (hx : zdq x) : zgu x = some (zw0 x, 0) := by
 have hx' := hx
 obtain ⟨⟨h1, h2⟩, h3, h4⟩ := hx'
 have hmax : IntKind.i64.max = 9223372036854775807 := by decide
 have hlen := z3i x.N.natAbs 15 (by decide) (by omega)
 have hdl := z4p x.N.natAbs x.Scale.toNat (by omega) (by omega)
 unfold zgu
 rw [zrj, zp8.2 hx]
 simp only [obs, bsf, cfa]
 rw [zsq (by omega) (by omega)]
 have hi : z0f (((x.N.natAbs : Nat) : Int)) = some ⟨(Lib.decDigits x.N.natAbs).toArray⟩ := by
  unfold z0f Lib.itoa; rw [ifp ⟨by omega, by omega⟩, ifn, itn]
 rw [hi]
 simp only [obs]
 have hsz : (⟨(Lib.decDigits x.N.natAbs).toArray⟩ : ByteArray).size = (Lib.decDigits x.N.natAbs).length := rfl
 by_cases hle : ((Lib.decDigits x.N.natAbs).length : Int) ≤ x.Scale
 · rw [hsz, dct hle, ctr, w6e (n := x.Scale + 1), w6e]; have hr : znn (⟨#[48]⟩ : ByteArray) (x.Scale + 1 - ((Lib.decDigits x.N.natAbs).length : Int)) = some ⟨(List.replicate (x.Scale.toNat + 1 - (Lib.decDigits x.N.natAbs).length) 48).toArray⟩ := by
    unfold znn; have hs1 : (⟨#[48]⟩ : ByteArray).size = 1 := rfl; rw [ifp ⟨by omega, by omega, by rw [hs1]; omega⟩, ztx, show (x.Scale + 1 - ((Lib.decDigits x.N.natAbs).length : Int)).toNat = x.Scale.toNat + 1 - (Lib.decDigits x.N.natAbs).length by omega]
   rw [hr]; simp only [obs]; have hs2 : (⟨(List.replicate (x.Scale.toNat + 1 - (Lib.decDigits x.N.natAbs).length) (48 : UInt8)).toArray⟩ : ByteArray).size = x.Scale.toNat + 1 - (Lib.decDigits x.N.natAbs).length := by
    show (List.replicate (x.Scale.toNat + 1 - (Lib.decDigits x.N.natAbs).length) (48 : UInt8)).length = _; rw [lnr]
   rw [hmax, ifn (by rw [hs2]; omega)]; have hb : (⟨(List.replicate (x.Scale.toNat + 1 - (Lib.decDigits x.N.natAbs).length) (48 : UInt8)).toArray⟩ : ByteArray) ++ ⟨(Lib.decDigits x.N.natAbs).toArray⟩ = ⟨(zqd x.N.natAbs x.Scale.toNat).toArray⟩ := by
    refine zi0 ?_; rw [zdl]; rfl
   rw [hb]; have := z9q h3 ⟨(zqd x.N.natAbs x.Scale.toNat).toArray⟩ (by show x.Scale < ((zqd x.N.natAbs x.Scale.toNat).length : Int); omega) (by show (zqd x.N.natAbs x.Scale.toNat).length ≤ 100; omega); rw [hmax, zaew] at this; unfold zw0; exact this
 · rw [hsz, dcf hle, cfa, ← hsz]; have hb : bl (⟨(Lib.decDigits x.N.natAbs).toArray⟩ : ByteArray) = zqd x.N.natAbs x.Scale.toNat := by
    unfold zqd; rw [show x.Scale.toNat + 1 - (Lib.decDigits x.N.natAbs).length = 0 by omega]; rfl
   have := z9q h3 ⟨(Lib.decDigits x.N.natAbs).toArray⟩ (by rw [hsz]; omega) (by rw [hsz]; omega); rw [hb] at this; unfold zw0; exact this
theorem z1w : ∀ (N m : Nat), 0 < N → m < 10 ^ N → N ≤ 18 → ∀ K, zo5 (N + K) (m : Int) = some ⟨(Lib.decDigits m).toArray⟩
 | 0, m, h, _, _ => by omega
 | N + 1, m, _, hm, hN => fun K => by
  have hmax : IntKind.i64.max = 9223372036854775807 := by decide
  have h18 : 10 ^ (N + 1) ≤ 10 ^ 18 := zcs hN; rw [show N + 1 + K = (N + K) + 1 by omega]; show (cond (decide ((m : Int) < (-9))) _ (cond (decide ((m : Int) < 0)) _ (cond (decide ((m : Int) < 10)) _ _))) = _; rw [dcf (by omega), dcf (by omega), cfa, cfa, Lib.decDigits]
  by_cases h : m < 10
  · rw [dct (by omega), ctr, dif_pos h, w6e, zom (by omega) (by omega)]; refine congrArg some (zi0 ?_); rw [zhz]; show [UInt8.ofNat (48 + (m : Int)).toNat] = [UInt8.ofNat (48 + m)]; rw [show (48 + (m : Int)).toNat = 48 + m by omega]
  · rw [Nat.pow_succ] at hm; have hN0 : 0 < N := by
     refine cbc fun h0 => ?_; rw [show N = 0 by omega] at hm; omega
    have ih := z1w N (m / 10) hN0 (by omega) (by omega) K; rw [dcf (by omega), cfa, dif_neg h, tde, tme, w6e (n := (m : Int) / 10), show (m : Int) / 10 = ((m / 10 : Nat) : Int) by omega, ih, obs, w6e, zom (by omega) (by omega), hmax]; have hl := z3i (m / 10) N hN0 (by omega); have hs : (⟨(Lib.decDigits (m / 10)).toArray⟩ : ByteArray).size = (Lib.decDigits (m / 10)).length := rfl; have hs2 : (zd3 ([48 + (m : Int) % 10] : List Int)).size = 1 := rfl; rw [ifn (by rw [hs, hs2]; omega)]; refine congrArg some (zi0 ?_); rw [zdl, zhz]; show Lib.decDigits (m / 10) ++ [UInt8.ofNat (48 + (m : Int) % 10).toNat] = Lib.decDigits (m / 10) ++ [UInt8.ofNat (48 + m % 10)]; rw [show (48 + (m : Int) % 10).toNat = 48 + m % 10 by omega]
theorem zafa (N : Nat) (hN : 100 < N) {x : Number} (hx : zdq x) : zhv N x = some (zw0 x) := by
 have hx' := hx
 obtain ⟨⟨h1, h2⟩, h3, h4⟩ := hx'
 have hmax : IntKind.i64.max = 9223372036854775807 := by decide
 have hlen := z3i x.N.natAbs 15 (by decide) (by omega)
 have hdl := z4p x.N.natAbs x.Scale.toNat (by omega) (by omega)
 unfold zhv znf
 rw [zsq (by omega) (by omega)]
 simp only [obs, eN]
 have hd := z1w 15 x.N.natAbs (by decide) (by omega) (by decide) (N - 15)
 rw [show 15 + (N - 15) = N by omega] at hd
 rw [hd]
 simp only [obs]
 have z1 : (⟨#[48]⟩ : ByteArray).size = 1 := rfl
 have lp := za1 (f := zhv.r0 N) (fun i => ((⟨(List.replicate i (48 : UInt8) ++ Lib.decDigits x.N.natAbs).toArray⟩ : ByteArray), x)) (x.Scale.toNat + 1 - (Lib.decDigits x.N.natAbs).length)
  (fun i hi => by
   have hs : (⟨(List.replicate i (48 : UInt8) ++ Lib.decDigits x.N.natAbs).toArray⟩ : ByteArray).size = i + (Lib.decDigits x.N.natAbs).length := by
    show (List.replicate i (48 : UInt8) ++ Lib.decDigits x.N.natAbs).length = _; rw [lna, lnr]
   simp only [zhv.r0, zhv.b0]; rw [dct (by rw [hs]; omega), ctr, hmax, ifn (by rw [hs, z1]; omega)]; refine congrArg some (congrArg Stp.again (Prod.ext (zi0 ?_) rfl)); show bl ((⟨#[48]⟩ : ByteArray) ++ ⟨(List.replicate i (48 : UInt8) ++ Lib.decDigits x.N.natAbs).toArray⟩) = List.replicate (i + 1) (48 : UInt8) ++ Lib.decDigits x.N.natAbs; rw [zdl, List.replicate_succ]; rfl)
  (by
   have hs : (⟨(List.replicate (x.Scale.toNat + 1 - (Lib.decDigits x.N.natAbs).length) (48 : UInt8) ++ Lib.decDigits x.N.natAbs).toArray⟩ : ByteArray).size = x.Scale.toNat + 1 - (Lib.decDigits x.N.natAbs).length + (Lib.decDigits x.N.natAbs).length := by
    show (List.replicate (x.Scale.toNat + 1 - (Lib.decDigits x.N.natAbs).length) (48 : UInt8) ++ Lib.decDigits x.N.natAbs).length = _; rw [lna, lnr]
   simp only [zhv.r0, zhv.b0]; rw [dcf (by rw [hs]; omega), cfa]) (N := N) (by omega)
 rw [List.replicate_zero, List.nil_append] at lp
 rw [lp]
 have := zadg h3 ⟨(zqd x.N.natAbs x.Scale.toNat).toArray⟩ (by show x.Scale < ((zqd x.N.natAbs x.Scale.toNat).length : Int); omega) (by show (zqd x.N.natAbs x.Scale.toNat).length ≤ 100; omega)
 rw [zaew] at this
 unfold zw0
 exact this
theorem zabc {x : Number} (hx : zdq x) : (zw0 x).size ≤ 256 := by
 obtain ⟨⟨h1, h2⟩, h3, h4⟩ := hx
 have hdl := z4p x.N.natAbs x.Scale.toNat (by omega) (by omega)
 have hp : (ptT (zqd x.N.natAbs x.Scale.toNat) x.Scale.toNat).length ≤ 17 := by
  unfold ptT; split
  · rw [lna, lna, lnt, List.length_drop, lns]; omega
  · omega
 unfold zw0 sgT
 show (if x.N < 0 then [45] ++ ptT (zqd x.N.natAbs x.Scale.toNat) x.Scale.toNat else ptT (zqd x.N.natAbs x.Scale.toNat) x.Scale.toNat).length ≤ 256
 split
 · rw [lna, lns]; omega
 · omega
theorem zvr {R α : Type} {f : α → Option (Round R α)} (S : Nat → α) (g : Nat → Option R) (n : Nat) (h : ∀ i, i < n → (∀ j, j < i → g j = none) → f (S i) = some (match g i with | some r => .result r | none => .again (S (i + 1)))) (hl : (∀ j, j < n → g j = none) → f (S n) = some (.leave (S n))) {N : Nat} (hN : n < N) :
 zj f N (S 0) = some (match (List.range n).findSome? g with | some r => .inl r | none => .inr (S n)) := by
 have key : ∀ k i N, i + k = n → k < N → (∀ j, j < i → g j = none) → zj f N (S i) = some (match (List.range' i k).findSome? g with | some r => .inl r | none => .inr (S n)) := by
  intro k
  induction k with
  | zero =>
   intro i N hi hN hp; obtain ⟨m, rfl⟩ : ∃ m, N = m + 1 := ⟨N - 1, by omega⟩; obtain rfl : i = n := by omega
   simp only [zj, hl hp, obs]; rfl
  | succ k ih =>
   intro i N hi hN hp; obtain ⟨m, rfl⟩ : ∃ m, N = m + 1 := ⟨N - 1, by omega⟩; simp only [zj, h i (by omega) hp, obs, List.range'_succ, List.findSome?_cons]; cases hg : g i with
   | some r => rfl
   | none =>
    refine ih (i + 1) m (by omega) (by omega) fun j hj => ?_; rcases Nat.lt_or_ge j i with h1 | h1
    · exact hp j h1
    · obtain rfl : j = i := by omega
      exact hg
 rw [List.range_eq_range']
 exact key n 0 N (by omega) hN (fun j hj => absurd hj (by omega))
theorem zme {R : Type} {g : Nat → Option R} {n : Nat} : (List.range n).findSome? g = none ↔ ∀ i, i < n → g i = none := by
 rw [List.findSome?_eq_none_iff]
 exact ⟨fun h i hi => h i (List.mem_range.2 hi), fun h i hi => h i (List.mem_range.1 hi)⟩
theorem zmc {R : Type} {g : Nat → Option R} {r : R} : ∀ {n : Nat}, (List.range n).findSome? g = some r → ∃ i, i < n ∧ g i = some r ∧ ∀ j, j < i → g j = none
 | 0, h => by simp at h
 | n + 1, h => by
  rw [List.range_succ, List.findSome?_append] at h; cases hn : (List.range n).findSome? g with
  | some r' =>
   rw [hn] at h; obtain ⟨i, h1, h2, h3⟩ := zmc hn; exact ⟨i, by omega, by rw [h2]; exact h, h3⟩
  | none =>
   rw [hn] at h; simp only [List.findSome?_cons, List.findSome?_nil] at h; refine ⟨n, by omega, ?_, zme.1 hn⟩; cases hg : g n with
   | some x => rw [hg] at h; exact h
   | none => rw [hg] at h; cases h
theorem z2y (b : Bool) (e : Int) : zb9 b e = some (cond b e 0) := by cases b <;> rfl
theorem z2x (n lo hi : Int) : zd4 n lo hi = some (inB n lo hi) := by
 unfold zd4 inB
 cases decide (lo ≤ n) <;> rfl
theorem zzn (N : Nat) (l : List Int) (h : l.length < N) (hl : l.length < 1000000000) : zbs N l = some (zhe l) := by
 unfold zbs
 have := zbh (f := zbs.r0 N) (fun i => (l, (l.length : Int), (i : Int))) (fun i => (l[i]?).bind fun x => if x = 0 then none else some x) l.length
  (fun i hi => by
   have hx := lge hi; simp only [zbs.r0, zbs.b0, zai, hx, obs, dct (show (i : Int) < (l.length : Int) by omega), ctr]
   by_cases h0 : l[i] = 0
   · simp only [h0, bsf, cfa, if_true]; rw [w6e]; rfl
   · simp only [h0, if_false]; rw [show (l[i] != 0) = true by simpa using h0]; rfl)
  (by simp only [zbs.r0, zbs.b0, dcf (show ¬ (l.length : Int) < (l.length : Int) by omega), cfa]) h
 simp only [nc0] at this
 rw [this, zmh, ← zot]
 simp only [obs]
 cases l.findSome? (fun x => if x = 0 then none else some x) <;> rfl
def letB (c : Int) : Bool := (decide (65 ≤ c) && decide (c ≤ 90)) || (decide (c = 35) || (decide (c = 36) || decide (c = 64)))
def othB (c : Int) : Bool := (decide (48 ≤ c) && decide (c ≤ 57)) || (decide (c = 95) || decide (c = 46))
def z4u (c i : Int) : Bool := !letB c && (decide (i = 0) || !othB c)
def zv2 (s : ByteArray) (i : Nat) : Option Bool := ((bl s)[i]?).bind fun c => if z4u ((c.toNat : Nat) : Int) (i : Int) = true then some false else none
def zzu (s : ByteArray) : Bool := decide (1 ≤ s.size ∧ s.size ≤ 10) && ((List.range s.size).findSome? (zv2 s)).isNone
theorem zaaj (s : ByteArray) : s.size = (bl s).length := rfl
theorem zafl (s : ByteArray) (i : Nat) : zhl s (i : Int) = (bl s)[i]? := by
 unfold zhl
 rw [ifp]
 show s.data[i]? = s.data.toList[i]?
 simp
theorem zafg (N : Nat) (hN : 20 < N) (s : ByteArray) : zcu N s = some (zzu s) := by
 unfold zcu zzu
 rw [zn0, zn0, show bl (⟨#[]⟩ : ByteArray) = [] from rfl]
 by_cases h0 : s.size = 0
 · have : bl s = [] := List.eq_nil_of_length_eq_zero (by rw [← zaaj]; exact h0); rw [this, dcf (show ¬ (1 ≤ s.size ∧ s.size ≤ 10) by omega)]; rfl
 by_cases h1 : s.size > 10
 · rw [dcf (show ¬ (1 ≤ s.size ∧ s.size ≤ 10) by omega), dct (show (s.size : Int) > 10 by omega)]; cases (bl s == ([] : List UInt8)) <;> rfl
 have hne : (bl s == ([] : List UInt8)) = false := by
  cases hb : (bl s == ([] : List UInt8)) with
  | false => rfl
  | true =>
   have := congrArg List.length (eq_of_beq hb); rw [← zaaj] at this; exact absurd this h0
 rw [hne, dcf (show ¬ (s.size : Int) > 10 by omega), dct (show 1 ≤ s.size ∧ s.size ≤ 10 by omega)]
 simp only [cfa, obs, Bool.true_and]
 have hlen : (zex s).length = s.size := by unfold zex; rw [lnm]; rfl
 have l1 := zbh (f := zcu.r0 N) (fun i => (zex s, ((zex s).length : Int), (i : Int))) (zv2 s) s.size
  (fun i hi => by
   have hi' : i < (bl s).length := hi; have hx : (zex s)[i]? = some (((bl s)[i].toNat : Nat) : Int) := by
    unfold zex; rw [List.getElem?_map]; show ((bl s)[i]?).map _ = _; rw [lge hi']; rfl
   simp only [zcu.r0, zcu.b0, hlen, dct (show (i : Int) < (s.size : Int) by omega), ctr, ifp (show (0 : Int) ≤ (i : Int) by omega), ifp (show (i : Int) < (s.size : Int) by omega), itn, hx, obs, zxw, orB, zcn, zv2, lge hi']; rw [w6e]; generalize (((bl s)[i].toNat : Nat) : Int) = c; have e : (!(((decide (65 ≤ c) && decide (c ≤ 90)) || decide (c = 35) || decide (c = 36)) || decide (c = 64)) && (decide ((i : Int) = 0) || !(((decide (48 ≤ c) && decide (c ≤ 57)) || decide (c = 95)) || decide (c = 46)))) = z4u c (i : Int) := by
    unfold z4u letB othB; simp only [Bool.or_assoc]
   rw [e]; cases z4u c (i : Int) <;> rfl)
  (by simp only [zcu.r0, zcu.b0, hlen, dcf (show ¬ (s.size : Int) < (s.size : Int) by omega), cfa]) (N := N) (by omega)
 simp only [nc0] at l1
 rw [l1]
 cases hg : (List.range s.size).findSome? (zv2 s) with
 | none => rfl
 | some r =>
  obtain ⟨i, _, hi, _⟩ := zmc hg; unfold zv2 at hi; rw [Option.bind_eq_some_iff] at hi; obtain ⟨c, _, hc⟩ := hi; split at hc
  · cases hc; rfl
  · cases hc
theorem zafc (N : Nat) (hN : 20 < N) (s : ByteArray) : zdx N s = some (zzu s) := by
 unfold zdx zzu
 rw [zjg, obs]
 by_cases h1 : 1 ≤ s.size ∧ s.size ≤ 10
 · rw [show inB (s.size : Int) 1 10 = true from zbf.2 (by omega), dct h1]; simp only [bnt, cfa, Bool.true_and]; have l1 := zbh (f := zdx.r0 N) (fun i => (s, (i : Int))) (zv2 s) s.size
    (fun i hi => by
     have hi' : i < (bl s).length := hi; simp only [zdx.r0, zdx.b0, zpo, zpq, dct (show (i : Int) < (s.size : Int) by omega), ctr, zafl, lge hi', obs, zxw, orB, zcn, zd1, zv2]; rw [w6e]; generalize (((bl s)[i].toNat : Nat) : Int) = c; have e : (!((((decide (65 ≤ c) && decide (c ≤ 90)) || decide (c = 36)) || decide (c = 35)) || decide (c = 64)) && (decide ((i : Int) = 0) || ((!(decide (48 ≤ c) && decide (c ≤ 57)) && decide (c ≠ 95)) && decide (c ≠ 46)))) = z4u c (i : Int) := by
      unfold z4u letB othB; simp only [decide_not, Bool.not_or, Bool.not_and, Bool.or_assoc, Bool.and_assoc]; cases decide (65 ≤ c) <;> cases decide (c ≤ 90) <;> cases decide (c = 36) <;> cases decide (c = 35) <;> simp
     rw [e]; cases z4u c (i : Int) <;> rfl)
    (by simp only [zdx.r0, zdx.b0, dcf (show ¬ (s.size : Int) < (s.size : Int) by omega), cfa]) (N := N) (by omega)
   simp only [nc0] at l1; rw [l1]; cases hg : (List.range s.size).findSome? (zv2 s) with
   | none => rfl
   | some r =>
    obtain ⟨i, _, hi, _⟩ := zmc hg; unfold zv2 at hi; rw [Option.bind_eq_some_iff] at hi; obtain ⟨c, _, hc⟩ := hi; split at hc
    · cases hc; rfl
    · cases hc
 · rw [show inB (s.size : Int) 1 10 = false by
    cases hb : inB (s.size : Int) 1 10 with
    | false => rfl
    | true => have := zbf.1 hb; omega, dcf h1]
   rfl
def gNm (l : List zF) (s : ByteArray) (i : Nat) : Option Int := (l[i]?).bind fun o => if (o.Name.toList == s.toList) = true then some (i : Int) else none
def nmI (l : List zF) (s : ByteArray) : Int := match (List.range l.length).findSome? (gNm l s) with | some i => i | none => -1
theorem z4j (N : Nat) (l : List zF) (h : l.length < N) (hl : l.length < 1000000000) (s : ByteArray) : zgs N l s = some (nmI l s) := by
 unfold zgs zn nmI
 have l1 := zbh (f := zn.r0 N) (fun i => (l, (l.length : Int), (i : Int), s)) (gNm l s) l.length
  (fun i hi => by
   have hx := lge hi; simp only [zn.r0, zn.b0, zlk, zai, hx, obs, dct (show (i : Int) < (l.length : Int) by omega), ctr, gNm]; rw [w6e]; cases (l[i].Name.toList == s.toList) <;> rfl)
  (by simp only [zn.r0, zn.b0, dcf (show ¬ (l.length : Int) < (l.length : Int) by omega), cfa]) h
 simp only [nc0] at l1
 rw [l1]
 cases (List.range l.length).findSome? (gNm l s) <;> rfl
theorem z8e (N : Nat) (p : zB) (h : p.zA.length < N) (hl : p.zA.length < 1000000000) (s : ByteArray) : zee N p s = some (nmI p.zA s) := by
 unfold zee nmI
 have l1 := zbh (f := zee.r0 N) (fun i => (s, (i : Int), p)) (gNm p.zA s) p.zA.length
  (fun i hi => by
   have hx := lge hi; simp only [zee.r0, zee.b0, zai, hx, obs, dct (show (i : Int) < (p.zA.length : Int) by omega), ctr, gNm]; rw [w6e]; cases (p.zA[i].Name.toList == s.toList) <;> rfl)
  (by simp only [zee.r0, zee.b0, dcf (show ¬ (p.zA.length : Int) < (p.zA.length : Int) by omega), cfa]) h
 simp only [nc0] at l1
 rw [l1]
 cases (List.range p.zA.length).findSome? (gNm p.zA s) <;> rfl
theorem zaeb {l : List zF} {s : ByteArray} {i : Nat} {r : Int} (h : gNm l s i = some r) : r = (i : Int) ∧ ∃ o, l[i]? = some o ∧ (o.Name.toList == s.toList) = true := by
 unfold gNm at h
 rw [Option.bind_eq_some_iff] at h
 obtain ⟨o, h1, h2⟩ := h
 split at h2
 · rename_i h3; cases h2; exact ⟨rfl, o, h1, h3⟩
 · cases h2
theorem zwa (l : List zF) (s : ByteArray) : (nmI l s = -1 ∧ ∀ i, i < l.length → gNm l s i = none) ∨ ∃ i : Nat, nmI l s = (i : Int) ∧ i < l.length ∧ gNm l s i = some (i : Int) ∧ ∀ j, j < i → gNm l s j = none := by
 unfold nmI
 cases hf : (List.range l.length).findSome? (gNm l s) with
 | none => exact .inl ⟨rfl, zme.1 hf⟩
 | some r =>
  obtain ⟨i, h1, h2, h3⟩ := zmc hf; have := (zaeb h2).1; subst this; exact .inr ⟨i, rfl, h1, h2, h3⟩
theorem zah2 {l : List zF} {s : ByteArray} {i : Nat} (h1 : i < l.length) (h2 : gNm l s i = some (i : Int)) (h3 : ∀ j, j < i → gNm l s j = none) : nmI l s = (i : Int) := by
 rcases zwa l s with ⟨_, g2⟩ | ⟨k, g1, g2, g3, g4⟩
 · rw [g2 i h1] at h2; cases h2
 · rcases Nat.lt_trichotomy i k with h | h | h
   · rw [g4 i h] at h2; cases h2
   · rw [g1, h]
   · rw [h3 k h] at g3; cases g3
theorem z0h {l : List zF} {s : ByteArray} {n i : Nat} (h : i < n) : gNm (l.take n) s i = gNm l s i := by
 unfold gNm
 rw [List.getElem?_take, ifp h]
theorem zaat (l : List zF) (s : ByteArray) (n : Nat) : nmI (l.take n) s = if nmI l s < (n : Int) then nmI l s else -1 := by
 rcases zwa l s with ⟨g1, g2⟩ | ⟨k, g1, g2, g3, g4⟩
 · rw [g1, ifp]; rcases zwa (l.take n) s with ⟨e1, _⟩ | ⟨k, _, e2, e3, _⟩
   · exact e1
   · rw [lnt] at e2; rw [z0h (by omega), g2 k (by omega)] at e3; cases e3
 · by_cases hk : k < n
   · rw [g1, ifp]; exact zah2 (by rw [lnt]; omega) (by rw [z0h hk]; exact g3) (fun j hj => by rw [z0h (by omega)]; exact g4 j hj)
   · rw [g1, ifn]; rcases zwa (l.take n) s with ⟨e1, _⟩ | ⟨k', _, e2, e3, _⟩
     · exact e1
     · rw [lnt] at e2; rw [z0h (by omega), g4 k' (by omega)] at e3; cases e3
theorem z9d {l : List zF} {i : Nat} {o : zF} (h : l[i]? = some o) : 0 ≤ nmI l o.Name ∧ nmI l o.Name ≤ (i : Int) := by
 have hi := (gei h).1
 have hg : gNm l o.Name i = some (i : Int) := by
  unfold gNm; rw [h, obs, ifp (bst _)]
 rcases zwa l o.Name with ⟨_, g2⟩ | ⟨k, g1, g2, g3, g4⟩
 · rw [g2 i hi] at hg; cases hg
 · have : ¬ i < k := fun hlt => by rw [g4 i hlt] at hg; cases hg
   omega
def isS (k : Int) : Bool := (decide (k = 0) || decide (k = 1)) || decide (k = 2)
def isD (k : Int) : Bool := isS k || decide (k = 4)
theorem z19 (o : zF) : zfs o = some (isD o.Kind) := by
 unfold zfs isD isS
 simp only [orB, zcn, obs]
theorem z3w (k : Int) : zgt k = some (isS k) := by
 unfold zgt isS
 simp only [orB, zcn, obs]
theorem z7c (k : Int) : zhp k = some (isD k) := by
 unfold zhp isD
 rw [z3w]
 simp only [orB, zcn, obs]
theorem tbeq (a b : ByteArray) : (a.toList == b.toList) = decide (a = b) := by
 rw [zn0, zn0]
 by_cases h : a = b
 · subst h; rw [dct rfl]; exact bst _
 · rw [dcf h]; refine beq_eq_false_iff_ne.2 fun hh => h ?_; obtain ⟨⟨a⟩⟩ := a; obtain ⟨⟨b⟩⟩ := b; have : a = b := hh; rw [this]
def e0 : ByteArray := ⟨#[]⟩
def noV (o : zF) : Bool := decide (o.Value.N = 0) && decide (o.Value.S = e0)
def noB (o : zF) : Bool := decide (o.Base = e0) && decide (o.Offset = 0)
def noT (o : zF) : Bool := decide (o.zJ.Kind = 0) && (decide (o.zJ.Length = 0) && decide (o.zJ.Scale = 0))
def zws (o : zF) : Bool :=
 if o.Kind = 0 ∨ o.Kind = 4 then !noB o || !decide (o.Target = 0)
 else if o.Kind = 1 ∨ o.Kind = 2 then !noV o || !decide (o.Target = 0)
 else if o.Kind = 3 then !noT o || (!noV o || (!noB o || !decide (o.Target = 0)))
 else !noT o || (!noV o || !noB o)
theorem z5t {k : Int} (h : inB k 0 5 = true) : k = 0 ∨ k = 1 ∨ k = 2 ∨ k = 3 ∨ k = 4 ∨ k = 5 := by
 have := zbf.1 h
 omega
theorem zdec (a : Int) : decide (0 = a) = decide (a = 0) := by
 by_cases h : a = 0
 · rw [dct h, dct h.symm]
 · rw [dcf h, dcf fun e => h e.symm]
theorem sdec (a : ByteArray) : decide ((⟨#[]⟩ : ByteArray) = a) = decide (a = e0) := by
 by_cases h : a = e0
 · rw [dct h, dct (show (⟨#[]⟩ : ByteArray) = a from h.symm)]
 · rw [dcf h, dcf fun e => h e.symm]
theorem zafh {o : zF} (h : inB o.Kind 0 5 = true) : ∃ k, zln o = some k ∧ (!(zfd [(k.Name == o.Name), (k.Kind == o.Kind), (k.zJ.Kind == o.zJ.Kind), (k.zJ.Length == o.zJ.Length), (k.zJ.Scale == o.zJ.Scale), (k.Value.N == o.Value.N), (k.Value.S == o.Value.S), (k.Base == o.Base), (k.Offset == o.Offset), (k.Target == o.Target)])) = zws o := by
 obtain ⟨nm, kd, ty, v, bs, off, tg⟩ := o
 have hk := z5t h
 simp only at hk
 rcases hk with rfl | rfl | rfl | rfl | rfl | rfl
 all_goals
  refine ⟨_, rfl, ?_⟩; simp only [zfd, zws, noV, noB, noT, zcn, bbeq, zdec, sdec]; simp [Bool.and_assoc, Bool.or_assoc]
  try congr
theorem zacf {o : zF} (h : inB o.Kind 0 5 = true) : zkx o = some (zws o) := by
 obtain ⟨nm, kd, ty, v, bs, off, tg⟩ := o
 have hk := z5t h
 simp only at hk
 unfold zkx
 simp only [tbeq]
 rcases hk with rfl | rfl | rfl | rfl | rfl | rfl
 all_goals
  simp only [zfd, zws, noV, noB, noT, zcn, zd1, bbeq, tbeq, orB, zxw, obs]; simp [e0, Bool.and_assoc, Bool.or_assoc]
  try congr
def zqn (t : DataType) : Int := ((10 ^ t.Length.toNat : Nat) : Int) - 1
def zhx (t : DataType) (v : Value) : Int :=
 if t.Kind = 0 then (if v.N ≠ 0 then 5 else if (v.S.size : Int) ≠ t.Length then 18 else 0)
 else (if v.S ≠ e0 then 5 else if inB v.N (-zqn t) (zqn t) = true then 0 else 19)
theorem z5g {t : DataType} (h : zfp t = 0) (h0 : t.Kind ≠ 0) (h4 : t.Kind ≠ 4) : zkh t := by
 rcases zpr h with ⟨k, _⟩ | ⟨k | k, _⟩ | ⟨k, _⟩ | ⟨k, _⟩
 · exact absurd k h0
 · exact ⟨h, by omega, by omega⟩
 · exact ⟨h, by omega, by omega⟩
 · exact ⟨h, by omega, by omega⟩
 · exact absurd k h4
theorem z7l {t : DataType} (h : zkh t) : w6 (((10 ^ t.Length.toNat : Nat) : Int) - 1) = zqn t ∧ w6 (0 - zqn t) = -zqn t ∧ 0 ≤ zqn t := by
 obtain ⟨⟨l1, l2⟩, _⟩ := zgc h
 have hp : 10 ^ t.Length.toNat ≤ 10 ^ 15 := zcs (by omega)
 have hp2 := zcx t.Length.toNat
 unfold zqn
 exact ⟨w6e, by rw [w6e]; omega, by omega⟩
theorem z9a (N : Nat) (hN : 100 < N) {t : DataType} (ht : zfp t = 0) (h4 : t.Kind ≠ 4) (v : Value) : zb3 N t v = some (zhx t v) := by
 have f2 : ∀ a b : Int, zq N [a, b] = some (zhe [a, b]) := fun a b => zq3 N _ (by simp; omega) (by simp)
 unfold zb3 zhx
 rw [zrg N (by omega), ht]
 simp only [obs, zrk, f2, zcn, dcf h4, cfa]
 rw [show zhe [0, 0] = 0 from rfl]
 simp only [bsf, cfa]
 by_cases h0 : t.Kind = 0
 · rw [ifp h0, dct h0]; simp only [ctr, zd1]; rw [z2n _ _ _ _ (by decide) (by decide)]
   by_cases h1 : v.N ≠ 0
   · rw [ifp h1, dct h1]; rfl
   · rw [ifn h1, dcf h1]
     by_cases h2 : (v.S.size : Int) ≠ t.Length
     · rw [ifp h2, dct h2]; rfl
     · rw [ifn h2, dcf h2]; rfl
 · have hn := z5g ht h0 h4; obtain ⟨⟨l1, l2⟩, _⟩ := zgc hn; obtain ⟨m1, m2, m3⟩ := z7l hn; rw [ifn h0, dcf h0]; simp only [cfa]; have := z9c N (by omega) t.Length.toNat (by omega); rw [show ((t.Length.toNat : Nat) : Int) = t.Length by omega] at this; rw [this]; simp only [obs, z5i, m1, m2, tbeq]; rw [z2n _ _ _ _ (by decide) (by decide)]
   by_cases h1 : v.S = e0
   · rw [ifn (fun h => h h1), dct (show v.S = (⟨#[]⟩ : ByteArray) from h1)]; cases hb : inB v.N (-zqn t) (zqn t) <;> rfl
   · rw [ifp h1, dcf (show ¬ v.S = (⟨#[]⟩ : ByteArray) from h1)]; rfl
theorem zadq (N : Nat) (hN : 100 < N) {t : DataType} (ht : zfp t = 0) (h4 : t.Kind ≠ 4) (v : Value) : zjs N t v = some (zhx t v) := by
 unfold zjs zhx
 rw [z2v, ht]
 simp only [obs, zcn, zd1, dcf h4, cfa, bsf, tbeq]
 by_cases h0 : t.Kind = 0
 · rw [ifp h0, dct h0]; simp only [ctr, obs, dcf (show ¬ t.Kind ≠ 0 from fun h => h h0), cfa]
   by_cases h1 : v.N ≠ 0
   · rw [ifp h1, dct h1]; rfl
   · rw [ifn h1, dcf h1]; simp only [cfa, obs, ziu]
     by_cases h2 : (v.S.size : Int) ≠ t.Length
     · rw [ifp h2, dct h2]; rfl
     · rw [ifn h2, dcf h2]; rfl
 · have hn := z5g ht h0 h4; obtain ⟨⟨l1, l2⟩, _⟩ := zgc hn; obtain ⟨m1, m2, m3⟩ := z7l hn; rw [ifn h0, dcf h0]; simp only [ctr, cfa, obs, dct (show t.Kind ≠ 0 from h0)]; have := z4a N (by omega) t.Length.toNat (by omega); rw [show ((t.Length.toNat : Nat) : Int) = t.Length by omega] at this; unfold ziw; rw [this]; simp only [obs, zjg, ziu, m1, m2]
   by_cases h1 : v.S = e0
   · rw [ifn (fun h => h h1), dct (show v.S = (⟨#[]⟩ : ByteArray) from h1)]; cases hb : inB v.N (-zqn t) (zqn t) <;> rfl
   · rw [ifp h1, dcf (show ¬ v.S = (⟨#[]⟩ : ByteArray) from h1)]; rfl
def zxg (ops : List zF) (i : Int) (o : zF) : Int :=
 if nmI ops o.Base < 0 ∨ i ≤ nmI ops o.Base then 11
 else match ops[(nmI ops o.Base).toNat]? with
  | none => 0
  | some b => if o.Kind = 2 then (if b.Kind ≠ 3 then 17 else if inB o.Offset 0 256 = true then 0 else 3)
   else if b.Kind ≠ 0 then 17 else if inB o.Offset 0 (szE b.zJ - szE o.zJ) = true then 0 else 3
def zw3 (p : zB) (i : Int) (o : zF) : Int :=
 if o.Kind = 0 ∨ o.Kind = 4 then zhx o.zJ o.Value
 else if o.Kind = 1 ∨ o.Kind = 2 then zxg p.zA i o
 else if o.Kind = 5 then (if inB o.Target 0 ((p.zG.length : Int) - 1) = true then 0 else 3)
 else 0
def opE (p : zB) (i : Nat) : Int :=
 match p.zA[i]? with
 | none => 0
 | some o => if zzu o.Name = false then 7 else if nmI p.zA o.Name < (i : Int) then 13 else if inB o.Kind 0 5 = false then 4 else if zws o = true then 5
  else if isD o.Kind = true ∧ zfp o.zJ ≠ 0 then zfp o.zJ else if isD o.Kind = true ∧ o.zJ.Kind = 4 then 17 else zw3 p i o
structure OpV (p : zB) (i : Nat) (o : zF) : Prop where
 kind : 0 ≤ o.Kind ∧ o.Kind ≤ 5
 own : nmI p.zA o.Name = (i : Int)
 ty : isD o.Kind = true → zfp o.zJ = 0 ∧ o.zJ.Kind ≠ 4
 val : o.Kind = 0 ∨ o.Kind = 4 → zhx o.zJ o.Value = 0
 base : o.Kind = 1 ∨ o.Kind = 2 → zxg p.zA i o = 0
 tg : o.Kind = 5 → 0 ≤ o.Target ∧ o.Target < (p.zG.length : Int)
theorem op_v {p : zB} {i : Nat} {o : zF} (ho : p.zA[i]? = some o) (h : opE p i = 0) : OpV p i o := by
 unfold opE at h
 rw [ho] at h
 simp only at h
 obtain ⟨n1, n2⟩ := z9d ho
 split at h
 · cases h
 split at h
 · cases h
 split at h
 · cases h
 split at h
 · cases h
 rename_i h1 h2 h3 h4
 have hk := z5t (show inB o.Kind 0 5 = true by simpa using h3)
 split at h
 · rename_i h5; exact absurd h h5.2
 split at h
 · cases h
 rename_i h5 h6
 refine { kind := by omega, own := by omega, ty := fun hd => ⟨cbc fun hh => h5 ⟨hd, hh⟩, fun hh => h6 ⟨hd, hh⟩⟩, val := fun hv => ?_, base := fun hv => ?_, tg := fun hv => ?_ }
 · unfold zw3 at h; rw [ifp hv] at h; exact h
 · unfold zw3 at h; rw [ifn, ifp hv] at h; exact h
 · unfold zw3 at h; rw [ifn, ifn, ifp hv] at h; split at h
   · rename_i hh; have := zbf.1 hh; omega
   · cases h
theorem z6m (N : Nat) (hN : 10 < N) {o : zF} (h : zfp o.zJ = 0) : zix N o = some (szE o.zJ) := by
 unfold zix zik
 rw [zrg N hN, h]
 simp [z26 h]
theorem zag4 (a : Int) (b : Bool) : zhe [a, cond b 17 0] = if a = 0 then cond b 17 0 else a := by
 show (if a = 0 then zhe [cond b 17 0] else a) = _
 cases b <;> rfl
theorem zad6 (o : zF) : ∃ k, zln o = some k := by
 unfold zln
 rw [z19]
 simp only [obs]
 cases isD o.Kind <;> cases (o.Kind == 0) <;> cases (o.Kind == 4) <;> cases (o.Kind == 1) <;> cases (o.Kind == 2) <;> cases (o.Kind == 5) <;> exact ⟨_, rfl⟩
structure Upto (p : zB) (i : Nat) : Prop where
 ops : p.zA.length ≤ 1000
 ins : p.zG.length ≤ 1000000
 ok : ∀ j, j < i → opE p j = 0
theorem z9e (l : List zF) (s : ByteArray) : nmI l s = -1 ∨ (0 ≤ nmI l s ∧ nmI l s < (l.length : Int) ∧ ∃ o, l[(nmI l s).toNat]? = some o) := by
 rcases zwa l s with ⟨h, _⟩ | ⟨k, h1, h2, _⟩
 · exact .inl h
 · rw [h1]; exact .inr ⟨by omega, by omega, _, lge h2⟩
theorem zaa6 {p : zB} {i : Nat} (hu : Upto p i) {n : Int} (h0 : 0 ≤ n) (h1 : n < (i : Int)) {b : zF} (hb : p.zA[n.toNat]? = some b) (hk : b.Kind = 0) : zfp b.zJ = 0 := by
 have := op_v hb (hu.ok n.toNat (by omega))
 exact (this.ty (by rw [hk]; rfl)).1
theorem z8m {a b : DataType} (ha : zfp a = 0) (hb : zfp b = 0) : w6 (szE a - szE b) = szE a - szE b := by
 have h1 := zeu ha
 have h2 := zeu hb
 exact w6e
theorem zahk (l : List zF) (i : Nat) : (l.take ((i : Int)).toNat).drop (0 : Int).toNat = l.take i := rfl
theorem zaap (N : Nat) (hN : 1100 < N) {p : zB} {i : Nat} (hu : Upto p i) {o : zF} (ht : zfp o.zJ = 0) (hk : o.Kind = 1 ∨ o.Kind = 2) : ziz N o (p.zA.take i) = some (zxg p.zA i o) := by
 have hl := hu.ops
 unfold ziz zxg
 rw [z4j N _ (by rw [lnt]; omega) (by rw [lnt]; omega), zaat]
 simp only [obs]
 by_cases hc : nmI p.zA o.Base < 0 ∨ (i : Int) ≤ nmI p.zA o.Base
 · rw [ifp hc]; rw [dct (by split <;> omega)]; rfl
 · rw [ifn hc, ifp, dcf (by omega)]; obtain ⟨b, hb⟩ : ∃ b, p.zA[(nmI p.zA o.Base).toNat]? = some b := by
    rcases z9e p.zA o.Base with h | ⟨_, _, h⟩
    · omega
    · exact h
   have hx : idx (p.zA.take i) (nmI p.zA o.Base) = some b := by
    unfold idx; rw [ifp, List.getElem?_take, ifp, hb]
   rw [hx, hb]; simp only [cfa, obs, z2y, z2x, zcn, zd1]
   by_cases h2 : o.Kind = 2
   · rw [ifp h2, dct h2]; simp only [ctr]; rw [zzn N _ (by simp; omega) (by simp), z2n _ _ _ _ (by decide) (by decide)]
     by_cases h3 : b.Kind ≠ 3
     · rw [ifp h3, dct h3]; rfl
     · rw [ifn h3, dcf h3]; cases inB o.Offset 0 256 <;> rfl
   · rw [ifn h2, dcf h2]; simp only [cfa]
     by_cases h3 : b.Kind ≠ 0
     · rw [ifp h3, dct h3]; rfl
     · rw [ifn h3, dcf h3]; have hbt := zaa6 hu (by omega) (by omega) hb (by omega); simp only [cfa]; rw [z6m N (by omega) hbt, z6m N (by omega) ht]; simp only [obs]; rw [z8m hbt ht]; cases inB o.Offset 0 (szE b.zJ - szE o.zJ) <;> rfl
theorem zaam (N : Nat) (hN : 1100 < N) {p : zB} {i : Nat} (hu : Upto p i) {o : zF} (ht : zfp o.zJ = 0) (hk : o.Kind = 1 ∨ o.Kind = 2) :
 ((cond (nmI p.zA o.Base == (-1)) (some true) (some (decide (nmI p.zA o.Base ≥ (i : Int))))).bind fun g12 => cond g12 (some (11 : Int)) ((idx p.zA (nmI p.zA o.Base)).bind fun x13 =>
 (cond (o.Kind == 1) (some (x13.Kind != 0)) (some false)).bind fun g14 => (cond g14 (some true) ((cond (o.Kind == 2) (some (x13.Kind != 3)) (some false)).bind fun g15 =>
 some g15)).bind fun g16 => cond g16 (some 17) (cond (o.Kind == 1) ((zec x13.zJ).bind fun r17 => (zec o.zJ).bind fun r18 =>
 (zi o.Offset 0 (w6 (r17 - r18))).bind fun r19 => cond (!r19) (some 3) (some 0)) ((zi o.Offset 0 256).bind fun r20 => cond (!r20) (some 3)
 (some 0))))) = some (zxg p.zA i o) := by
 have hl := hu.ops
 unfold zxg
 rcases z9e p.zA o.Base with h | ⟨n0, n1, b, hb⟩
 · rw [h, ifp]; rfl
 · rw [zcn, dcf (by omega)]; simp only [cfa, obs]
   by_cases hc : (i : Int) ≤ nmI p.zA o.Base
   · rw [ifp (.inr hc), dct (show nmI p.zA o.Base ≥ (i : Int) from hc)]; rfl
   · rw [ifn, dcf (show ¬ nmI p.zA o.Base ≥ (i : Int) from hc)]; have hx : idx p.zA (nmI p.zA o.Base) = some b := by
      unfold idx; rw [ifp n0, hb]
     rw [hx, hb]; simp only [cfa, obs, zjg, zcn, zd1, orB, zxw]
     by_cases h2 : o.Kind = 2
     · rw [ifp h2, dct h2, dcf (show ¬ o.Kind = 1 by omega)]; simp only [Bool.false_and, Bool.false_or, Bool.true_and, cfa]
       by_cases h3 : b.Kind ≠ 3
       · rw [ifp h3, dct h3]; rfl
       · rw [ifn h3, dcf h3]; cases inB o.Offset 0 256 <;> rfl
     · rw [ifn h2, dcf h2, dct (show o.Kind = 1 by omega)]; simp only [Bool.false_and, Bool.or_false, Bool.true_and, ctr]
       by_cases h3 : b.Kind ≠ 0
       · rw [ifp h3, dct h3]; rfl
       · rw [ifn h3, dcf h3]; have hbt := zaa6 hu n0 (by omega) hb (by omega); simp only [cfa]; rw [zs5 hbt, zs5 ht]; simp only [obs, zjg]; rw [z8m hbt ht]; cases inB o.Offset 0 (szE b.zJ - szE o.zJ) <;> rfl
theorem insL {p : zB} {i : Nat} (hu : Upto p i) : w6 ((p.zG.length : Int) - 1) = (p.zG.length : Int) - 1 := by
 have := hu.ins
 exact w6e
theorem zah1 (N : Nat) (hN : 1100 < N) {p : zB} {i : Nat} (hu : Upto p i) (hi : i < p.zA.length) : zie N p (i : Int) = some (opE p i) := by
 have hl := hu.ops
 have hx := lge hi
 unfold zie opE
 rw [zai, hx]
 generalize p.zA[i] = o at hx ⊢
 obtain ⟨n0, n1⟩ := z9d hx
 simp only [obs]
 rw [ifp, ifp]
 simp only [zahk]
 rw [zafg N (by omega), z4j N _ (by rw [lnt]; omega) (by rw [lnt]; omega), zaat]
 simp only [obs, z2y, z2x]
 obtain ⟨k, hk⟩ := zad6 o
 rw [hk]
 simp only [obs]
 rw [zzn N _ (by simp; omega) (by simp)]
 simp only [obs]
 cases hnm : zzu o.Name with
 | false => rfl
 | true =>
  by_cases hd : nmI p.zA o.Name < (i : Int)
  · rw [ifp hd, dct (show nmI p.zA o.Name ≥ 0 from n0)]; simp only [Bool.true_eq_false, if_false, ifp hd]; rfl
  · rw [ifn hd, dcf (show ¬ (-1 : Int) ≥ 0 by decide)]; simp only [Bool.true_eq_false, if_false, ifn hd]; cases hkd : inB o.Kind 0 5 with
    | false => rfl
    | true =>
     obtain ⟨k', hk1, hk2⟩ := zafh hkd; rw [hk] at hk1; cases hk1; rw [hk2]; cases hex : zws o with
     | true => rfl
     | false =>
      rw [show zhe [cond (!true) 7 0, cond false 13 0, cond (!true) 4 0, cond false 5 0] = 0 from rfl]; simp only [bsf, cfa, Bool.true_eq_false, Bool.false_eq_true, if_false, z19, obs]; have hks := z5t hkd; cases hdt : isD o.Kind with
      | true =>
       simp only [ctr]; rw [zrg N (by omega)]; simp only [obs, true_and]; rw [zzn N _ (by simp; omega) (by simp)]; simp only [obs, zag4]
       by_cases ht : zfp o.zJ = 0
       · rw [ifp ht, ifn (fun h => h ht)]
         by_cases h4 : o.zJ.Kind = 4
         · rw [ifp h4, zcn, dct h4]; rfl
         · rw [ifn h4, zcn, dcf h4]; simp only [cfa, bsf]; rw [z9a N (by omega) ht h4]; unfold zw3; rcases hks with h | h | h | h | h | h
           · rw [h]; rfl
           · rw [zaap N hN hu ht (.inl h), ifn, ifp (.inl h), h]; rfl
           · rw [zaap N hN hu ht (.inr h), ifn, ifp (.inr h), h]; rfl
           · rw [h] at hdt; cases hdt
           · rw [h]; rfl
           · rw [h] at hdt; cases hdt
       · rw [ifn ht, ifp ht, zd1, dct ht]; rfl
      | false =>
       simp only [cfa, Bool.false_eq_true, false_and, if_false]; unfold zw3; rcases hks with h | h | h | h | h | h
       · rw [h] at hdt; cases hdt
       · rw [h] at hdt; cases hdt
       · rw [h] at hdt; cases hdt
       · rw [h]; rfl
       · rw [h] at hdt; cases hdt
       · rw [h, insL hu]; cases inB o.Target 0 ((p.zG.length : Int) - 1) <;> rfl
theorem zahl (N : Nat) (hN : 1100 < N) {p : zB} {i : Nat} (hu : Upto p i) (hi : i < p.zA.length) : zjr N p (i : Int) = some (opE p i) := by
 have hl := hu.ops
 have hx := lge hi
 unfold zjr opE
 rw [zai, hx]
 generalize p.zA[i] = o at hx ⊢
 obtain ⟨n0, n1⟩ := z9d hx
 simp only [obs]
 rw [zafc N (by omega)]
 simp only [obs]
 cases hnm : zzu o.Name with
 | false => rfl
 | true =>
  simp only [bnt, cfa, Bool.true_eq_false, if_false]; rw [z8e N p (by omega) (by omega)]; simp only [obs]
  by_cases hd : nmI p.zA o.Name < (i : Int)
  · rw [dct hd, ifp hd]; rfl
  · rw [dcf hd, ifn hd]; simp only [cfa, zjg, obs]; cases hkd : inB o.Kind 0 5 with
    | false => rfl
    | true =>
     rw [zacf hkd]; simp only [bnt, cfa, obs, Bool.true_eq_false, if_false]; cases hex : zws o with
     | true => rfl
     | false =>
      simp only [cfa, Bool.false_eq_true, if_false, z7c, obs]; have hks := z5t hkd; rw [z8e N p (by omega) (by omega)]; cases hdt : isD o.Kind with
      | true =>
       simp only [ctr, true_and, z2v, obs]
       by_cases ht : zfp o.zJ = 0
       · rw [ifn (fun h => h ht), zd1, dcf (fun h => h ht)]; simp only [cfa]
         by_cases h4 : o.zJ.Kind = 4
         · rw [ifp h4, zcn, dct h4]; rfl
         · rw [ifn h4, zcn, dcf h4]; simp only [cfa]; rw [zadq N (by omega) ht h4]; unfold zw3; rcases hks with h | h | h | h | h | h
           · rw [h]; rfl
           · have hb := zaam N hN hu ht (.inl h); simp only [zjg, obs] at hb; rw [ifn, ifp (.inl h), ← hb, h]; rfl
           · have hb := zaam N hN hu ht (.inr h); simp only [zjg, obs] at hb; rw [ifn, ifp (.inr h), ← hb, h]; rfl
           · rw [h] at hdt; cases hdt
           · rw [h]; rfl
           · rw [h] at hdt; cases hdt
       · rw [ifp ht, zd1, dct ht]; rfl
      | false =>
       simp only [cfa, Bool.false_eq_true, false_and, if_false, obs]; unfold zw3; rcases hks with h | h | h | h | h | h
       · rw [h] at hdt; cases hdt
       · rw [h] at hdt; cases hdt
       · rw [h] at hdt; cases hdt
       · rw [h]; rfl
       · rw [h] at hdt; cases hdt
       · rw [h, insL hu]; cases inB o.Target 0 ((p.zG.length : Int) - 1) <;> rfl
def zdd (o : zF) : Bool := decide (o.zJ.Kind ≠ 0)
def ztu (o b : zF) (c : Int) : Bool :=
 if c = 0 then isS o.Kind else if c = 1 then isD o.Kind else if c = 2 then isS o.Kind && zdd o else if c = 3 then isD o.Kind && zdd o
 else if c = 4 then isD o.Kind && (zdd o == zdd b) else if c = 5 then decide (o.Kind = 3) else decide (o.Kind = 5)
theorem zad7 (k : Int) : (isD k && !decide (k = 4)) = isS k := by
 unfold isD
 by_cases h : k = 4
 · subst h; rfl
 · rw [dcf h]; simp
theorem zafi (o b : zF) {c : Int} (hc : 0 ≤ c ∧ c ≤ 6) : zng o b c = some (ztu o b c) := by
 have h : c = 0 ∨ c = 1 ∨ c = 2 ∨ c = 3 ∨ c = 4 ∨ c = 5 ∨ c = 6 := by omega
 unfold zng
 rw [z19]
 simp only [zhf, zcn, zd1, obs]
 have hs := zad7 o.Kind
 unfold ztu zdd
 rcases h with rfl | rfl | rfl | rfl | rfl | rfl | rfl
 · rw [← hs]; simp only [if_true]; cases isD o.Kind <;> cases decide (o.Kind = 4) <;> rfl
 · rw [ifn (by decide), ifp rfl]; cases isD o.Kind <;> rfl
 · rw [← hs, ifn (by decide), ifn (by decide), ifp rfl]; cases isD o.Kind <;> cases decide (o.Kind = 4) <;> cases decide (o.zJ.Kind ≠ 0) <;> rfl
 · rw [ifn (by decide), ifn (by decide), ifn (by decide), ifp rfl]; cases isD o.Kind <;> cases decide (o.zJ.Kind ≠ 0) <;> rfl
 · rw [ifn (by decide), ifn (by decide), ifn (by decide), ifn (by decide), ifp rfl]; cases isD o.Kind <;> cases decide (o.zJ.Kind ≠ 0) <;> cases decide (b.zJ.Kind ≠ 0) <;> rfl
 · rw [ifn (by decide), ifn (by decide), ifn (by decide), ifn (by decide), ifn (by decide), ifp rfl]; rfl
 · rw [ifn (by decide), ifn (by decide), ifn (by decide), ifn (by decide), ifn (by decide), ifn (by decide)]; rfl
def z42 : zF := ⟨⟨#[]⟩, 0, ⟨0, 0, 0⟩, ⟨0, ⟨#[]⟩⟩, ⟨#[]⟩, 0, 0⟩
def zq8 (p : zB) (x : zI) : Nat → zF
 | 0 => z42
 | k + 1 => p.zA.getD ((x.Args.getD k 0).toNat) z42
def zjx (op : Int) : List Int := zw6.getD op.toNat []
def gA (p : zB) (x : zI) (i : Nat) : Option Int :=
 (x.Args[i]?).bind fun a => if inB a 0 ((p.zA.length : Int) - 1) = true then (match p.zA[a.toNat]?, (zjx x.Op)[i]? with | some o, some c => if ztu o (zq8 p x i) c = true then none else some 17 | _, _ => none) else some 3
def zwr (p : zB) (x : zI) : Int :=
 if inB x.Op 0 18 = false then 4 else if (x.Args.length : Int) ≠ ((zjx x.Op).length : Int) then 37
 else match (List.range x.Args.length).findSome? (gA p x) with | some e => e | none => 0
theorem zacn {k : Int} (h : inB k 0 18 = true) : ∃ n : Nat, k = (n : Int) ∧ n < 19 := by
 have := zbf.1 h
 exact ⟨k.toNat, by omega, by omega⟩
theorem zagf : ((List.range 19).all fun n => (match zw6[n]? with | some l => l.all (fun c => decide (0 ≤ c) && decide (c ≤ 6)) && (decide (l.length ≤ 3) && ((List.range l.length).all fun i => !(l.getD i 0 == 4) || (i == 1 && (l.getD 0 9 == 0 || l.getD 0 9 == 1)))) | none => false)) = true := by kernel_rfl
def z6j (c : Int) : Int := if c = 1 then 2 else if c = 2 then 1 else c
theorem zae9 : ((List.range 19).all fun n => match zm2 (n : Int) with | some l => l == (zjx (n : Int)).map z6j | none => false) = true := by kernel_rfl
theorem z79 {k : Int} (h : inB k 0 18 = true) : idx zw6 k = some (zjx k) ∧ (zjx k).length ≤ 3 ∧ (∀ (i : Nat) (c : Int), (zjx k)[i]? = some c → (0 ≤ c ∧ c ≤ 6) ∧ (c = 4 → i = 1 ∧ ∃ d, (zjx k)[0]? = some d ∧ (d = 0 ∨ d = 1))) ∧ zm2 k = some ((zjx k).map z6j) := by
 obtain ⟨n, rfl, hn⟩ := zacn h
 have h1 := List.all_eq_true.1 zagf n (List.mem_range.2 hn)
 have h2 := List.all_eq_true.1 zae9 n (List.mem_range.2 hn)
 have hlt : n < zw6.length := hn
 have hg : zw6[n]? = some (zjx (n : Int)) := by
  unfold zjx; rw [itn, gdd, lge hlt]; rfl
 rw [hg] at h1
 simp only [Bool.and_eq_true, List.all_eq_true, decide_eq_true_eq, List.mem_range, Bool.or_eq_true, Bool.not_eq_true', beq_iff_eq, beq_eq_false_iff_ne] at h1
 obtain ⟨a1, a2, a3⟩ := h1
 refine ⟨by rw [zai, hg], a2, fun i c hc => ⟨a1 c (lmg hc), fun h4 => ?_⟩, ?_⟩
 · have hi := (gei hc).1; have e : (zjx (n : Int)).getD i 0 = c := by rw [gdd, hc]; rfl
   rcases a3 i hi with h | ⟨h5, h6⟩
   · rw [e] at h; exact absurd h4 h
   · refine ⟨h5, ?_⟩; have h0 : 0 < (zjx (n : Int)).length := by omega
     refine ⟨_, lge h0, ?_⟩; rw [gdd, lge h0] at h6; exact h6
 · cases hr : zm2 (n : Int) with
   | none => rw [hr] at h2; cases h2
   | some l =>
    rw [hr] at h2; rw [eq_of_beq h2]
theorem opsL {p : zB} {i : Nat} (hu : Upto p i) : w6 ((p.zA.length : Int) - 1) = (p.zA.length : Int) - 1 := by
 have := hu.ops
 exact w6e
theorem z96 {p : zB} {a : Int} (h : inB a 0 ((p.zA.length : Int) - 1) = true) : ∃ o, p.zA[a.toNat]? = some o ∧ idx p.zA a = some o := by
 have := zbf.1 h
 refine ⟨_, lge (by omega), ?_⟩
 unfold idx
 rw [ifp, lge]
theorem zago (N : Nat) (hN : 1100 < N) {p : zB} {i : Nat} (hu : Upto p i) (x : zI) : zat N p x = some (zwr p x) := by
 unfold zat zwr
 rw [z2x]
 simp only [obs]
 cases hop : inB x.Op 0 18 with
 | false => rfl
 | true =>
  obtain ⟨t1, t2, t3, _⟩ := z79 hop; rw [t1]; simp only [bnt, cfa, obs, zd1, Bool.true_eq_false, if_false]
  by_cases hl : (x.Args.length : Int) ≠ ((zjx x.Op).length : Int)
  · rw [ifp hl, dct hl]; rfl
  · rw [ifn hl, dcf hl]; simp only [cfa]; have l1 := zvr (f := zat.r0 N) (fun i => (x.Args, (x.Args.length : Int), (i : Int), p, x, zq8 p x i)) (gA p x) x.Args.length
     (fun i hi hp => by
      have hx := lge hi; have hi2 : i < (zjx x.Op).length := by omega
      have hc := lge hi2; simp only [zat.r0, zat.b0, zai, hx, obs, dct (show (i : Int) < (x.Args.length : Int) by omega), ctr, opsL hu, z2x, gA, t1, hc]; cases hin : inB x.Args[i] 0 ((p.zA.length : Int) - 1) with
      | false => rfl
      | true =>
       obtain ⟨o, ho, ho2⟩ := z96 hin; simp only [bnt, cfa, ho, ho2, obs, if_true]; rw [zafi _ _ (t3 i _ hc).1]; simp only [obs]; cases ztu o (zq8 p x i) (zjx x.Op)[i] with
       | false => rfl
       | true =>
        simp only [bnt, cfa, if_true]; rw [w6e]; rw [show zq8 p x (i + 1) = o by
         show p.zA.getD ((x.Args.getD i 0).toNat) z42 = o; rw [gdd (l := x.Args), hx, Option.getD_some, gdd, ho]; rfl]
        rfl)
     (fun _ => by simp only [zat.r0, zat.b0, dcf (show ¬ (x.Args.length : Int) < (x.Args.length : Int) by omega), cfa]) (N := N) (by omega)
    simp only [nc0] at l1; rw [show (⟨(⟨#[]⟩ : ByteArray), 0, (⟨0, 0, 0⟩ : DataType), (⟨0, (⟨#[]⟩ : ByteArray)⟩ : Value), (⟨#[]⟩ : ByteArray), 0, 0⟩ : zF) = zq8 p x 0 from rfl, l1]; cases (List.range x.Args.length).findSome? (gA p x) <;> rfl
theorem z89 {p : zB} {j : Nat} {o : zF} (ho : p.zA[j]? = some o) (h : opE p j = 0) (hd : isD o.Kind = true) : inB o.zJ.Kind 1 3 = zdd o := by
 obtain ⟨h1, h2⟩ := (op_v ho h).ty hd
 unfold zdd
 rcases zpr h1 with ⟨k, _⟩ | ⟨k | k, _⟩ | ⟨k, _⟩ | ⟨k, _⟩
 · rw [k]; rfl
 · rw [k]; rfl
 · rw [k]; rfl
 · rw [k]; rfl
 · exact absurd k h2
theorem zadt (N : Nat) (hN : 1100 < N) {p : zB} (hu : Upto p p.zA.length) (x : zI) : za5 N p x = some (zwr p x) := by
 have hol := hu.ops
 unfold za5 zwr
 rw [zjg]
 simp only [obs]
 cases hop : inB x.Op 0 18 with
 | false => rfl
 | true =>
  obtain ⟨t1, t2, t3, t4⟩ := z79 hop; rw [t4]; simp only [bnt, cfa, obs, zd1, Bool.true_eq_false, if_false, lnm]
  by_cases hl : (x.Args.length : Int) ≠ ((zjx x.Op).length : Int)
  · rw [ifp hl, dct hl]; rfl
  · rw [ifn hl, dcf hl]; simp only [cfa]; have l1 := zvr (f := za5.r0 N) (fun i => ((zjx x.Op).map z6j, (i : Int), p, x)) (gA p x) x.Args.length
     (fun i hi hp => by
      have hx := lge hi; have hi2 : i < (zjx x.Op).length := by omega
      have hc := lge hi2; simp only [za5.r0, za5.b0, zai, hx, obs, lnm, dct (show (i : Int) < ((zjx x.Op).length : Int) by omega), ctr, opsL hu, zjg, gA, List.getElem?_map, hc, Option.map_some]; cases hin : inB x.Args[i] 0 ((p.zA.length : Int) - 1) with
      | false => rfl
      | true =>
       obtain ⟨o, ho, ho2⟩ := z96 hin; have hlt := (gei ho).1; obtain ⟨c1, c2⟩ := t3 i _ hc; have hbf : (zjx x.Op)[i] = 4 → ∃ a b, i = 1 ∧ x.Args[0]? = some a ∧ idx p.zA a = some b ∧ zq8 p x i = b ∧ inB b.zJ.Kind 1 3 = zdd b := fun h4 => by
        obtain ⟨rfl, d, hd, hd2⟩ := c2 h4; have h0 := hp 0 (by omega); have hx0 := lge (show 0 < x.Args.length by omega); unfold gA at h0; rw [hx0, obs] at h0; split at h0
        · rename_i hin0; obtain ⟨b, hb, hb2⟩ := z96 hin0; rw [hb, hd] at h0; simp only at h0; split at h0
          · rename_i hcl; have hlt0 := (gei hb).1; refine ⟨_, b, rfl, hx0, hb2, ?_, z89 hb (hu.ok _ hlt0) ?_⟩
            · show p.zA.getD ((x.Args.getD 0 0).toNat) z42 = b; rw [gdd (l := x.Args), hx0, Option.getD_some, gdd, hb]; rfl
            · unfold ztu at hcl; rcases hd2 with rfl | rfl
              · rw [ifp rfl] at hcl; unfold isD; rw [hcl]; rfl
              · rw [ifn (by decide), ifp rfl] at hcl; exact hcl
          · cases h0
        · cases h0
       have hnum : isD o.Kind = true → inB o.zJ.Kind 1 3 = zdd o := z89 ho (hu.ok _ hlt); have hSD : isS o.Kind = true → isD o.Kind = true := fun h => by unfold isD; rw [h]; rfl
       simp only [bnt, cfa, ho, ho2, obs, if_true, z3w, z7c, zhk, zvk, zcn]; generalize (zjx x.Op)[i] = c at c1 hbf ⊢; have fin : ∀ b : Bool, (cond (!b) (some (Round.result (17 : Int))) (some (Round.again ((zjx x.Op).map z6j, w6 ((i : Int) + 1), p, x)))) = some (cond b (Round.again ((zjx x.Op).map z6j, ((i + 1 : Nat) : Int), p, x)) (.result 17)) := fun b => by
        rw [w6e]; cases b <;> rfl
       have hcs : c = 0 ∨ c = 1 ∨ c = 2 ∨ c = 3 ∨ c = 4 ∨ c = 5 ∨ c = 6 := by omega
       rcases hcs with rfl | rfl | rfl | rfl | rfl | rfl | rfl <;> simp only [z6j, Int.reduceEq, reduceIte, decide_true, decide_false, ctr, cfa]
       · rw [show ztu o (zq8 p x i) 0 = isS o.Kind from rfl]; rw [fin]; cases (isS o.Kind) <;> rfl
       · rw [show ztu o (zq8 p x i) 1 = isD o.Kind from rfl]; rw [fin]; cases (isD o.Kind) <;> rfl
       · rw [show ztu o (zq8 p x i) 2 = (isS o.Kind && inB o.zJ.Kind 1 3) by
          show (isS o.Kind && zdd o) = _; cases hs : isS o.Kind with
          | false => rfl
          | true => rw [hnum (hSD hs)]]
         cases isS o.Kind
         · simp only [ctr, cfa, obs, Bool.true_and, Bool.false_and]; rfl
         · simp only [ctr, cfa, obs, Bool.true_and, Bool.false_and]; rw [fin]; cases (inB o.zJ.Kind 1 3) <;> rfl
       · rw [show ztu o (zq8 p x i) 3 = (isD o.Kind && inB o.zJ.Kind 1 3) by
          show (isD o.Kind && zdd o) = _; cases hs : isD o.Kind with
          | false => rfl
          | true => rw [hnum hs]]
         cases isD o.Kind
         · simp only [ctr, cfa, obs, Bool.true_and, Bool.false_and]; rfl
         · simp only [ctr, cfa, obs, Bool.true_and, Bool.false_and]; rw [fin]; cases (inB o.zJ.Kind 1 3) <;> rfl
       · obtain ⟨a, b, rfl, ha, hb, hbb, hbn⟩ := hbf rfl; rw [show ztu o (zq8 p x 1) 4 = (isD o.Kind && (inB o.zJ.Kind 1 3 == inB b.zJ.Kind 1 3)) by
          show (isD o.Kind && (zdd o == zdd (zq8 p x 1))) = _; rw [hbb, hbn]; cases hs : isD o.Kind with
          | false => rfl
          | true => rw [hnum hs]]
         rw [show w6 (((1 : Nat) : Int) - 1) = ((0 : Nat) : Int) from rfl, zai, ha]; simp only [obs]; rw [hb]; cases isD o.Kind
         · simp only [ctr, cfa, obs, Bool.true_and, Bool.false_and]; rfl
         · simp only [ctr, cfa, obs, Bool.true_and, Bool.false_and]; rw [fin]; cases (inB o.zJ.Kind 1 3 == inB b.zJ.Kind 1 3) <;> rfl
       · rw [show ztu o (zq8 p x i) 5 = decide (o.Kind = 3) from rfl]; rw [fin]; cases (decide (o.Kind = 3)) <;> rfl
       · rw [show ztu o (zq8 p x i) 6 = decide (o.Kind = 5) from rfl]; rw [fin]; cases (decide (o.Kind = 5)) <;> rfl)
     (fun _ => by simp only [za5.r0, za5.b0, lnm, dcf (show ¬ (x.Args.length : Int) < ((zjx x.Op).length : Int) by omega), cfa]) (N := N) (by omega)
    simp only [nc0] at l1; rw [l1]; cases (List.range x.Args.length).findSome? (gA p x) <;> rfl
def zzv (p : zB) (m : zN) : Bool := decide (0 ≤ m.From) && (decide (m.From < m.To) && (decide (m.To ≤ (p.zG.length : Int)) && (inB m.Exception 0 999 && inB m.Handler 0 ((p.zG.length : Int) - 1))))
theorem zagn {p : zB} {i : Nat} (hu : Upto p i) (m : zN) : zif p m = some (cond (zzv p m) 0 3) := by
 unfold zif zzv
 rw [insL hu, z2x, z2x]
 simp only [obs, zxw, z2y, ge_iff_le]
 cases decide (0 ≤ m.From) <;> cases decide (m.From < m.To) <;> cases decide (m.To ≤ (p.zG.length : Int)) <;> cases inB m.Exception 0 999 <;> cases inB m.Handler 0 ((p.zG.length : Int) - 1) <;> rfl
theorem zagt (p : zB) (m : zN) : ((((decide (m.From < 0) || decide (m.From ≥ m.To)) || decide (m.To > (p.zG.length : Int))) || !inB m.Exception 0 999) || !inB m.Handler 0 ((p.zG.length : Int) - 1)) = !zzv p m := by
 unfold zzv
 rw [show decide (m.From < 0) = !decide (0 ≤ m.From) by rw [← decide_not]; congr 1; simp, show decide (m.From ≥ m.To) = !decide (m.From < m.To) by rw [← decide_not]; congr 1; simp, show decide (m.To > (p.zG.length : Int)) = !decide (m.To ≤ (p.zG.length : Int)) by rw [← decide_not]; congr 1; simp]
 simp only [Bool.not_and, Bool.or_assoc]
theorem z8v (N0 : Nat) (n : Nat) (hn : n ≤ 1000000) (v : Int) : ∀ (N k : Nat), 1 ≤ k → k ≤ n → n - k < N → zl (zb8.r0 N0) N (List.replicate k v ++ List.replicate (n - k) 0, (k : Int)) = some (List.replicate n v, (n : Int))
 | 0, k, _, _, h => by omega
 | N + 1, k, h1, h2, h3 => by
  have hlen : (List.replicate k v ++ List.replicate (n - k) (0 : Int)).length = n := by rw [lna, lnr, lnr]; omega
  simp only [zl, zb8.r0, zb8.b0, hlen]
  by_cases hk : k < n
  · rw [dct (by omega), ctr, ifp, ifp, ifp]; simp only [obs]; have t1 : (List.replicate k v ++ List.replicate (n - k) (0 : Int)).take ((k : Int)).toNat = List.replicate k v := by
     rw [itn, List.take_append_of_le_length (by rw [lnr]; omega), List.take_replicate, Nat.min_self]
    have t2 : (((List.replicate k v ++ List.replicate (n - k) (0 : Int)).drop (0 : Int).toNat).take (((k : Int)).toNat - (0 : Int).toNat)) = List.replicate k v := t1; rw [t1, t2, lnr]; have e : ((k : Int)).toNat = k := itn k; rw [e, List.take_replicate, show min (min k (n - k)) k = min k (n - k) by omega, List.drop_append, List.drop_eq_nil_of_le (by rw [lnr]; omega), lnr, List.drop_replicate, List.nil_append]; rw [w6e]; have := z8v N0 n hn v N (k + min k (n - k)) (by omega) (by omega) (by omega); rw [← this, List.replicate_append_replicate, show n - k - (k + min k (n - k) - k) = n - (k + min k (n - k)) by omega]; rfl
  · obtain rfl : k = n := by omega
    rw [dcf (by omega), cfa, Nat.sub_self]; simp
theorem zab9 (N : Nat) (n : Nat) (hn : n ≤ 100000) (hN : n < N) (v : Int) : zb8 N [v] (n : Int) = some (List.replicate n v) := by
 have wu : ∀ m : Nat, m ≤ 1000000 → IntKind.wrap .u64 (m : Int) = (m : Int) := fun m hm => by
  unfold IntKind.wrap; rw [show (2 : Int) ^ IntKind.u64.bits = 18446744073709551616 from rfl, show IntKind.u64.signed = false from rfl]; simp only [Bool.false_and, Bool.false_eq_true, if_false]; omega
 unfold zb8 zov
 rw [show (([v] : List Int).length : Int) = ((1 : Nat) : Int) from rfl, wu 1 (by decide), wu n (by omega), z5l 1 n (by decide) (by omega)]
 rw [show (1 * n) / 18446744073709551616 = 0 by omega, show (1 * n) % 18446744073709551616 = n by omega]
 simp only [obs]
 rw [dcf (by omega), dcf (by omega), dcf (by omega), w6e, ifp, ifp, itn, zao (by omega)]
 simp only [cfa, ctr, obs, lnr]
 by_cases h0 : n = 0
 · subst h0; obtain ⟨M, rfl⟩ : ∃ M, N = M + 1 := ⟨N - 1, by omega⟩; rfl
 · have := z8v N n (by omega) v N 1 (by omega) (by omega) (by omega); rw [show min ([v] : List Int).length n = 1 by simp; omega]; rw [show ([v] : List Int).take 1 ++ (List.replicate n (0 : Int)).drop 1 = List.replicate 1 v ++ List.replicate (n - 1) 0 by rw [List.drop_replicate]; rfl, this]; rfl
def og (ops : List zF) (k : Nat) : zF := ops.getD k z42
def pAt (ops : List zF) : Nat → Int
 | 0 => 0
 | k + 1 => pAt ops k + (if (og ops k).Kind = 3 then 16 else 0)
def zlw (ops : List zF) : Nat → Int
 | 0 => 0
 | k + 1 => zlw ops k + (if (og ops k).Kind = 0 then szE (og ops k).zJ else 0)
def sAt (ops : List zF) (k : Nat) : Int := pAt ops ops.length + zlw ops k
def zdh (ops : List zF) (i : Nat) : Int :=
 if (og ops i).Kind = 3 then pAt ops i else if (og ops i).Kind = 0 then sAt ops i else if (og ops i).Kind = 1 then sAt ops (nmI ops (og ops i).Base).toNat + (og ops i).Offset else -1
def znv (ops : List zF) : List Int := (List.range ops.length).map (zdh ops)
def zkm (ops : List zF) : Int := (sAt ops ops.length + 15) / 16
theorem zqm {ops : List zF} {k : Nat} (h : k < ops.length) : ops[k]? = some (og ops k) := by
 unfold og
 rw [gdd, lge h]
 rfl
theorem zrf (ops : List zF) : ∀ k, 0 ≤ pAt ops k ∧ pAt ops k ≤ 16 * (k : Int) ∧ pAt ops k % 16 = 0
 | 0 => ⟨Int.le_refl _, by show (0 : Int) ≤ 16 * ((0 : Nat) : Int); omega, rfl⟩
 | k + 1 => by
  obtain ⟨h1, h2, h3⟩ := zrf ops k; unfold pAt; split <;> omega
theorem z83 (ops : List zF) {j : Nat} : ∀ {k : Nat}, j ≤ k → pAt ops j ≤ pAt ops k
 | 0, h => by
  obtain rfl : j = 0 := by omega
  exact Int.le_refl _
 | k + 1, h => by
  by_cases e : j = k + 1
  · subst e; exact Int.le_refl _
  · have := z83 ops (show j ≤ k by omega); have e2 : pAt ops (k + 1) = pAt ops k + (if (og ops k).Kind = 3 then 16 else 0) := rfl; rw [e2]; split <;> omega
def zqu (p : zB) : Prop := Upto p p.zA.length
theorem zkf {p : zB} (h : zqu p) {k : Nat} (hk : k < p.zA.length) : OpV p k (og p.zA k) := op_v (zqm hk) (h.ok k hk)
theorem zw5 {p : zB} (h : zqu p) {k : Nat} (hk : k < p.zA.length) (h0 : (og p.zA k).Kind = 0) : zfp (og p.zA k).zJ = 0 := ((zkf h hk).ty (by rw [h0]; rfl)).1
theorem zpu {p : zB} (h : zqu p) : ∀ k, k ≤ p.zA.length → 0 ≤ zlw p.zA k ∧ zlw p.zA k ≤ 256 * (k : Int)
 | 0, _ => ⟨Int.le_refl _, by show (0 : Int) ≤ 256 * ((0 : Nat) : Int); omega⟩
 | k + 1, hk => by
  obtain ⟨h1, h2⟩ := zpu h k (by omega); unfold zlw; split
  · rename_i h0; have := zeu (zw5 h (by omega) h0); omega
  · omega
theorem z67 {p : zB} (h : zqu p) {j : Nat} : ∀ {k : Nat}, k ≤ p.zA.length → j ≤ k → zlw p.zA j ≤ zlw p.zA k
 | 0, _, hj => by
  obtain rfl : j = 0 := by omega
  exact Int.le_refl _
 | k + 1, hk, hj => by
  by_cases e : j = k + 1
  · subst e; exact Int.le_refl _
  · have := z67 h (show k ≤ p.zA.length by omega) (show j ≤ k by omega); have e2 : zlw p.zA (k + 1) = zlw p.zA k + (if (og p.zA k).Kind = 0 then szE (og p.zA k).zJ else 0) := rfl; rw [e2]; split
    · rename_i h0; have := zeu (zw5 h (by omega) h0); omega
    · omega
theorem ztl {n : Nat} (f : Nat → Int) {k : Nat} (v : Int) : ((List.range n).map f).set k v = (List.range n).map fun i => if i = k then v else f i := by
 apply List.ext_getElem?
 intro i
 rw [List.getElem?_set, List.getElem?_map, List.getElem?_map, lnm, List.length_range]
 by_cases hi : i < n
 · rw [List.getElem?_range hi]
   by_cases e : k = i
   · subst e; simp [hi]
   · simp [e, Ne.symm e]
 · rw [List.getElem?_eq_none (by simpa using hi)]
   by_cases e : k = i
   · subst e; simp [hi]
   · simp [e]
theorem zqe {n : Nat} (f : Nat → Int) {k : Nat} (h : k < n) : ((List.range n).map f)[k]? = some (f k) := by
 rw [List.getElem?_map, List.getElem?_range h]
 rfl
theorem zgm {n : Nat} {f g : Nat → Int} (h : ∀ i, i < n → f i = g i) : (List.range n).map f = (List.range n).map g := List.map_congr_left fun i hi => h i (List.mem_range.1 hi)
theorem zaau (n : Nat) (v : Int) : List.replicate n v = (List.range n).map fun _ => v := by
 apply List.ext_getElem?
 intro i
 rw [List.getElem?_replicate, List.getElem?_map]
 by_cases hi : i < n
 · rw [ifp hi, List.getElem?_range hi]; rfl
 · rw [ifn hi, List.getElem?_eq_none (by simpa using hi)]; rfl
def A1 (ops : List zF) (k i : Nat) : Int := if i < k ∧ (og ops i).Kind = 3 then pAt ops i else -1
def B1 (ops : List zF) (k i : Nat) : Int := if i < k then (if (og ops i).Kind = 3 then pAt ops i else -1) else 0
def A2 (ops : List zF) (k i : Nat) : Int := if i < k ∧ (og ops i).Kind = 0 then sAt ops i else if (og ops i).Kind = 3 then pAt ops i else -1
def A3 (ops : List zF) (k i : Nat) : Int := if i < k ∧ (og ops i).Kind = 1 then sAt ops (nmI ops (og ops i).Base).toNat + (og ops i).Offset else A2 ops ops.length i
theorem z1f {p : zB} (h : zqu p) {i : Nat} (hi : i < p.zA.length) (hk : (og p.zA i).Kind = 1) : ∃ b : Nat, nmI p.zA (og p.zA i).Base = (b : Int) ∧ b < i ∧ (og p.zA b).Kind = 0 ∧ 0 ≤ (og p.zA i).Offset ∧ (og p.zA i).Offset ≤ szE (og p.zA b).zJ - szE (og p.zA i).zJ := by
 have hb := (zkf h hi).base (.inl hk)
 unfold zxg at hb
 by_cases hc : nmI p.zA (og p.zA i).Base < 0 ∨ (i : Int) ≤ nmI p.zA (og p.zA i).Base
 · rw [ifp hc] at hb; cases hb
 · rw [ifn hc] at hb; refine ⟨(nmI p.zA (og p.zA i).Base).toNat, by omega, by omega, ?_⟩; rw [zqm (by omega)] at hb; simp only at hb; rw [ifn] at hb; split at hb
   · cases hb
   · rename_i h0; split at hb
     · rename_i h1; have := zbf.1 h1; exact ⟨by omega, by omega, by omega⟩
     · cases hb
theorem z6c {p : zB} (h : zqu p) {i : Nat} (hi : i < p.zA.length) (hk : (og p.zA i).Kind = 2) : ∃ b : Nat, nmI p.zA (og p.zA i).Base = (b : Int) ∧ b < i ∧ (og p.zA b).Kind = 3 ∧ 0 ≤ (og p.zA i).Offset ∧ (og p.zA i).Offset ≤ 256 := by
 have hb := (zkf h hi).base (.inr hk)
 unfold zxg at hb
 by_cases hc : nmI p.zA (og p.zA i).Base < 0 ∨ (i : Int) ≤ nmI p.zA (og p.zA i).Base
 · rw [ifp hc] at hb; cases hb
 · rw [ifn hc] at hb; refine ⟨(nmI p.zA (og p.zA i).Base).toNat, by omega, by omega, ?_⟩; rw [zqm (by omega)] at hb; simp only at hb; rw [ifp hk] at hb; split at hb
   · cases hb
   · rename_i h0; split at hb
     · rename_i h1; have := zbf.1 h1; exact ⟨by omega, by omega, by omega⟩
     · cases hb
theorem z8c {p : zB} (h : zqu p) (k : Nat) {b : Nat} (hb : b < p.zA.length) (h0 : (og p.zA b).Kind = 0) : A3 p.zA k b = sAt p.zA b := by
 unfold A3 A2
 rw [ifn, ifp ⟨hb, h0⟩]
theorem zade (ops : List zF) : (List.range ops.length).map (A3 ops ops.length) = znv ops := by
 refine zgm fun i hi => ?_
 unfold A3 A2 zdh
 by_cases h1 : (og ops i).Kind = 1
 · rw [ifp ⟨hi, h1⟩, ifn, ifn, ifp h1]
 · rw [ifn]
   by_cases h0 : (og ops i).Kind = 0
   · rw [ifp ⟨hi, h0⟩, ifn, ifp h0]
   · rw [ifn]
     by_cases h3 : (og ops i).Kind = 3
     · rw [ifp h3, ifp h3]
     · rw [ifn h3, ifn h3, ifn h0, ifn h1]
section
variable {ops : List zF} {k : Nat}
theorem zaf3 : (List.range ops.length).map (A1 ops (k + 1)) = if (og ops k).Kind = 3 then ((List.range ops.length).map (A1 ops k)).set k (pAt ops k) else (List.range ops.length).map (A1 ops k) := by
 split
 · rename_i h; rw [ztl]; refine zgm fun i _ => ?_; unfold A1
   by_cases e : i = k
   · subst e; rw [ifp ⟨by omega, h⟩, ifp rfl]
   · rw [ifn e]
     by_cases h2 : i < k ∧ (og ops i).Kind = 3
     · rw [ifp h2, ifp ⟨by omega, h2.2⟩]
     · rw [ifn h2, ifn]
 · rename_i h; refine zgm fun i _ => ?_; unfold A1
   by_cases e : i = k
   · subst e; rw [ifn, ifn]
   · by_cases h2 : i < k ∧ (og ops i).Kind = 3
     · rw [ifp h2, ifp ⟨by omega, h2.2⟩]
     · rw [ifn h2, ifn]
theorem zaf2 : (List.range ops.length).map (B1 ops (k + 1)) = if (og ops k).Kind = 3 then (((List.range ops.length).map (B1 ops k)).set k (-1)).set k (pAt ops k) else ((List.range ops.length).map (B1 ops k)).set k (-1) := by
 split
 · rename_i h; rw [ztl, ztl]; refine zgm fun i _ => ?_; unfold B1
   by_cases e : i = k
   · subst e; rw [ifp, ifp h, ifp rfl]
   · rw [ifn e, ifn e]
     by_cases h2 : i < k
     · rw [ifp h2, ifp]
     · rw [ifn h2, ifn]
 · rename_i h; rw [ztl]; refine zgm fun i _ => ?_; unfold B1
   by_cases e : i = k
   · subst e; rw [ifp, ifn h, ifp rfl]
   · rw [ifn e]
     by_cases h2 : i < k
     · rw [ifp h2, ifp]
     · rw [ifn h2, ifn]
theorem zaa9 : (List.range ops.length).map (A2 ops (k + 1)) = if (og ops k).Kind = 0 then ((List.range ops.length).map (A2 ops k)).set k (sAt ops k) else (List.range ops.length).map (A2 ops k) := by
 split
 · rename_i h; rw [ztl]; refine zgm fun i _ => ?_; unfold A2
   by_cases e : i = k
   · subst e; rw [ifp ⟨by omega, h⟩, ifp rfl]
   · rw [ifn e]
     by_cases h2 : i < k ∧ (og ops i).Kind = 0
     · rw [ifp h2, ifp ⟨by omega, h2.2⟩]
     · rw [ifn h2, ifn (show ¬ (i < k + 1 ∧ (og ops i).Kind = 0) by omega)]
 · rename_i h; refine zgm fun i _ => ?_; unfold A2
   by_cases e : i = k
   · subst e; rw [ifn (show ¬ (i < i + 1 ∧ (og ops i).Kind = 0) by omega), ifn (show ¬ (i < i ∧ (og ops i).Kind = 0) by omega)]
   · by_cases h2 : i < k ∧ (og ops i).Kind = 0
     · rw [ifp h2, ifp ⟨by omega, h2.2⟩]
     · rw [ifn h2, ifn (show ¬ (i < k + 1 ∧ (og ops i).Kind = 0) by omega)]
theorem zaa8 : (List.range ops.length).map (A3 ops (k + 1)) = if (og ops k).Kind = 1 then ((List.range ops.length).map (A3 ops k)).set k (sAt ops (nmI ops (og ops k).Base).toNat + (og ops k).Offset) else (List.range ops.length).map (A3 ops k) := by
 split
 · rename_i h; rw [ztl]; refine zgm fun i _ => ?_; unfold A3
   by_cases e : i = k
   · subst e; rw [ifp ⟨by omega, h⟩, ifp rfl]
   · rw [ifn e]
     by_cases h2 : i < k ∧ (og ops i).Kind = 1
     · rw [ifp h2, ifp ⟨by omega, h2.2⟩]
     · rw [ifn h2, ifn]
 · rename_i h; refine zgm fun i _ => ?_; unfold A3
   by_cases e : i = k
   · subst e; rw [ifn, ifn]
   · by_cases h2 : i < k ∧ (og ops i).Kind = 1
     · rw [ifp h2, ifp ⟨by omega, h2.2⟩]
     · rw [ifn h2, ifn]
end
theorem z8x {a : Int} (h0 : 0 ≤ a) (h1 : a ≤ 1000000) : w6 ((w6 ((w6 (a + 16)) - 1)).tdiv 16) = (a + 15) / 16 := by
 rw [w6e (n := a + 16), w6e (n := a + 16 - 1), tde, show a + 16 - 1 = a + 15 by omega, w6e]
theorem z6q (n : Nat) (f : Nat → Int) : ((List.range n).map f).length = n := by rw [lnm, List.length_range]
theorem z17 (N : Nat) (hN : 1100 < N) {p : zB} (h : zqu p) : zm N p.zA = some (znv p.zA, zkm p.zA) := by
 have hl := h.ops
 have hp := fun k => zrf p.zA k
 have hs := fun k hk => zpu h k hk
 unfold zm
 rw [zab9 N _ (by omega) (by omega), zaau]
 simp only [obs]
 have l1 := za1 (f := zm.r0 N) (fun k => (p.zA, (List.range p.zA.length).map (A1 p.zA k), pAt p.zA k, p.zA, (p.zA.length : Int), (k : Int))) p.zA.length
  (fun k hk => by
   have h1 := hp k; simp only [zm.r0, zm.b0, zai, zqm hk, obs, dct (show (k : Int) < (p.zA.length : Int) by omega), ctr, z6q, ifp (show (0 : Int) ≤ (k : Int) by omega), ifp (show (k : Int) < (p.zA.length : Int) by omega), itn, zqe _ hk, zaf3, zcn]; rw [w6e (n := (k : Int) + 1), w6e (n := pAt p.zA k + 16)]; rw [show pAt p.zA (k + 1) = pAt p.zA k + (if (og p.zA k).Kind = 3 then 16 else 0) from rfl]
   by_cases h3 : (og p.zA k).Kind = 3
   · rw [dct h3, ifp h3, ifp h3]; rfl
   · rw [dcf h3, ifn h3, ifn h3, Int.add_zero]; rfl)
  (by simp only [zm.r0, zm.b0, dcf (show ¬ (p.zA.length : Int) < (p.zA.length : Int) by omega), cfa]) (N := N) (by omega)
 simp only [nc0] at l1
 rw [show ((List.range p.zA.length).map fun _ => (-1 : Int)) = (List.range p.zA.length).map (A1 p.zA 0) from zgm fun i _ => by unfold A1; rw [ifn], show (0 : Int) = pAt p.zA 0 from rfl]
 rw [show pAt p.zA 0 = 0 from rfl] at l1 ⊢
 rw [l1]
 simp only [obs]
 have l2 := za1 (f := zm.r2 N) (fun k => (p.zA, (List.range p.zA.length).map (A2 p.zA k), sAt p.zA k, p.zA, (p.zA.length : Int), (k : Int))) p.zA.length
  (fun k hk => by
   have h1 := hp p.zA.length; have h2 := hs k (by omega); simp only [zm.r2, zm.b2, zai, zqm hk, obs, dct (show (k : Int) < (p.zA.length : Int) by omega), ctr, z6q, ifp (show (0 : Int) ≤ (k : Int) by omega), ifp (show (k : Int) < (p.zA.length : Int) by omega), itn, zqe _ hk, zaa9, zcn]; rw [w6e (n := (k : Int) + 1)]; have e : sAt p.zA (k + 1) = sAt p.zA k + (if (og p.zA k).Kind = 0 then szE (og p.zA k).zJ else 0) := by
    unfold sAt; rw [show zlw p.zA (k + 1) = zlw p.zA k + (if (og p.zA k).Kind = 0 then szE (og p.zA k).zJ else 0) from rfl]; omega
   rw [e]
   by_cases h3 : (og p.zA k).Kind = 0
   · have hz := zeu (zw5 h hk h3); rw [dct h3, ifp h3, ifp h3, ctr, z6m N (by omega) (zw5 h hk h3)]; simp only [obs]; rw [w6e (n := sAt p.zA k + szE (og p.zA k).zJ) (by unfold sAt; omega) (by unfold sAt; omega)]; rfl
   · rw [dcf h3, ifn h3, ifn h3, Int.add_zero]; rfl)
  (by simp only [zm.r2, zm.b2, dcf (show ¬ (p.zA.length : Int) < (p.zA.length : Int) by omega), cfa]) (N := N) (by omega)
 simp only [nc0] at l2
 rw [show ((List.range p.zA.length).map (A1 p.zA p.zA.length)) = (List.range p.zA.length).map (A2 p.zA 0) from zgm fun i hi => by
  unfold A1 A2; rw [ifn (show ¬ (i < 0 ∧ (og p.zA i).Kind = 0) by omega)]
  by_cases h3 : (og p.zA i).Kind = 3
  · rw [ifp ⟨hi, h3⟩, ifp h3]
  · rw [ifn, ifn h3], show pAt p.zA p.zA.length = sAt p.zA 0 by unfold sAt; rw [show zlw p.zA 0 = 0 from rfl, Int.add_zero], l2]
 simp only [obs]
 have l3 := za1 (f := zm.r4 N) (fun k => (p.zA, (List.range p.zA.length).map (A3 p.zA k), sAt p.zA p.zA.length, p.zA, (p.zA.length : Int), (k : Int))) p.zA.length
  (fun k hk => by
   have h1 := hp p.zA.length; simp only [zm.r4, zm.b4, zai, zqm hk, obs, dct (show (k : Int) < (p.zA.length : Int) by omega), ctr, z6q, ifp (show (0 : Int) ≤ (k : Int) by omega), ifp (show (k : Int) < (p.zA.length : Int) by omega), itn, zqe _ hk, zaa8, zcn]; rw [w6e (n := (k : Int) + 1)]
   by_cases h3 : (og p.zA k).Kind = 1
   · obtain ⟨b, e1, e2, e3, e4, e5⟩ := z1f h hk h3; have hz := zeu (zw5 h (show b < p.zA.length by omega) e3); have hz2 := zeu ((zkf h hk).ty (by rw [h3]; rfl)).1; have h2 := hs b (by omega); rw [dct h3, ifp h3, ctr, z4j N _ (by omega) (by omega), e1]; simp only [obs]; rw [ifp, ifp, itn, zqe _ (by omega), z8c h k (by omega) e3]; simp only [obs]; rw [w6e (n := sAt p.zA b + (og p.zA k).Offset) (by unfold sAt; omega) (by unfold sAt; omega)]; rfl
   · rw [dcf h3, ifn h3]; rfl)
  (by simp only [zm.r4, zm.b4, dcf (show ¬ (p.zA.length : Int) < (p.zA.length : Int) by omega), cfa]) (N := N) (by omega)
 simp only [nc0] at l3
 rw [show ((List.range p.zA.length).map (A2 p.zA p.zA.length)) = (List.range p.zA.length).map (A3 p.zA 0) from zgm fun i hi => by
  unfold A3; rw [ifn (show ¬ (i < 0 ∧ (og p.zA i).Kind = 1) by omega)], l3]
 simp only [obs, zade]
 have h1 := hp p.zA.length
 have h2 := hs p.zA.length (by omega)
 rw [z8x (by unfold sAt; omega) (by unfold sAt; omega)]
 rfl
theorem zfa (N : Nat) (hN : 1100 < N) {p : zB} (h : zqu p) : zw N p = some (znv p.zA, zkm p.zA) := by
 have hl := h.ops
 have hp := fun k => zrf p.zA k
 have hs := fun k hk => zpu h k hk
 unfold zw
 rw [ifp, ifp, itn, zao (by omega), ctr, zaau]
 have l1 := za1 (f := zw.r0 N) (fun k => ((List.range p.zA.length).map (B1 p.zA k), pAt p.zA k, (k : Int), p)) p.zA.length
  (fun k hk => by
   have h1 := hp k; simp only [zw.r0, zw.b0, zai, zqm hk, obs, dct (show (k : Int) < (p.zA.length : Int) by omega), ctr, List.length_set, z6q, ifp (show (0 : Int) ≤ (k : Int) by omega), ifp (show (k : Int) < (p.zA.length : Int) by omega), itn, zqe _ hk, zaf2, zcn]; rw [w6e (n := (k : Int) + 1), w6e (n := pAt p.zA k + 16)]; rw [show pAt p.zA (k + 1) = pAt p.zA k + (if (og p.zA k).Kind = 3 then 16 else 0) from rfl]
   by_cases h3 : (og p.zA k).Kind = 3
   · rw [dct h3, ifp h3, ifp h3, ctr, ztl, zqe _ hk]; rfl
   · rw [dcf h3, ifn h3, ifn h3, Int.add_zero]; rfl)
  (by simp only [zw.r0, zw.b0, dcf (show ¬ (p.zA.length : Int) < (p.zA.length : Int) by omega), cfa]) (N := N) (by omega)
 simp only [nc0] at l1
 rw [show ((List.range p.zA.length).map fun _ => (0 : Int)) = (List.range p.zA.length).map (B1 p.zA 0) from zgm fun i _ => by unfold B1; rw [ifn]]
 rw [show pAt p.zA 0 = 0 from rfl] at l1
 rw [l1]
 simp only [obs]
 have l2 := za1 (f := zw.r2 N) (fun k => ((List.range p.zA.length).map (A2 p.zA k), sAt p.zA k, (k : Int), p)) p.zA.length
  (fun k hk => by
   have h1 := hp p.zA.length; have h2 := hs k (by omega); simp only [zw.r2, zw.b2, zai, zqm hk, obs, dct (show (k : Int) < (p.zA.length : Int) by omega), ctr, z6q, ifp (show (0 : Int) ≤ (k : Int) by omega), ifp (show (k : Int) < (p.zA.length : Int) by omega), itn, zqe _ hk, zaa9, zcn]; rw [w6e (n := (k : Int) + 1)]; have e : sAt p.zA (k + 1) = sAt p.zA k + (if (og p.zA k).Kind = 0 then szE (og p.zA k).zJ else 0) := by
    unfold sAt; rw [show zlw p.zA (k + 1) = zlw p.zA k + (if (og p.zA k).Kind = 0 then szE (og p.zA k).zJ else 0) from rfl]; omega
   rw [e]
   by_cases h3 : (og p.zA k).Kind = 0
   · have hz := zeu (zw5 h hk h3); rw [dct h3, ifp h3, ifp h3, ctr, zs5 (zw5 h hk h3)]; simp only [obs]; rw [w6e (n := sAt p.zA k + szE (og p.zA k).zJ) (by unfold sAt; omega) (by unfold sAt; omega)]; rfl
   · rw [dcf h3, ifn h3, ifn h3, Int.add_zero]; rfl)
  (by simp only [zw.r2, zw.b2, dcf (show ¬ (p.zA.length : Int) < (p.zA.length : Int) by omega), cfa]) (N := N) (by omega)
 simp only [nc0] at l2
 rw [show ((List.range p.zA.length).map (B1 p.zA p.zA.length)) = (List.range p.zA.length).map (A2 p.zA 0) from zgm fun i hi => by
  unfold B1 A2; rw [ifn (show ¬ (i < 0 ∧ (og p.zA i).Kind = 0) by omega), ifp hi], show pAt p.zA p.zA.length = sAt p.zA 0 by unfold sAt; rw [show zlw p.zA 0 = 0 from rfl, Int.add_zero], l2]
 simp only [obs]
 have l3 := za1 (f := zw.r4 N) (fun k => ((List.range p.zA.length).map (A3 p.zA k), sAt p.zA p.zA.length, (k : Int), p)) p.zA.length
  (fun k hk => by
   have h1 := hp p.zA.length; simp only [zw.r4, zw.b4, zai, zqm hk, obs, dct (show (k : Int) < (p.zA.length : Int) by omega), ctr, z6q, ifp (show (0 : Int) ≤ (k : Int) by omega), ifp (show (k : Int) < (p.zA.length : Int) by omega), itn, zqe _ hk, zaa8, zcn]; rw [w6e (n := (k : Int) + 1)]
   by_cases h3 : (og p.zA k).Kind = 1
   · obtain ⟨b, e1, e2, e3, e4, e5⟩ := z1f h hk h3; have hz := zeu (zw5 h (show b < p.zA.length by omega) e3); have hz2 := zeu ((zkf h hk).ty (by rw [h3]; rfl)).1; have h2 := hs b (by omega); rw [dct h3, ifp h3, ctr, z8e N p (by omega) (by omega), e1]; simp only [obs]; rw [ifp, ifp, itn, zqe _ (by omega), z8c h k (by omega) e3]; simp only [obs]; rw [w6e (n := sAt p.zA b + (og p.zA k).Offset) (by unfold sAt; omega) (by unfold sAt; omega)]; rfl
   · rw [dcf h3, ifn h3]; rfl)
  (by simp only [zw.r4, zw.b4, dcf (show ¬ (p.zA.length : Int) < (p.zA.length : Int) by omega), cfa]) (N := N) (by omega)
 simp only [nc0] at l3
 rw [show ((List.range p.zA.length).map (A2 p.zA p.zA.length)) = (List.range p.zA.length).map (A3 p.zA 0) from zgm fun i hi => by
  unfold A3; rw [ifn (show ¬ (i < 0 ∧ (og p.zA i).Kind = 1) by omega)], l3]
 simp only [obs, zade]
 have h1 := hp p.zA.length
 have h2 := hs p.zA.length (by omega)
 rw [z8x (by unfold sAt; omega) (by unfold sAt; omega)]
 rfl
def gO (p : zB) (i : Nat) : Option (zM × Int) := if opE p i = 0 then none else some (⟨1, i⟩, opE p i)
def gX (p : zB) (i : Nat) : Option (zM × Int) := (p.zG[i]?).bind fun x => if zwr p x = 0 then none else some (⟨2, i⟩, zwr p x)
def gMo (p : zB) (i : Nat) : Option (zM × Int) := (p.zL[i]?).bind fun m => if zzv p m = true then none else some (⟨3, i⟩, 3)
def zly (p : zB) : zM × Int :=
 if p.zA.length > 24 ∨ p.zG.length > 40 ∨ p.zL.length > 6 then (⟨0, 0⟩, 2)
 else if p.zG.length = 0 then (⟨0, 0⟩, 1)
 else match (List.range p.zA.length).findSome? (gO p) with
  | some r => r
  | none => if zkm p.zA > 24 then (⟨0, 0⟩, 30) else match (List.range p.zG.length).findSome? (gX p) with
   | some r => r
   | none => match (List.range p.zL.length).findSome? (gMo p) with
    | some r => r
    | none => (⟨0, 0⟩, 0)
theorem z62 {p : zB} {i : Nat} (h : gO p i = none) : opE p i = 0 := by
 unfold gO at h
 split at h
 · assumption
 · cases h
theorem z9i (p : zB) : ((decide ((p.zA.length : Int) > 24) || decide ((p.zG.length : Int) > 40)) || decide ((p.zL.length : Int) > 6)) = decide (p.zA.length > 24 ∨ p.zG.length > 40 ∨ p.zL.length > 6) := by
 rw [← Bool.decide_or, ← Bool.decide_or]
 congr 1
 apply propext
 omega
theorem z82 (N : Nat) (hN : 1100 < N) (p : zB) : ze N p = some (zly p) := by
 unfold ze zly
 simp only [orB, obs, z9i, z2y]
 rw [zzn N _ (by simp; omega) (by simp)]
 simp only [obs]
 rw [z2n _ _ _ _ (by decide) (by decide)]
 by_cases hb : p.zA.length > 24 ∨ p.zG.length > 40 ∨ p.zL.length > 6
 · rw [ifp hb, dct hb]; rfl
 rw [ifn hb, dcf hb]
 by_cases h0 : p.zG.length = 0
 · rw [ifp h0, zcn, dct (by omega)]; rfl
 rw [ifn h0, zcn, dcf (by omega)]
 simp only [cfa, bsf]
 have mk : ∀ i, (∀ j, j < i → gO p j = none) → Upto p i := fun i h => { ops := by omega, ins := by omega, ok := fun j hj => z62 (h j hj) }
 have l1 := zvr (f := ze.r0 N) (fun i => ((p.zA.length : Int), (i : Int), p, (⟨0, 0⟩ : zM))) (gO p) p.zA.length
  (fun i hi hp => by
   simp only [ze.r0, ze.b0, dct (show (i : Int) < (p.zA.length : Int) by omega), ctr]; rw [zah1 N hN (mk i hp) hi, w6e]; unfold gO; simp only [obs, zd1]
   by_cases h : opE p i = 0
   · rw [ifp h, dcf (fun hh => hh h)]; rfl
   · rw [ifn h, dct h]; rfl)
  (fun _ => by simp only [ze.r0, ze.b0, dcf (show ¬ (p.zA.length : Int) < (p.zA.length : Int) by omega), cfa]) (N := N) (by omega)
 simp only [nc0] at l1
 rw [l1]
 cases hf : (List.range p.zA.length).findSome? (gO p) with
 | some r => rfl
 | none =>
  have hu : zqu p := mk _ (zme.1 hf); simp only [obs, zb5]; rw [z17 N hN hu]; simp only [obs]
  by_cases hq : zkm p.zA > 24
  · rw [ifp hq, dct hq]; rfl
  rw [ifn hq, dcf hq]; simp only [cfa]; have l2 := zbh (f := ze.r2 N) (fun i => (p.zG, (p.zG.length : Int), (i : Int), p, (⟨0, 0⟩ : zM))) (gX p) p.zG.length
   (fun i hi => by
    have hx := lge hi; simp only [ze.r2, ze.b2, dct (show (i : Int) < (p.zG.length : Int) by omega), ctr, zai, hx, obs, gX]; rw [zago N hN hu, w6e]; simp only [obs, zd1]
    by_cases h : zwr p p.zG[i] = 0
    · rw [ifp h, dcf (fun hh => hh h)]; rfl
    · rw [ifn h, dct h]; rfl)
   (by simp only [ze.r2, ze.b2, dcf (show ¬ (p.zG.length : Int) < (p.zG.length : Int) by omega), cfa]) (N := N) (by omega)
  simp only [nc0] at l2; rw [l2]; cases (List.range p.zG.length).findSome? (gX p) with
  | some r => rfl
  | none =>
   simp only [obs, zb5]; have l3 := zbh (f := ze.r4 N) (fun i => (p.zL, (p.zL.length : Int), (i : Int), p, (⟨0, 0⟩ : zM))) (gMo p) p.zL.length
    (fun i hi => by
     have hx := lge hi; simp only [ze.r4, ze.b4, dct (show (i : Int) < (p.zL.length : Int) by omega), ctr, zai, hx, obs, gMo]; rw [zagn hu, w6e]; simp only [obs]; cases zzv p p.zL[i] <;> rfl)
    (by simp only [ze.r4, ze.b4, dcf (show ¬ (p.zL.length : Int) < (p.zL.length : Int) by omega), cfa]) (N := N) (by omega)
   simp only [nc0] at l3; rw [l3]; cases (List.range p.zL.length).findSome? (gMo p) <;> rfl
theorem zabk (N : Nat) (hN : 1100 < N) (p : zB) : zad N p = some (zly p) := by
 unfold zad zly
 simp only [orB, obs, z9i]
 by_cases hb : p.zA.length > 24 ∨ p.zG.length > 40 ∨ p.zL.length > 6
 · rw [ifp hb, dct hb]; rfl
 rw [ifn hb, dcf hb]
 by_cases h0 : p.zG.length = 0
 · rw [ifp h0, zcn, dct (by omega)]; rfl
 rw [ifn h0, zcn, dcf (by omega)]
 simp only [cfa]
 have mk : ∀ i, (∀ j, j < i → gO p j = none) → Upto p i := fun i h => { ops := by omega, ins := by omega, ok := fun j hj => z62 (h j hj) }
 have l1 := zvr (f := zad.r0 N) (fun i => ((i : Int), p, (⟨0, 0⟩ : zM))) (gO p) p.zA.length
  (fun i hi hp => by
   simp only [zad.r0, zad.b0, dct (show (i : Int) < (p.zA.length : Int) by omega), ctr]; rw [zahl N hN (mk i hp) hi, w6e]; unfold gO; simp only [obs, zd1]
   by_cases h : opE p i = 0
   · rw [ifp h, dcf (fun hh => hh h)]; rfl
   · rw [ifn h, dct h]; rfl)
  (fun _ => by simp only [zad.r0, zad.b0, dcf (show ¬ (p.zA.length : Int) < (p.zA.length : Int) by omega), cfa]) (N := N) (by omega)
 simp only [nc0] at l1
 rw [l1]
 cases hf : (List.range p.zA.length).findSome? (gO p) with
 | some r => rfl
 | none =>
  have hu : zqu p := mk _ (zme.1 hf); simp only [obs, zb5]; rw [zfa N hN hu]; simp only [obs]
  by_cases hq : zkm p.zA > 24
  · rw [ifp hq, dct hq]; rfl
  rw [ifn hq, dcf hq]; simp only [cfa]; have l2 := zbh (f := zad.r2 N) (fun i => ((i : Int), p, (⟨0, 0⟩ : zM))) (gX p) p.zG.length
   (fun i hi => by
    have hx := lge hi; simp only [zad.r2, zad.b2, dct (show (i : Int) < (p.zG.length : Int) by omega), ctr, zai, hx, obs, gX]; rw [zadt N hN hu, w6e]; simp only [obs, zd1]
    by_cases h : zwr p p.zG[i] = 0
    · rw [ifp h, dcf (fun hh => hh h)]; rfl
    · rw [ifn h, dct h]; rfl)
   (by simp only [zad.r2, zad.b2, dcf (show ¬ (p.zG.length : Int) < (p.zG.length : Int) by omega), cfa]) (N := N) (by omega)
  simp only [nc0] at l2; rw [l2]; cases (List.range p.zG.length).findSome? (gX p) with
  | some r => rfl
  | none =>
   simp only [obs, zb5]; have l3 := zbh (f := zad.r4 N) (fun i => ((i : Int), p, (⟨0, 0⟩ : zM))) (gMo p) p.zL.length
    (fun i hi => by
     have hx := lge hi; simp only [zad.r4, zad.b4, dct (show (i : Int) < (p.zL.length : Int) by omega), ctr, zai, hx, obs, gMo, zjg, orB, insL hu]; rw [zagt, w6e]; cases zzv p p.zL[i] <;> rfl)
    (by simp only [zad.r4, zad.b4, dcf (show ¬ (p.zL.length : Int) < (p.zL.length : Int) by omega), cfa]) (N := N) (by omega)
   simp only [nc0] at l3; rw [l3]; cases (List.range p.zL.length).findSome? (gMo p) <;> rfl
theorem zacm (N : Nat) (hN : 1100 < N) (p : zB) : zfb N p = some (zly p).2 := by
 unfold zfb
 rw [z82 N hN]; rfl
theorem zadv (N : Nat) (hN : 1100 < N) (p : zB) : zrd N p = some (zly p).2 := by
 unfold zrd
 rw [zabk N hN]; rfl
structure ProgV (p : zB) : Prop where
 ok : zqu p
 n24 : p.zA.length ≤ 24
 i40 : p.zG.length ≤ 40
 i0 : 0 < p.zG.length
 m6 : p.zL.length ≤ 6
 quads : zkm p.zA ≤ 24
 ins : ∀ x ∈ p.zG, zwr p x = 0
 mon : ∀ m ∈ p.zL, zzv p m = true
theorem zacl {p : zB} (h : (zly p).2 = 0) : ProgV p := by
 unfold zly at h
 split at h
 · cases h
 split at h
 · cases h
 rename_i hb h0
 split at h
 · rename_i r hr
   exfalso
   obtain ⟨i, _, hi, _⟩ := zmc hr; unfold gO at hi; split at hi
   · cases hi
   · rename_i hne; cases hi; exact hne h
 · rename_i hf; split at h
   · cases h
   rename_i hq; split at h
   · rename_i r hr
     exfalso
     obtain ⟨i, _, hi, _⟩ := zmc hr; unfold gX at hi; rw [Option.bind_eq_some_iff] at hi; obtain ⟨x, _, hi⟩ := hi; split at hi
     · cases hi
     · rename_i hne; cases hi; exact hne h
   · rename_i hf2; split at h
     · rename_i r hr
       exfalso
       obtain ⟨i, _, hi, _⟩ := zmc hr; unfold gMo at hi; rw [Option.bind_eq_some_iff] at hi; obtain ⟨x, _, hi⟩ := hi; split at hi
       · cases hi
       · cases hi; cases h
     · rename_i hf3; refine { ok := { ops := by omega, ins := by omega, ok := fun j hj => z62 (zme.1 hf j hj) }, n24 := by omega, i40 := by omega, i0 := by omega, m6 := by omega, quads := by omega, ins := fun x hx => ?_, mon := fun m hm => ?_ }
       · obtain ⟨i, hi⟩ := List.getElem?_of_mem hx; have := zme.1 hf2 i (gei hi).1; unfold gX at this; rw [hi, obs] at this; split at this
         · assumption
         · cases this
       · obtain ⟨i, hi⟩ := List.getElem?_of_mem hm; have := zme.1 hf3 i (gei hi).1; unfold gMo at this; rw [hi, obs] at this; split at this
         · assumption
         · cases this
theorem zp3 {b : Bool} {p q : Nat} {t : DataType} {half : Bool} (h : (zjt b p q t half).2 = 0) : -((10 ^ t.Length.toNat : Nat) : Int) < (zjt b p q t half).1.N ∧ (zjt b p q t half).1.N < ((10 ^ t.Length.toNat : Nat) : Int) := by
 unfold zjt at h ⊢
 have := zcx t.Length.toNat
 generalize (p * 10 ^ t.Scale.toNat / q + cond (half && decide (q ≤ p * 10 ^ t.Scale.toNat % q + p * 10 ^ t.Scale.toNat % q)) 1 0) = Q at *
 generalize 10 ^ t.Length.toNat = T at *
 split at h
 · cases h
 · rename_i hn; rw [ifn hn]; cases b
   · show -(T : Int) < (Q : Int) ∧ (Q : Int) < T; omega
   · show -(T : Int) < -(Q : Int) ∧ -(Q : Int) < T; omega
theorem zack (b : Bool) (p q : Nat) (t : DataType) (half : Bool) : (zjt b p q t half).1 = ⟨(zjt b p q t half).1.N, ⟨#[]⟩⟩ := by
 unfold zjt
 split <;> rfl
theorem z8z (b : Bool) (p q : Nat) (t : DataType) (half : Bool) : (zjt b p q t half).2 = 0 ∨ (zjt b p q t half).2 = 19 := by
 unfold zjt
 split
 · exact .inr rfl
 · exact .inl rfl
theorem zag8 (x : Number) (t : DataType) (half : Bool) : (zol x t half).1 = ⟨(zol x t half).1.N, ⟨#[]⟩⟩ := zack _ _ _ _ _
theorem z91 (x : Number) (t : DataType) (half : Bool) : (zol x t half).2 = 0 ∨ (zol x t half).2 = 19 := z8z _ _ _ _ _
theorem zab0 {x : Number} {t : DataType} {half : Bool} (h : (zol x t half).2 = 0) : -((10 ^ t.Length.toNat : Nat) : Int) < (zol x t half).1.N ∧ (zol x t half).1.N < ((10 ^ t.Length.toNat : Nat) : Int) := zp3 h
theorem zaae {op : Int} {a b : Number} {t : DataType} {half : Bool} (h : (zlu op a b t half).2 = 0) : -((10 ^ t.Length.toNat : Nat) : Int) < (zlu op a b t half).1.N ∧ (zlu op a b t half).1.N < ((10 ^ t.Length.toNat : Nat) : Int) := by
 unfold zlu at h ⊢
 by_cases h1 : (op = 3 ∨ op = 4) ∧ b.N = 0
 · rw [ifp h1] at h; cases h
 · rw [ifn h1] at h ⊢
   by_cases h2 : op = 0
   · rw [ifp h2] at h ⊢; exact zp3 h
   · rw [ifn h2] at h ⊢
     by_cases h3 : op = 1
     · rw [ifp h3] at h ⊢; exact zp3 h
     · rw [ifn h3] at h ⊢
       by_cases h4 : op = 2
       · rw [ifp h4] at h ⊢; exact zp3 h
       · rw [ifn h4] at h ⊢
         by_cases h5 : op = 3
         · rw [ifp h5] at h ⊢; exact zp3 h
         · rw [ifn h5] at h ⊢; exact zp3 h
theorem zafq (op : Int) (a b : Number) (t : DataType) (half : Bool) : (zlu op a b t half).1 = ⟨(zlu op a b t half).1.N, ⟨#[]⟩⟩ := by
 unfold zlu z14
 repeat' split
 all_goals first | rfl | exact zack _ _ _ _ _
theorem zac8 (op : Int) (a b : Number) (t : DataType) (half : Bool) : (zlu op a b t half).2 = 0 ∨ (zlu op a b t half).2 = 19 ∨ (zlu op a b t half).2 = 20 := by
 have := fun b' p q => z8z b' p q t half
 unfold zlu z14
 repeat' split
 all_goals first | exact .inr (.inr rfl) | exact (this _ _ _).elim (fun h => .inl h) (fun h => .inr (.inl h))
theorem zac4 {t : DataType} (ht : zkh t) {b : ByteArray} (h4 : (b.size : Int) = szE t) : ∀ n, zpm t b = some n → -((10 ^ t.Length.toNat : Nat) : Int) < n ∧ n < ((10 ^ t.Length.toNat : Nat) : Int) := by
 intro n hn
 obtain ⟨⟨l1, l2⟩, l3, l4⟩ := zgc ht
 unfold zpm at hn
 split at hn
 · split at hn
   · rename_i hh; cases hn; exact hh
   · cases hn
 · rename_i hk3; have key : ∀ l : List Int, (∀ d ∈ l, 0 ≤ d ∧ d ≤ 15) → (List.range (l.length - 1)).any (zks l t.Length) = false → (l.length : Int) - 1 - t.Length ≤ 1 → 0 ≤ zgd (l.take (l.length - 1)) ∧ zgd (l.take (l.length - 1)) < ((10 ^ t.Length.toNat : Nat) : Int) := by
    intro l hr hg hle; rw [List.any_eq_false] at hg; have g9 : ∀ i, i < l.length - 1 → 0 ≤ l.getD i 0 ∧ l.getD i 0 ≤ 9 := fun i hi => by
     have h1 := hg i (List.mem_range.2 hi); unfold zks at h1; have hx : l[i]? = some (l.getD i 0) := by rw [gdd, lge (by omega)]; rfl
     have h2 := hr _ (lmg hx); rw [Bool.or_eq_true, decide_eq_true_eq] at h1; omega
    have step : ∀ i, i ≤ l.length - 1 → 0 ≤ zgd (l.take i) ∧ (zgd (l.take i) < ((10 ^ (i - ((l.length : Int) - 1 - t.Length).toNat) : Nat) : Int)) := by
     intro i
     induction i with
     | zero => intro _; rw [List.take_zero]; exact ⟨by decide, by simp [zgd]⟩
     | succ i ih =>
      intro hi; have hx : l[i]? = some (l.getD i 0) := by rw [gdd, lge (by omega)]; rfl
      obtain ⟨i1, i2⟩ := ih (by omega); have hd := g9 i (by omega); rw [zel l i hx, zsm]; refine ⟨by omega, ?_⟩
      by_cases hlead : (i : Int) < (l.length : Int) - 1 - t.Length
      · have h1 := hg i (List.mem_range.2 (by omega)); unfold zks at h1; rw [Bool.or_eq_true, Bool.and_eq_true, decide_eq_true_eq, decide_eq_true_eq, decide_eq_true_eq] at h1; have h0 : l.getD i 0 = 0 := by
         refine cbc fun h2 => h1 (.inr ⟨by omega, hlead⟩)
        rw [show i - ((l.length : Int) - 1 - t.Length).toNat = 0 by omega, Nat.pow_zero] at i2; rw [h0, show i + 1 - ((l.length : Int) - 1 - t.Length).toNat = 0 by omega, Nat.pow_zero]; omega
      · rw [show i + 1 - ((l.length : Int) - 1 - t.Length).toNat = (i - ((l.length : Int) - 1 - t.Length).toNat) + 1 by omega, Nat.pow_succ]; omega
    obtain ⟨s1, s2⟩ := step (l.length - 1) (Nat.le_refl _); refine ⟨s1, ?_⟩; have hpw : 10 ^ (l.length - 1 - ((l.length : Int) - 1 - t.Length).toNat) ≤ 10 ^ t.Length.toNat := zcs (by omega); omega
   have hbs := h4; rw [zv3 ht] at hbs; obtain ⟨_, k1, k2⟩ := ht; have hlen : ((if t.Kind = 1 then zkd (bl b) else zeh (bl b)).length : Int) - 1 - t.Length ≤ 1 := by
    by_cases hk1 : t.Kind = 1
    · rw [ifp hk1] at hbs; rw [ifp hk1, ztj, zax]; omega
    · rw [ifn hk1, ifn hk3] at hbs; rw [ifn hk1]; unfold zeh zgl; rw [lna, lnm, zax, lns]; omega
   have hrange : ∀ d ∈ (if t.Kind = 1 then zkd (bl b) else zeh (bl b)), 0 ≤ d ∧ d ≤ 15 := by
    split
    · exact zu3.1
    · exact zu3.2
   generalize (if t.Kind = 1 then zkd (bl b) else zeh (bl b)) = l at *; unfold z2o at hn
   by_cases hbad : (List.range (l.length - 1)).any (zks l t.Length) = true ∨ zna l < 10
   · rw [ifp hbad] at hn; cases hn
   · rw [ifn hbad] at hn; rw [not_or] at hbad; obtain ⟨q1, q2⟩ := key l hrange (by simpa using hbad.1) hlen; have hn2 := Option.some.inj hn; split at hn2 <;> omega
def mI (p : zB) (s : zC) (e : Int) : zD := ⟨p, s, znv p.zA, e⟩
def mS (s : zC) (t : Storage) : zC := ⟨t, s.At, s.Stack, s.Lines, s.Status, s.Exception, s.Steps⟩
def mK (s : zC) (l : List Int) : zC := ⟨s.Storage, s.At, l, s.Lines, s.Status, s.Exception, s.Steps⟩
def mL (s : zC) (l : List ByteArray) : zC := ⟨s.Storage, s.At, s.Stack, l, s.Status, s.Exception, s.Steps⟩
def mT (s : zC) (k : Int) : zC := ⟨s.Storage, s.At, s.Stack, s.Lines, k, s.Exception, s.Steps⟩
def mA (s : zC) (k : Int) : zC := ⟨s.Storage, k, s.Stack, s.Lines, s.Status, s.Exception, s.Steps⟩
def mE (s : zC) (k : Int) : zC := ⟨s.Storage, s.At, s.Stack, s.Lines, s.Status, k, s.Steps⟩
def mP (s : zC) (k : Int) : zC := ⟨s.Storage, s.At, s.Stack, s.Lines, s.Status, s.Exception, k⟩
theorem z7o (p : zB) (s : zC) (n : Int) : zt (mI p s 0) n = some (mI p s n) := rfl
theorem zu4 (p : zB) (s : zC) {e : Int} (he : e ≠ 0) (n : Int) : zt (mI p s e) n = some (mI p s e) := by
 unfold zt
 rw [show (mI p s e).raised = e from rfl, zcn, dcf he]
 rfl
structure StoP (p : zB) (t : Storage) : Prop where
 sto : zo9 t
 size : (t.Bytes.size : Int) = 16 * zkm p.zA
section
variable {p : zB}
theorem z34 (h : ProgV p) : 0 ≤ sAt p.zA p.zA.length ∧ sAt p.zA p.zA.length ≤ 16 * zkm p.zA := by
 have h1 := zrf p.zA p.zA.length
 have h2 := zpu h.ok p.zA.length (Nat.le_refl _)
 unfold zkm
 have : sAt p.zA p.zA.length = pAt p.zA p.zA.length + zlw p.zA p.zA.length := rfl
 omega
theorem zns {i : Nat} (hi : i < p.zA.length) : idx (znv p.zA) (i : Int) = some (zdh p.zA i) := by
 rw [zai]
 exact zqe _ hi
theorem zx5 (h : ProgV p) {i : Nat} (hi : i < p.zA.length) (h3 : (og p.zA i).Kind = 3) {t : Storage} (hs : StoP p t) : zt5 t (zdh p.zA i) = true ∧ 0 ≤ zdh p.zA i ∧ zdh p.zA i % 16 = 0 ∧ zdh p.zA i + 16 ≤ (t.Bytes.size : Int) := by
 have e : zdh p.zA i = pAt p.zA i := by unfold zdh; rw [ifp h3]
 have b1 := zrf p.zA i
 have b2 := z83 p.zA (show i + 1 ≤ p.zA.length by omega)
 have e2 : pAt p.zA (i + 1) = pAt p.zA i + 16 := by
  show pAt p.zA i + (if (og p.zA i).Kind = 3 then 16 else 0) = _; rw [ifp h3]
 have b3 := zpu h.ok p.zA.length (Nat.le_refl _)
 have b4 := z34 h
 have e4 : sAt p.zA p.zA.length = pAt p.zA p.zA.length + zlw p.zA p.zA.length := rfl
 have hz := hs.size
 rw [e]
 refine ⟨?_, b1.1, b1.2.2, by omega⟩
 unfold zt5
 rw [dct b1.1, dct b1.2.2, dct (by omega)]
 rfl
theorem z4m (h : ProgV p) {i : Nat} (hi : i < p.zA.length) (hk : (og p.zA i).Kind = 0 ∨ (og p.zA i).Kind = 1) {t : Storage} (hs : StoP p t) : 0 ≤ zdh p.zA i ∧ zdh p.zA i + szE (og p.zA i).zJ ≤ (t.Bytes.size : Int) := by
 have b1 := zrf p.zA p.zA.length
 have b4 := z34 h
 have hz := hs.size
 have key : ∀ j, j < p.zA.length → (og p.zA j).Kind = 0 → 0 ≤ sAt p.zA j ∧ sAt p.zA j + szE (og p.zA j).zJ ≤ (t.Bytes.size : Int) := by
  intro j hj h0; have b2 := zpu h.ok j (by omega); have b3 := z67 h.ok (Nat.le_refl p.zA.length) (show j + 1 ≤ p.zA.length by omega); have e2 : zlw p.zA (j + 1) = zlw p.zA j + szE (og p.zA j).zJ := by
   show zlw p.zA j + (if (og p.zA j).Kind = 0 then szE (og p.zA j).zJ else 0) = _; rw [ifp h0]
  have e4 : sAt p.zA p.zA.length = pAt p.zA p.zA.length + zlw p.zA p.zA.length := rfl; have e5 : sAt p.zA j = pAt p.zA p.zA.length + zlw p.zA j := rfl; omega
 unfold zdh
 rcases hk with h0 | h1
 · rw [ifn, ifp h0]; exact key i hi h0
 · obtain ⟨b, e1, e2, e3, e4, e5⟩ := z1f h.ok hi h1; have := key b (by omega) e3; rw [ifn, ifn, ifp h1, e1, itn]; have hz := zeu ((zkf h.ok hi).ty (by rw [h1]; rfl)).1; omega
theorem z9n (N : Nat) (l : List zF) (h : l.length < N) (hl : l.length < 1000000000) (o : zF) : zh N l o = some (nmI l o.Base) := by
 unfold zh nmI
 have l1 := zbh (f := zh.r0 N) (fun i => (l, (l.length : Int), (i : Int), o)) (gNm l o.Base) l.length
  (fun i hi => by
   have hx := lge hi; simp only [zh.r0, zh.b0, zez, zai, hx, obs, dct (show (i : Int) < (l.length : Int) by omega), ctr, gNm]; rw [w6e]; cases (l[i].Name.toList == o.Base.toList) <;> rfl)
  (by simp only [zh.r0, zh.b0, dcf (show ¬ (l.length : Int) < (l.length : Int) by omega), cfa]) h
 simp only [nc0] at l1
 rw [l1]
 cases (List.range l.length).findSome? (gNm l o.Base) <;> rfl
theorem z6t (N : Nat) (hN : 10 < N) {o : zF} (h : zfp o.zJ = 0) : zdn N o = some (szE o.zJ) := by
 unfold zdn zik
 rw [zrg N hN, h]
 simp [z26 h]
theorem zvt (N : Nat) (hN : 2000 < N) (h : ProgV p) {s : zC} (hs : StoP p s.Storage) {i : Nat} (hi : i < p.zA.length) (h3 : (og p.zA i).Kind = 3) (e : Int) :
 zb0 N (mI p s e) (i : Int) = some (match ldV s.Storage (zdh p.zA i) with | some o => (zka o, zdh p.zA i, mI p s e) | none => (z40, zdh p.zA i, mI p s (if e = 0 then 4 else e))) := by
 unfold zb0
 rw [show (mI p s e).layout = znv p.zA from rfl, zns hi, show (mI p s e).zC.Storage = s.Storage from rfl]
 simp only [obs]
 rw [zae4 N hN hs.sto (zx5 h hi h3 hs).1]
 cases ldV s.Storage (zdh p.zA i) with
 | some o => rfl
 | none =>
  simp only [obs]
  by_cases he : e = 0
  · subst he; rfl
  · rw [zu4 p s he, ifn he]; rfl
def adI (p : zB) (t : Storage) (i : Nat) : Except Int Int :=
 if (og p.zA i).Kind = 2 then (match ldV t (zdh p.zA (nmI p.zA (og p.zA i).Base).toNat) with
  | none => .error 4
  | some o => if o + (og p.zA i).Offset > (t.Bytes.size : Int) - szE (og p.zA i).zJ then .error 5 else .ok (o + (og p.zA i).Offset))
 else .ok (zdh p.zA i)
theorem zhr {i : Nat} (hi : i < p.zA.length) : idx p.zA (i : Int) = some (og p.zA i) := by
 rw [zai, zqm hi]
theorem zacx {k : Int} (h : isS k = true) : k = 0 ∨ k = 1 ∨ k = 2 := by
 unfold isS at h
 simp only [Bool.or_eq_true, decide_eq_true_eq] at h
 omega
theorem zt7 {k : Int} (h : isS k = true) : isD k = true := by unfold isD; rw [h]; rfl
theorem z65 (N : Nat) (hN : 2000 < N) (h : ProgV p) {s : zC} (hs : StoP p s.Storage) {i : Nat} (hi : i < p.zA.length) (hk : isS (og p.zA i).Kind = true) :
 (∃ e j k, (e = 4 ∨ e = 5) ∧ adI p s.Storage i = .error e ∧ za2 N (mI p s 0) (i : Int) = some (j, mI p s e) ∧ zdz N p s (i : Int) = some (k, e)) ∨
 ∃ a, adI p s.Storage i = .ok a ∧ za2 N (mI p s 0) (i : Int) = some (a, mI p s 0) ∧ zdz N p s (i : Int) = some (a, 0) ∧ 0 ≤ a ∧ a + szE (og p.zA i).zJ ≤ (s.Storage.Bytes.size : Int) := by
 have hl := hs.sto.le
 have n24 := h.n24
 have hty := ((zkf h.ok hi).ty (zt7 hk)).1
 have hsz := zeu hty
 unfold za2 zdz adI
 rw [show (mI p s 0).zB = p from rfl, zhr hi, zfa N (by omega) h.ok]
 simp only [obs, zd1]
 by_cases h2 : (og p.zA i).Kind = 2
 · rw [ifp h2, dcf (fun hh => hh h2)]; obtain ⟨b, e1, e2, e3, e4, e5⟩ := z6c h.ok hi h2; have hb : b < p.zA.length := by omega
   simp only [cfa]; rw [z9n N _ (by omega) (by omega), z8e N p (by omega) (by omega), e1]; simp only [obs, itn]; rw [zvt N hN h hs hb e3, zns hb]; simp only [obs]; rw [z6k N hN hs.sto (zx5 h hb e3 hs).1]; cases hld : ldV s.Storage (zdh p.zA b) with
   | none => exact .inl ⟨4, _, _, .inl rfl, rfl, rfl, rfl⟩
   | some o =>
    have ho := z2m hs.sto hld; simp only [obs, show (zka o).Address.Offset = o from rfl, show (mI p s 0).raised = 0 from rfl, show (mI p s 0).zC = s from rfl, bsf, bst, ctr, cfa]; rw [z6t N (by omega) hty, zs5 hty]; simp only [obs]; rw [w6e (n := o + (og p.zA i).Offset), w6e (n := (s.Storage.Bytes.size : Int) - szE (og p.zA i).zJ)]; unfold z01; rw [zjg, zjg, w6e (n := (s.Storage.Bytes.size : Int) - (o + (og p.zA i).Offset))]; simp only [obs]
    by_cases hgt : o + (og p.zA i).Offset > (s.Storage.Bytes.size : Int) - szE (og p.zA i).zJ
    · left; rw [dct hgt, ifp hgt]; refine ⟨5, _, 0, .inr rfl, rfl, rfl, ?_⟩
      by_cases h1 : inB (o + (og p.zA i).Offset) 0 (s.Storage.Bytes.size : Int) = true
      · rw [h1, ctr]; rw [show inB (szE (og p.zA i).zJ) 0 ((s.Storage.Bytes.size : Int) - (o + (og p.zA i).Offset)) = false by
         cases hh : inB (szE (og p.zA i).zJ) 0 ((s.Storage.Bytes.size : Int) - (o + (og p.zA i).Offset)) with
         | false => rfl
         | true => have := zbf.1 hh; omega]
        rfl
      · rw [show inB (o + (og p.zA i).Offset) 0 (s.Storage.Bytes.size : Int) = false by simpa using h1]; rfl
    · right; rw [dcf hgt, ifn hgt]; refine ⟨_, rfl, rfl, ?_, by omega, by omega⟩; rw [show inB (o + (og p.zA i).Offset) 0 (s.Storage.Bytes.size : Int) = true from zbf.2 ⟨by omega, by omega⟩, ctr, show inB (szE (og p.zA i).zJ) 0 ((s.Storage.Bytes.size : Int) - (o + (og p.zA i).Offset)) = true from zbf.2 ⟨by omega, by omega⟩]; rfl
 · have hk2 := zacx hk; have hd := z4m h hi (by omega) hs; rw [ifn h2, dct h2, show (mI p s 0).layout = znv p.zA from rfl, zns hi]; exact .inr ⟨_, rfl, rfl, rfl, hd.1, hd.2⟩
theorem z8b (N : Nat) (hN : 2000 < N) (h : ProgV p) {s : zC} (hs : StoP p s.Storage) {i : Nat} (hi : i < p.zA.length) (hk : isS (og p.zA i).Kind = true) {e : Int} (he : e ≠ 0) :
 ∃ j, za2 N (mI p s e) (i : Int) = some (j, mI p s e) := by
 have n24 := h.n24
 unfold za2
 rw [show (mI p s e).zB = p from rfl, zhr hi]
 simp only [obs, zd1]
 by_cases h2 : (og p.zA i).Kind = 2
 · rw [dcf (fun hh => hh h2)]; obtain ⟨b, e1, e2, e3, e4, e5⟩ := z6c h.ok hi h2; have hb : b < p.zA.length := by omega
   simp only [cfa]; rw [z9n N _ (by omega) (by omega), e1]; simp only [obs]; rw [zvt N hN h hs hb e3]; cases hld : ldV s.Storage (zdh p.zA b) with
   | none =>
    simp only [obs, ifn he]; rw [show (mI p s e).raised = e from rfl, zcn, dcf he]; exact ⟨_, rfl⟩
   | some o =>
    simp only [obs]; rw [show (mI p s e).raised = e from rfl, zcn, dcf he]; exact ⟨_, rfl⟩
 · rw [dct h2, show (mI p s e).layout = znv p.zA from rfl, zns hi]; exact ⟨_, rfl⟩
end
def zvd (o : zF) : ByteArray := if o.zJ.Kind = 0 then o.Value.S else z0l o.zJ o.Value.N
theorem zaby (N : Nat) (n len : Nat) (hn : n ≤ 1000000000000000000) (hl : len ≤ 300) (hN : len < N) : ∃ l, zba N (n : Int) (len : Int) = some l := by
 unfold zba
 rw [ifp, ifp, itn, zao (by omega), ctr, w6e]
 obtain ⟨s', h1, _⟩ := zzh (f := zba.r0 N) (fun i s => ∃ q P, s = (((q : Nat) : Int), P, (len : Int) - 1 - (i : Int)) ∧ q ≤ n ∧ P.length = len) len
  (fun i s hi hs => by
   obtain ⟨q, P, rfl, h1, h2⟩ := hs; obtain ⟨x, hx⟩ : ∃ x, P[((len : Int) - 1 - (i : Int)).toNat]? = some x := ⟨_, lge (by omega)⟩; simp only [zba.r0, zba.b0, dct (show (len : Int) - 1 - (i : Int) ≥ 0 by omega), ctr, h2]; rw [ifp, ifp, hx]; simp only [obs]; rw [tde, w6e (n := (q : Int) / 10), w6e (n := (len : Int) - 1 - (i : Int) - 1)]; exact ⟨_, rfl, q / 10, _, by rw [show (q : Int) / 10 = ((q / 10 : Nat) : Int) by omega, show (len : Int) - 1 - (i : Int) - 1 = (len : Int) - 1 - ((i + 1 : Nat) : Int) by omega], by omega, by rw [List.length_set]; exact h2⟩)
  (fun s hs => by
   obtain ⟨q, P, rfl, h1, h2⟩ := hs; exact ⟨_, by simp only [zba.r0, zba.b0, dcf (show ¬ (len : Int) - 1 - (len : Int) ≥ 0 by omega), cfa], q, P, rfl, h1, h2⟩) (N := N) hN (s := ((n : Int), List.replicate len 0, (len : Int) - 1)) ⟨n, _, by rw [show (len : Int) - 1 - ((0 : Nat) : Int) = (len : Int) - 1 by omega], Nat.le_refl _, by rw [lnr]⟩
 rw [h1]
 exact ⟨_, rfl⟩
theorem zae1 {t : DataType} {v : Value} (ht : zkh t) (hv : zhx t v = 0) : v = ⟨v.N, ⟨#[]⟩⟩ ∧ -((10 ^ t.Length.toNat : Nat) : Int) < v.N ∧ v.N < ((10 ^ t.Length.toNat : Nat) : Int) := by
 obtain ⟨_, k1, k2⟩ := ht
 unfold zhx at hv
 rw [ifn] at hv
 split at hv
 · cases hv
 · rename_i h1; split at hv
   · rename_i h2; have := zbf.1 h2; unfold zqn at this; have h3 : v.S = e0 := cbc h1; obtain ⟨n, s⟩ := v; simp only at h3; subst h3; exact ⟨rfl, by omega, by omega⟩
   · cases hv
theorem z28 (N : Nat) (hN : 400 < N) {o : zF} (ht : zfp o.zJ = 0) (h4 : o.zJ.Kind ≠ 4) (hv : zhx o.zJ o.Value = 0) : zc8 N o.zJ o.Value = some (zvd o, 0) ∧ zbe N o.zJ o.Value = some (zvd o) ∧ ((zvd o).size : Int) = szE o.zJ := by
 by_cases h0 : o.zJ.Kind = 0
 · unfold zvd; rw [ifp h0]; have hv' := hv; unfold zhx at hv'; rw [ifp h0] at hv'; have hn : o.Value.N = 0 := by
    refine cbc fun h => ?_; rw [ifp h] at hv'; cases hv'
   rw [ifn (fun h => h hn)] at hv'; have hsz : (o.Value.S.size : Int) = o.zJ.Length := by
    refine cbc fun h => ?_; rw [ifp h] at hv'; cases hv'
   have hlen : 1 ≤ o.zJ.Length ∧ o.zJ.Length ≤ 256 := by
    rcases zpr ht with ⟨_, h⟩ | ⟨h | h, _⟩ | ⟨h, _⟩ | ⟨h, _⟩
    · exact h
    all_goals omega
   refine ⟨?_, ?_, ?_⟩
   · unfold zc8; rw [z9a N (by omega) ht h4, hv]; simp only [obs, bsf, cfa]; unfold zac; obtain ⟨l, hl⟩ := zaby N 0 o.zJ.Length.toNat (by decide) (by omega) (by omega); rw [hn, show (if w6 (0 - 0) > 0 then w6 (0 - 0) else 0) = ((0 : Nat) : Int) from rfl, show o.zJ.Length = ((o.zJ.Length.toNat : Nat) : Int) by omega, hl, h0]; rfl
   · unfold zbe; rw [h0]; rfl
   · unfold szE; rw [ifn, ifn, ifn]; exact hsz
 · have hn := z5g ht h0 h4; obtain ⟨e1, e2, e3⟩ := zae1 hn hv; unfold zvd; rw [ifn h0]; rw [e1]; exact ⟨z7j N (by omega) hn _ ⟨e2, e3⟩, z8u N (by omega) hn _ ⟨e2, e3⟩, z71 hn _⟩
section
variable {p : zB}
theorem z7n {k : Int} (h : isD k = true) : isS k = true ∨ k = 4 := by
 unfold isD at h
 rw [Bool.or_eq_true, decide_eq_true_eq] at h
 exact h
def byI (p : zB) (t : Storage) (i : Nat) : Except Int ByteArray :=
 if (og p.zA i).Kind = 4 then .ok (zvd (og p.zA i)) else match adI p t i with
  | .error e => .error e
  | .ok a => .ok (t.Bytes.extract a.toNat (a + szE (og p.zA i).zJ).toNat)
theorem zyl (N : Nat) (hN : 2000 < N) (h : ProgV p) {s : zC} (hs : StoP p s.Storage) {i : Nat} (hi : i < p.zA.length) (hk : isD (og p.zA i).Kind = true) :
 (∃ e k, (e = 4 ∨ e = 5) ∧ byI p s.Storage i = .error e ∧ zah N (mI p s 0) (i : Int) = some (⟨#[]⟩, mI p s e) ∧ zj3 N p s (i : Int) = some (k, e)) ∨
 ∃ b, byI p s.Storage i = .ok b ∧ zah N (mI p s 0) (i : Int) = some (b, mI p s 0) ∧ zj3 N p s (i : Int) = some (b, 0) ∧ (b.size : Int) = szE (og p.zA i).zJ := by
 have ho := zkf h.ok hi
 obtain ⟨hty, hk4⟩ := ho.ty hk
 have hsz := zeu hty
 have hl := hs.sto.le
 unfold byI zah zj3
 rw [show (mI p s 0).zB = p from rfl, zhr hi]
 simp only [obs, zcn]
 by_cases h4 : (og p.zA i).Kind = 4
 · obtain ⟨e1, e2, e3⟩ := z28 N (by omega) hty hk4 (ho.val (.inr h4)); rw [ifp h4, dct h4, ctr, ctr, e1, e2]; exact .inr ⟨_, rfl, rfl, rfl, e3⟩
 · rw [ifn h4, dcf h4, cfa, cfa]; have hS := (z7n hk).resolve_right h4; rcases z65 N hN h hs hi hS with ⟨e, j, k, he, h1, h2, h3⟩ | ⟨a, h1, h2, h3, h4, h5⟩
   · left; rw [h1, h2, h3]; refine ⟨e, ⟨#[]⟩, he, rfl, ?_, ?_⟩
     · rcases he with rfl | rfl <;> rfl
     · rcases he with rfl | rfl <;> rfl
   · right; rw [h1, h2, h3]; simp only [obs, show (mI p s 0).raised = 0 from rfl, bsf, cfa]; rw [z6t N (by omega) hty, zs5 hty]; simp only [obs, show (mI p s 0).zC = s from rfl]; have c1 : 0 ≤ a + szE (og p.zA i).zJ ∧ a + szE (og p.zA i).zJ ≤ (s.Storage.Bytes.size : Int) := by omega
     have c2 : 0 ≤ a ∧ a ≤ a + szE (og p.zA i).zJ := by omega
     rw [w6e]; simp only [ifp c1, ifp c2]; refine ⟨_, rfl, rfl, rfl, ?_⟩; rw [zdf _ _ _ (by omega) (by omega)]; omega
theorem z8a (N : Nat) (hN : 2000 < N) (h : ProgV p) {s : zC} (hs : StoP p s.Storage) {i : Nat} (hi : i < p.zA.length) (hk : isD (og p.zA i).Kind = true) {e : Int} (he : e ≠ 0) :
 ∃ b, zah N (mI p s e) (i : Int) = some (b, mI p s e) ∧ b.size ≤ 256 := by
 have ho := zkf h.ok hi
 obtain ⟨hty, hk4⟩ := ho.ty hk
 have hsz := zeu hty
 unfold zah
 rw [show (mI p s e).zB = p from rfl, zhr hi]
 simp only [obs, zcn]
 by_cases h4 : (og p.zA i).Kind = 4
 · obtain ⟨e1, e2, e3⟩ := z28 N (by omega) hty hk4 (ho.val (.inr h4)); rw [dct h4, ctr, e1]; exact ⟨_, rfl, by show (zvd (og p.zA i)).size ≤ 256; omega⟩
 · rw [dcf h4, cfa]; obtain ⟨j, hj⟩ := z8b N hN h hs hi ((z7n hk).resolve_right h4) he; rw [hj]; simp only [obs, show (mI p s e).raised = e from rfl, zd1, dct he, ctr]; exact ⟨_, rfl, by decide⟩
def nuI (p : zB) (t : Storage) (i : Nat) : Except Int Number :=
 match byI p t i with | .error e => .error e | .ok b => match zpm (og p.zA i).zJ b with | none => .error 1 | some n => .ok ⟨n, (og p.zA i).zJ.Scale⟩
theorem z2j (h : ProgV p) {i : Nat} (hi : i < p.zA.length) (hk : isD (og p.zA i).Kind = true) (hn : zdd (og p.zA i) = true) : zkh (og p.zA i).zJ := by
 obtain ⟨hty, hk4⟩ := (zkf h.ok hi).ty hk
 unfold zdd at hn
 exact z5g hty (of_decide_eq_true hn) hk4
theorem zags {t : DataType} (ht : zkh t) {n : Int} (h : -((10 ^ t.Length.toNat : Nat) : Int) < n ∧ n < ((10 ^ t.Length.toNat : Nat) : Int)) : zdq ⟨n, t.Scale⟩ := by
 obtain ⟨⟨l1, l2⟩, l3, l4⟩ := zgc ht
 have hpw : 10 ^ t.Length.toNat ≤ 10 ^ 15 := zcs (by omega)
 refine ⟨⟨?_, ?_⟩, l3, ?_⟩
 · show -999999999999999 ≤ n; omega
 · show n ≤ 999999999999999; omega
 · show t.Scale ≤ 15; omega
theorem zru (N : Nat) (hN : 2000 < N) (h : ProgV p) {s : zC} (hs : StoP p s.Storage) {i : Nat} (hi : i < p.zA.length) (hk : isD (og p.zA i).Kind = true) (hn : zdd (og p.zA i) = true) :
 (∃ e k, (e = 4 ∨ e = 5 ∨ e = 1) ∧ nuI p s.Storage i = .error e ∧ zp N (mI p s 0) (i : Int) = some (⟨0, 0⟩, mI p s e) ∧ zds N p s (i : Int) = some (k, e)) ∨
 ∃ n, nuI p s.Storage i = .ok n ∧ zp N (mI p s 0) (i : Int) = some (n, mI p s 0) ∧ zds N p s (i : Int) = some (n, 0) ∧ zdq n := by
 have ht := z2j h hi hk hn
 unfold nuI zp zds
 rcases zyl N hN h hs hi hk with ⟨e, k, he, h1, h2, h3⟩ | ⟨b, h1, h2, h3, h4⟩
 · left; rw [h1, h2, h3]; refine ⟨e, ⟨0, 0⟩, by omega, rfl, ?_, ?_⟩
   · rcases he with rfl | rfl <;> rfl
   · rcases he with rfl | rfl <;> rfl
 · obtain ⟨v1, a1, e1, g1, g2⟩ := zact N hN ht h4; obtain ⟨v2, a2, e2, g3, g4⟩ := zach N hN ht h4; rw [h1, h2, h3]; simp only [obs, show (mI p s 0).raised = 0 from rfl, show (mI p s 0).zB = p from rfl, bsf, cfa]; rw [zhr hi]; simp only [obs]; rw [g1, g3]; simp only [obs, z7o]; have hb := zac4 ht h4; cases hdv : zpm (og p.zA i).zJ b with
   | none =>
    rw [hdv] at g2 g4; simp only [] at g2 g4; left; refine ⟨1, ⟨0, 0⟩, by omega, rfl, ?_, ?_⟩
    · rw [zd1, dct g2]; rfl
    · rw [zd1, dct g4]; rfl
   | some n =>
    rw [hdv] at g2 g4; simp only [] at g2 g4; right; refine ⟨⟨n, (og p.zA i).zJ.Scale⟩, rfl, ?_, ?_, zags ht (hb n hdv)⟩
    · rw [g2.2, g2.1]; rfl
    · rw [g4.2, g4.1]; rfl
theorem z7h (N : Nat) (hN : 2000 < N) (h : ProgV p) {s : zC} (hs : StoP p s.Storage) {i : Nat} (hi : i < p.zA.length) (hk : isD (og p.zA i).Kind = true) {e : Int} (he : e ≠ 0) :
 zp N (mI p s e) (i : Int) = some (⟨0, 0⟩, mI p s e) := by
 unfold zp
 obtain ⟨b, hb, _⟩ := z8a N hN h hs hi hk he
 rw [hb]
 simp only [obs, show (mI p s e).raised = e from rfl, zd1, dct he, ctr]
def wrI (p : zB) (s : zC) (i : Nat) (d : ByteArray) : Except Int zC :=
 match adI p s.Storage i with | .error e => .error e | .ok a => .ok (mS s (wrV s.Storage a.toNat d))
theorem zaag (N : Nat) (hN : 2000 < N) (h : ProgV p) {s : zC} (hs : StoP p s.Storage) {i : Nat} (hi : i < p.zA.length) (hk : isS (og p.zA i).Kind = true) {d : ByteArray} (hd : (d.size : Int) = szE (og p.zA i).zJ) :
 (∃ e k, (e = 4 ∨ e = 5) ∧ wrI p s i d = .error e ∧ zaz N (mI p s 0) (i : Int) d = some (mI p s e) ∧ zdz N p s (i : Int) = some (k, e)) ∨
 ∃ a : Nat, wrI p s i d = .ok (mS s (wrV s.Storage a d)) ∧ zaz N (mI p s 0) (i : Int) d = some (mI p (mS s (wrV s.Storage a d)) 0) ∧ zdz N p s (i : Int) = some ((a : Int), 0) ∧ zc9 N s.Storage (a : Int) d = some (wrV s.Storage a d) ∧ StoP p (wrV s.Storage a d) := by
 have hty := ((zkf h.ok hi).ty (zt7 hk)).1
 have hsz := zeu hty
 unfold wrI zaz
 rcases z65 N hN h hs hi hk with ⟨e, j, k, he, h1, h2, h3⟩ | ⟨a, h1, h2, h3, h4, h5⟩
 · left; rw [h1, h2, h3]; refine ⟨e, k, he, rfl, ?_, rfl⟩; rcases he with rfl | rfl <;> rfl
 · right; obtain ⟨a, rfl⟩ : ∃ k : Nat, a = (k : Int) := ⟨a.toNat, by omega⟩; rw [h1, h2, h3]; have hw : a + d.size ≤ s.Storage.Bytes.size := by omega
   have hw0 : 0 < d.size := by omega
   refine ⟨a, rfl, ?_, rfl, z8r N hN hs.sto hw hw0, ⟨z8g hs.sto hw hw0, by rw [zyo hw]; exact hs.size⟩⟩; simp only [obs, show (mI p s 0).raised = 0 from rfl, show (mI p s 0).zC = s from rfl, bst, ctr]; rw [z8i N hN hs.sto hw hw0]; rfl
end
theorem z9m (b : ByteArray) (hb : b.size ≤ 5000) (n : Nat) (hn : n ≤ 5000) : zet b (n : Int) = some ⟨(bl b ++ List.replicate (n - b.size) 32).toArray⟩ := by
 have hmax : IntKind.i64.max = 9223372036854775807 := by decide
 unfold zet znn
 rw [w6e]
 have e : (if (0 : Int) > (n : Int) - (b.size : Int) then 0 else (n : Int) - (b.size : Int)) = ((n - b.size : Nat) : Int) := by split <;> omega
 have hs1 : (⟨#[32]⟩ : ByteArray).size = 1 := rfl
 rw [e, ifp ⟨by omega, by omega, by rw [hs1]; omega⟩, obs, itn, ztx, hmax]
 have hs : (⟨(List.replicate (n - b.size) (32 : UInt8)).toArray⟩ : ByteArray).size = n - b.size := by
  show (List.replicate (n - b.size) (32 : UInt8)).length = _; rw [lnr]
 rw [ifn (by rw [hs]; omega)]
 refine congrArg some (zi0 ?_)
 rw [zdl]
 rfl
def cmpT (a b : ByteArray) : Int := z2p (bl (zr4 a (max a.size b.size))) (bl (zr4 b (max a.size b.size)))
theorem z9o {R : Type} (a b : ByteArray) (ha : a.size ≤ 5000) (hb : b.size ≤ 5000) (k : Int → Option R) : ((zet a (b.size : Int)).bind fun r8 => (zet b (a.size : Int)).bind fun r9 => (zke r8 r9).bind k) = k (cmpT a b) := by
 unfold zke zea
 rw [z9m a ha b.size hb, z9m b hb a.size ha]
 simp only [obs]
 rw [z7x, z7x, Nat.max_comm b.size a.size, zag9 (by rw [z2i, z2i])]
 rfl
theorem zagl {R : Type} (N : Nat) (hN : 10000 < N) (a b : ByteArray) (ha : a.size ≤ 5000) (hb : b.size ≤ 5000) (k : Int → Option R) :
 ((zj7 N a (if (b.size : Int) > (a.size : Int) then (b.size : Int) else (a.size : Int))).bind fun r12 => (zj7 N b (if (b.size : Int) > (a.size : Int) then (b.size : Int) else (a.size : Int))).bind fun r13 =>
 (zbj (!((Op.bytesLess r12.toList r13.toList) || (r12.toList == r13.toList)))).bind fun r14 => (zbj (Op.bytesLess r12.toList r13.toList)).bind fun r15 => k (w6 (r14 - r15))) = k (cmpT a b) := by
 have e : (if (b.size : Int) > (a.size : Int) then (b.size : Int) else (a.size : Int)) = ((max a.size b.size : Nat) : Int) := by split <;> omega
 rw [e, z1p N hN a ha _ (by omega), z1p N hN b hb _ (by omega)]
 simp only [obs]
 rw [zn0, zn0, ziu, ziu]
 simp only [obs]
 unfold cmpT z2p
 generalize bl (zr4 a (max a.size b.size)) = x
 generalize bl (zr4 b (max a.size b.size)) = y
 cases hx : Op.bytesLess x y with
 | true => rfl
 | false =>
  rw [ifn (by decide)]; simp only [Bool.false_or, cfa]
  by_cases hxy : x = y
  · rw [hxy, ifp rfl]; simp only [bst, bnt, cfa]; rfl
  · rw [ifn hxy, show (x == y) = false from beq_eq_false_iff_ne.2 hxy]; rfl
theorem zz4 (N : Nat) (hN : 100 < N) {x : Number} (hx : zdq x) : zbw N x = some (zge x) := by
 have hx' := hx
 obtain ⟨⟨h1, h2⟩, h3, h4⟩ := hx'
 unfold zbw
 obtain ⟨k, hk⟩ : ∃ k : Nat, x.Scale = (k : Int) := ⟨x.Scale.toNat, by omega⟩
 have := za1 (f := zbw.r0 N) (fun i => (x.Scale, (i : Int), (⟨x.N.tdiv (10 ^ i), x.Scale⟩ : Number))) k
  (fun i hi => by
   have hb := Int.natAbs_tdiv_le_natAbs x.N (10 ^ i); have hb2 := Int.natAbs_tdiv_le_natAbs (x.N.tdiv (10 ^ i)) 10; simp only [zbw.r0, zbw.b0, hk, dct (show (i : Int) < (k : Int) by omega), ctr]; rw [w6e (n := (i : Int) + 1), w6e, zage]; rfl)
  (by simp only [zbw.r0, zbw.b0, hk, dcf (show ¬ (k : Int) < (k : Int) by omega), cfa]) (N := N) (by omega)
 simp only [nc0, Int.pow_zero, Int.tdiv_one, eN] at this
 rw [this]
 show some (x.N.tdiv (10 ^ k)) = some (zge x)
 unfold zge
 rw [hk, itn]
theorem z48 (N : Nat) (hN : 100 < N) {x : Number} (hx : zdq x) : zo2 N x = some (zge x) := by
 have hw := zwf hx
 obtain ⟨⟨h1, h2⟩, h3, h4⟩ := hx
 unfold zo2
 have hp := z4a N hN x.Scale.toNat (by omega)
 rw [Int.toNat_of_nonneg h3] at hp
 have hpos := zcx x.Scale.toNat
 rw [hp, obs, ifn, show ((10 ^ x.Scale.toNat : Nat) : Int) = 10 ^ x.Scale.toNat by rw [Int.natCast_pow]; rfl]
 show some (w6 (zge x)) = _
 rw [w6e]
theorem z0c (n lo hi : Int) : zct n lo hi = some (inB n lo hi) := by
 unfold zct inB
 cases decide (lo ≤ n) <;> rfl
section
variable {p : zB}
def zql (p : zB) (s : zC) (i : Nat) (r : Value × Int) : Except Int zC :=
 if r.2 = 20 then .error 3 else if r.2 = 19 then .error 2 else wrI p s i (z0l (og p.zA i).zJ r.1.N)
def zud (N : Nat) (p : zB) (s : zC) (i : Nat) (r : Value × Int) : Option (Int × zC) :=
 cond (r.2 == 20) (some (3, s)) (cond (r.2 != 0) (some (2, s)) ((zdz N p s (i : Int)).bind fun r19 => cond (r19.2 != 0) (some (r19.2, s)) ((zbe N (og p.zA i).zJ r.1).bind fun r20 =>
  (zc9 N s.Storage r19.1 r20).bind fun r21 => some (0, mS s r21))))
theorem zadz (N : Nat) (hN : 2000 < N) (h : ProgV p) {s : zC} (hs : StoP p s.Storage) {i : Nat} (hi : i < p.zA.length) (hk : isS (og p.zA i).Kind = true) (hn : zdd (og p.zA i) = true)
 {r : Value × Int} (hr : r.2 = 0 ∨ r.2 = 19 ∨ r.2 = 20) (hS : r.1 = ⟨r.1.N, ⟨#[]⟩⟩) (hb : r.2 = 0 → -((10 ^ (og p.zA i).zJ.Length.toNat : Nat) : Int) < r.1.N ∧ r.1.N < ((10 ^ (og p.zA i).zJ.Length.toNat : Nat) : Int)) :
 (∃ e, (2 ≤ e ∧ e ≤ 5) ∧ zql p s i r = .error e ∧ zap N (mI p s 0) (i : Int) r.1 r.2 = some (mI p s e) ∧ zud N p s i r = some (e, s)) ∨
 ∃ t, zql p s i r = .ok (mS s t) ∧ zap N (mI p s 0) (i : Int) r.1 r.2 = some (mI p (mS s t) 0) ∧ zud N p s i r = some (0, mS s t) ∧ StoP p t := by
 have ht := z2j h hi (zt7 hk) hn
 unfold zql zap zud
 rcases hr with h0 | h0 | h0
 · obtain ⟨b1, b2⟩ := hb h0; have hz := z71 ht r.1.N; rw [h0, ifn (by decide), ifn (by decide)]; simp only [show ((0 : Int) == 20) = false from rfl, show ((0 : Int) == 19) = false from rfl, bsf, cfa, show (mI p s 0).raised = 0 from rfl, bst, ctr, show (mI p s 0).zB = p from rfl]; rw [zhr hi, hS]; simp only [obs]; rw [z7j N (by omega) ht _ ⟨b1, b2⟩, z8u N (by omega) ht _ ⟨b1, b2⟩]; simp only [obs]; rcases zaag N hN h hs hi hk hz with ⟨e, k, he, h1, h2, h3⟩ | ⟨a, h1, h2, h3, h4, h5⟩
   · left; rw [h1, h2, h3]; refine ⟨e, by omega, rfl, rfl, ?_⟩; rcases he with rfl | rfl <;> rfl
   · right; rw [h1, h2, h3]; refine ⟨_, rfl, rfl, ?_, h5⟩; simp only [obs, bsf, cfa]; rw [h4]; rfl
 · left; rw [h0]; exact ⟨2, by decide, rfl, rfl, rfl⟩
 · left; rw [h0]; exact ⟨3, by decide, rfl, rfl, rfl⟩
theorem zabm (N : Nat) (s : zC) (i : Int) (v : Value) (c : Int) {e : Int} (he : e ≠ 0) : zap N (mI p s e) i v c = some (mI p s e) := by
 have hf : ((mI p s e).raised == 0) = false := by rw [show (mI p s e).raised = e from rfl, zcn]; exact dcf he
 unfold zap
 rw [zu4 p s he, zu4 p s he]
 simp only [obs, hf, cfa]
 cases (c == 20) <;> cases (c == 19) <;> rfl
structure StI (p : zB) (s : zC) : Prop where
 sto : StoP p s.Storage
 at0 : 0 ≤ s.At
 at1 : s.At < (p.zG.length : Int)
 stk : s.Stack.length ≤ 6
 calls : ∀ i ∈ s.Stack, (0 ≤ i ∧ i < (p.zG.length : Int)) ∧ ∃ x, p.zG[i.toNat]? = some x ∧ x.Op = 13
 lines : s.Lines.length ≤ 40
 long : ∀ l ∈ s.Lines, l.size ≤ 256
 st0 : 0 ≤ s.Status
 st1 : s.Status ≤ 3
 ex0 : 0 ≤ s.Exception
 ex1 : s.Exception ≤ 999
 sp0 : 0 ≤ s.Steps
 sp1 : s.Steps ≤ 300
theorem StI.S {s : zC} (h : StI p s) {t : Storage} (ht : StoP p t) : StI p (mS s t) := { sto := ht, at0 := h.at0, at1 := h.at1, stk := h.stk, calls := h.calls, lines := h.lines, long := h.long, st0 := h.st0, st1 := h.st1, ex0 := h.ex0, ex1 := h.ex1, sp0 := h.sp0, sp1 := h.sp1 }
theorem StI.K {s : zC} (h : StI p s) {l : List Int} (h1 : l.length ≤ 6) (h2 : ∀ i ∈ l, (0 ≤ i ∧ i < (p.zG.length : Int)) ∧ ∃ x, p.zG[i.toNat]? = some x ∧ x.Op = 13) : StI p (mK s l) := { sto := h.sto, at0 := h.at0, at1 := h.at1, stk := h1, calls := h2, lines := h.lines, long := h.long, st0 := h.st0, st1 := h.st1, ex0 := h.ex0, ex1 := h.ex1, sp0 := h.sp0, sp1 := h.sp1 }
theorem StI.T {s : zC} (h : StI p s) {k : Int} (h1 : 0 ≤ k) (h2 : k ≤ 3) : StI p (mT s k) := { sto := h.sto, at0 := h.at0, at1 := h.at1, stk := h.stk, calls := h.calls, lines := h.lines, long := h.long, st0 := h1, st1 := h2, ex0 := h.ex0, ex1 := h.ex1, sp0 := h.sp0, sp1 := h.sp1 }
theorem StI.A {s : zC} (h : StI p s) {k : Int} (h1 : 0 ≤ k) (h2 : k < (p.zG.length : Int)) : StI p (mA s k) := { sto := h.sto, at0 := h1, at1 := h2, stk := h.stk, calls := h.calls, lines := h.lines, long := h.long, st0 := h.st0, st1 := h.st1, ex0 := h.ex0, ex1 := h.ex1, sp0 := h.sp0, sp1 := h.sp1 }
theorem StI.E {s : zC} (h : StI p s) {k : Int} (h1 : 0 ≤ k) (h2 : k ≤ 999) : StI p (mE s k) := { sto := h.sto, at0 := h.at0, at1 := h.at1, stk := h.stk, calls := h.calls, lines := h.lines, long := h.long, st0 := h.st0, st1 := h.st1, ex0 := h1, ex1 := h2, sp0 := h.sp0, sp1 := h.sp1 }
theorem StI.P {s : zC} (h : StI p s) {k : Int} (h1 : 0 ≤ k) (h2 : k ≤ 300) : StI p (mP s k) := { sto := h.sto, at0 := h.at0, at1 := h.at1, stk := h.stk, calls := h.calls, lines := h.lines, long := h.long, st0 := h.st0, st1 := h.st1, ex0 := h.ex0, ex1 := h.ex1, sp0 := h1, sp1 := h2 }
theorem StI.L {s : zC} (h : StI p s) {l : ByteArray} (h1 : s.Lines.length < 40) (h2 : l.size ≤ 256) : StI p (mL s (s.Lines ++ [l])) := {
 sto := h.sto, at0 := h.at0, at1 := h.at1, stk := h.stk, calls := h.calls
 lines := by show (s.Lines ++ [l]).length ≤ 40; rw [lna, lns]; omega
 long := fun y hy => by
  rcases List.mem_append.1 (show y ∈ s.Lines ++ [l] from hy) with h3 | h3
  · exact h.long y h3
  · rw [List.mem_singleton.1 h3]; exact h2
 st0 := h.st0, st1 := h.st1, ex0 := h.ex0, ex1 := h.ex1, sp0 := h.sp0, sp1 := h.sp1 }
def ai (x : zI) (k : Nat) : Nat := (x.Args.getD k 0).toNat
def oa (p : zB) (x : zI) (k : Nat) : zF := og p.zA (ai x k)
def zqc (s : zC) (r : Except Int zC) : Except Int (Int × zC) := match r with | .error e => .error e | .ok t => .ok (s.At + 1, t)
def zabq (p : zB) (s : zC) (x : zI) (half : Bool) : Except Int zC := match nuI p s.Storage (ai x 1) with | .error e => .error e | .ok n => zql p s (ai x 0) (zol n (oa p x 0).zJ half)
def zaer (p : zB) (s : zC) (x : zI) : Except Int zC := match byI p s.Storage (ai x 1) with | .error e => .error e | .ok b => wrI p s (ai x 0) (zr4 b (oa p x 0).zJ.Length.toNat)
def z0u (p : zB) (s : zC) (x : zI) : Except Int zC := match nuI p s.Storage (ai x 1) with | .error e => .error e | .ok a => match nuI p s.Storage (ai x 2) with | .error e => .error e | .ok b => zql p s (ai x 0) (zlu (x.Op - 2) a b (oa p x 0).zJ false)
def z25 (p : zB) (s : zC) (x : zI) : Except Int Int :=
 if zdd (oa p x 0) = true then (match nuI p s.Storage (ai x 0) with | .error e => .error e | .ok a => match nuI p s.Storage (ai x 1) with | .error e => .error e | .ok b => .ok (z86 (zal a (zf a b)) (zal b (zf a b))))
 else match byI p s.Storage (ai x 0) with | .error e => .error e | .ok a => match byI p s.Storage (ai x 1) with | .error e => .error e | .ok b => .ok (cmpT a b)
def zt8 (op o : Int) : Bool := if op = 7 then decide (o = 0) else decide (o < 0)
def z43 (p : zB) (s : zC) (i : Nat) : Except Int ByteArray :=
 if zdd (og p.zA i) = true then (match nuI p s.Storage i with | .error e => .error e | .ok n => .ok (zw0 n)) else byI p s.Storage i
def zg8 (p : zB) (s : zC) (x : zI) : Except Int (Int × zC) :=
 match x.Op.toNat with
 | 0 => zqc s (if zdd (oa p x 0) = true then zabq p s x false else zaer p s x)
 | 1 => zqc s (zabq p s x true)
 | 2 => zqc s (z0u p s x)
 | 3 => zqc s (z0u p s x)
 | 4 => zqc s (z0u p s x)
 | 5 => zqc s (z0u p s x)
 | 6 => zqc s (z0u p s x)
 | 7 => (match z25 p s x with | .error e => .error e | .ok o => .ok (cond (zt8 7 o) (oa p x 2).Target (s.At + 1), s))
 | 8 => (match z25 p s x with | .error e => .error e | .ok o => .ok (cond (zt8 8 o) (oa p x 2).Target (s.At + 1), s))
 | 9 => .ok ((oa p x 0).Target, s)
 | 10 => zqc s (match adI p s.Storage (ai x 1) with | .error e => .error e | .ok a => .ok (mS s (stV s.Storage (zdh p.zA (ai x 0)).toNat a.toNat)))
 | 11 => zqc s (match ldV s.Storage (zdh p.zA (ai x 1)) with | none => .error 4 | some o => .ok (mS s (stV s.Storage (zdh p.zA (ai x 0)).toNat o.toNat)))
 | 12 => zqc s (match ldV s.Storage (zdh p.zA (ai x 0)) with
  | none => .error 4
  | some o => match nuI p s.Storage (ai x 1) with
   | .error e => .error e
   | .ok n => if inB (o + zge n) 0 16777215 = true then .ok (mS s (stV s.Storage (zdh p.zA (ai x 0)).toNat (o + zge n).toNat)) else .error 5)
 | 13 => if 6 ≤ s.Stack.length then .error 6 else .ok ((oa p x 0).Target, mK s (s.Stack ++ [s.At]))
 | 14 => if s.Stack.length = 0 then .ok (s.At, mT s 1) else .ok (s.Stack.getD (s.Stack.length - 1) 0 + 1, mK s (s.Stack.take (s.Stack.length - 1)))
 | 15 => (match nuI p s.Storage (ai x 0) with | .error e => .error e | .ok n => if inB (zge n) 100 999 = true then .error (zge n) else .error 2)
 | 16 => zqc s (zql p s (ai x 0) (zol ⟨s.Exception, 0⟩ (oa p x 0).zJ false))
 | 17 => (match z43 p s (ai x 0) with | .error e => .error e | .ok l => if s.Lines.length = 40 then .ok (s.At + 1, mT s 3) else .ok (s.At + 1, mL s (s.Lines ++ [l])))
 | _ => .ok (s.At + 1, mT s 1)
def zh7 (N : Nat) (p : zB) (s : zC) (x : zI) : Prop :=
 (∃ e nx ny t, zg8 p s x = .error e ∧ (1 ≤ e ∧ e ≤ 999) ∧ zd N (mI p s 0) x = some (nx, mI p s e) ∧ zaf N p s = some (ny, e, t)) ∨
 ∃ n k t, zg8 p s x = .ok (n, t) ∧ zd N (mI p s 0) x = some (n, mI p t 0) ∧ zaf N p s = some (k, 0, t) ∧ (t.Status = 0 → k = n ∧ 0 ≤ n ∧ n ≤ (p.zG.length : Int)) ∧ StI p t ∧ t.At = s.At ∧ t.Steps = s.Steps ∧ t.Exception = s.Exception
theorem zf1 (h : ProgV p) {x : zI} (hx : x ∈ p.zG) {k : Nat} {c : Int} (hc : (zjx x.Op)[k]? = some c) :
 idx x.Args (k : Int) = some ((ai x k : Nat) : Int) ∧ ai x k < p.zA.length ∧ ztu (oa p x k) (zq8 p x k) c = true := by
 have hi := h.ins x hx
 unfold zwr at hi
 split at hi
 · cases hi
 split at hi
 · cases hi
 rename_i h1 h2
 have hk := (gei hc).1
 have hkl : k < x.Args.length := by omega
 have hx := lge hkl
 have he : gA p x k = none := by
  cases hf : (List.range x.Args.length).findSome? (gA p x) with
  | none => exact zme.1 hf k hkl
  | some r =>
   exfalso
   rw [hf] at hi; simp only at hi; subst hi; obtain ⟨i, _, hi, _⟩ := zmc hf; unfold gA at hi; rw [Option.bind_eq_some_iff] at hi; obtain ⟨a, _, ha⟩ := hi; split at ha
   · split at ha
     · split at ha <;> cases ha
     · cases ha
   · cases ha
 unfold gA at he
 rw [hx, obs] at he
 split at he
 · rename_i hin; have := zbf.1 hin; have hai : ai x k = (x.Args[k]).toNat := by
    unfold ai; rw [gdd, hx]; rfl
   have hlt : ai x k < p.zA.length := by omega
   have ho := zqm hlt; rw [← hai, ho, hc] at he; simp only at he; refine ⟨by rw [zai, hx, hai]; congr 1; omega, hlt, ?_⟩; split at he
   · assumption
   · cases he
 · cases he
theorem zag0 (h : ProgV p) {x : zI} (hx : x ∈ p.zG) : 0 ≤ x.Op ∧ x.Op ≤ 18 := by
 have hi := h.ins x hx
 unfold zwr at hi
 split at hi
 · cases hi
 · rename_i h1; have := zbf.1 (show inB x.Op 0 18 = true by simpa using h1); exact this
end
end
end Go.Proofs.YtmifhmfokbigiaaGreatDoor.M
