/- The plain law of InterpretUnchanged: part 1. -/
import Derived.Test.YtmifhmfokbigiaaGreatDoorPInterpretUnchangedx0
namespace Go.Proofs.YtmifhmfokbigiaaGreatDoor.M
open Go Go.Amx
set_option linter.unusedVariables false
set_option linter.unusedSimpArgs false
set_option maxRecDepth 100000
set_option exponentiation.threshold 3000
noncomputable section
theorem zrv (l : List Int) (x : Int) : dv (l ++ [x]) = dv l + 10 ^ l.length * x.toNat := by
 rw [zw3]; simp [dv]
theorem zx5 (l : List Int) (i : Nat) {x : Int} (h : l[i]? = some x) : dv (l.take (i + 1)) = dv (l.take i) + 10 ^ i * x.toNat := by
 have hl := (gei h).1
 rw [zeg l i h, zrv, lnt, Nat.min_eq_left (Nat.le_of_lt hl)]
theorem ztt (l : List Int) (i : Nat) {x : Int} (h : l[i]? = some x) : dv (l.drop i) = x.toNat + 10 * dv (l.drop (i + 1)) := by
 obtain ⟨h1, h2⟩ := gei h
 rw [List.drop_eq_getElem_cons h1, h2]; rfl
theorem ztu {l : List Int} (h : dok l) {x : Int} (h0 : 0 ≤ x) (h1 : x < 10) : dok (l ++ [x]) := zz2 h fun d hd => by
 rcases List.mem_cons.1 hd with rfl | hd
 · exact ⟨h0, h1⟩
 · cases hd
theorem zaan {l : List Int} (h : dok l) (hc : zqx l) (hl : l ≠ []) : 10 ^ (l.length - 1) ≤ dv l := by
 refine cbc fun hn => ?_
 have := (zi0 (dv l) (l.length - 1)).2 (by omega)
 rw [z5c h hc] at this
 have : l.length ≠ 0 := fun h => hl (List.length_eq_zero_iff.1 h)
 omega
theorem zabe {l : List Int} (h : dok l) (hg : l ≠ [] → 10 ^ (l.length - 1) ≤ dv l) : zqx l := by
 unfold zqx
 intro hlast
 have hne : l ≠ [] := by intro h; rw [h] at hlast; cases hlast
 have hg' := hg hne
 have hlen : l.length ≠ 0 := fun h => hne (List.length_eq_zero_iff.1 h)
 have hx : l[l.length - 1]? = some 0 := by rw [← List.getLast?_eq_getElem?]; exact hlast
 have := zx5 l (l.length - 1) hx
 rw [show l.length - 1 + 1 = l.length by omega, List.take_length] at this
 have hlt := z5a (z35 h (l.length - 1))
 rw [lnt, Nat.min_eq_left (by omega)] at hlt
 simp only [Int.toNat_zero, Nat.mul_zero, Nat.add_zero] at this
 omega
theorem zu9 {l : List Int} (h : dok l) {i : Nat} {x : Int} (hx : l[i]? = some x) : 0 ≤ x ∧ x < 10 := h x (lmg hx)
theorem zvp (N : Nat) (l : List Int) (h : dok l) (hN : l.length < N) (hl : l.length < 1000000) : zem N l = some (dg (dv l)) := by
 unfold zem
 obtain ⟨s', h1, h2⟩ := zns (f := zem.r0 N) (fun s => dok s ∧ dv s = dv l ∧ s.length < 1000000) (fun s => s.length) (fun s => s = dg (dv l))
  (fun s hs => by
   obtain ⟨s1, s2, s3⟩ := hs; simp only [zem.r0, zem.b0]
   by_cases h0 : s.length = 0
   · have hn : s = [] := List.length_eq_zero_iff.1 h0; right; rw [dcf (by omega)]; refine ⟨s, rfl, ?_⟩; rw [← s2, hn]; exact zng.symm
   · obtain ⟨x, hx⟩ : ∃ x, s[s.length - 1]? = some x := zfc (by omega); rw [dct (show (s.length : Int) > 0 by omega), w6e, show (s.length : Int) - 1 = ((s.length - 1 : Nat) : Int) by omega, zai, hx]; simp only [ctr, obs]
     by_cases hz : x = 0
     · left; rw [zcn, dct hz, ctr, ifp, ifp]; refine ⟨_, rfl, ⟨?_, ?_, ?_⟩, ?_⟩
       · rw [itn, show (0 : Int).toNat = 0 from rfl, dr0]; exact z35 s1 _
       · rw [itn, show (0 : Int).toNat = 0 from rfl, dr0, ← s2]; have := zx5 s (s.length - 1) hx; rw [show s.length - 1 + 1 = s.length by omega, List.take_length, hz] at this; simp only [Int.toNat_zero, Nat.mul_zero, Nat.add_zero] at this; exact this.symm
       · rw [itn, show (0 : Int).toNat = 0 from rfl, dr0, lnt]; omega
       · rw [itn, show (0 : Int).toNat = 0 from rfl, dr0, lnt]; omega
     · right; rw [zcn, dcf hz, cfa]; refine ⟨s, rfl, ?_⟩; rw [← s2]; refine (z5c s1 ?_).symm; unfold zqx; rw [List.getLast?_eq_getElem?, hx]; intro h; exact hz (Option.some.inj h))
  (N := N) (s := l) ⟨h, rfl, hl⟩ hN
 rw [h1, h2]
 rfl
theorem zaa8 {n : Nat} (h : n ≠ 0) : (dg n).length = (dg (n / 10)).length + 1 := by rw [zsq h, lnc]
theorem z01 (N : Nat) (hN : 1000 < N) (n : Int) (hn : -1000000000000000 ≤ n ∧ n ≤ 1000000000000000) (z : Nat) (hz : z < 100) : zfi N n (z : Int) = some ⟨decide (n < 0), dg (n.natAbs * 10 ^ z)⟩ := by
 unfold zfi zna
 rw [ifp, ifp, za0 (by omega), ctr, zsr (by omega) (by omega), itn]
 simp only [obs]
 have hd19 : (dg n.natAbs).length ≤ 18 := (zi0 _ 18).2 (by omega)
 obtain ⟨s', h1, h2⟩ := zns (f := zfi.r0 N) (fun s => ∃ (l : List Int) (x : Nat), s = (n, l, (x : Int), (⟨false, []⟩ : zK)) ∧ dok l ∧ dv l + 10 ^ l.length * x = n.natAbs * 10 ^ z ∧ l.length + (dg x).length ≤ 200 ∧ x ≤ 1000000000000000)
  (fun s => (dg s.2.2.1.toNat).length) (fun s => ∃ l : List Int, s = (n, l, 0, (⟨false, []⟩ : zK)) ∧ dok l ∧ dv l = n.natAbs * 10 ^ z ∧ l.length ≤ 200)
  (fun s hs => by
   obtain ⟨l, x, rfl, s1, s2, s3, s4⟩ := hs; simp only [zfi.r0, zfi.b0]
   by_cases h0 : x = 0
   · right; subst h0; refine ⟨_, rfl, l, rfl, s1, by rw [← s2]; simp, by omega⟩
   · left; have hl := zaa8 h0; rw [dct (show (x : Int) > 0 by omega), ctr, za0 (by simp only [lnc, ln0]; omega), ctr, tme, tde, w6e]; refine ⟨_, rfl, ⟨l ++ [((x % 10 : Nat) : Int)], x / 10, ?_, ztu s1 (by omega) (by omega), ?_, ?_, by omega⟩, ?_⟩
     · rw [show (x : Int) % 10 = ((x % 10 : Nat) : Int) by omega, show (x : Int) / 10 = ((x / 10 : Nat) : Int) by omega]
     · rw [zrv, itn, lna, lns, Nat.pow_succ, ← s2, Nat.mul_assoc, Nat.add_assoc, ← Nat.mul_add]
       congr 2
       omega
     · rw [lna, lns]; omega
     · show (dg ((x : Int) / 10).toNat).length < (dg ((x : Int)).toNat).length; rw [itn, show ((x : Int) / 10).toNat = x / 10 by omega]; omega)
  (N := N) (s := (n, List.replicate z 0, ((n.natAbs : Nat) : Int), (⟨false, []⟩ : zK))) ⟨List.replicate z 0, n.natAbs, rfl, zu6 z, by rw [zwm, lnr, Nat.zero_add, Nat.mul_comm], by rw [lnr]; omega, by omega⟩ (by show (dg (((n.natAbs : Nat) : Int)).toNat).length < N; rw [itn]; omega)
 obtain ⟨l, rfl, l1, l2, l3⟩ := h2
 rw [h1]
 simp only [obs]
 rw [zvp N l l1 (by omega) (by omega), l2]
 rfl
theorem zka {l : List Int} {i : Nat} (h : l.length ≤ i) : dv (l.drop i) = 0 := by rw [List.drop_of_length_le h]; rfl
theorem zadm (O c x y A B T P : Nat) (hP : O + P * (c + (x + 10 * A) + (y + 10 * B)) = T) : O + P * ((c + x + y) % 10) + P * 10 * ((c + x + y) / 10 + A + B) = T := by
 rw [← hP, Nat.mul_assoc, Nat.add_assoc, ← Nat.mul_add]
 congr 2
 omega
theorem z98 (N : Nat) (hN : 4000 < N) {a b : List Int} (ha : dok a) (hb : dok b) (la : a.length ≤ 1000) (lb : b.length ≤ 1000) :
 ∃ r, zf3 N a b = some r ∧ dok r ∧ dv r = dv a + dv b ∧ r.length ≤ max a.length b.length + 1 ∧ (zqx a → zqx b → r = dg (dv a + dv b)) := by
 unfold zf3
 obtain ⟨s', h1, h2⟩ := zns (f := zf3.r0 N)
  (fun s => ∃ (o : List Int) (c i : Nat), s = (a, b, o, (c : Int), (i : Int)) ∧ o.length = i ∧ dok o ∧ c ≤ 1 ∧ dv o + 10 ^ i * (c + dv (a.drop i) + dv (b.drop i)) = dv a + dv b ∧ (i ≤ max a.length b.length ∨ (i = max a.length b.length + 1 ∧ c = 0 ∧ 10 ^ (max a.length b.length) ≤ dv o)))
  (fun s => 2 * (max a.length b.length - s.2.2.2.2.toNat) + s.2.2.2.1.toNat) (fun s => ∃ (o : List Int), s.2.2.1 = o ∧ dok o ∧ dv o = dv a + dv b ∧ o.length ≤ max a.length b.length + 1 ∧ (o.length ≤ max a.length b.length ∨ 10 ^ (o.length - 1) ≤ dv o) ∧ max a.length b.length ≤ o.length)
  (fun s hs => by
   obtain ⟨o, c, i, rfl, s1, s2, s3, s4, s5⟩ := hs; simp only [zf3.r0, zf3.b0]; have hg : ((cond (decide ((i : Int) < (a.length : Int))) (some true) (some (decide ((i : Int) < (b.length : Int))))).bind fun g1001 => (cond g1001 (some true) (some (decide ((c : Int) > 0))))) = some (decide (i < a.length ∨ i < b.length ∨ 0 < c)) := by
    by_cases h1 : i < a.length
    · rw [dct (show (i : Int) < (a.length : Int) by omega), dct (show i < a.length ∨ i < b.length ∨ 0 < c by omega)]; rfl
    · rw [dcf (show ¬ (i : Int) < (a.length : Int) by omega)]
      by_cases h2 : i < b.length
      · rw [dct (show (i : Int) < (b.length : Int) by omega), dct (show i < a.length ∨ i < b.length ∨ 0 < c by omega)]; rfl
      · rw [dcf (show ¬ (i : Int) < (b.length : Int) by omega)]
        by_cases h3 : 0 < c
        · rw [dct (show (c : Int) > 0 by omega), dct (show i < a.length ∨ i < b.length ∨ 0 < c by omega)]; rfl
        · rw [dcf (show ¬ (c : Int) > 0 by omega), dcf (by omega)]; rfl
   rw [← Option.bind_assoc, hg]; simp only [obs]
   by_cases hgo : i < a.length ∨ i < b.length ∨ 0 < c
   · left; rw [dct hgo, ctr]; have hi : i ≤ max a.length b.length := by
      rcases s5 with s5 | ⟨s5, s6, _⟩ <;> omega
     have hroom : ∀ x : Int, Nat.ble ((o.length + ([x] : List Int).length) * 8) zbr = true := fun x => za0 (by simp only [lnc, ln0]; omega); obtain ⟨x, A, hx1, hx2⟩ : ∃ (x A : Nat), dv (a.drop i) = x + 10 * A ∧ (dv (a.drop (i + 1)) = A ∧ x < 10 ∧ (if i < a.length then a[i]? = some (x : Int) else x = 0)) := by
      by_cases h : i < a.length
      · obtain ⟨x, hx⟩ : ∃ x, a[i]? = some x := zfc h; have hb := zu9 ha hx; have hdr := ztt a i hx; exact ⟨x.toNat, dv (a.drop (i + 1)), hdr, rfl, by omega, by rw [ifp h, hx]; congr 1; omega⟩
      · exact ⟨0, 0, by rw [zka (by omega)], by rw [zka (by omega)], by omega, by rw [ifn h]⟩
     obtain ⟨y, B, hy1, hy2⟩ : ∃ (y B : Nat), dv (b.drop i) = y + 10 * B ∧ (dv (b.drop (i + 1)) = B ∧ y < 10 ∧ (if i < b.length then b[i]? = some (y : Int) else y = 0)) := by
      by_cases h : i < b.length
      · obtain ⟨x, hx⟩ : ∃ x, b[i]? = some x := zfc h; have hb := zu9 hb hx; have hdr := ztt b i hx; exact ⟨x.toNat, dv (b.drop (i + 1)), hdr, rfl, by omega, by rw [ifp h, hx]; congr 1; omega⟩
      · exact ⟨0, 0, by rw [zka (by omega)], by rw [zka (by omega)], by omega, by rw [ifn h]⟩
     obtain ⟨hA, hx3, hx4⟩ := hx2; obtain ⟨hB, hy3, hy4⟩ := hy2; rw [hx1, hy1] at s4; have alg := zadm _ _ _ _ _ _ _ _ s4; refine ⟨(a, b, o ++ [(((c + x + y) % 10 : Nat) : Int)], (((c + x + y) / 10 : Nat) : Int), ((i + 1 : Nat) : Int)), ?_, ⟨o ++ [(((c + x + y) % 10 : Nat) : Int)], (c + x + y) / 10, i + 1, rfl, by rw [lna, lns, s1], ztu s2 (by omega) (by omega), by omega, ?_, ?_⟩, ?_⟩
     · have fin : ∀ v : Int, v = ((c + x + y : Nat) : Int) → (cond (Nat.ble ((o.length + ([v.tmod 10] : List Int).length) * 8) zbr) (some (Stp.again (a, b, o ++ [v.tmod 10], w6 (v.tdiv 10), w6 ((i : Int) + 1)))) none) = some (.again (a, b, o ++ [(((c + x + y) % 10 : Nat) : Int)], (((c + x + y) / 10 : Nat) : Int), ((i + 1 : Nat) : Int))) := by
        intro v hv; rw [hroom, ctr, hv, tme, tde, w6e, w6e]
        congr 1
       by_cases h1 : i < a.length
       · rw [ifp h1] at hx4; rw [dct (show (i : Int) < (a.length : Int) by omega), ctr, zai, hx4, obs]
         by_cases h2 : i < b.length
         · rw [ifp h2] at hy4; rw [dct (show (i : Int) < (b.length : Int) by omega), ctr, zai, hy4, obs]; refine fin _ ?_; rw [w6e (n := (c : Int) + (x : Int)), w6e]; omega
         · rw [ifn h2] at hy4; rw [dcf (show ¬ (i : Int) < (b.length : Int) by omega), cfa]; refine fin _ ?_; rw [w6e]; omega
       · rw [ifn h1] at hx4; rw [dcf (show ¬ (i : Int) < (a.length : Int) by omega), cfa]
         by_cases h2 : i < b.length
         · rw [ifp h2] at hy4; rw [dct (show (i : Int) < (b.length : Int) by omega), ctr, zai, hy4, obs]; refine fin _ ?_; rw [w6e]; omega
         · rw [ifn h2] at hy4; rw [dcf (show ¬ (i : Int) < (b.length : Int) by omega), cfa]; refine fin _ ?_; omega
     · rw [zrv, s1, itn, hA, hB, Nat.pow_succ]; exact alg
     · by_cases him : i = max a.length b.length
       · right; have hx0 : x = 0 := by rw [ifn] at hx4; exact hx4
         have hy0 : y = 0 := by rw [ifn] at hy4; exact hy4
         have hc1 : c = 1 := by omega
         refine ⟨by omega, by omega, ?_⟩; rw [zrv, s1, itn, hx0, hy0, hc1, him]; omega
       · left; omega
     · show 2 * (max a.length b.length - ((i + 1 : Nat) : Int).toNat) + (((c + x + y) / 10 : Nat) : Int).toNat < 2 * (max a.length b.length - (i : Int).toNat) + (c : Int).toNat; simp only [itn]
       by_cases him : i = max a.length b.length
       · have hx0 : x = 0 := by rw [ifn] at hx4; exact hx4
         have hy0 : y = 0 := by rw [ifn] at hy4; exact hy4
         omega
       · omega
   · right; rw [dcf hgo, cfa]; rw [zka (by omega), zka (by omega), show c = 0 by omega] at s4; refine ⟨_, rfl, o, rfl, s2, by omega, ?_, ?_, by omega⟩
     · rcases s5 with s5 | ⟨s5, _, _⟩ <;> omega
     · rcases s5 with s5 | ⟨s5, _, s7⟩
       · left; omega
       · right; rw [s1, s5, Nat.add_sub_cancel]; exact s7)
  (N := N) (s := (a, b, [], 0, 0)) ⟨[], 0, 0, rfl, rfl, fun d hd => (List.not_mem_nil hd).elim, by omega, by simp [dv], .inl (by omega)⟩ (by show 2 * (max a.length b.length - (0 : Int).toNat) + (0 : Int).toNat < N; simp only [Int.toNat_zero]; omega)
 obtain ⟨o, ho, o1, o2, o3, o4, o5⟩ := h2
 rw [h1]
 simp only [obs, ho]
 refine ⟨o, rfl, o1, o2, o3, fun hca hcb => ?_⟩
 rw [← o2]
 refine (z5c o1 (zabe o1 fun hne => ?_)).symm
 rcases o4 with o4 | o4
 · have hol : o.length ≠ 0 := fun h => hne (List.length_eq_zero_iff.1 h); have hm : o.length = a.length ∨ o.length = b.length := by omega
   rcases hm with hm | hm
   · have := zaan ha hca (fun h => by rw [h] at hm; exact hol hm); rw [hm, o2]; omega
   · have := zaan hb hcb (fun h => by rw [h] at hm; exact hol hm); rw [hm, o2]; omega
 · exact o4
theorem z3p (N : Nat) (hN : 4000 < N) (a b : Nat) (ha : a < 10 ^ 900) (hb : b < 10 ^ 900) : zf3 N (dg a) (dg b) = some (dg (a + b)) := by
 obtain ⟨r, h1, _, _, _, h2⟩ := z98 N hN (zmc a) (zmc b) (Nat.le_trans ((zi0 a 900).2 ha) (by decide)) (Nat.le_trans ((zi0 b 900).2 hb) (by decide))
 rw [h1, h2 (zaao a) (zaao b), zm4, zm4]
theorem z3q (N : Nat) (hN : 4000 < N) (a b : Nat) (ha : a < 10 ^ 900) (hb : b < 10 ^ 900) : zgh N (dg a) (dg b) = some (zj2 a b) := by
 have la : (dg a).length ≤ 900 := (zi0 a 900).2 ha
 have lb : (dg b).length ≤ 900 := (zi0 b 900).2 hb
 unfold zgh
 by_cases hl : (dg a).length = (dg b).length
 · rw [zd1, dcf (by omega), cfa]; have key := zach (f := zgh.r0 N) (fun s => ∃ i : Nat, s = (dg a, dg b, (i : Int) - 1) ∧ i ≤ (dg a).length ∧ (dg a).drop i = (dg b).drop i) (fun s => (s.2.2 + 1).toNat) (fun r => r = zj2 a b) (fun s => dg a = dg b)
    (fun s hs => by
     obtain ⟨i, rfl, s1, s2⟩ := hs; simp only [zgh.r0, zgh.b0]; cases i with
     | zero =>
      right; left; refine ⟨_, rfl, ?_⟩; rw [dr0, dr0] at s2; exact s2
     | succ i =>
      obtain ⟨x, hx⟩ : ∃ x, (dg a)[i]? = some x := zfc (by omega); obtain ⟨y, hy⟩ : ∃ y, (dg b)[i]? = some y := zfc (by omega); rw [dct (show ((i + 1 : Nat) : Int) - 1 ≥ 0 by omega), ctr, show ((i + 1 : Nat) : Int) - 1 = (i : Int) by omega, zai, zai, hx, hy]; simp only [obs, zis]; obtain ⟨hxl, hxe⟩ := gei hx; obtain ⟨hyl, hye⟩ := gei hy
      by_cases hxy : x = y
      · left; rw [zd1, dcf (by omega), cfa, w6e]; refine ⟨_, rfl, ⟨i, rfl, by omega, ?_⟩, ?_⟩
        · rw [List.drop_eq_getElem_cons hxl, List.drop_eq_getElem_cons hyl, hxe, hye, hxy, s2]
        · show ((i : Int) - 1 + 1).toNat < ((i : Int) + 1).toNat; omega
      · right; right; rw [zd1, dct hxy, ctr]; refine ⟨_, rfl, ?_⟩; unfold zj2
        by_cases hlt : x < y
        · have := zaco (zmc a) (zmc b) i hxl hyl s2 (by rw [hxe, hye]; exact hlt); rw [zm4, zm4] at this; rw [dcf (by omega), ifp this]; decide
        · have := zaco (zmc b) (zmc a) i hyl hxl s2.symm (by rw [hxe, hye]; omega); rw [zm4, zm4] at this; rw [dct (by omega), ifn, ifp this]; decide)
    (N := N) (s := (dg a, dg b, ((dg a).length : Int) - 1)) ⟨(dg a).length, rfl, Nat.le_refl _, by rw [List.drop_of_length_le (Nat.le_refl _), List.drop_of_length_le (by omega)]⟩ (by show (((dg a).length : Int) - 1 + 1).toNat < N; omega)
   rw [w6e]; rcases key with ⟨s', h1, h2⟩ | ⟨r, h1, h2⟩
   · have e := congrArg dv h2; rw [zm4, zm4] at e; rw [h1, e]; unfold zj2; rw [ifn, ifn]; rfl
   · rw [h1, h2]; rfl
 · rw [zd1, dct (by omega), ctr, zis]; simp only [obs]; unfold zj2
   by_cases hlt : (dg a).length < (dg b).length
   · rw [dcf (by omega), ifp (z5b hlt)]; rfl
   · have h2 := z5b (a := b) (b := a) (by omega); rw [dct (by omega), ifn, ifp h2]; rfl
theorem z3t (N : Nat) (hN : 4000 < N) (a b : Nat) (ha : a < 10 ^ 900) (hba : b ≤ a) : zgj N (dg a) (dg b) = some (dg (a - b)) := by
 have la : (dg a).length ≤ 900 := (zi0 a 900).2 ha
 have lab : (dg b).length ≤ (dg a).length := (zi0 b _).2 (Nat.lt_of_le_of_lt hba ((zi0 a _).1 (Nat.le_refl _)))
 have hA := zmc a
 have hB := zmc b
 have vA := zm4 a
 have vB := zm4 b
 unfold zgj
 generalize dg a = A at *
 generalize dg b = B at *
 obtain ⟨s', h1, h2⟩ := zns (f := zgj.r0 N)
  (fun s => ∃ (o : List Int) (c i : Nat), s = (A, B, o, (c : Int), (i : Int)) ∧ o.length = i ∧ i ≤ A.length ∧ dok o ∧ c ≤ 1 ∧ dv o + dv (B.take i) = dv (A.take i) + 10 ^ i * c)
  (fun s => A.length - s.2.2.2.2.toNat) (fun s => ∃ c : Nat, dok s.2.2.1 ∧ s.2.2.1.length = A.length ∧ dv s.2.2.1 + b = a + 10 ^ A.length * c)
  (fun s hs => by
   obtain ⟨o, c, i, rfl, s1, s2, s3, s4, s5⟩ := hs; simp only [zgj.r0, zgj.b0]
   by_cases hi : i < A.length
   · left; obtain ⟨x, hx⟩ : ∃ x, A[i]? = some x := zfc hi; obtain ⟨x0, x1⟩ := zu9 hA hx; have tA := zx5 A i hx; have hroom : ∀ x : Int, Nat.ble ((o.length + ([x] : List Int).length) * 8) zbr = true := fun x => za0 (by simp only [lnc, ln0]; omega); rw [dct (show (i : Int) < (A.length : Int) by omega), ctr, zai, hx]; simp only [obs, zis]; obtain ⟨y, hy1, hy2, hy3⟩ : ∃ y : Int, (0 ≤ y ∧ y < 10) ∧ dv (B.take (i + 1)) = dv (B.take i) + 10 ^ i * y.toNat ∧ (if i < B.length then B[i]? = some y else y = 0) := by
      by_cases h : i < B.length
      · obtain ⟨y, hy⟩ : ∃ y, B[i]? = some y := zfc h; exact ⟨y, zu9 hB hy, zx5 B i hy, by rw [ifp h]; exact hy⟩
      · exact ⟨0, by omega, by rw [List.take_of_length_le (by omega), List.take_of_length_le (by omega)]; simp, by rw [ifn h]⟩
     have fin : ∀ v : Int, v = x - (c : Int) - y → (cond (Nat.ble ((o.length + ([w6 (v + w6 (10 * cond (decide (v < 0)) 1 0))] : List Int).length) * 8) zbr) (some (Stp.again (A, B, o ++ [w6 (v + w6 (10 * cond (decide (v < 0)) 1 0))], cond (decide (v < 0)) (1 : Int) 0, w6 ((i : Int) + 1)))) none) = some (Stp.again (A, B, o ++ [if v < 0 then v + 10 else v], ((if v < 0 then 1 else 0 : Nat) : Int), ((i + 1 : Nat) : Int))) := by
      intro v hv; rw [hroom, ctr, w6e (n := (i : Int) + 1)]
      by_cases hneg : v < 0
      · rw [dct hneg, ifp hneg, ifp hneg, ctr, w6e (n := 10 * 1) (by decide) (by decide), w6e]; rfl
      · rw [dcf hneg, ifn hneg, ifn hneg, cfa, w6e (n := 10 * 0) (by decide) (by decide), w6e, Int.mul_zero, Int.add_zero]; rfl
     refine ⟨(A, B, o ++ [if x - (c : Int) - y < 0 then x - (c : Int) - y + 10 else x - (c : Int) - y], ((if x - (c : Int) - y < 0 then 1 else 0 : Nat) : Int), ((i + 1 : Nat) : Int)), ?_, ⟨_, _, _, rfl, by rw [lna, lns, s1], by omega, ztu s3 (by split <;> omega) (by split <;> omega), z44 _, ?_⟩, ?_⟩
     · by_cases h : i < B.length
       · rw [ifp h] at hy3; rw [dct (show (i : Int) < (B.length : Int) by omega), ctr, zai, hy3, obs, w6e (n := x - (c : Int)), w6e (n := x - (c : Int) - y)]; exact fin _ rfl
       · rw [ifn h] at hy3; rw [dcf (show ¬ (i : Int) < (B.length : Int) by omega), cfa, w6e (n := x - (c : Int))]; have := fin (x - (c : Int)) (by omega); rw [this, hy3, Int.sub_zero]
     · rw [zrv, hy2, tA, s1, Nat.pow_succ]; generalize 10 ^ i = P at *; have e : ∀ u : Nat, P * 10 * u = P * (10 * u) := fun u => Nat.mul_assoc _ _ _; rw [e]; have lin : (if x - (c : Int) - y < 0 then x - (c : Int) - y + 10 else x - (c : Int) - y).toNat + y.toNat + c = x.toNat + 10 * (if x - (c : Int) - y < 0 then 1 else 0) := by split <;> omega
       have := congrArg (P * ·) lin; simp only [Nat.mul_add] at this; generalize P * (if x - (c : Int) - y < 0 then x - (c : Int) - y + 10 else x - (c : Int) - y).toNat = U at *; generalize P * (10 * (if x - (c : Int) - y < 0 then 1 else 0)) = V at *; omega
     · show A.length - ((i + 1 : Nat) : Int).toNat < A.length - (i : Int).toNat; simp only [itn]; omega
   · right; rw [dcf (show ¬ (i : Int) < (A.length : Int) by omega), cfa]; rw [List.take_of_length_le (by omega), List.take_of_length_le (by omega), vA, vB] at s5; exact ⟨_, rfl, c, s3, (show o.length = A.length by omega), by rw [show A.length = i by omega]; exact s5⟩)
  (N := N) (s := (A, B, [], 0, 0)) ⟨[], 0, 0, rfl, rfl, by omega, fun d hd => (List.not_mem_nil hd).elim, by omega, by simp [dv]⟩ (by show A.length - (0 : Int).toNat < N; omega)
 obtain ⟨c, o1, o2, o3⟩ := h2
 have hlt := z5a o1
 rw [o2] at hlt
 have hc : c = 0 := by
  refine cbc fun h => ?_; have := Nat.mul_le_mul_left (10 ^ A.length) (show 1 ≤ c by omega); rw [Nat.mul_one] at this; clear ha; generalize 10 ^ A.length * c = M at *; generalize 10 ^ A.length = P at *; omega
 rw [h1]
 simp only [obs]
 rw [zvp N _ o1 (by omega) (by omega), show dv s'.2.2.1 = a - b by rw [hc] at o3; omega]
 rfl
def sgn (s : Bool) (m : Nat) : Int := cond s (-(m : Int)) m
theorem zvt (m : Nat) : decide (((dg m).length : Int) > 0) = decide (m ≠ 0) := by
 simp only [decide_eq_decide]
 constructor
 · intro h h2; rw [h2, zng] at h; simp at h
 · intro h; rw [zsq h, lnc]; omega
theorem z87 (m : Nat) : (((dg m).length : Int) == 0) = decide (m = 0) := by
 rw [zcn]
 simp only [decide_eq_decide]
 constructor
 · intro h; refine cbc fun h2 => ?_; rw [zsq h2, lnc] at h; omega
 · intro h; rw [h, zng]; rfl
theorem z8e (N : Nat) (hN : 4000 < N) (s u : Bool) (p q : Nat) (hp : p < 10 ^ 800) (hq : q < 10 ^ 800) : ∃ v m, zud N ⟨s, dg p⟩ ⟨u, dg q⟩ = some ⟨v, dg m⟩ ∧ sgn v m = sgn s p + sgn u q ∧ m ≤ p + q := by
 have h89 : (10 : Nat) ^ 800 < 10 ^ 900 := by decide
 unfold zud
 rw [z3p N hN p q (by omega) (by omega), z3q N hN p q (by omega) (by omega)]
 simp only [obs]
 by_cases hsu : s = u
 · subst hsu; simp only [bst, ctr]; exact ⟨_, _, rfl, by unfold sgn; cases s <;> simp <;> omega, by omega⟩
 · rw [show (s == u) = false from beq_eq_false_iff_ne.2 hsu, cfa]; unfold zj2
   by_cases h : p < q
   · rw [ifp h, z3t N hN q p (by omega) (Nat.le_of_lt h)]; simp only [show decide ((-1 : Int) < 0) = true from rfl, ctr, obs, zvt]; have hz : decide (q - p ≠ 0) = true := dct (by omega); rw [hz]; refine ⟨u, q - p, by cases u <;> rfl, ?_, by omega⟩; unfold sgn; cases s <;> cases u <;> simp_all <;> omega
   · have hf : ∀ k : Int, decide ((if q < p then (1 : Int) else 0) < 0) = false := fun _ => by split <;> rfl
     rw [ifn h, hf 0, z3t N hN p q (by omega) (by omega)]; simp only [cfa, obs, zvt]; refine ⟨s && decide (p - q ≠ 0), p - q, by cases s <;> rfl, ?_, by omega⟩; unfold sgn
     by_cases hz : p - q = 0
     · rw [dcf (by omega)]; cases s <;> cases u <;> simp_all <;> omega
     · rw [dct hz]; cases s <;> cases u <;> simp_all <;> omega
theorem z2y (N : Nat) (hN : 1000 < N) {a b : Number} (ha : zdl a) (hb : zdl b) : zqe N a b = some (⟨decide (a.N < 0), dg (zak a (zg a b)).natAbs⟩, ⟨decide (b.N < 0), dg (zak b (zg a b)).natAbs⟩, zg a b) := by
 obtain ⟨s1, s2, s3, s4⟩ := zpl ha hb
 obtain ⟨⟨a1, a2⟩, a3, a4⟩ := ha
 obtain ⟨⟨b1, b2⟩, b3, b4⟩ := hb
 unfold zqe
 rw [show (if b.Scale > a.Scale then b.Scale else a.Scale) = zg a b from rfl, w6e, w6e]
 have e1 := z01 N hN a.N ⟨by omega, by omega⟩ (zg a b - a.Scale).toNat (by omega)
 have e2 := z01 N hN b.N ⟨by omega, by omega⟩ (zg a b - b.Scale).toNat (by omega)
 rw [Int.toNat_of_nonneg (by omega)] at e1 e2
 rw [e1, obs, e2, obs, zkb, zkb]
theorem zve (x : Number) (s : Int) : sgn (decide (x.N < 0)) (zak x s).natAbs = zak x s := by
 have := zrw x s
 unfold sgn
 by_cases h : x.N < 0
 · rw [dct h, ctr]; have := this.2 h; omega
 · rw [dcf h, cfa]; have : ¬ zak x s < 0 := fun h2 => h (this.1 h2); omega
theorem z97 (s : Bool) (m : Nat) : sgn (!s) m = -sgn s m := by unfold sgn; cases s <;> simp
theorem p30 {n : Nat} (h : n ≤ 10 ^ 30) : n < 10 ^ 800 := Nat.lt_of_le_of_lt h (by decide)
theorem zadj (N : Nat) (hN : 4000 < N) {a b : Number} (ha : zdl a) (hb : zdl b) : zxi N a b = some (z8x (zak a (zg a b)) (zak b (zg a b))) := by
 obtain ⟨s1, s2, s3, s4⟩ := zpl ha hb
 unfold zxi
 try simp only [eN]
 rw [z2y N (by omega) ha hb]
 simp only [obs]
 obtain ⟨v, m, h1, h2, _⟩ := z8e N hN (decide (a.N < 0)) (!decide (b.N < 0)) _ _ (p30 (zke ha s4)) (p30 (zke hb s4))
 rw [h1]
 simp only [obs, z87, zis]
 rw [z97, zve, zve] at h2
 generalize zak a (zg a b) = A at *
 generalize zak b (zg a b) = B at *
 unfold sgn at h2
 unfold z8x
 by_cases hz : m = 0
 · rw [dct hz, ctr]; have : A = B := by cases v <;> simp_all <;> omega
   rw [ifn, ifn]
 · rw [dcf hz, cfa]; cases v with
   | true =>
    rw [ctr] at h2; rw [ifp]; decide
   | false =>
    rw [cfa] at h2; rw [ifn, ifp]; decide
theorem zae2 (O c x y A P T : Nat) (hP : O + P * (c + (x + 10 * A) * y) = T) : O + P * ((c + x * y) % 10) + P * 10 * ((c + x * y) / 10 + A * y) = T := by
 rw [← hP, Nat.mul_assoc, Nat.add_assoc, ← Nat.mul_add, Nat.add_mul, Nat.mul_assoc 10 A y]
 congr 2
 generalize x * y = z at *
 generalize A * y = w at *
 omega
theorem zafy (N : Nat) (hN : 4000 < N) (p : Nat) (hp : p < 10 ^ 100) (o : List Int) (L3 L4 : zK) (i : Nat) (hi : i ≤ 100) (y : Nat) (hy : y < 10) (hy2 : L3.zQ[i]? = some (y : Int)) (s : Bool) :
 ∃ row c k, zl (zcc.r2 N) N (o, (i : Int), List.replicate i (0 : Int), 0, 0, (⟨s, dg p⟩ : zK), L3, L4) = some (o, (i : Int), row, c, k, ⟨s, dg p⟩, L3, L4) ∧ dok row ∧ dv row = 10 ^ i * (p * y) ∧ row.length ≤ 300 := by
 have lp : (dg p).length ≤ 100 := (zi0 p 100).2 hp
 have hA := zmc p
 have vA := zm4 p
 generalize dg p = A at *
 obtain ⟨s', h1, h2⟩ := zns (f := zcc.r2 N)
  (fun t => ∃ (row : List Int) (c k : Nat), t = (o, (i : Int), row, (c : Int), (k : Int), (⟨s, A⟩ : zK), L3, L4) ∧ row.length = i + k ∧ k ≤ A.length + 1 ∧ dok row ∧ c ≤ 8 ∧ dv row + 10 ^ (i + k) * (c + dv (A.drop k) * y) = 10 ^ i * (p * y) ∧ (A.length < k → c = 0))
  (fun t => 2 * (A.length - t.2.2.2.2.1.toNat) + (if t.2.2.2.1 = 0 then 0 else 1)) (fun t => ∃ (row : List Int) (c k : Int), t = (o, (i : Int), row, c, k, (⟨s, A⟩ : zK), L3, L4) ∧ dok row ∧ dv row = 10 ^ i * (p * y) ∧ row.length ≤ 300)
  (fun t ht => by
   obtain ⟨row, c, k, rfl, s1, s2, s3, s4, s5, s6⟩ := ht; have hroom : ∀ x : Int, Nat.ble ((row.length + ([x] : List Int).length) * 8) zbr = true := fun x => za0 (by simp only [lnc, ln0]; omega); simp only [zcc.r2, zcc.b2]
   by_cases hk : k < A.length
   · left; obtain ⟨x, hx⟩ : ∃ x, A[k]? = some x := zfc hk; obtain ⟨x0, x1⟩ := zu9 hA hx; obtain ⟨u, rfl⟩ : ∃ u : Nat, x = (u : Int) := ⟨x.toNat, by omega⟩; have hd := ztt A k hx; rw [itn] at hd; have hmul : u * y ≤ 9 * 9 := Nat.mul_le_mul (by omega) (by omega); rw [dct (show (k : Int) < (A.length : Int) by omega)]; simp only [ctr, obs]; rw [zai, hx, zai, hy2]; simp only [obs]; have hv : w6 ((c : Int) + w6 ((u : Int) * (y : Int))) = ((c + u * y : Nat) : Int) := by
      rw [← Int.natCast_mul, w6e (n := ((u * y : Nat) : Int)), w6e]; omega
     rw [hv, hroom, ctr, tme, tde, w6e (n := ((c + u * y : Nat) : Int) / 10), w6e (n := (k : Int) + 1)]; rw [hd] at s5; have alg := zae2 _ _ _ _ _ _ _ s5; refine ⟨_, rfl, ⟨row ++ [(((c + u * y) % 10 : Nat) : Int)], (c + u * y) / 10, k + 1, ?_, ?_, by omega, ztu s3 (by omega) (by omega), by omega, ?_, fun h => by omega⟩, ?_⟩
     · generalize u * y = z; rw [show ((c + z : Nat) : Int) % 10 = (((c + z) % 10 : Nat) : Int) by omega, show ((c + z : Nat) : Int) / 10 = (((c + z) / 10 : Nat) : Int) by omega]; rfl
     · rw [lna, lns, s1]; omega
     · rw [zrv, s1, itn, show i + (k + 1) = i + k + 1 by omega, Nat.pow_succ]; exact alg
     · show 2 * (A.length - ((k : Int) + 1).toNat) + (if ((c + u * y : Nat) : Int) / 10 = 0 then 0 else 1) < 2 * (A.length - (k : Int).toNat) + (if (c : Int) = 0 then 0 else 1); have := z44 (((c + u * y : Nat) : Int) / 10 = 0); split <;> split <;> omega
   · rw [dcf (show ¬ (k : Int) < (A.length : Int) by omega)]; simp only [cfa, obs]; rw [zka (show A.length ≤ k by omega)] at s5
     by_cases hc : c = 0
     · right; rw [dcf (show ¬ (c : Int) > 0 by omega), cfa]; refine ⟨_, rfl, row, _, _, rfl, s3, ?_, by omega⟩; rw [hc] at s5; simpa using s5
     · left; have hkA : k = A.length := by
        refine cbc fun h => hc (s6 (by omega))
       rw [dct (show (c : Int) > 0 by omega), ctr, hroom, ctr, tme, tde, w6e (n := (c : Int) / 10), w6e (n := (k : Int) + 1)]; refine ⟨_, rfl, ⟨row ++ [(c : Int)], 0, k + 1, ?_, ?_, by omega, ztu s3 (by omega) (by omega), by omega, ?_, fun _ => rfl⟩, ?_⟩
       · rw [show (c : Int) % 10 = (c : Int) by omega, show (c : Int) / 10 = ((0 : Nat) : Int) by omega]; rfl
       · rw [lna, lns, s1]; omega
       · rw [zrv, s1, itn, zka (show A.length ≤ k + 1 by omega)]; simp only [Nat.zero_mul, Nat.add_zero, Nat.mul_zero] at s5 ⊢; exact s5
       · show 2 * (A.length - ((k : Int) + 1).toNat) + (if (c : Int) / 10 = 0 then 0 else 1) < 2 * (A.length - (k : Int).toNat) + (if (c : Int) = 0 then 0 else 1); rw [ifp, ifn]; omega)
  (N := N) (s := (o, (i : Int), List.replicate i (0 : Int), 0, 0, (⟨s, A⟩ : zK), L3, L4)) ⟨List.replicate i 0, 0, 0, rfl, by rw [lnr]; rfl, by omega, zu6 i, by omega, by rw [zwm, dr0, vA]; simp, fun h => rfl⟩ (by show 2 * (A.length - (0 : Int).toNat) + (if (0 : Int) = 0 then 0 else 1) < N; rw [ifp rfl]; omega)
 obtain ⟨row, c, k, rfl, r1, r2, r3⟩ := h2
 exact ⟨row, c, k, h1, r1, r2, r3⟩
theorem zaa1 (N : Nat) (hN : 4000 < N) (s u : Bool) (p q : Nat) (hp : p < 10 ^ 90) (hq : q < 10 ^ 90) : zcc N ⟨s, dg p⟩ ⟨u, dg q⟩ = some ⟨(s != u) && decide (p * q ≠ 0), dg (p * q)⟩ := by
 have lq : (dg q).length ≤ 90 := (zi0 q 90).2 hq
 have hB := zmc q
 have vB := zm4 q
 unfold zcc
 obtain ⟨s', h1, h2⟩ := zns (f := zcc.r0 N)
  (fun t => ∃ (o : List Int) (i : Nat), t = (o, (i : Int), (⟨s, dg p⟩ : zK), (⟨u, dg q⟩ : zK), (⟨false, []⟩ : zK)) ∧ i ≤ (dg q).length ∧ dok o ∧ o.length ≤ 300 + i ∧ dv o = p * dv ((dg q).take i))
  (fun t => (dg q).length - t.2.1.toNat) (fun t => ∃ o : List Int, (∃ i : Int, t = (o, i, (⟨s, dg p⟩ : zK), (⟨u, dg q⟩ : zK), (⟨false, []⟩ : zK))) ∧ dok o ∧ o.length ≤ 400 ∧ dv o = p * q)
  (fun t ht => by
   obtain ⟨o, i, rfl, s1, s2, s3, s4⟩ := ht; simp only [zcc.r0, zcc.b0]
   by_cases hi : i < (dg q).length
   · left; obtain ⟨y, hy⟩ : ∃ y, (dg q)[i]? = some y := zfc hi; obtain ⟨y0, y1⟩ := zu9 hB hy; obtain ⟨w, rfl⟩ : ∃ w : Nat, y = (w : Int) := ⟨y.toNat, by omega⟩; rw [dct (show (i : Int) < ((dg q).length : Int) by omega), ctr, ifp, ifp, za0 (by omega), ctr, itn]; obtain ⟨row, c, k, r1, r2, r3, r4⟩ := zafy N hN p (Nat.lt_of_lt_of_le hp (zcj (by decide))) o (⟨u, dg q⟩ : zK) (⟨false, []⟩ : zK) i (by omega) w (by omega) hy s; rw [r1]; simp only [obs]; obtain ⟨r, g1, g2, g3, g4, _⟩ := z98 N hN s2 r2 (by omega) (by omega); rw [g1]; simp only [obs]; rw [w6e]; refine ⟨_, rfl, ⟨r, i + 1, rfl, by omega, g2, ?_, ?_⟩, ?_⟩
     · omega
     · rw [g3, s4, r3, zx5 _ i hy, itn, Nat.mul_add, Nat.mul_left_comm]
     · show (dg q).length - ((i : Int) + 1).toNat < (dg q).length - (i : Int).toNat; omega
   · right; rw [dcf (show ¬ (i : Int) < ((dg q).length : Int) by omega), cfa]; refine ⟨_, rfl, o, ⟨_, rfl⟩, s2, by omega, ?_⟩; rw [s4, List.take_of_length_le (by omega), vB])
  (N := N) (s := ([], 0, (⟨s, dg p⟩ : zK), (⟨u, dg q⟩ : zK), (⟨false, []⟩ : zK))) ⟨[], 0, rfl, by omega, fun d hd => (List.not_mem_nil hd).elim, by simp, by simp [dv]⟩ (by show (dg q).length - (0 : Int).toNat < N; omega)
 obtain ⟨o, ⟨i, rfl⟩, o1, o2, o3⟩ := h2
 rw [h1]
 simp only [obs]
 rw [zvp N o o1 (by omega) (by omega), o3]
 simp only [obs, zvt]
 cases s <;> cases u <;> rfl
theorem zadh (N : Nat) (hN : 4000 < N) (A : List Int) (b r0 : Nat) (hb : 0 < b) (hb2 : b < 10 ^ 500) (Q : List Int) (hQ : dok Q) (i : Nat) (hi : i < Q.length) (hz : Q[i]? = some 0) (hr : r0 < 10 * b) :
 zl (zb0.r2 N) N (A, dg b, Q, dg r0, (i : Int)) = some (A, dg b, Q.set i ((r0 / b : Nat) : Int), dg (r0 % b), (i : Int)) := by
 have h56 : (10 : Nat) ^ 500 * 10 ≤ 10 ^ 900 := by decide
 obtain ⟨s', h1, h2⟩ := zns (f := zb0.r2 N)
  (fun t => ∃ (r c : Nat), t = (A, dg b, Q.set i (c : Int), dg r, (i : Int)) ∧ r + c * b = r0)
  (fun t => 10 - (zaq t.2.2.1 i).toNat) (fun t => t = (A, dg b, Q.set i ((r0 / b : Nat) : Int), dg (r0 % b), (i : Int)))
  (fun t ht => by
   obtain ⟨r, c, rfl, s1⟩ := ht; have hc : c < 10 := by
    refine cbc fun h => ?_; have := Nat.mul_le_mul_right b (show 10 ≤ c by omega); omega
   have hl : (Q.set i (c : Int)).length = Q.length := List.length_set; have hx : (Q.set i (c : Int))[i]? = some (c : Int) := by rw [List.getElem?_set, ifp rfl, ifp hi]
   have hr0 : r ≤ r0 := by omega
   simp only [zb0.r2, zb0.b2]; rw [z3q N hN r b (by omega) (by omega), obs, zx1]
   by_cases h : b ≤ r
   · left; rw [dct h, ctr, z3t N hN r b (by omega) h, obs, hl, ifp, ifp, itn, hx]; simp only [obs]; rw [ifp, ifp, w6e, List.set_set]; refine ⟨_, rfl, ⟨r - b, c + 1, rfl, ?_⟩, ?_⟩
     · rw [Nat.add_mul, Nat.one_mul]; omega
     · have g : ∀ v : Int, zaq (Q.set i v) i = v := by
        intro v; clear hx hl hz
        induction Q generalizing i with
        | nil => simp at hi
        | cons q Q ih =>
         cases i with
         | zero => rfl
         | succ i =>
          rw [List.set_cons_succ]; show (if i + 1 = 0 then q else zaq (Q.set i v) (i + 1 - 1)) = v; rw [ifn, Nat.add_sub_cancel]; exact ih (fun d hd => hQ d (List.mem_cons_of_mem _ hd)) i (by simpa using hi)
       show 10 - (zaq (Q.set i ((c : Int) + 1)) i).toNat < 10 - (zaq (Q.set i (c : Int)) i).toNat; rw [g, g]; omega
   · right; rw [dcf h, cfa]; refine ⟨_, rfl, ?_⟩; have e1 : r0 / b = c := by rw [← s1, Nat.add_mul_div_right _ _ hb, Nat.div_eq_of_lt (by omega), Nat.zero_add]
     have e2 : r0 % b = r := by rw [← s1, Nat.add_mul_mod_self_right, mel (by omega)]
     rw [e1, e2])
  (N := N) (s := (A, dg b, Q, dg r0, (i : Int))) ⟨r0, 0, by
   have : Q.set i ((0 : Nat) : Int) = Q := by
    refine List.ext_getElem? fun k => ?_; rw [List.getElem?_set]; split
    · rename_i hk; rw [← hk, hz]; rfl
    · rfl
   rw [this], by omega⟩ (by show 10 - (zaq Q i).toNat < N; omega)
 rw [h1, h2]
theorem z4m (N : Nat) (hN : 4000 < N) (a b : Nat) (ha : a < 10 ^ 400) (hb : 0 < b) (hb2 : b < 10 ^ 400) : zb0 N (dg a) (dg b) = some (dg (a / b), dg (a % b)) := by
 have la : (dg a).length ≤ 400 := (zi0 a 400).2 ha
 have h45 : (10 : Nat) ^ 400 < 10 ^ 500 := by decide
 have hA := zmc a
 have vA := zm4 a
 unfold zb0
 generalize dg a = A at *
 rw [ifp, ifp, za0 (by omega), ctr, itn, w6e]
 obtain ⟨s', h1, h2⟩ := zns (f := zb0.r0 N)
  (fun t => ∃ (Q : List Int) (i : Nat), t = (A, dg b, Q, dg (dv (A.drop i) % b), (i : Int) - 1) ∧ i ≤ A.length ∧ Q.length = A.length ∧ dok Q ∧ dv (Q.drop i) = dv (A.drop i) / b ∧ (∀ k, k < i → Q[k]? = some 0))
  (fun t => (t.2.2.2.2 + 1).toNat) (fun t => dok t.2.2.1 ∧ t.2.2.1.length = A.length ∧ dv t.2.2.1 = a / b ∧ t.2.2.2.1 = dg (a % b))
  (fun t ht => by
   obtain ⟨Q, i, rfl, s1, s2, s3, s4, s5⟩ := ht; simp only [zb0.r0, zb0.b0]; cases i with
   | zero =>
    right; rw [dr0, dr0, vA] at s4; refine ⟨_, rfl, s3, s2, s4, ?_⟩; rw [dr0, vA]
   | succ i =>
    left; obtain ⟨x, hx⟩ : ∃ x, A[i]? = some x := zfc (by omega); obtain ⟨x0, x1⟩ := zu9 hA hx; obtain ⟨u, rfl⟩ : ∃ u : Nat, x = (u : Int) := ⟨x.toNat, by omega⟩; have hd := ztt A i hx; rw [itn] at hd; have hrb : dv (A.drop (i + 1)) % b < b := Nat.mod_lt _ hb; have hdm := Nat.div_add_mod (dv (A.drop (i + 1))) b; rw [show ((i + 1 : Nat) : Int) - 1 = (i : Int) by omega, dct (show (i : Int) ≥ 0 by omega), ctr, zai, hx]; simp only [obs]; generalize dv (A.drop (i + 1)) = p at *; have lr : (dg (p % b)).length ≤ 500 := (zi0 _ 500).2 (by omega); rw [za0 (by simp only [lnc, ln0]; omega), ctr]; have hrest : dok ([(u : Int)] ++ dg (p % b)) := zz2 (fun d hd => by
     rcases List.mem_cons.1 hd with rfl | hd
     · omega
     · cases hd) (zmc _)
    rw [zvp N _ hrest (by rw [lna, lns]; omega) (by rw [lna, lns]; omega)]; have hv : dv ([(u : Int)] ++ dg (p % b)) = u + 10 * (p % b) := by
     show (u : Int).toNat + 10 * dv (dg (p % b)) = _; rw [zm4, itn]
    rw [hv]; simp only [obs]; rw [zadh N hN A b (u + 10 * (p % b)) hb (by omega) Q s3 i (by omega) (s5 i (by omega)) (by omega)]; simp only [obs]; rw [w6e]; have eq1 : u + 10 * p = b * (10 * (p / b)) + (u + 10 * (p % b)) := by
     rw [Nat.mul_left_comm]; omega
    have ed : (u + 10 * p) / b = 10 * (p / b) + (u + 10 * (p % b)) / b := by rw [eq1, Nat.mul_add_div hb]
    have em : (u + 10 * p) % b = (u + 10 * (p % b)) % b := by rw [eq1, Nat.mul_add_mod]
    have hdig : (u + 10 * (p % b)) / b < 10 := Nat.div_lt_of_lt_mul (by rw [Nat.mul_comm]; omega); generalize (u + 10 * (p % b)) / b = G at *; refine ⟨_, rfl, ⟨Q.set i (G : Int), i, ?_, by omega, by rw [List.length_set]; exact s2, ?_, ?_, ?_⟩, ?_⟩
    · rw [hd, em]
    · intro d hd; rcases List.mem_or_eq_of_mem_set hd with h | h
      · exact s3 d h
      · rw [h]; omega
    · have hxs : (Q.set i (G : Int))[i]? = some (G : Int) := by rw [List.getElem?_set, ifp rfl, ifp]
      rw [ztt _ i hxs, itn, List.drop_set_of_lt (by omega), s4, hd, ed]; omega
    · intro k hk; rw [List.getElem?_set, ifn]; exact s5 k (by omega)
    · show ((i : Int) - 1 + 1).toNat < ((i : Int) + 1).toNat; omega)
  (N := N) (s := (A, dg b, List.replicate A.length 0, [], (A.length : Int) - 1)) ⟨List.replicate A.length 0, A.length, by rw [zka (Nat.le_refl _), Nat.zero_mod, zng], by omega, lnr, zu6 _, by rw [zka (Nat.le_refl _), Nat.zero_div, zka (by rw [lnr]; omega)], fun k hk => by rw [List.getElem?_replicate, ifp hk]⟩ (by show ((A.length : Int) - 1 + 1).toNat < N; omega)
 obtain ⟨o1, o2, o3, o4⟩ := h2
 rw [h1]
 simp only [obs]
 rw [zvp N _ o1 (by omega) (by omega), o3, o4]
 rfl
theorem z0x (k : Nat) (hk : k ≤ 100) : zmo (k : Int) = some (dg (10 ^ k)) := by
 unfold zmo
 rw [ifp, ifp, za0 (by omega), ctr, itn, lnr, za0 (by simp only [lnc, ln0]; omega), ctr]
 congr 1
 have h1 : dok (List.replicate k (0 : Int) ++ [1]) := ztu (zu6 k) (by decide) (by decide)
 have h2 : dv (List.replicate k (0 : Int) ++ [1]) = 10 ^ k := by rw [zrv, zwm, lnr]; simp
 rw [← h2]
 refine (z5c h1 ?_).symm
 unfold zqx
 rw [List.getLast?_append]
 simp
def z3w (p q : Nat) (half : Bool) : Nat := p / q + cond (half && decide (q ≤ p % q + p % q)) 1 0
theorem zada (N : Nat) (hN : 4000 < N) (s : Bool) (p q : Nat) (hp : p ≤ 10 ^ 100) (hq : 0 < q) (hq2 : q ≤ 10 ^ 100) (k : Nat) (hk : k ≤ 15) (half : Bool) :
 ∃ v, zt3 N ⟨⟨s, dg p⟩, dg q⟩ (k : Int) half = some ⟨v, dg (z3w (p * 10 ^ k) q half)⟩ ∧ (z3w (p * 10 ^ k) q half ≠ 0 → v = s) := by
 have hs : p * 10 ^ k ≤ 10 ^ 100 * 10 ^ 15 := Nat.mul_le_mul hp (zcj hk)
 have h115 : (10 : Nat) ^ 100 * 10 ^ 15 < 10 ^ 400 := by decide
 have h4 : (10 : Nat) ^ 400 < 10 ^ 900 := by decide
 have h14 : (10 : Nat) ^ 100 < 10 ^ 400 := by decide
 have hr := Nat.mod_lt (p * 10 ^ k) hq
 have hdl := Nat.div_le_self (p * 10 ^ k) q
 have lp : (dg p).length ≤ 101 := (zi0 p 101).2 (by have : (10 : Nat) ^ 100 < 10 ^ 101 := (by decide); omega)
 unfold zt3
 rw [ifp, ifp, za0 (by omega), ctr, itn, lnr, za0 (by show (k + (dg p).length) * 8 ≤ 1000000; omega), ctr]
 have hd : dok (List.replicate k (0 : Int) ++ dg p) := zz2 (zu6 k) (zmc p)
 have hv : dv (List.replicate k (0 : Int) ++ dg p) = p * 10 ^ k := by rw [zw3, zwm, zm4, lnr, Nat.zero_add, Nat.mul_comm]
 show ∃ v, ((zem N (List.replicate k (0 : Int) ++ dg p)).bind _) = _ ∧ _
 rw [zvp N _ hd (by rw [lna, lnr]; omega) (by rw [lna, lnr]; omega), hv]
 simp only [obs]
 rw [z4m N hN _ q (by omega) hq (by omega)]
 simp only [obs]
 rw [z3p N hN _ _ (by omega) (by omega)]
 simp only [obs]
 rw [z3q N hN _ q (by omega) (by omega)]
 simp only [obs, zx1]
 have kk : (cond half (some (decide (q ≤ p * 10 ^ k % q + p * 10 ^ k % q))) (some false)) = some (half && decide (q ≤ p * 10 ^ k % q + p * 10 ^ k % q)) := by cases half <;> rfl
 rw [kk, obs]
 unfold z3w
 cases (half && decide (q ≤ p * 10 ^ k % q + p * 10 ^ k % q)) with
 | true =>
  rw [ctr, ctr, show ([1] : List Int) = dg 1 by rw [zsq (by decide), show 1 / 10 = 0 from rfl, zng]; rfl, z3p N hN _ 1 (by omega) (by omega)]; simp only [obs, zvt]; refine ⟨s && decide (p * 10 ^ k / q + 1 ≠ 0), by cases s <;> rfl, fun h => ?_⟩; rw [dct h, Bool.and_true]
 | false =>
  rw [cfa, cfa]; simp only [obs, zvt, Nat.add_zero]; refine ⟨s && decide (p * 10 ^ k / q ≠ 0), by cases s <;> rfl, fun h => ?_⟩; rw [dct h, Bool.and_true]
theorem zade (N : Nat) (hN : 4000 < N) (v : Bool) (m : Nat) (hm : m < 10 ^ 16) : zfm N ⟨v, dg m⟩ = some (sgn v m) := by
 have lm : (dg m).length ≤ 16 := (zi0 m 16).2 hm
 have hA := zmc m
 have vA := zm4 m
 unfold zfm
 generalize dg m = A at *
 have lp := za1 (f := zfm.r0 N) (fun i => (((dv (A.drop (A.length - i)) : Nat) : Int), (A.length : Int) - 1 - (i : Int), (⟨v, A⟩ : zK))) A.length
  (fun i hi => by
   obtain ⟨x, hx⟩ : ∃ x, A[A.length - 1 - i]? = some x := zfc (by omega); obtain ⟨x0, x1⟩ := zu9 hA hx; have hd := ztt A _ hx; rw [show A.length - 1 - i + 1 = A.length - i by omega] at hd; have hb := z5a (zad3 hA (A.length - i)); have hb2 : 10 ^ (A.drop (A.length - i)).length ≤ 10 ^ 16 := zcj (by rw [List.length_drop]; omega); simp only [zfm.r0, zfm.b0, dct (show (A.length : Int) - 1 - (i : Int) ≥ 0 by omega), ctr]; rw [show (A.length : Int) - 1 - (i : Int) = ((A.length - 1 - i : Nat) : Int) by omega, zai, hx]; simp only [obs]; rw [w6e (n := 10 * ((dv (A.drop (A.length - i)) : Nat) : Int)), w6e (n := 10 * ((dv (A.drop (A.length - i)) : Nat) : Int) + x), w6e, show A.length - (i + 1) = A.length - 1 - i by omega, hd]
   congr 3
   · omega
   · congr 1
     omega)
  (by simp only [zfm.r0, zfm.b0, dcf (show ¬ (A.length : Int) - 1 - (A.length : Int) ≥ 0 by omega), cfa]) (N := N) (by omega)
 simp only [Nat.sub_zero, nc0, Int.sub_zero, Nat.sub_self, dr0, zka (Nat.le_refl A.length), vA] at lp
 show ((zl (zfm.r0 N) N (0, w6 ((A.length : Int) - 1), (⟨v, A⟩ : zK))).bind _) = _
 rw [w6e, lp]
 simp only [obs]
 unfold sgn
 cases v
 · rfl
 · rw [ctr, ctr, w6e, Int.zero_sub]
theorem zabx (N : Nat) (hN : 4000 < N) (s : Bool) (p q : Nat) (hp : p ≤ 10 ^ 100) (hq : 0 < q) (hq2 : q ≤ 10 ^ 100) {t : DataType} (ht : zj9 t) (half : Bool) :
 ∃ n e, zrc N ⟨⟨s, dg p⟩, dg q⟩ t half = some (n, e) ∧ ((⟨n, ⟨#[]⟩⟩ : Value), e) = zjg s p q t half := by
 obtain ⟨⟨l1, l2⟩, l3, l4⟩ := zf6 ht
 obtain ⟨v, h1, h2⟩ := zada N hN s p q hp hq hq2 t.Scale.toNat (by omega) half
 rw [Int.toNat_of_nonneg l3] at h1
 unfold zrc
 show ∃ n e, ((zt3 N ⟨⟨s, dg p⟩, dg q⟩ t.Scale half).bind _) = _ ∧ _
 rw [h1]
 simp only [obs]
 have hl := zi0 (z3w (p * 10 ^ t.Scale.toNat) q half) t.Length.toNat
 have e : zjg s p q t half = if 10 ^ t.Length.toNat ≤ z3w (p * 10 ^ t.Scale.toNat) q half then (⟨0, ⟨#[]⟩⟩, 19) else (⟨sgn s (z3w (p * 10 ^ t.Scale.toNat) q half), ⟨#[]⟩⟩, 0) := rfl
 rw [e]
 generalize z3w (p * 10 ^ t.Scale.toNat) q half = Q at *
 by_cases h : 10 ^ t.Length.toNat ≤ Q
 · rw [ifp h]; have : ¬ (dg Q).length ≤ t.Length.toNat := fun h3 => by have := hl.1 h3; omega
   rw [dct (by omega)]; exact ⟨_, _, rfl, rfl⟩
 · rw [ifn h]; have : (dg Q).length ≤ t.Length.toNat := hl.2 (by omega); have hQ : Q < 10 ^ 16 := Nat.lt_of_lt_of_le (by omega : Q < 10 ^ t.Length.toNat) (zcj (by omega)); rw [dcf (by omega), cfa, zade N hN v Q hQ]; refine ⟨_, _, rfl, ?_⟩
   congr 2
   unfold sgn
   by_cases h0 : Q = 0
   · rw [h0]; cases v <;> cases s <;> rfl
   · rw [h2 h0]
theorem z0d {t : DataType} (ht : zj9 t) : zn5 t = some 0 := by
 obtain ⟨h0, h1, h2⟩ := ht
 unfold zn5
 rw [z14, h0]
 simp only [obs, bsf, cfa]
 rw [zvf, zbf.2 ⟨h1, h2⟩]
 simp only [obs, zis]
 decide
theorem zaet (N : Nat) (hN : 4000 < N) {x : Number} (hx : zdl x) {t : DataType} (ht : zj9 t) (half : Bool) : zr1 N x t half = some (zoa x t half) := by
 have hx' := hx
 obtain ⟨⟨h1, h2⟩, h3, h4⟩ := hx'
 unfold zr1 zv6
 rw [z00, zpq.2 hx]
 simp only [obs, bsf, cfa, eN]
 rw [z0d ht]
 simp only [obs, bsf, cfa]
 have e1 := z01 N (by omega) x.N ⟨by omega, by omega⟩ 0 (by omega)
 rw [Nat.pow_zero, Nat.mul_one, nc0] at e1
 have e2 := z0x x.Scale.toNat (by omega)
 rw [Int.toNat_of_nonneg h3] at e2
 rw [e1, obs, e2, obs]
 simp only [obs]
 have hp : x.N.natAbs ≤ 10 ^ 100 := Nat.le_trans (show x.N.natAbs ≤ 10 ^ 15 by omega) (by decide)
 obtain ⟨n, e, g1, g2⟩ := zabx N hN (decide (x.N < 0)) x.N.natAbs (10 ^ x.Scale.toNat) hp (zcu _) (zcj (by omega)) ht half
 show ((zrc N ⟨⟨decide (x.N < 0), dg x.N.natAbs⟩, dg (10 ^ x.Scale.toNat)⟩ t half).bind _) = _
 rw [g1]
 simp only [obs]
 rw [g2]
 rfl
theorem z8v {n : Nat} (h : n ≤ 10 ^ 31) : n ≤ 10 ^ 100 := Nat.le_trans h (by decide)
theorem z8o (s : Bool) (p q : Nat) (hq : 0 < q) (t : DataType) (half : Bool) : zjg s p q t half = z1b (sgn s p) q t half := z8q s p q hq t half
theorem zaeu (N : Nat) (hN : 4000 < N) {op : Int} (hop : 0 ≤ op ∧ op ≤ 4) {a b : Number} (ha : zdl a) (hb : zdl b) {t : DataType} (ht : zj9 t) (half : Bool) : zkz N ⟨op, t, half⟩ a b = some (zln op a b t half) := by
 obtain ⟨s1, s2, s3, s4⟩ := zpl ha hb
 have la := zke ha s4
 have lb := zke hb s4
 have ha' := ha
 have hb' := hb
 obtain ⟨⟨a1, a2⟩, a3, a4⟩ := ha'
 obtain ⟨⟨b1, b2⟩, b3, b4⟩ := hb'
 have zb := z2w b (zg a b)
 have ga := zve a (zg a b)
 have gb := zve b (zg a b)
 have q1 : 10 ^ (zg a b).toNat ≤ 10 ^ 100 := zcj (by omega)
 unfold zkz
 try simp only [eD]
 rw [zhk, zbf.2 hop]
 simp only [obs, bnt, cfa]
 rw [z00, z00, zpq.2 ha, zpq.2 hb]
 simp only [obs, bsf, cfa]
 rw [z0d ht]
 simp only [obs, bsf, cfa, eN]
 have fin : ∀ (s : Bool) (p q : Nat), p ≤ 10 ^ 100 → 0 < q → q ≤ 10 ^ 100 → ((zrc N ⟨⟨s, dg p⟩, dg q⟩ t half).bind fun r6 => some ((⟨r6.1, (⟨#[]⟩ : ByteArray)⟩ : Value), r6.2)) = some (zjg s p q t half) := fun s p q hp hq hq2 => by
  obtain ⟨n, e, g1, g2⟩ := zabx N hN s p q hp hq hq2 ht half; rw [g1, obs, g2]
 unfold z05
 rw [z2y N (by omega) ha hb]
 simp only [obs, z87]
 have ep := z0x (zg a b).toNat (by omega)
 rw [Int.toNat_of_nonneg s3] at ep
 have g : (cond (op == 3) (some true) (some (op == 4))) = some (decide (op = 3 ∨ op = 4)) := by
  rw [zcn, zcn]
  by_cases h : op = 3
  · rw [dct h, dct (show op = 3 ∨ op = 4 by omega)]; rfl
  · rw [dcf h]
    by_cases h2 : op = 4
    · rw [dct h2, dct (show op = 3 ∨ op = 4 by omega)]; rfl
    · rw [dcf h2, dcf (show ¬ (op = 3 ∨ op = 4) by omega)]; rfl
 rw [g]
 simp only [obs]
 have hbz : (zak b (zg a b)).natAbs = 0 ↔ b.N = 0 := by
  rw [Int.natAbs_eq_zero]; exact zb
 rw [show (cond (decide (op = 3 ∨ op = 4)) (some (decide ((zak b (zg a b)).natAbs = 0))) (some false)) = some (decide ((op = 3 ∨ op = 4) ∧ b.N = 0)) by
  by_cases h : op = 3 ∨ op = 4
  · rw [dct h, ctr]; congr 1; rw [decide_eq_decide]; constructor
    · intro h2; exact ⟨h, hbz.1 h2⟩
    · intro h2; exact hbz.2 h2.2
  · rw [dcf h, cfa, dcf (fun h2 => h h2.1)]]
 simp only [obs]
 unfold zln
 by_cases hz : (op = 3 ∨ op = 4) ∧ b.N = 0
 · rw [dct hz, ifp hz]; rfl
 · rw [dcf hz, ifn hz, cfa]
   by_cases o0 : op = 0
   · obtain ⟨v, m, h1, h2, h3⟩ := z8e N hN (decide (a.N < 0)) (decide (b.N < 0)) _ _ (p30 la) (p30 lb); rw [ga, gb] at h2; rw [ifp o0, o0]; simp only [show ((0 : Int) == 1) = false from rfl, show ((0 : Int) == 2) = false from rfl, show ((0 : Int) == 3) = false from rfl, show ((0 : Int) == 4) = false from rfl, cfa]; rw [h1]; simp only [obs]; rw [ep]; simp only [obs, bsf, cfa]; rw [fin v m _ (z8v (by omega)) (zcu _) q1, z8o _ _ _ (zcu _), h2]
   · rw [ifn o0]
     by_cases o1 : op = 1
     · rw [ifp o1, zcn, dct o1, ctr]; have hneg : (cond (!decide (b.N < 0)) (some (decide ((((dg (zak b (zg a b)).natAbs).length : Nat) : Int) > 0))) (some false)) = some (!decide (b.N < 0) && decide ((zak b (zg a b)).natAbs ≠ 0)) := by
        rw [zvt]; cases decide (b.N < 0) <;> rfl
       rw [hneg]; simp only [obs]; obtain ⟨v, m, h1, h2, h3⟩ := z8e N hN (decide (a.N < 0)) (!decide (b.N < 0) && decide ((zak b (zg a b)).natAbs ≠ 0)) _ _ (p30 la) (p30 lb); have gb2 : sgn (!decide (b.N < 0) && decide ((zak b (zg a b)).natAbs ≠ 0)) (zak b (zg a b)).natAbs = -zak b (zg a b) := by
        by_cases h0 : (zak b (zg a b)).natAbs = 0
        · have h00 := Int.natAbs_eq_zero.1 h0; rw [h0, dcf (show ¬ (0 : Nat) ≠ 0 by omega), Bool.and_false, h00]; rfl
        · rw [dct h0, Bool.and_true, z97, gb]
       rw [ga, gb2] at h2; rw [h1]; simp only [obs]; rw [ep]; simp only [obs, bsf, cfa]; rw [fin v m _ (z8v (by omega)) (zcu _) q1, z8o _ _ _ (zcu _), h2, Int.sub_eq_add_neg]
     · rw [ifn o1, zcn, dcf o1, cfa]
       by_cases o2 : op = 2
       · rw [ifp o2, zcn, dct o2, ctr]; have p90 : ∀ n : Nat, n ≤ 10 ^ 30 → n < 10 ^ 90 := fun n h => Nat.lt_of_le_of_lt h (by decide); rw [zaa1 N hN _ _ _ _ (p90 _ la) (p90 _ lb)]; simp only [obs]; have e2 := z0x (2 * zg a b).toNat (by omega); rw [Int.toNat_of_nonneg (by omega)] at e2; rw [w6e, e2]; simp only [obs, bsf, cfa]; have hm : (zak a (zg a b)).natAbs * (zak b (zg a b)).natAbs ≤ 10 ^ 100 := Nat.le_trans (Nat.mul_le_mul la lb) (by decide); rw [fin _ _ _ hm (zcu _) (zcj (by omega))]; have e3 : (zak a (zg a b)).natAbs * (zak b (zg a b)).natAbs = a.N.natAbs * b.N.natAbs * 10 ^ ((zg a b - a.Scale).toNat + (zg a b - b.Scale).toNat) := by
          rw [zkb, zkb, Nat.mul_mul_mul_comm, ← Nat.pow_add]
         have e4 : 10 ^ (2 * zg a b).toNat = 10 ^ (a.Scale + b.Scale).toNat * 10 ^ ((zg a b - a.Scale).toNat + (zg a b - b.Scale).toNat) := by
          rw [← Nat.pow_add]; congr 1; omega
         rw [z6r _ (decide (a.N < 0) != decide (b.N < 0)) _ _ (zcu _) _ _ (fun h => by rw [dct h, Bool.and_true]), e3, e4, z4p _ _ _ _ (zcu _) (zcu _)]
       · rw [ifn o2, zcn, dcf o2, cfa]
         by_cases o3 : op = 3
         · have hb0 : b.N ≠ 0 := fun h => hz ⟨.inl o3, h⟩; have hbp : 0 < (zak b (zg a b)).natAbs := by
            have : ¬ (zak b (zg a b)).natAbs = 0 := fun h => hb0 (hbz.1 h); omega
           rw [ifp o3, zcn, dct o3, ctr]; simp only [obs, bsf, cfa]; rw [fin _ _ _ (z8v (by omega)) hbp (z8v (by omega))]; have hmin : 0 ≤ a.Scale + b.Scale - zg a b := by unfold zg; split <;> omega
           have e3 : a.N.natAbs * 10 ^ b.Scale.toNat = (zak a (zg a b)).natAbs * 10 ^ (a.Scale + b.Scale - zg a b).toNat := by
            rw [zkb, Nat.mul_assoc, ← Nat.pow_add]; congr 2; omega
           have e4 : b.N.natAbs * 10 ^ a.Scale.toNat = (zak b (zg a b)).natAbs * 10 ^ (a.Scale + b.Scale - zg a b).toNat := by
            rw [zkb, Nat.mul_assoc, ← Nat.pow_add]; congr 2; omega
           rw [e3, e4, z4p _ _ _ _ (zcu _) hbp]; rfl
         · have hb0 : b.N ≠ 0 := fun h => hz ⟨by omega, h⟩; have hbp : 0 < (zak b (zg a b)).natAbs := by
            have : ¬ (zak b (zg a b)).natAbs = 0 := fun h => hb0 (hbz.1 h); omega
           have p400 : ∀ n : Nat, n ≤ 10 ^ 30 → n < 10 ^ 400 := fun n h => Nat.lt_of_le_of_lt h (by decide); have hm := Nat.mod_lt (zak a (zg a b)).natAbs hbp; rw [ifn o3, zcn, dcf o3, cfa, zcn, dct (show op = 4 by omega), ctr, z4m N hN _ _ (p400 _ la) hbp (p400 _ lb)]; simp only [obs]; rw [ep]; simp only [obs, bsf, cfa]; rw [fin _ _ _ (z8v (by omega)) (zcu _) q1]
theorem z5v (N : Nat) (hN : 2000 < N) {s : Storage} (h : zpi s) {a : Int} (ha : zt5 s a = true) :
 zgq N s a = some (match ldV s a with | some o => (zji o, 0) | none => (z4f, 22)) := by
 obtain ⟨a1, a2, a3⟩ := zt4 ha
 have hl := h.le
 have hq := h.quad
 have ht := h.tags
 unfold zgq
 rw [zaer h.ok, ha]
 simp only [obs, bnt, cfa]
 have ed : w6 (a.tdiv 16) = (((a / 16).toNat : Nat) : Int) := by
  rw [tde a1, w6e]; omega
 have hi : (a / 16).toNat < s.Tags.length := by omega
 rw [ed, zai, lge hi]
 simp only [obs]
 unfold ldV
 rw [lge hi]
 cases hb : s.Tags[(a / 16).toNat] with
 | false => rfl
 | true =>
  simp only [bnt, cfa, if_true]; unfold zkc; rw [w6e (n := (((a / 16).toNat : Nat) : Int) * 16), w6e, ifp, ifp]; simp only [obs]; have e : s.Bytes.extract ((((a / 16).toNat : Nat) : Int) * 16).toNat ((((a / 16).toNat : Nat) : Int) * 16 + 16).toNat = s.Bytes.extract (16 * (a / 16).toNat) (16 * (a / 16).toNat + 16) := by
   rw [show ((((a / 16).toNat : Nat) : Int) * 16).toNat = 16 * (a / 16).toNat by omega, show ((((a / 16).toNat : Nat) : Int) * 16 + 16).toNat = 16 * (a / 16).toNat + 16 by omega]
  rw [e, z8f N (by omega) _ (by rw [zc2 _ _ _ (by omega) (by omega)]; omega), znd]; obtain ⟨off, _, h2⟩ := h.ptr (a / 16).toNat (by rw [lge hi, hb]); rw [h2]; rfl
theorem zaad {s : Storage} (h : s.Tags.length ≤ 100000) : zhn s = some s := by
 unfold zhn zks
 rw [za0 (by omega)]
 rfl
theorem z8d (N : Nat) (hN : 2000 < N) {s : Storage} (h : zpi s) {a : Nat} {d : ByteArray} (hd : a + d.size ≤ s.Bytes.size) (hd0 : 0 < d.size) : zc9 N s (a : Int) d = some (wrV s a d) := by
 have hl := h.le
 have hq := h.quad
 have ht := h.tags
 have hmax : IntKind.i64.max = 9223372036854775807 := by decide
 unfold zc9 z1z
 rw [zaad (by omega), hmax]
 simp only [obs]
 have z1 : (s.Bytes.extract (0 : Int).toNat (a : Int).toNat).size = a := by rw [zc2 _ _ _ (by omega) (by omega)]; omega
 rw [ifp, ifp, ifn (by rw [z1]; omega), w6e (n := (a : Int) + (d.size : Int)), ifp]
 have z2 : (s.Bytes.extract ((a : Int) + (d.size : Int)).toNat s.Bytes.size).size = s.Bytes.size - (a + d.size) := by rw [zc2 _ _ _ (by omega) (by omega)]; omega
 rw [ifn (by rw [z2, bsa, z1]; omega)]
 simp only [obs]
 have f1 : ((s.Bytes.extract (0 : Int).toNat (a : Int).toNat) ++ d) ++ (s.Bytes.extract ((a : Int) + (d.size : Int)).toNat s.Bytes.size) = (wrV s a d).Bytes := by
  refine zix ?_; rw [zdj, zdj, zfe, zfe, show (0 : Int).toNat = 0 from rfl, dr0, show ((a : Int) + (d.size : Int)).toNat = a + d.size by omega, ← zas s.Bytes, List.take_length, itn]; rfl
 rw [f1]
 have lp := za1 (f := zc9.r0 N) (fun i => ((a : Int), d, (i : Int), (⟨⟨#[]⟩, []⟩ : Storage), (⟨(wrV s a d).Bytes, if i = 0 then s.Tags else clr s.Tags a i⟩ : Storage))) d.size
  (fun i hi => by
   have hlen : (if i = 0 then s.Tags else clr s.Tags a i).length = s.Tags.length := by split <;> simp [z2o]
   have ei : w6 ((w6 ((a : Int) + (i : Int))).tdiv 16) = (((a + i) / 16 : Nat) : Int) := by
    rw [w6e (n := (a : Int) + (i : Int)), tde, w6e]; omega
   simp only [zc9.r0, zc9.b0, dct (show (i : Int) < (d.size : Int) by omega), ctr, ei, hlen]; rw [ifp, ifp, itn]; obtain ⟨x, hx⟩ : ∃ x, (if i = 0 then s.Tags else clr s.Tags a i)[(a + i) / 16]? = some x := zfc (by omega); rw [hx]; simp only [obs]; rw [w6e]; have e2 : (if i = 0 then s.Tags else clr s.Tags a i).set ((a + i) / 16) false = clr s.Tags a (i + 1) := by
    refine List.ext_getElem? fun k => ?_; rw [z2p, List.getElem?_set, hlen]; have hc : (if i = 0 then s.Tags else clr s.Tags a i)[k]? = if i ≠ 0 ∧ 16 * k < a + i ∧ a < 16 * k + 16 then (if k < s.Tags.length then some false else none) else s.Tags[k]? := by
     by_cases h0 : i = 0
     · rw [ifp h0, ifn]
     · rw [ifn h0, z2p]
       by_cases h1 : 16 * k < a + i ∧ a < 16 * k + 16
       · rw [ifp h1, ifp (show i ≠ 0 ∧ 16 * k < a + i ∧ a < 16 * k + 16 from ⟨h0, h1⟩)]
       · rw [ifn h1, ifn (fun h => h1 h.2)]
    rw [hc]
    by_cases hk : (a + i) / 16 = k
    · rw [ifp hk, ifp (show (a + i) / 16 < s.Tags.length by omega), ifp (show 16 * k < a + (i + 1) ∧ a < 16 * k + 16 by omega), ifp]
    · rw [ifn hk]
      by_cases h1 : i ≠ 0 ∧ 16 * k < a + i ∧ a < 16 * k + 16
      · rw [ifp h1, ifp (show 16 * k < a + (i + 1) ∧ a < 16 * k + 16 by omega)]
      · rw [ifn h1, ifn (show ¬ (16 * k < a + (i + 1) ∧ a < 16 * k + 16) by omega)]
   rw [e2, ifn (show ¬ i + 1 = 0 by omega)]; rfl)
  (by simp only [zc9.r0, zc9.b0, dcf (show ¬ (d.size : Int) < (d.size : Int) by omega), cfa]) (N := N) (by omega)
 simp only [if_true, nc0] at lp
 rw [lp, ifn (show ¬ d.size = 0 by omega)]
 rfl
theorem z90 (N : Nat) (hN : 200 < N) (off : Nat) (h : off ≤ 16777215) : zxh N (zji off) = some (pbV off) := by
 unfold zxh zji
 have b := fun v k hv hk => zxf N (by omega) v k hv hk
 have hmax : IntKind.i64.max = 9223372036854775807 := by decide
 have sz : ∀ v k, (zd3 (zbm v k)).size = k := fun v k => by
  show (bl (zd3 (zbm v k))).length = k; rw [zht, lnm, z4a]
 rw [show zbo N 0 1 = _ from b 0 1 (by decide) (by decide), show zbo N 0 2 = _ from b 0 2 (by decide) (by decide), show zbo N 1 6 = _ from b 1 6 (by decide) (by decide), show zbo N (off : Int) 6 = _ from b off 6 (by omega) (by decide), hmax]
 simp only [obs]
 have z0 : (⟨#[0]⟩ : ByteArray).size = 1 := rfl
 rw [ifn (by rw [sz, z0]; decide), ifn (by rw [bsa, sz, z0, sz]; decide), ifn (by rw [bsa, bsa, sz, z0, sz, sz]; decide), ifn (by rw [bsa, bsa, bsa, sz, z0, sz, sz, sz]; decide)]
 refine congrArg some (zix ?_)
 unfold pbV
 rw [zdj, zdj, zdj, zdj, zht, zht, zht, zht, zht]
 simp only [List.map_append]
 rfl
theorem zadc (N : Nat) (hN : 2000 < N) {s : Storage} (h : zpi s) {a : Int} (ha : zt5 s a = true) (off : Nat) (ho : off ≤ 16777215) : zjv N s a (zji off) = some (stV s a.toNat off) := by
 obtain ⟨a1, a2, a3⟩ := zt4 ha
 have hl := h.le
 have hq := h.quad
 have ht := h.tags
 have hA : a = ((a.toNat : Nat) : Int) := by omega
 have hw : a.toNat + (pbV off).size ≤ s.Bytes.size := by rw [zn6]; omega
 unfold zjv
 try simp only [eS]
 rw [z90 N (by omega) off ho]
 simp only [obs]
 have hp := z8d N hN h hw (by rw [zn6]; omega)
 rw [← hA] at hp
 rw [hp]
 simp only [obs]
 have ed : w6 (a.tdiv 16) = ((a.toNat / 16 : Nat) : Int) := by
  rw [tde a1, w6e]; omega
 have hlen : (wrV s a.toNat (pbV off)).Tags.length = s.Tags.length := z2o _ _ _
 rw [ed, ifp, ifp (by rw [hlen]; omega), itn, lge (by rw [hlen]; omega)]
 rfl
def zr4 (b : ByteArray) (n : Nat) : ByteArray := ⟨((bl b).take n ++ List.replicate (n - b.size) 32).toArray⟩
theorem z1h (b : ByteArray) (n : Nat) : (zr4 b n).size = n := by
 show ((bl b).take n ++ List.replicate (n - b.size) 32).length = n
 rw [lna, lnt, lnr, zas]; omega
theorem zabw (N : Nat) (c : Nat) (hc : c < 256) (n : Nat) (hn : n < N) (hn2 : n ≤ 100000) : zgn N (c : Int) (n : Int) = some ⟨(List.replicate n (UInt8.ofNat c)).toArray⟩ := by
 unfold zgn
 have := za1 (f := zgn.r0 N) (fun i => ((c : Int), (n : Int), List.replicate i (c : Int), (i : Int))) n
  (fun i hi => by
   simp only [zgn.r0, zgn.b0, dct (show (i : Int) < (n : Int) by omega), ctr]; rw [za0 (by simp only [lnr, lnc, ln0]; omega), ctr, w6e, ← List.replicate_succ']; rfl)
  (by simp only [zgn.r0, zgn.b0, dcf (show ¬ (n : Int) < (n : Int) by omega), cfa]) hn
 simp only [nc0, List.replicate_zero] at this
 rw [this, obs]
 congr 1
 refine zix ?_
 rw [zht, List.map_replicate]
 rfl
theorem z0z (N : Nat) (hN : 10000 < N) (b : ByteArray) (hb : b.size ≤ 5000) (n : Nat) (hn : n ≤ 5000) : zjx N b (n : Int) = some (zr4 b n) := by
 have hmax : IntKind.i64.max = 9223372036854775807 := by decide
 unfold zjx
 by_cases h : n ≤ b.size
 · rw [dct (by omega), ctr, ifp, ifp]
   congr 1
   refine zix ?_; rw [zfe, show (0 : Int).toNat = 0 from rfl, dr0, itn]; show _ = (bl b).take n ++ List.replicate (n - b.size) 32; rw [show n - b.size = 0 by omega, List.replicate_zero, List.append_nil]
 · rw [dcf (by omega), cfa, w6e, show (n : Int) - (b.size : Int) = ((n - b.size : Nat) : Int) by omega, show (32 : Int) = ((32 : Nat) : Int) from rfl, zabw N 32 (by decide) _ (by omega) (by omega), obs, hmax]; have hs : (⟨(List.replicate (n - b.size) (UInt8.ofNat 32)).toArray⟩ : ByteArray).size = n - b.size := by
    show (List.replicate (n - b.size) (UInt8.ofNat 32)).length = _; rw [lnr]
   rw [ifn (by rw [hs]; omega)]
   congr 1
   refine zix ?_; rw [zdj]; show bl b ++ List.replicate (n - b.size) 32 = (bl b).take n ++ List.replicate (n - b.size) 32; rw [List.take_of_length_le (by rw [zas]; omega)]
theorem zxg (c : UInt8) : ∀ n, Lib.repeatL [c] n = List.replicate n c
 | 0 => rfl
 | n + 1 => by show c :: Lib.repeatL [c] n = _; rw [zxg c n, List.replicate_succ]
theorem zack (b : ByteArray) (n : Nat) : (⟨(bl b ++ List.replicate (n - b.size) 32).toArray⟩ : ByteArray).extract 0 n = zr4 b n := by
 refine zix ?_
 rw [zfe, dr0]
 show (bl b ++ List.replicate (n - b.size) 32).take n = (bl b).take n ++ List.replicate (n - b.size) 32
 rw [List.take_append, zas, List.take_replicate, Nat.min_self]
theorem z7c (b : ByteArray) (n : Nat) : (⟨(bl b ++ List.replicate (n - b.size) 32).toArray⟩ : ByteArray) = zr4 b (max b.size n) := by
 refine zix ?_
 show bl b ++ List.replicate (n - b.size) 32 = (bl b).take (max b.size n) ++ List.replicate (max b.size n - b.size) 32
 rw [List.take_of_length_le (by rw [zas]; omega), show max b.size n - b.size = n - b.size by omega]
def z1x (x y : List UInt8) : Int := if Op.bytesLess x y = true then -1 else if x = y then 0 else 1
theorem z9q : ∀ (x y : List UInt8), x.length = y.length → (match (List.range x.length).find? (fun i => x.getD i 0 != y.getD i 0) with | some i => if x.getD i 0 < y.getD i 0 then (-1 : Int) else 1 | none => 0) = z1x x y
 | [], [], _ => rfl
 | [], _ :: _, h => by cases h
 | _ :: _, [], h => by cases h
 | a :: x, b :: y, h => by
  have ih := z9q x y (by simpa using h); rw [lnc, List.range_succ_eq_map, List.find?_cons]; rw [List.getD_cons_zero, List.getD_cons_zero]
  by_cases hab : a = b
  · subst hab; simp only [bsf]; rw [List.find?_map]; have e : ((fun i => (a :: x).getD i 0 != (a :: y).getD i 0) ∘ Nat.succ) = fun i => x.getD i 0 != y.getD i 0 := by
     funext i
     rfl
    rw [e]; have e2 : z1x (a :: x) (a :: y) = z1x x y := by
     unfold z1x; have e3 : Op.bytesLess (a :: x) (a :: y) = Op.bytesLess x y := by
      show (decide (a < a) || (a == a && Op.bytesLess x y)) = _; rw [dcf (UInt8.lt_irrefl a)]; simp
     rw [e3]; simp
    rw [e2, ← ih]; cases (List.range x.length).find? (fun i => x.getD i 0 != y.getD i 0) <;> rfl
  · have hne : (a != b) = true := by simpa using hab
    rw [hne]; simp only [List.getD_cons_zero]; unfold z1x; have e3 : Op.bytesLess (a :: x) (b :: y) = decide (a < b) := by
     show (decide (a < b) || (a == b && Op.bytesLess x y)) = _; rw [show (a == b) = false from beq_eq_false_iff_ne.2 hab, Bool.false_and, Bool.or_false]
    rw [e3]
    by_cases hlt : a < b
    · rw [ifp hlt, ifp (dct hlt)]
    · rw [ifn hlt, ifn (by rw [dcf hlt]; decide), ifn (by intro h; exact hab (List.cons.inj h).1)]
theorem zagn {a b : ByteArray} (h : a.size = b.size) : Extern.BytealgCompare.cmp a b = z1x (bl a) (bl b) := by
 unfold Extern.BytealgCompare.cmp
 rw [← z9q (bl a) (bl b) (by rw [zas, zas, h]), zas, show min a.size b.size = a.size by omega]
 have g : ∀ (c : ByteArray) (i : Nat), i < c.size → c[i]! = (bl c).getD i 0 := fun c i hi => by
  rw [getElem!_pos c i hi, gdd, lge (by rw [zas]; exact hi)]; rfl
 have e : (List.range a.size).find? (fun i => a[i]! != b[i]!) = (List.range a.size).find? (fun i => (bl a).getD i 0 != (bl b).getD i 0) := by
  have key : ∀ l : List Nat, (∀ i ∈ l, i < a.size) → l.find? (fun i => a[i]! != b[i]!) = l.find? (fun i => (bl a).getD i 0 != (bl b).getD i 0) := by
   intro l
   induction l with
   | nil => intro _; rfl
   | cons i l ih =>
    intro hl; have hi := hl i List.mem_cons_self; rw [List.find?_cons, List.find?_cons, g a i hi, g b i (by omega), ih fun j hj => hl j (List.mem_cons_of_mem _ hj)]
  exact key _ fun i hi => List.mem_range.1 hi
 rw [e]
 cases hf : (List.range a.size).find? (fun i => (bl a).getD i 0 != (bl b).getD i 0) with
 | none => simp only []; rw [ifn, ifn]
 | some i =>
  have hi := List.mem_range.1 (List.mem_of_find?_eq_some hf); simp only []; rw [g a i hi, g b i (by omega)]
theorem zaft (x : Int) (i : Nat) : (x.tdiv (10 ^ i)).tdiv 10 = x.tdiv (10 ^ (i + 1)) := by
 have key : ∀ m : Nat, ((m : Int).tdiv (10 ^ i)).tdiv 10 = (m : Int).tdiv (10 ^ (i + 1)) := fun m => by
  rw [show (10 : Int) ^ i = ((10 ^ i : Nat) : Int) by rw [Int.natCast_pow]; rfl, show (10 : Int) ^ (i + 1) = ((10 ^ (i + 1) : Nat) : Int) by rw [Int.natCast_pow]; rfl, ← Int.ofNat_tdiv, ← Int.ofNat_tdiv, show (10 : Int) = ((10 : Nat) : Int) from rfl, ← Int.ofNat_tdiv, Nat.div_div_eq_div_mul, Nat.pow_succ]
 obtain ⟨m, rfl | rfl⟩ := Int.eq_nat_or_neg x
 · exact key m
 · rw [Int.neg_tdiv, Int.neg_tdiv, key m, Int.neg_tdiv]
def zgb (x : Number) : Int := x.N.tdiv (10 ^ x.Scale.toNat)
theorem zv3 {x : Number} (hx : zdl x) : -999999999999999 ≤ zgb x ∧ zgb x ≤ 999999999999999 := by
 obtain ⟨⟨h1, h2⟩, _⟩ := hx
 have h := Int.natAbs_tdiv_le_natAbs x.N (10 ^ x.Scale.toNat)
 unfold zgb
 omega
def zp8 (m scale : Nat) : List UInt8 := List.replicate (scale + 1 - (Lib.decDigits m).length) 48 ++ Lib.decDigits m
def ptT (l : List UInt8) (scale : Nat) : List UInt8 := if 0 < scale then l.take (l.length - scale) ++ [46] ++ l.drop (l.length - scale) else l
def sgT (n : Int) (l : List UInt8) : ByteArray := ⟨(if n < 0 then [45] ++ l else l).toArray⟩
def zww (x : Number) : ByteArray := sgT x.N (ptT (zp8 x.N.natAbs x.Scale.toNat) x.Scale.toNat)
theorem z9e {x : Number} (h0 : 0 ≤ x.Scale) (B : ByteArray) (h1 : x.Scale < (B.size : Int)) (h2 : B.size ≤ 100) :
 ((cond (decide (x.Scale > 0))
 (if 0 ≤ (w6 ((B.size : Int) - x.Scale)) ∧ (w6 ((B.size : Int) - x.Scale)) ≤ (B.size : Int) then (if 0 ≤ (0 : Int) ∧ (0 : Int) ≤ (w6 ((B.size : Int) - x.Scale)) then (if (((B.extract (0 : Int).toNat (w6 ((B.size : Int) - x.Scale)).toNat).size + (⟨#[46]⟩ : ByteArray).size : Nat) : Int) > IntKind.i64.max then none else if 0 ≤ (w6 ((B.size : Int) - x.Scale)) ∧ (w6 ((B.size : Int) - x.Scale)) ≤ (B.size : Int) then (if ((((B.extract (0 : Int).toNat (w6 ((B.size : Int) - x.Scale)).toNat) ++ (⟨#[46]⟩ : ByteArray)).size + (B.extract (w6 ((B.size : Int) - x.Scale)).toNat B.size).size : Nat) : Int) > IntKind.i64.max then none else cond (decide (x.N < 0))
 (if (((⟨#[45]⟩ : ByteArray).size + (((B.extract (0 : Int).toNat (w6 ((B.size : Int) - x.Scale)).toNat) ++ (⟨#[46]⟩ : ByteArray)) ++ (B.extract (w6 ((B.size : Int) - x.Scale)).toNat B.size)).size : Nat) : Int) > IntKind.i64.max then none else some (((⟨#[45]⟩ : ByteArray) ++ (((B.extract (0 : Int).toNat (w6 ((B.size : Int) - x.Scale)).toNat) ++ (⟨#[46]⟩ : ByteArray)) ++ (B.extract (w6 ((B.size : Int) - x.Scale)).toNat B.size))), 0))
 (some ((((B.extract (0 : Int).toNat (w6 ((B.size : Int) - x.Scale)).toNat) ++ (⟨#[46]⟩ : ByteArray)) ++ (B.extract (w6 ((B.size : Int) - x.Scale)).toNat B.size)), 0))) else none) else none) else none)
 (cond (decide (x.N < 0)) (if (((⟨#[45]⟩ : ByteArray).size + B.size : Nat) : Int) > IntKind.i64.max then none else some (((⟨#[45]⟩ : ByteArray) ++ B), 0)) (some (B, 0)))) : Option (ByteArray × Int)) = some (sgT x.N (ptT (bl B) x.Scale.toNat), 0) := by
 have hmax : IntKind.i64.max = 9223372036854775807 := by decide
 have z1 : (⟨#[46]⟩ : ByteArray).size = 1 := rfl
 have z2 : (⟨#[45]⟩ : ByteArray).size = 1 := rfl
 rw [hmax, w6e]
 obtain ⟨k, hk⟩ : ∃ k : Nat, (B.size : Int) - x.Scale = (k : Int) := ⟨((B.size : Int) - x.Scale).toNat, by omega⟩
 have hk2 : k = B.size - x.Scale.toNat := by omega
 rw [hk, itn, show (0 : Int).toNat = 0 from rfl]
 have s1 : (B.extract 0 k).size = k := by rw [zc2 _ _ _ (by omega) (by omega)]; omega
 have s2 : (B.extract k B.size).size = B.size - k := by rw [zc2 _ _ _ (by omega) (by omega)]
 by_cases hs : x.Scale > 0
 · rw [dct hs, ctr, ifp, ifp, ifn (by rw [s1, z1]; omega), ifp, ifn (by rw [bsa, s1, z1, s2]; omega)]; have e : bl ((B.extract 0 k ++ (⟨#[46]⟩ : ByteArray)) ++ B.extract k B.size) = ptT (bl B) x.Scale.toNat := by
    unfold ptT; rw [zdj, zdj, zfe, zfe, dr0, ifp, ← zas B, List.take_length, zas, hk2]; rfl
   by_cases hn : x.N < 0
   · rw [dct hn, ctr, ifn (by rw [bsa, bsa, s1, z1, s2, z2]; omega)]
     congr 2
     refine zix ?_; rw [zdj, e]; unfold sgT; rw [ifp hn]; rfl
   · rw [dcf hn, cfa]
     congr 2
     refine zix ?_; rw [e]; unfold sgT; rw [ifn hn]; rfl
 · rw [dcf hs, cfa]; have e : ptT (bl B) x.Scale.toNat = bl B := by unfold ptT; rw [ifn]
   rw [e]
   by_cases hn : x.N < 0
   · rw [dct hn, ctr, ifn (by rw [z2]; omega)]
     congr 2
     refine zix ?_; rw [zdj]; unfold sgT; rw [ifp hn]; rfl
   · rw [dcf hn, cfa]
     congr 2
     unfold sgT; rw [ifn hn]; rfl
theorem zac0 {x : Number} (h0 : 0 ≤ x.Scale) (B : ByteArray) (h1 : x.Scale < (B.size : Int)) (h2 : B.size ≤ 100) :
 (cond (decide (x.Scale > 0))
 (if 0 ≤ (w6 ((B.size : Int) - x.Scale)) ∧ (w6 ((B.size : Int) - x.Scale)) ≤ (B.size : Int) then (if 0 ≤ (0 : Int) ∧ (0 : Int) ≤ (w6 ((B.size : Int) - x.Scale)) then (if (((B.extract (0 : Int).toNat (w6 ((B.size : Int) - x.Scale)).toNat).size + (⟨#[46]⟩ : ByteArray).size : Nat) : Int) > IntKind.i64.max then none else if 0 ≤ (w6 ((B.size : Int) - x.Scale)) ∧ (w6 ((B.size : Int) - x.Scale)) ≤ (B.size : Int) then (if ((((B.extract (0 : Int).toNat (w6 ((B.size : Int) - x.Scale)).toNat) ++ (⟨#[46]⟩ : ByteArray)).size + (B.extract (w6 ((B.size : Int) - x.Scale)).toNat B.size).size : Nat) : Int) > IntKind.i64.max then none else cond (decide (x.N < 0))
 (if (((⟨#[45]⟩ : ByteArray).size + (((B.extract (0 : Int).toNat (w6 ((B.size : Int) - x.Scale)).toNat) ++ (⟨#[46]⟩ : ByteArray)) ++ (B.extract (w6 ((B.size : Int) - x.Scale)).toNat B.size)).size : Nat) : Int) > IntKind.i64.max then none else some ((⟨#[45]⟩ : ByteArray) ++ (((B.extract (0 : Int).toNat (w6 ((B.size : Int) - x.Scale)).toNat) ++ (⟨#[46]⟩ : ByteArray)) ++ (B.extract (w6 ((B.size : Int) - x.Scale)).toNat B.size))))
 (some (((B.extract (0 : Int).toNat (w6 ((B.size : Int) - x.Scale)).toNat) ++ (⟨#[46]⟩ : ByteArray)) ++ (B.extract (w6 ((B.size : Int) - x.Scale)).toNat B.size)))) else none) else none) else none)
 (cond (decide (x.N < 0)) (if (((⟨#[45]⟩ : ByteArray).size + B.size : Nat) : Int) > IntKind.i64.max then none else some ((⟨#[45]⟩ : ByteArray) ++ B)) (some B))) = some (sgT x.N (ptT (bl B) x.Scale.toNat)) := by
 have hmax : IntKind.i64.max = 9223372036854775807 := by decide
 have z1 : (⟨#[46]⟩ : ByteArray).size = 1 := rfl
 have z2 : (⟨#[45]⟩ : ByteArray).size = 1 := rfl
 rw [hmax, w6e]
 obtain ⟨k, hk⟩ : ∃ k : Nat, (B.size : Int) - x.Scale = (k : Int) := ⟨((B.size : Int) - x.Scale).toNat, by omega⟩
 have hk2 : k = B.size - x.Scale.toNat := by omega
 rw [hk, itn, show (0 : Int).toNat = 0 from rfl]
 have s1 : (B.extract 0 k).size = k := by rw [zc2 _ _ _ (by omega) (by omega)]; omega
 have s2 : (B.extract k B.size).size = B.size - k := by rw [zc2 _ _ _ (by omega) (by omega)]
 by_cases hs : x.Scale > 0
 · rw [dct hs, ctr, ifp, ifp, ifn (by rw [s1, z1]; omega), ifp, ifn (by rw [bsa, s1, z1, s2]; omega)]; have e : bl ((B.extract 0 k ++ (⟨#[46]⟩ : ByteArray)) ++ B.extract k B.size) = ptT (bl B) x.Scale.toNat := by
    unfold ptT; rw [zdj, zdj, zfe, zfe, dr0, ifp, ← zas B, List.take_length, zas, hk2]; rfl
   by_cases hn : x.N < 0
   · rw [dct hn, ctr, ifn (by rw [bsa, bsa, s1, z1, s2, z2]; omega)]; refine congrArg some (zix ?_); rw [zdj, e]; unfold sgT; rw [ifp hn]; rfl
   · rw [dcf hn, cfa]; refine congrArg some (zix ?_); rw [e]; unfold sgT; rw [ifn hn]; rfl
 · rw [dcf hs, cfa]; have e : ptT (bl B) x.Scale.toNat = bl B := by unfold ptT; rw [ifn]
   rw [e]
   by_cases hn : x.N < 0
   · rw [dct hn, ctr, ifn (by rw [z2]; omega)]; refine congrArg some (zix ?_); rw [zdj]; unfold sgT; rw [ifp hn]; rfl
   · rw [dcf hn, cfa]; unfold sgT; rw [ifn hn]; rfl
theorem z2n (m : Nat) : ∀ k, 0 < k → m < 10 ^ k → (Lib.decDigits m).length ≤ k ∧ 0 < (Lib.decDigits m).length := by
 induction m using Nat.strongRecOn with
 | _ m ih =>
  intro k hk hm; rw [Lib.decDigits]
  by_cases h : m < 10
  · rw [dif_pos h, lns]; omega
  · rw [dif_neg h, lna, lns]; obtain ⟨j, rfl⟩ : ∃ j, k = j + 1 := ⟨k - 1, by omega⟩; rw [Nat.pow_succ] at hm; have hj : 0 < j := by
     refine cbc fun h0 => ?_; rw [show j = 0 by omega] at hm; omega
    have := ih (m / 10) (by omega) j hj (by omega); omega
theorem z36 (m scale : Nat) (hm : m < 10 ^ 15) (hs : scale ≤ 15) : scale < (zp8 m scale).length ∧ (zp8 m scale).length ≤ 16 := by
 have := z2n m 15 (by decide) hm
 unfold zp8
 rw [lna, lnr]
 omega
theorem z63 {x : Number} (hx : zdl x) : zgs x = some (zww x, 0) := by
 have hx' := hx
 obtain ⟨⟨h1, h2⟩, h3, h4⟩ := hx'
 have hmax : IntKind.i64.max = 9223372036854775807 := by decide
 have hlen := z2n x.N.natAbs 15 (by decide) (by omega)
 have hdl := z36 x.N.natAbs x.Scale.toNat (by omega) (by omega)
 unfold zgs
 rw [zrf, zpq.2 hx]
 simp only [obs, bsf, cfa]
 rw [zsr (by omega) (by omega)]
 have hi : z0f (((x.N.natAbs : Nat) : Int)) = some ⟨(Lib.decDigits x.N.natAbs).toArray⟩ := by
  unfold z0f Lib.itoa; rw [ifp ⟨by omega, by omega⟩, ifn, itn]
 rw [hi]
 simp only [obs]
 have hsz : (⟨(Lib.decDigits x.N.natAbs).toArray⟩ : ByteArray).size = (Lib.decDigits x.N.natAbs).length := rfl
 by_cases hle : ((Lib.decDigits x.N.natAbs).length : Int) ≤ x.Scale
 · rw [hsz, dct hle, ctr, w6e (n := x.Scale + 1), w6e]; have hr : znn (⟨#[48]⟩ : ByteArray) (x.Scale + 1 - ((Lib.decDigits x.N.natAbs).length : Int)) = some ⟨(List.replicate (x.Scale.toNat + 1 - (Lib.decDigits x.N.natAbs).length) 48).toArray⟩ := by
    unfold znn; have hs1 : (⟨#[48]⟩ : ByteArray).size = 1 := rfl; rw [ifp ⟨by omega, by omega, by rw [hs1]; omega⟩, zxg, show (x.Scale + 1 - ((Lib.decDigits x.N.natAbs).length : Int)).toNat = x.Scale.toNat + 1 - (Lib.decDigits x.N.natAbs).length by omega]
   rw [hr]; simp only [obs]; have hs2 : (⟨(List.replicate (x.Scale.toNat + 1 - (Lib.decDigits x.N.natAbs).length) (48 : UInt8)).toArray⟩ : ByteArray).size = x.Scale.toNat + 1 - (Lib.decDigits x.N.natAbs).length := by
    show (List.replicate (x.Scale.toNat + 1 - (Lib.decDigits x.N.natAbs).length) (48 : UInt8)).length = _; rw [lnr]
   rw [hmax, ifn (by rw [hs2]; omega)]; have hb : (⟨(List.replicate (x.Scale.toNat + 1 - (Lib.decDigits x.N.natAbs).length) (48 : UInt8)).toArray⟩ : ByteArray) ++ ⟨(Lib.decDigits x.N.natAbs).toArray⟩ = ⟨(zp8 x.N.natAbs x.Scale.toNat).toArray⟩ := by
    refine zix ?_; rw [zdj]; rfl
   rw [hb]; have := z9e h3 ⟨(zp8 x.N.natAbs x.Scale.toNat).toArray⟩ (by show x.Scale < ((zp8 x.N.natAbs x.Scale.toNat).length : Int); omega) (by show (zp8 x.N.natAbs x.Scale.toNat).length ≤ 100; omega); rw [hmax, zaeg] at this; unfold zww; exact this
 · rw [hsz, dcf hle, cfa, ← hsz]; have hb : bl (⟨(Lib.decDigits x.N.natAbs).toArray⟩ : ByteArray) = zp8 x.N.natAbs x.Scale.toNat := by
    unfold zp8; rw [show x.Scale.toNat + 1 - (Lib.decDigits x.N.natAbs).length = 0 by omega]; rfl
   have := z9e h3 ⟨(Lib.decDigits x.N.natAbs).toArray⟩ (by rw [hsz]; omega) (by rw [hsz]; omega); rw [hb] at this; unfold zww; exact this
theorem z04 : ∀ (N m : Nat), 0 < N → m < 10 ^ N → N ≤ 18 → ∀ K, zol (N + K) (m : Int) = some ⟨(Lib.decDigits m).toArray⟩
 | 0, m, h, _, _ => by omega
 | N + 1, m, _, hm, hN => fun K => by
  have hmax : IntKind.i64.max = 9223372036854775807 := by decide
  have h18 : 10 ^ (N + 1) ≤ 10 ^ 18 := zcj hN; rw [show N + 1 + K = (N + K) + 1 by omega]; show (cond (decide ((m : Int) < (-9))) _ (cond (decide ((m : Int) < 0)) _ (cond (decide ((m : Int) < 10)) _ _))) = _; rw [dcf (by omega), dcf (by omega), cfa, cfa, Lib.decDigits]
  by_cases h : m < 10
  · rw [dct (by omega), ctr, dif_pos h, w6e, zob (by omega) (by omega)]; refine congrArg some (zix ?_); rw [zht]; show [UInt8.ofNat (48 + (m : Int)).toNat] = [UInt8.ofNat (48 + m)]; rw [show (48 + (m : Int)).toNat = 48 + m by omega]
  · rw [Nat.pow_succ] at hm; have hN0 : 0 < N := by
     refine cbc fun h0 => ?_; rw [show N = 0 by omega] at hm; omega
    have ih := z04 N (m / 10) hN0 (by omega) (by omega) K; rw [dcf (by omega), cfa, dif_neg h, tde, tme, w6e (n := (m : Int) / 10), show (m : Int) / 10 = ((m / 10 : Nat) : Int) by omega, ih, obs, w6e, zob (by omega) (by omega), hmax]; have hl := z2n (m / 10) N hN0 (by omega); have hs : (⟨(Lib.decDigits (m / 10)).toArray⟩ : ByteArray).size = (Lib.decDigits (m / 10)).length := rfl; have hs2 : (zd3 ([48 + (m : Int) % 10] : List Int)).size = 1 := rfl; rw [ifn (by rw [hs, hs2]; omega)]; refine congrArg some (zix ?_); rw [zdj, zht]; show Lib.decDigits (m / 10) ++ [UInt8.ofNat (48 + (m : Int) % 10).toNat] = Lib.decDigits (m / 10) ++ [UInt8.ofNat (48 + m % 10)]; rw [show (48 + (m : Int) % 10).toNat = 48 + m % 10 by omega]
theorem zaeq (N : Nat) (hN : 100 < N) {x : Number} (hx : zdl x) : zhs N x = some (zww x) := by
 have hx' := hx
 obtain ⟨⟨h1, h2⟩, h3, h4⟩ := hx'
 have hmax : IntKind.i64.max = 9223372036854775807 := by decide
 have hlen := z2n x.N.natAbs 15 (by decide) (by omega)
 have hdl := z36 x.N.natAbs x.Scale.toNat (by omega) (by omega)
 unfold zhs zna
 rw [zsr (by omega) (by omega)]
 simp only [obs, eN]
 have hd := z04 15 x.N.natAbs (by decide) (by omega) (by decide) (N - 15)
 rw [show 15 + (N - 15) = N by omega] at hd
 rw [hd]
 simp only [obs]
 have z1 : (⟨#[48]⟩ : ByteArray).size = 1 := rfl
 have lp := za1 (f := zhs.r0 N) (fun i => ((⟨(List.replicate i (48 : UInt8) ++ Lib.decDigits x.N.natAbs).toArray⟩ : ByteArray), x)) (x.Scale.toNat + 1 - (Lib.decDigits x.N.natAbs).length)
  (fun i hi => by
   have hs : (⟨(List.replicate i (48 : UInt8) ++ Lib.decDigits x.N.natAbs).toArray⟩ : ByteArray).size = i + (Lib.decDigits x.N.natAbs).length := by
    show (List.replicate i (48 : UInt8) ++ Lib.decDigits x.N.natAbs).length = _; rw [lna, lnr]
   simp only [zhs.r0, zhs.b0]; rw [dct (by rw [hs]; omega), ctr, hmax, ifn (by rw [hs, z1]; omega)]; refine congrArg some (congrArg Stp.again (Prod.ext (zix ?_) rfl)); show bl ((⟨#[48]⟩ : ByteArray) ++ ⟨(List.replicate i (48 : UInt8) ++ Lib.decDigits x.N.natAbs).toArray⟩) = List.replicate (i + 1) (48 : UInt8) ++ Lib.decDigits x.N.natAbs; rw [zdj, List.replicate_succ]; rfl)
  (by
   have hs : (⟨(List.replicate (x.Scale.toNat + 1 - (Lib.decDigits x.N.natAbs).length) (48 : UInt8) ++ Lib.decDigits x.N.natAbs).toArray⟩ : ByteArray).size = x.Scale.toNat + 1 - (Lib.decDigits x.N.natAbs).length + (Lib.decDigits x.N.natAbs).length := by
    show (List.replicate (x.Scale.toNat + 1 - (Lib.decDigits x.N.natAbs).length) (48 : UInt8) ++ Lib.decDigits x.N.natAbs).length = _; rw [lna, lnr]
   simp only [zhs.r0, zhs.b0]; rw [dcf (by rw [hs]; omega), cfa]) (N := N) (by omega)
 rw [List.replicate_zero, List.nil_append] at lp
 rw [lp]
 have := zac0 h3 ⟨(zp8 x.N.natAbs x.Scale.toNat).toArray⟩ (by show x.Scale < ((zp8 x.N.natAbs x.Scale.toNat).length : Int); omega) (by show (zp8 x.N.natAbs x.Scale.toNat).length ≤ 100; omega)
 rw [zaeg] at this
 unfold zww
 exact this
theorem zaau {x : Number} (hx : zdl x) : (zww x).size ≤ 256 := by
 obtain ⟨⟨h1, h2⟩, h3, h4⟩ := hx
 have hdl := z36 x.N.natAbs x.Scale.toNat (by omega) (by omega)
 have hp : (ptT (zp8 x.N.natAbs x.Scale.toNat) x.Scale.toNat).length ≤ 17 := by
  unfold ptT; split
  · rw [lna, lna, lnt, List.length_drop, lns]; omega
  · omega
 unfold zww sgT
 show (if x.N < 0 then [45] ++ ptT (zp8 x.N.natAbs x.Scale.toNat) x.Scale.toNat else ptT (zp8 x.N.natAbs x.Scale.toNat) x.Scale.toNat).length ≤ 256
 split
 · rw [lna, lns]; omega
 · omega
theorem zvk {R α : Type} {f : α → Option (Round R α)} (S : Nat → α) (g : Nat → Option R) (n : Nat) (h : ∀ i, i < n → (∀ j, j < i → g j = none) → f (S i) = some (match g i with | some r => .result r | none => .again (S (i + 1)))) (hl : (∀ j, j < n → g j = none) → f (S n) = some (.leave (S n))) {N : Nat} (hN : n < N) :
 zj f N (S 0) = some (match (List.range n).findSome? g with | some r => .inl r | none => .inr (S n)) := by
 have key : ∀ k i N, i + k = n → k < N → (∀ j, j < i → g j = none) → zj f N (S i) = some (match (List.range' i k).findSome? g with | some r => .inl r | none => .inr (S n)) := by
  intro k
  induction k with
  | zero =>
   intro i N hi hN hp; obtain ⟨m, rfl⟩ : ∃ m, N = m + 1 := ⟨N - 1, by omega⟩; obtain rfl : i = n := by omega
   simp only [zj, hl hp, obs]; rfl
  | succ k ih =>
   intro i N hi hN hp; obtain ⟨m, rfl⟩ : ∃ m, N = m + 1 := ⟨N - 1, by omega⟩; simp only [zj, h i (by omega) hp, obs, List.range'_succ, List.findSome?_cons]; cases hg : g i with
   | some r => rfl
   | none =>
    refine ih (i + 1) m (by omega) (by omega) fun j hj => ?_; rcases Nat.lt_or_ge j i with h1 | h1
    · exact hp j h1
    · obtain rfl : j = i := by omega
      exact hg
 rw [List.range_eq_range']
 exact key n 0 N (by omega) hN (fun j hj => absurd hj (by omega))
theorem zl4 {R : Type} {g : Nat → Option R} {n : Nat} : (List.range n).findSome? g = none ↔ ∀ i, i < n → g i = none := by
 rw [List.findSome?_eq_none_iff]
 exact ⟨fun h i hi => h i (List.mem_range.2 hi), fun h i hi => h i (List.mem_range.1 hi)⟩
theorem zl1 {R : Type} {g : Nat → Option R} {r : R} : ∀ {n : Nat}, (List.range n).findSome? g = some r → ∃ i, i < n ∧ g i = some r ∧ ∀ j, j < i → g j = none
 | 0, h => by simp at h
 | n + 1, h => by
  rw [List.range_succ, List.findSome?_append] at h; cases hn : (List.range n).findSome? g with
  | some r' =>
   rw [hn] at h; obtain ⟨i, h1, h2, h3⟩ := zl1 hn; exact ⟨i, by omega, by rw [h2]; exact h, h3⟩
  | none =>
   rw [hn] at h; simp only [List.findSome?_cons, List.findSome?_nil] at h; refine ⟨n, by omega, ?_, zl4.1 hn⟩; cases hg : g n with
   | some x => rw [hg] at h; exact h
   | none => rw [hg] at h; cases h
theorem z19 (b : Bool) (e : Int) : zb3 b e = some (cond b e 0) := by cases b <;> rfl
theorem z17 (n lo hi : Int) : zd0 n lo hi = some (inB n lo hi) := by
 unfold zd0 inB
 cases decide (lo ≤ n) <;> rfl
theorem zyt (N : Nat) (l : List Int) (h : l.length < N) (hl : l.length < 1000000000) : zbn N l = some (zhe l) := by
 unfold zbn
 have := zbh (f := zbn.r0 N) (fun i => (l, (l.length : Int), (i : Int))) (fun i => (l[i]?).bind fun x => if x = 0 then none else some x) l.length
  (fun i hi => by
   have hx := lge hi; simp only [zbn.r0, zbn.b0, zai, hx, obs, dct (show (i : Int) < (l.length : Int) by omega), ctr]
   by_cases h0 : l[i] = 0
   · simp only [h0, bsf, cfa, if_true]; rw [w6e]; rfl
   · simp only [h0, if_false]; rw [show (l[i] != 0) = true by simpa using h0]; rfl)
  (by simp only [zbn.r0, zbn.b0, dcf (show ¬ (l.length : Int) < (l.length : Int) by omega), cfa]) h
 simp only [nc0] at this
 rw [this, zmh, ← zot]
 simp only [obs]
 cases l.findSome? (fun x => if x = 0 then none else some x) <;> rfl
def letB (c : Int) : Bool := (decide (65 ≤ c) && decide (c ≤ 90)) || (decide (c = 35) || (decide (c = 36) || decide (c = 64)))
def othB (c : Int) : Bool := (decide (48 ≤ c) && decide (c ≤ 57)) || (decide (c = 95) || decide (c = 46))
def z4e (c i : Int) : Bool := !letB c && (decide (i = 0) || !othB c)
def zvm (s : ByteArray) (i : Nat) : Option Bool := ((bl s)[i]?).bind fun c => if z4e ((c.toNat : Nat) : Int) (i : Int) = true then some false else none
def zze (s : ByteArray) : Bool := decide (1 ≤ s.size ∧ s.size ≤ 10) && ((List.range s.size).findSome? (zvm s)).isNone
theorem z96 (s : ByteArray) : s.size = (bl s).length := rfl
theorem zae4 (s : ByteArray) (i : Nat) : zhl s (i : Int) = (bl s)[i]? := by
 unfold zhl
 rw [ifp]
 show s.data[i]? = s.data.toList[i]?
 simp
theorem zaex (N : Nat) (hN : 20 < N) (s : ByteArray) : zco N s = some (zze s) := by
 unfold zco zze
 rw [znp, znp, show bl (⟨#[]⟩ : ByteArray) = [] from rfl]
 by_cases h0 : s.size = 0
 · have : bl s = [] := List.eq_nil_of_length_eq_zero (by rw [← z96]; exact h0); rw [this, dcf (show ¬ (1 ≤ s.size ∧ s.size ≤ 10) by omega)]; rfl
 by_cases h1 : s.size > 10
 · rw [dcf (show ¬ (1 ≤ s.size ∧ s.size ≤ 10) by omega), dct (show (s.size : Int) > 10 by omega)]; cases (bl s == ([] : List UInt8)) <;> rfl
 have hne : (bl s == ([] : List UInt8)) = false := by
  cases hb : (bl s == ([] : List UInt8)) with
  | false => rfl
  | true =>
   have := congrArg List.length (eq_of_beq hb); rw [← z96] at this; exact absurd this h0
 rw [hne, dcf (show ¬ (s.size : Int) > 10 by omega), dct (show 1 ≤ s.size ∧ s.size ≤ 10 by omega)]
 simp only [cfa, obs, Bool.true_and]
 have hlen : (zex s).length = s.size := by unfold zex; rw [lnm]; rfl
 have l1 := zbh (f := zco.r0 N) (fun i => (zex s, ((zex s).length : Int), (i : Int))) (zvm s) s.size
  (fun i hi => by
   have hi' : i < (bl s).length := hi; have hx : (zex s)[i]? = some (((bl s)[i].toNat : Nat) : Int) := by
    unfold zex; rw [List.getElem?_map]; show ((bl s)[i]?).map _ = _; rw [lge hi']; rfl
   simp only [zco.r0, zco.b0, hlen, dct (show (i : Int) < (s.size : Int) by omega), ctr, ifp (show (0 : Int) ≤ (i : Int) by omega), ifp (show (i : Int) < (s.size : Int) by omega), itn, hx, obs, zxs, orB, zcn, zvm, lge hi']; rw [w6e]; generalize (((bl s)[i].toNat : Nat) : Int) = c; have e : (!(((decide (65 ≤ c) && decide (c ≤ 90)) || decide (c = 35) || decide (c = 36)) || decide (c = 64)) && (decide ((i : Int) = 0) || !(((decide (48 ≤ c) && decide (c ≤ 57)) || decide (c = 95)) || decide (c = 46)))) = z4e c (i : Int) := by
    unfold z4e letB othB; simp only [Bool.or_assoc]
   rw [e]; cases z4e c (i : Int) <;> rfl)
  (by simp only [zco.r0, zco.b0, hlen, dcf (show ¬ (s.size : Int) < (s.size : Int) by omega), cfa]) (N := N) (by omega)
 simp only [nc0] at l1
 rw [l1]
 cases hg : (List.range s.size).findSome? (zvm s) with
 | none => rfl
 | some r =>
  obtain ⟨i, _, hi, _⟩ := zl1 hg; unfold zvm at hi; rw [Option.bind_eq_some_iff] at hi; obtain ⟨c, _, hc⟩ := hi; split at hc
  · cases hc; rfl
  · cases hc
theorem zaes (N : Nat) (hN : 20 < N) (s : ByteArray) : zdw N s = some (zze s) := by
 unfold zdw zze
 rw [zhk, obs]
 by_cases h1 : 1 ≤ s.size ∧ s.size ≤ 10
 · rw [show inB (s.size : Int) 1 10 = true from zbf.2 (by omega), dct h1]; simp only [bnt, cfa, Bool.true_and]; have l1 := zbh (f := zdw.r0 N) (fun i => (s, (i : Int))) (zvm s) s.size
    (fun i hi => by
     have hi' : i < (bl s).length := hi; simp only [zdw.r0, zdw.b0, zpd, zph, dct (show (i : Int) < (s.size : Int) by omega), ctr, zae4, lge hi', obs, zxs, orB, zcn, zd1, zvm]; rw [w6e]; generalize (((bl s)[i].toNat : Nat) : Int) = c; have e : (!((((decide (65 ≤ c) && decide (c ≤ 90)) || decide (c = 36)) || decide (c = 35)) || decide (c = 64)) && (decide ((i : Int) = 0) || ((!(decide (48 ≤ c) && decide (c ≤ 57)) && decide (c ≠ 95)) && decide (c ≠ 46)))) = z4e c (i : Int) := by
      unfold z4e letB othB; simp only [decide_not, Bool.not_or, Bool.not_and, Bool.or_assoc, Bool.and_assoc]; cases decide (65 ≤ c) <;> cases decide (c ≤ 90) <;> cases decide (c = 36) <;> cases decide (c = 35) <;> simp
     rw [e]; cases z4e c (i : Int) <;> rfl)
    (by simp only [zdw.r0, zdw.b0, dcf (show ¬ (s.size : Int) < (s.size : Int) by omega), cfa]) (N := N) (by omega)
   simp only [nc0] at l1; rw [l1]; cases hg : (List.range s.size).findSome? (zvm s) with
   | none => rfl
   | some r =>
    obtain ⟨i, _, hi, _⟩ := zl1 hg; unfold zvm at hi; rw [Option.bind_eq_some_iff] at hi; obtain ⟨c, _, hc⟩ := hi; split at hc
    · cases hc; rfl
    · cases hc
 · rw [show inB (s.size : Int) 1 10 = false by
    cases hb : inB (s.size : Int) 1 10 with
    | false => rfl
    | true => have := zbf.1 hb; omega, dcf h1]
   rfl
def gNm (l : List zG) (s : ByteArray) (i : Nat) : Option Int := (l[i]?).bind fun o => if (o.Name.toList == s.toList) = true then some (i : Int) else none
def nmI (l : List zG) (s : ByteArray) : Int := match (List.range l.length).findSome? (gNm l s) with | some i => i | none => -1
theorem z30 (N : Nat) (l : List zG) (h : l.length < N) (hl : l.length < 1000000000) (s : ByteArray) : zgm N l s = some (nmI l s) := by
 unfold zgm zn nmI
 have l1 := zbh (f := zn.r0 N) (fun i => (l, (l.length : Int), (i : Int), s)) (gNm l s) l.length
  (fun i hi => by
   have hx := lge hi; simp only [zn.r0, zn.b0, zk1, zai, hx, obs, dct (show (i : Int) < (l.length : Int) by omega), ctr, gNm]; rw [w6e]; cases (l[i].Name.toList == s.toList) <;> rfl)
  (by simp only [zn.r0, zn.b0, dcf (show ¬ (l.length : Int) < (l.length : Int) by omega), cfa]) h
 simp only [nc0] at l1
 rw [l1]
 cases (List.range l.length).findSome? (gNm l s) <;> rfl
theorem z7z (N : Nat) (p : zB) (h : p.zA.length < N) (hl : p.zA.length < 1000000000) (s : ByteArray) : zea N p s = some (nmI p.zA s) := by
 unfold zea nmI
 have l1 := zbh (f := zea.r0 N) (fun i => (s, (i : Int), p)) (gNm p.zA s) p.zA.length
  (fun i hi => by
   have hx := lge hi; simp only [zea.r0, zea.b0, zai, hx, obs, dct (show (i : Int) < (p.zA.length : Int) by omega), ctr, gNm]; rw [w6e]; cases (p.zA[i].Name.toList == s.toList) <;> rfl)
  (by simp only [zea.r0, zea.b0, dcf (show ¬ (p.zA.length : Int) < (p.zA.length : Int) by omega), cfa]) h
 simp only [nc0] at l1
 rw [l1]
 cases (List.range p.zA.length).findSome? (gNm p.zA s) <;> rfl
theorem zadz {l : List zG} {s : ByteArray} {i : Nat} {r : Int} (h : gNm l s i = some r) : r = (i : Int) ∧ ∃ o, l[i]? = some o ∧ (o.Name.toList == s.toList) = true := by
 unfold gNm at h
 rw [Option.bind_eq_some_iff] at h
 obtain ⟨o, h1, h2⟩ := h
 split at h2
 · rename_i h3; cases h2; exact ⟨rfl, o, h1, h3⟩
 · cases h2
theorem zvr (l : List zG) (s : ByteArray) : (nmI l s = -1 ∧ ∀ i, i < l.length → gNm l s i = none) ∨ ∃ i : Nat, nmI l s = (i : Int) ∧ i < l.length ∧ gNm l s i = some (i : Int) ∧ ∀ j, j < i → gNm l s j = none := by
 unfold nmI
 cases hf : (List.range l.length).findSome? (gNm l s) with
 | none => exact .inl ⟨rfl, zl4.1 hf⟩
 | some r =>
  obtain ⟨i, h1, h2, h3⟩ := zl1 hf; have := (zadz h2).1; subst this; exact .inr ⟨i, rfl, h1, h2, h3⟩
theorem zahj {l : List zG} {s : ByteArray} {i : Nat} (h1 : i < l.length) (h2 : gNm l s i = some (i : Int)) (h3 : ∀ j, j < i → gNm l s j = none) : nmI l s = (i : Int) := by
 rcases zvr l s with ⟨_, g2⟩ | ⟨k, g1, g2, g3, g4⟩
 · rw [g2 i h1] at h2; cases h2
 · rcases Nat.lt_trichotomy i k with h | h | h
   · rw [g4 i h] at h2; cases h2
   · rw [g1, h]
   · rw [h3 k h] at g3; cases g3
theorem zzu {l : List zG} {s : ByteArray} {n i : Nat} (h : i < n) : gNm (l.take n) s i = gNm l s i := by
 unfold gNm
 rw [List.getElem?_take, ifp h]
theorem zaag (l : List zG) (s : ByteArray) (n : Nat) : nmI (l.take n) s = if nmI l s < (n : Int) then nmI l s else -1 := by
 rcases zvr l s with ⟨g1, g2⟩ | ⟨k, g1, g2, g3, g4⟩
 · rw [g1, ifp]; rcases zvr (l.take n) s with ⟨e1, _⟩ | ⟨k, _, e2, e3, _⟩
   · exact e1
   · rw [lnt] at e2; rw [zzu (by omega), g2 k (by omega)] at e3; cases e3
 · by_cases hk : k < n
   · rw [g1, ifp]; exact zahj (by rw [lnt]; omega) (by rw [zzu hk]; exact g3) (fun j hj => by rw [zzu (by omega)]; exact g4 j hj)
   · rw [g1, ifn]; rcases zvr (l.take n) s with ⟨e1, _⟩ | ⟨k', _, e2, e3, _⟩
     · exact e1
     · rw [lnt] at e2; rw [zzu (by omega), g4 k' (by omega)] at e3; cases e3
theorem z83 {l : List zG} {i : Nat} {o : zG} (h : l[i]? = some o) : 0 ≤ nmI l o.Name ∧ nmI l o.Name ≤ (i : Int) := by
 have hi := (gei h).1
 have hg : gNm l o.Name i = some (i : Int) := by
  unfold gNm; rw [h, obs, ifp (bst _)]
 rcases zvr l o.Name with ⟨_, g2⟩ | ⟨k, g1, g2, g3, g4⟩
 · rw [g2 i hi] at hg; cases hg
 · have : ¬ i < k := fun hlt => by rw [g4 i hlt] at hg; cases hg
   omega
def isS (k : Int) : Bool := (decide (k = 0) || decide (k = 1)) || decide (k = 2)
def isD (k : Int) : Bool := isS k || decide (k = 4)
theorem z1g (o : zG) : zfn o = some (isD o.Kind) := by
 unfold zfn isD isS
 simp only [orB, zcn, obs]
theorem z2x (k : Int) : zgp k = some (isS k) := by
 unfold zgp isS
 simp only [orB, zcn, obs]
theorem z6q (k : Int) : zhq k = some (isD k) := by
 unfold zhq isD
 rw [z2x]
 simp only [orB, zcn, obs]
theorem tbeq (a b : ByteArray) : (a.toList == b.toList) = decide (a = b) := by
 rw [znp, znp]
 by_cases h : a = b
 · subst h; rw [dct rfl]; exact bst _
 · rw [dcf h]; refine beq_eq_false_iff_ne.2 fun hh => h ?_; obtain ⟨⟨a⟩⟩ := a; obtain ⟨⟨b⟩⟩ := b; have : a = b := hh; rw [this]
def e0 : ByteArray := ⟨#[]⟩
def noV (o : zG) : Bool := decide (o.Value.N = 0) && decide (o.Value.S = e0)
def noB (o : zG) : Bool := decide (o.Base = e0) && decide (o.Offset = 0)
def noT (o : zG) : Bool := decide (o.zJ.Kind = 0) && (decide (o.zJ.Length = 0) && decide (o.zJ.Scale = 0))
def zwl (o : zG) : Bool :=
 if o.Kind = 0 ∨ o.Kind = 4 then !noB o || !decide (o.Target = 0)
 else if o.Kind = 1 ∨ o.Kind = 2 then !noV o || !decide (o.Target = 0)
 else if o.Kind = 3 then !noT o || (!noV o || (!noB o || !decide (o.Target = 0)))
 else !noT o || (!noV o || !noB o)
theorem z43 {k : Int} (h : inB k 0 5 = true) : k = 0 ∨ k = 1 ∨ k = 2 ∨ k = 3 ∨ k = 4 ∨ k = 5 := by
 have := zbf.1 h
 omega
theorem zdec (a : Int) : decide (0 = a) = decide (a = 0) := by
 by_cases h : a = 0
 · rw [dct h, dct h.symm]
 · rw [dcf h, dcf fun e => h e.symm]
theorem sdec (a : ByteArray) : decide ((⟨#[]⟩ : ByteArray) = a) = decide (a = e0) := by
 by_cases h : a = e0
 · rw [dct h, dct (show (⟨#[]⟩ : ByteArray) = a from h.symm)]
 · rw [dcf h, dcf fun e => h e.symm]
theorem zaey {o : zG} (h : inB o.Kind 0 5 = true) : ∃ k, zk2 o = some k ∧ (!(zfd [(k.Name == o.Name), (k.Kind == o.Kind), (k.zJ.Kind == o.zJ.Kind), (k.zJ.Length == o.zJ.Length), (k.zJ.Scale == o.zJ.Scale), (k.Value.N == o.Value.N), (k.Value.S == o.Value.S), (k.Base == o.Base), (k.Offset == o.Offset), (k.Target == o.Target)])) = zwl o := by
 obtain ⟨nm, kd, ty, v, bs, off, tg⟩ := o
 have hk := z43 h
 simp only at hk
 rcases hk with rfl | rfl | rfl | rfl | rfl | rfl
 all_goals
  refine ⟨_, rfl, ?_⟩; simp only [zfd, zwl, noV, noB, noT, zcn, bbeq, zdec, sdec]; simp [Bool.and_assoc, Bool.or_assoc]
  try congr
theorem zab0 {o : zG} (h : inB o.Kind 0 5 = true) : zkk o = some (zwl o) := by
 obtain ⟨nm, kd, ty, v, bs, off, tg⟩ := o
 have hk := z43 h
 simp only at hk
 unfold zkk
 simp only [tbeq]
 rcases hk with rfl | rfl | rfl | rfl | rfl | rfl
 all_goals
  simp only [zfd, zwl, noV, noB, noT, zcn, zd1, bbeq, tbeq, orB, zxs, obs]; simp [e0, Bool.and_assoc, Bool.or_assoc]
  try congr
def zqh (t : DataType) : Int := ((10 ^ t.Length.toNat : Nat) : Int) - 1
def zhx (t : DataType) (v : Value) : Int :=
 if t.Kind = 0 then (if v.N ≠ 0 then 5 else if (v.S.size : Int) ≠ t.Length then 18 else 0)
 else (if v.S ≠ e0 then 5 else if inB v.N (-zqh t) (zqh t) = true then 0 else 19)
theorem z4s {t : DataType} (h : zfj t = 0) (h0 : t.Kind ≠ 0) (h4 : t.Kind ≠ 4) : zj9 t := by
 rcases zpj h with ⟨k, _⟩ | ⟨k | k, _⟩ | ⟨k, _⟩ | ⟨k, _⟩
 · exact absurd k h0
 · exact ⟨h, by omega, by omega⟩
 · exact ⟨h, by omega, by omega⟩
 · exact ⟨h, by omega, by omega⟩
 · exact absurd k h4
theorem z65 {t : DataType} (h : zj9 t) : w6 (((10 ^ t.Length.toNat : Nat) : Int) - 1) = zqh t ∧ w6 (0 - zqh t) = -zqh t ∧ 0 ≤ zqh t := by
 obtain ⟨⟨l1, l2⟩, _⟩ := zf6 h
 have hp : 10 ^ t.Length.toNat ≤ 10 ^ 15 := zcj (by omega)
 have hp2 := zcu t.Length.toNat
 unfold zqh
 exact ⟨w6e, by rw [w6e]; omega, by omega⟩
theorem z80 (N : Nat) (hN : 100 < N) {t : DataType} (ht : zfj t = 0) (h4 : t.Kind ≠ 4) (v : Value) : zby N t v = some (zhx t v) := by
 have f2 : ∀ a b : Int, zq N [a, b] = some (zhe [a, b]) := fun a b => zqu N _ (by simp; omega) (by simp)
 unfold zby zhx
 rw [zre N (by omega), ht]
 simp only [obs, zrg, f2, zcn, dcf h4, cfa]
 rw [show zhe [0, 0] = 0 from rfl]
 simp only [bsf, cfa]
 by_cases h0 : t.Kind = 0
 · rw [ifp h0, dct h0]; simp only [ctr, zd1]; rw [z1r _ _ _ _ (by decide) (by decide)]
   by_cases h1 : v.N ≠ 0
   · rw [ifp h1, dct h1]; rfl
   · rw [ifn h1, dcf h1]
     by_cases h2 : (v.S.size : Int) ≠ t.Length
     · rw [ifp h2, dct h2]; rfl
     · rw [ifn h2, dcf h2]; rfl
 · have hn := z4s ht h0 h4; obtain ⟨⟨l1, l2⟩, _⟩ := zf6 hn; obtain ⟨m1, m2, m3⟩ := z65 hn; rw [ifn h0, dcf h0]; simp only [cfa]; have := z82 N (by omega) t.Length.toNat (by omega); rw [show ((t.Length.toNat : Nat) : Int) = t.Length by omega] at this; rw [this]; simp only [obs, z4t, m1, m2, tbeq]; rw [z1r _ _ _ _ (by decide) (by decide)]
   by_cases h1 : v.S = e0
   · rw [ifn (fun h => h h1), dct (show v.S = (⟨#[]⟩ : ByteArray) from h1)]; cases hb : inB v.N (-zqh t) (zqh t) <;> rfl
   · rw [ifp h1, dcf (show ¬ v.S = (⟨#[]⟩ : ByteArray) from h1)]; rfl
theorem zadb (N : Nat) (hN : 100 < N) {t : DataType} (ht : zfj t = 0) (h4 : t.Kind ≠ 4) (v : Value) : zjb N t v = some (zhx t v) := by
 unfold zjb zhx
 rw [z14, ht]
 simp only [obs, zcn, zd1, dcf h4, cfa, bsf, tbeq]
 by_cases h0 : t.Kind = 0
 · rw [ifp h0, dct h0]; simp only [ctr, obs, dcf (show ¬ t.Kind ≠ 0 from fun h => h h0), cfa]
   by_cases h1 : v.N ≠ 0
   · rw [ifp h1, dct h1]; rfl
   · rw [ifn h1, dcf h1]; simp only [cfa, obs, zis]
     by_cases h2 : (v.S.size : Int) ≠ t.Length
     · rw [ifp h2, dct h2]; rfl
     · rw [ifn h2, dcf h2]; rfl
 · have hn := z4s ht h0 h4; obtain ⟨⟨l1, l2⟩, _⟩ := zf6 hn; obtain ⟨m1, m2, m3⟩ := z65 hn; rw [ifn h0, dcf h0]; simp only [ctr, cfa, obs, dct (show t.Kind ≠ 0 from h0)]; have := z3i N (by omega) t.Length.toNat (by omega); rw [show ((t.Length.toNat : Nat) : Int) = t.Length by omega] at this; unfold ziu; rw [this]; simp only [obs, zhk, zis, m1, m2]
   by_cases h1 : v.S = e0
   · rw [ifn (fun h => h h1), dct (show v.S = (⟨#[]⟩ : ByteArray) from h1)]; cases hb : inB v.N (-zqh t) (zqh t) <;> rfl
   · rw [ifp h1, dcf (show ¬ v.S = (⟨#[]⟩ : ByteArray) from h1)]; rfl
def zw4 (ops : List zG) (i : Int) (o : zG) : Int :=
 if nmI ops o.Base < 0 ∨ i ≤ nmI ops o.Base then 11
 else match ops[(nmI ops o.Base).toNat]? with
  | none => 0
  | some b => if o.Kind = 2 then (if b.Kind ≠ 3 then 17 else if inB o.Offset 0 256 = true then 0 else 3)
   else if b.Kind ≠ 0 then 17 else if inB o.Offset 0 (szE b.zJ - szE o.zJ) = true then 0 else 3
def zwy (p : zB) (i : Int) (o : zG) : Int :=
 if o.Kind = 0 ∨ o.Kind = 4 then zhx o.zJ o.Value
 else if o.Kind = 1 ∨ o.Kind = 2 then zw4 p.zA i o
 else if o.Kind = 5 then (if inB o.Target 0 ((p.zF.length : Int) - 1) = true then 0 else 3)
 else 0
def opE (p : zB) (i : Nat) : Int :=
 match p.zA[i]? with
 | none => 0
 | some o => if zze o.Name = false then 7 else if nmI p.zA o.Name < (i : Int) then 13 else if inB o.Kind 0 5 = false then 4 else if zwl o = true then 5
  else if isD o.Kind = true ∧ zfj o.zJ ≠ 0 then zfj o.zJ else if isD o.Kind = true ∧ o.zJ.Kind = 4 then 17 else zwy p i o
structure OpV (p : zB) (i : Nat) (o : zG) : Prop where
 kind : 0 ≤ o.Kind ∧ o.Kind ≤ 5
 own : nmI p.zA o.Name = (i : Int)
 ty : isD o.Kind = true → zfj o.zJ = 0 ∧ o.zJ.Kind ≠ 4
 val : o.Kind = 0 ∨ o.Kind = 4 → zhx o.zJ o.Value = 0
 base : o.Kind = 1 ∨ o.Kind = 2 → zw4 p.zA i o = 0
 tg : o.Kind = 5 → 0 ≤ o.Target ∧ o.Target < (p.zF.length : Int)
theorem op_v {p : zB} {i : Nat} {o : zG} (ho : p.zA[i]? = some o) (h : opE p i = 0) : OpV p i o := by
 unfold opE at h
 rw [ho] at h
 simp only at h
 obtain ⟨n1, n2⟩ := z83 ho
 split at h
 · cases h
 split at h
 · cases h
 split at h
 · cases h
 split at h
 · cases h
 rename_i h1 h2 h3 h4
 have hk := z43 (show inB o.Kind 0 5 = true by simpa using h3)
 split at h
 · rename_i h5; exact absurd h h5.2
 split at h
 · cases h
 rename_i h5 h6
 refine { kind := by omega, own := by omega, ty := fun hd => ⟨cbc fun hh => h5 ⟨hd, hh⟩, fun hh => h6 ⟨hd, hh⟩⟩, val := fun hv => ?_, base := fun hv => ?_, tg := fun hv => ?_ }
 · unfold zwy at h; rw [ifp hv] at h; exact h
 · unfold zwy at h; rw [ifn, ifp hv] at h; exact h
 · unfold zwy at h; rw [ifn, ifn, ifp hv] at h; split at h
   · rename_i hh; have := zbf.1 hh; omega
   · cases h
theorem z50 (N : Nat) (hN : 10 < N) {o : zG} (h : zfj o.zJ = 0) : ziv N o = some (szE o.zJ) := by
 unfold ziv zif
 rw [zre N hN, h]
 simp [z2j h]
theorem zagi (a : Int) (b : Bool) : zhe [a, cond b 17 0] = if a = 0 then cond b 17 0 else a := by
 show (if a = 0 then zhe [cond b 17 0] else a) = _
 cases b <;> rfl
theorem zadt (o : zG) : ∃ k, zk2 o = some k := by
 unfold zk2
 rw [z1g]
 simp only [obs]
 cases isD o.Kind <;> cases (o.Kind == 0) <;> cases (o.Kind == 4) <;> cases (o.Kind == 1) <;> cases (o.Kind == 2) <;> cases (o.Kind == 5) <;> exact ⟨_, rfl⟩
structure Upto (p : zB) (i : Nat) : Prop where
 ops : p.zA.length ≤ 1000
 ins : p.zF.length ≤ 1000000
 ok : ∀ j, j < i → opE p j = 0
theorem z84 (l : List zG) (s : ByteArray) : nmI l s = -1 ∨ (0 ≤ nmI l s ∧ nmI l s < (l.length : Int) ∧ ∃ o, l[(nmI l s).toNat]? = some o) := by
 rcases zvr l s with ⟨h, _⟩ | ⟨k, h1, h2, _⟩
 · exact .inl h
 · rw [h1]; exact .inr ⟨by omega, by omega, _, lge h2⟩
theorem zaap {p : zB} {i : Nat} (hu : Upto p i) {n : Int} (h0 : 0 ≤ n) (h1 : n < (i : Int)) {b : zG} (hb : p.zA[n.toNat]? = some b) (hk : b.Kind = 0) : zfj b.zJ = 0 := by
 have := op_v hb (hu.ok n.toNat (by omega))
 exact (this.ty (by rw [hk]; rfl)).1
theorem z78 {a b : DataType} (ha : zfj a = 0) (hb : zfj b = 0) : w6 (szE a - szE b) = szE a - szE b := by
 have h1 := zfl ha
 have h2 := zfl hb
 exact w6e
theorem zagy (l : List zG) (i : Nat) : (l.take ((i : Int)).toNat).drop (0 : Int).toNat = l.take i := rfl
theorem zaac (N : Nat) (hN : 1100 < N) {p : zB} {i : Nat} (hu : Upto p i) {o : zG} (ht : zfj o.zJ = 0) (hk : o.Kind = 1 ∨ o.Kind = 2) : ziw N o (p.zA.take i) = some (zw4 p.zA i o) := by
 have hl := hu.ops
 unfold ziw zw4
 rw [z30 N _ (by rw [lnt]; omega) (by rw [lnt]; omega), zaag]
 simp only [obs]
 by_cases hc : nmI p.zA o.Base < 0 ∨ (i : Int) ≤ nmI p.zA o.Base
 · rw [ifp hc]; rw [dct (by split <;> omega)]; rfl
 · rw [ifn hc, ifp, dcf (by omega)]; obtain ⟨b, hb⟩ : ∃ b, p.zA[(nmI p.zA o.Base).toNat]? = some b := by
    rcases z84 p.zA o.Base with h | ⟨_, _, h⟩
    · omega
    · exact h
   have hx : idx (p.zA.take i) (nmI p.zA o.Base) = some b := by
    unfold idx; rw [ifp, List.getElem?_take, ifp, hb]
   rw [hx, hb]; simp only [cfa, obs, z19, z17, zcn, zd1]
   by_cases h2 : o.Kind = 2
   · rw [ifp h2, dct h2]; simp only [ctr]; rw [zyt N _ (by simp; omega) (by simp), z1r _ _ _ _ (by decide) (by decide)]
     by_cases h3 : b.Kind ≠ 3
     · rw [ifp h3, dct h3]; rfl
     · rw [ifn h3, dcf h3]; cases inB o.Offset 0 256 <;> rfl
   · rw [ifn h2, dcf h2]; simp only [cfa]
     by_cases h3 : b.Kind ≠ 0
     · rw [ifp h3, dct h3]; rfl
     · rw [ifn h3, dcf h3]; have hbt := zaap hu (by omega) (by omega) hb (by omega); simp only [cfa]; rw [z50 N (by omega) hbt, z50 N (by omega) ht]; simp only [obs]; rw [z78 hbt ht]; cases inB o.Offset 0 (szE b.zJ - szE o.zJ) <;> rfl
theorem z99 (N : Nat) (hN : 1100 < N) {p : zB} {i : Nat} (hu : Upto p i) {o : zG} (ht : zfj o.zJ = 0) (hk : o.Kind = 1 ∨ o.Kind = 2) :
 ((cond (nmI p.zA o.Base == (-1)) (some true) (some (decide (nmI p.zA o.Base ≥ (i : Int))))).bind fun g12 => cond g12 (some (11 : Int)) ((idx p.zA (nmI p.zA o.Base)).bind fun x13 =>
 (cond (o.Kind == 1) (some (x13.Kind != 0)) (some false)).bind fun g14 => (cond g14 (some true) ((cond (o.Kind == 2) (some (x13.Kind != 3)) (some false)).bind fun g15 =>
 some g15)).bind fun g16 => cond g16 (some 17) (cond (o.Kind == 1) ((zd6 x13.zJ).bind fun r17 => (zd6 o.zJ).bind fun r18 =>
 (zf o.Offset 0 (w6 (r17 - r18))).bind fun r19 => cond (!r19) (some 3) (some 0)) ((zf o.Offset 0 256).bind fun r20 => cond (!r20) (some 3)
 (some 0))))) = some (zw4 p.zA i o) := by
 have hl := hu.ops
 unfold zw4
 rcases z84 p.zA o.Base with h | ⟨n0, n1, b, hb⟩
 · rw [h, ifp]; rfl
 · rw [zcn, dcf (by omega)]; simp only [cfa, obs]
   by_cases hc : (i : Int) ≤ nmI p.zA o.Base
   · rw [ifp (.inr hc), dct (show nmI p.zA o.Base ≥ (i : Int) from hc)]; rfl
   · rw [ifn, dcf (show ¬ nmI p.zA o.Base ≥ (i : Int) from hc)]; have hx : idx p.zA (nmI p.zA o.Base) = some b := by
      unfold idx; rw [ifp n0, hb]
     rw [hx, hb]; simp only [cfa, obs, zhk, zcn, zd1, orB, zxs]
     by_cases h2 : o.Kind = 2
     · rw [ifp h2, dct h2, dcf (show ¬ o.Kind = 1 by omega)]; simp only [Bool.false_and, Bool.false_or, Bool.true_and, cfa]
       by_cases h3 : b.Kind ≠ 3
       · rw [ifp h3, dct h3]; rfl
       · rw [ifn h3, dcf h3]; cases inB o.Offset 0 256 <;> rfl
     · rw [ifn h2, dcf h2, dct (show o.Kind = 1 by omega)]; simp only [Bool.false_and, Bool.or_false, Bool.true_and, ctr]
       by_cases h3 : b.Kind ≠ 0
       · rw [ifp h3, dct h3]; rfl
       · rw [ifn h3, dcf h3]; have hbt := zaap hu n0 (by omega) hb (by omega); simp only [cfa]; rw [zs6 hbt, zs6 ht]; simp only [obs, zhk]; rw [z78 hbt ht]; cases inB o.Offset 0 (szE b.zJ - szE o.zJ) <;> rfl
theorem insL {p : zB} {i : Nat} (hu : Upto p i) : w6 ((p.zF.length : Int) - 1) = (p.zF.length : Int) - 1 := by
 have := hu.ins
 exact w6e
theorem zahi (N : Nat) (hN : 1100 < N) {p : zB} {i : Nat} (hu : Upto p i) (hi : i < p.zA.length) : zh9 N p (i : Int) = some (opE p i) := by
 have hl := hu.ops
 have hx := lge hi
 unfold zh9 opE
 rw [zai, hx]
 generalize p.zA[i] = o at hx ⊢
 obtain ⟨n0, n1⟩ := z83 hx
 simp only [obs]
 rw [ifp, ifp]
 simp only [zagy]
 rw [zaex N (by omega), z30 N _ (by rw [lnt]; omega) (by rw [lnt]; omega), zaag]
 simp only [obs, z19, z17]
 obtain ⟨k, hk⟩ := zadt o
 rw [hk]
 simp only [obs]
 rw [zyt N _ (by simp; omega) (by simp)]
 simp only [obs]
 cases hnm : zze o.Name with
 | false => rfl
 | true =>
  by_cases hd : nmI p.zA o.Name < (i : Int)
  · rw [ifp hd, dct (show nmI p.zA o.Name ≥ 0 from n0)]; simp only [Bool.true_eq_false, if_false, ifp hd]; rfl
  · rw [ifn hd, dcf (show ¬ (-1 : Int) ≥ 0 by decide)]; simp only [Bool.true_eq_false, if_false, ifn hd]; cases hkd : inB o.Kind 0 5 with
    | false => rfl
    | true =>
     obtain ⟨k', hk1, hk2⟩ := zaey hkd; rw [hk] at hk1; cases hk1; rw [hk2]; cases hex : zwl o with
     | true => rfl
     | false =>
      rw [show zhe [cond (!true) 7 0, cond false 13 0, cond (!true) 4 0, cond false 5 0] = 0 from rfl]; simp only [bsf, cfa, Bool.true_eq_false, Bool.false_eq_true, if_false, z1g, obs]; have hks := z43 hkd; cases hdt : isD o.Kind with
      | true =>
       simp only [ctr]; rw [zre N (by omega)]; simp only [obs, true_and]; rw [zyt N _ (by simp; omega) (by simp)]; simp only [obs, zagi]
       by_cases ht : zfj o.zJ = 0
       · rw [ifp ht, ifn (fun h => h ht)]
         by_cases h4 : o.zJ.Kind = 4
         · rw [ifp h4, zcn, dct h4]; rfl
         · rw [ifn h4, zcn, dcf h4]; simp only [cfa, bsf]; rw [z80 N (by omega) ht h4]; unfold zwy; rcases hks with h | h | h | h | h | h
           · rw [h]; rfl
           · rw [zaac N hN hu ht (.inl h), ifn, ifp (.inl h), h]; rfl
           · rw [zaac N hN hu ht (.inr h), ifn, ifp (.inr h), h]; rfl
           · rw [h] at hdt; cases hdt
           · rw [h]; rfl
           · rw [h] at hdt; cases hdt
       · rw [ifn ht, ifp ht, zd1, dct ht]; rfl
      | false =>
       simp only [cfa, Bool.false_eq_true, false_and, if_false]; unfold zwy; rcases hks with h | h | h | h | h | h
       · rw [h] at hdt; cases hdt
       · rw [h] at hdt; cases hdt
       · rw [h] at hdt; cases hdt
       · rw [h]; rfl
       · rw [h] at hdt; cases hdt
       · rw [h, insL hu]; cases inB o.Target 0 ((p.zF.length : Int) - 1) <;> rfl
theorem zagz (N : Nat) (hN : 1100 < N) {p : zB} {i : Nat} (hu : Upto p i) (hi : i < p.zA.length) : zi5 N p (i : Int) = some (opE p i) := by
 have hl := hu.ops
 have hx := lge hi
 unfold zi5 opE
 rw [zai, hx]
 generalize p.zA[i] = o at hx ⊢
 obtain ⟨n0, n1⟩ := z83 hx
 simp only [obs]
 rw [zaes N (by omega)]
 simp only [obs]
 cases hnm : zze o.Name with
 | false => rfl
 | true =>
  simp only [bnt, cfa, Bool.true_eq_false, if_false]; rw [z7z N p (by omega) (by omega)]; simp only [obs]
  by_cases hd : nmI p.zA o.Name < (i : Int)
  · rw [dct hd, ifp hd]; rfl
  · rw [dcf hd, ifn hd]; simp only [cfa, zhk, obs]; cases hkd : inB o.Kind 0 5 with
    | false => rfl
    | true =>
     rw [zab0 hkd]; simp only [bnt, cfa, obs, Bool.true_eq_false, if_false]; cases hex : zwl o with
     | true => rfl
     | false =>
      simp only [cfa, Bool.false_eq_true, if_false, z6q, obs]; have hks := z43 hkd; rw [z7z N p (by omega) (by omega)]; cases hdt : isD o.Kind with
      | true =>
       simp only [ctr, true_and, z14, obs]
       by_cases ht : zfj o.zJ = 0
       · rw [ifn (fun h => h ht), zd1, dcf (fun h => h ht)]; simp only [cfa]
         by_cases h4 : o.zJ.Kind = 4
         · rw [ifp h4, zcn, dct h4]; rfl
         · rw [ifn h4, zcn, dcf h4]; simp only [cfa]; rw [zadb N (by omega) ht h4]; unfold zwy; rcases hks with h | h | h | h | h | h
           · rw [h]; rfl
           · have hb := z99 N hN hu ht (.inl h); simp only [zhk, obs] at hb; rw [ifn, ifp (.inl h), ← hb, h]; rfl
           · have hb := z99 N hN hu ht (.inr h); simp only [zhk, obs] at hb; rw [ifn, ifp (.inr h), ← hb, h]; rfl
           · rw [h] at hdt; cases hdt
           · rw [h]; rfl
           · rw [h] at hdt; cases hdt
       · rw [ifp ht, zd1, dct ht]; rfl
      | false =>
       simp only [cfa, Bool.false_eq_true, false_and, if_false, obs]; unfold zwy; rcases hks with h | h | h | h | h | h
       · rw [h] at hdt; cases hdt
       · rw [h] at hdt; cases hdt
       · rw [h] at hdt; cases hdt
       · rw [h]; rfl
       · rw [h] at hdt; cases hdt
       · rw [h, insL hu]; cases inB o.Target 0 ((p.zF.length : Int) - 1) <;> rfl
def zdd (o : zG) : Bool := decide (o.zJ.Kind ≠ 0)
def ztv (o b : zG) (c : Int) : Bool :=
 if c = 0 then isS o.Kind else if c = 1 then isD o.Kind else if c = 2 then isS o.Kind && zdd o else if c = 3 then isD o.Kind && zdd o
 else if c = 4 then isD o.Kind && (zdd o == zdd b) else if c = 5 then decide (o.Kind = 3) else decide (o.Kind = 5)
theorem zadu (k : Int) : (isD k && !decide (k = 4)) = isS k := by
 unfold isD
 by_cases h : k = 4
 · subst h; rfl
 · rw [dcf h]; simp
theorem zaez (o b : zG) {c : Int} (hc : 0 ≤ c ∧ c ≤ 6) : zne o b c = some (ztv o b c) := by
 have h : c = 0 ∨ c = 1 ∨ c = 2 ∨ c = 3 ∨ c = 4 ∨ c = 5 ∨ c = 6 := by omega
 unfold zne
 rw [z1g]
 simp only [zhf, zcn, zd1, obs]
 have hs := zadu o.Kind
 unfold ztv zdd
 rcases h with rfl | rfl | rfl | rfl | rfl | rfl | rfl
 · rw [← hs]; simp only [if_true]; cases isD o.Kind <;> cases decide (o.Kind = 4) <;> rfl
 · rw [ifn (by decide), ifp rfl]; cases isD o.Kind <;> rfl
 · rw [← hs, ifn (by decide), ifn (by decide), ifp rfl]; cases isD o.Kind <;> cases decide (o.Kind = 4) <;> cases decide (o.zJ.Kind ≠ 0) <;> rfl
 · rw [ifn (by decide), ifn (by decide), ifn (by decide), ifp rfl]; cases isD o.Kind <;> cases decide (o.zJ.Kind ≠ 0) <;> rfl
 · rw [ifn (by decide), ifn (by decide), ifn (by decide), ifn (by decide), ifp rfl]; cases isD o.Kind <;> cases decide (o.zJ.Kind ≠ 0) <;> cases decide (b.zJ.Kind ≠ 0) <;> rfl
 · rw [ifn (by decide), ifn (by decide), ifn (by decide), ifn (by decide), ifn (by decide), ifp rfl]; rfl
 · rw [ifn (by decide), ifn (by decide), ifn (by decide), ifn (by decide), ifn (by decide), ifn (by decide)]; rfl
def z4g : zG := ⟨⟨#[]⟩, 0, ⟨0, 0, 0⟩, ⟨0, ⟨#[]⟩⟩, ⟨#[]⟩, 0, 0⟩
def zq0 (p : zB) (x : zI) : Nat → zG
 | 0 => z4g
 | k + 1 => p.zA.getD ((x.Args.getD k 0).toNat) z4g
def zjs (op : Int) : List Int := zw0.getD op.toNat []
def gA (p : zB) (x : zI) (i : Nat) : Option Int :=
 (x.Args[i]?).bind fun a => if inB a 0 ((p.zA.length : Int) - 1) = true then (match p.zA[a.toNat]?, (zjs x.Op)[i]? with | some o, some c => if ztv o (zq0 p x i) c = true then none else some 17 | _, _ => none) else some 3
def zwi (p : zB) (x : zI) : Int :=
 if inB x.Op 0 18 = false then 4 else if (x.Args.length : Int) ≠ ((zjs x.Op).length : Int) then 37
 else match (List.range x.Args.length).findSome? (gA p x) with | some e => e | none => 0
theorem zab8 {k : Int} (h : inB k 0 18 = true) : ∃ n : Nat, k = (n : Int) ∧ n < 19 := by
 have := zbf.1 h
 exact ⟨k.toNat, by omega, by omega⟩
theorem zafu : ((List.range 19).all fun n => (match zw0[n]? with | some l => l.all (fun c => decide (0 ≤ c) && decide (c ≤ 6)) && (decide (l.length ≤ 3) && ((List.range l.length).all fun i => !(l.getD i 0 == 4) || (i == 1 && (l.getD 0 9 == 0 || l.getD 0 9 == 1)))) | none => false)) = true := by kernel_rfl
def z5u (c : Int) : Int := if c = 1 then 2 else if c = 2 then 1 else c
theorem zaep : ((List.range 19).all fun n => match zmg (n : Int) with | some l => l == (zjs (n : Int)).map z5u | none => false) = true := by kernel_rfl
theorem z7m {k : Int} (h : inB k 0 18 = true) : idx zw0 k = some (zjs k) ∧ (zjs k).length ≤ 3 ∧ (∀ (i : Nat) (c : Int), (zjs k)[i]? = some c → (0 ≤ c ∧ c ≤ 6) ∧ (c = 4 → i = 1 ∧ ∃ d, (zjs k)[0]? = some d ∧ (d = 0 ∨ d = 1))) ∧ zmg k = some ((zjs k).map z5u) := by
 obtain ⟨n, rfl, hn⟩ := zab8 h
 have h1 := List.all_eq_true.1 zafu n (List.mem_range.2 hn)
 have h2 := List.all_eq_true.1 zaep n (List.mem_range.2 hn)
 have hlt : n < zw0.length := hn
 have hg : zw0[n]? = some (zjs (n : Int)) := by
  unfold zjs; rw [itn, gdd, lge hlt]; rfl
 rw [hg] at h1
 simp only [Bool.and_eq_true, List.all_eq_true, decide_eq_true_eq, List.mem_range, Bool.or_eq_true, Bool.not_eq_true', beq_iff_eq, beq_eq_false_iff_ne] at h1
 obtain ⟨a1, a2, a3⟩ := h1
 refine ⟨by rw [zai, hg], a2, fun i c hc => ⟨a1 c (lmg hc), fun h4 => ?_⟩, ?_⟩
 · have hi := (gei hc).1; have e : (zjs (n : Int)).getD i 0 = c := by rw [gdd, hc]; rfl
   rcases a3 i hi with h | ⟨h5, h6⟩
   · rw [e] at h; exact absurd h4 h
   · refine ⟨h5, ?_⟩; have h0 : 0 < (zjs (n : Int)).length := by omega
     refine ⟨_, lge h0, ?_⟩; rw [gdd, lge h0] at h6; exact h6
 · cases hr : zmg (n : Int) with
   | none => rw [hr] at h2; cases h2
   | some l =>
    rw [hr] at h2; rw [eq_of_beq h2]
theorem opsL {p : zB} {i : Nat} (hu : Upto p i) : w6 ((p.zA.length : Int) - 1) = (p.zA.length : Int) - 1 := by
 have := hu.ops
 exact w6e
theorem z9u {p : zB} {a : Int} (h : inB a 0 ((p.zA.length : Int) - 1) = true) : ∃ o, p.zA[a.toNat]? = some o ∧ idx p.zA a = some o := by
 have := zbf.1 h
 refine ⟨_, lge (by omega), ?_⟩
 unfold idx
 rw [ifp, lge]
theorem zaf2 (N : Nat) (hN : 1100 < N) {p : zB} {i : Nat} (hu : Upto p i) (x : zI) : zap N p x = some (zwi p x) := by
 unfold zap zwi
 rw [z17]
 simp only [obs]
 cases hop : inB x.Op 0 18 with
 | false => rfl
 | true =>
  obtain ⟨t1, t2, t3, _⟩ := z7m hop; rw [t1]; simp only [bnt, cfa, obs, zd1, Bool.true_eq_false, if_false]
  by_cases hl : (x.Args.length : Int) ≠ ((zjs x.Op).length : Int)
  · rw [ifp hl, dct hl]; rfl
  · rw [ifn hl, dcf hl]; simp only [cfa]; have l1 := zvk (f := zap.r0 N) (fun i => (x.Args, (x.Args.length : Int), (i : Int), p, x, zq0 p x i)) (gA p x) x.Args.length
     (fun i hi hp => by
      have hx := lge hi; have hi2 : i < (zjs x.Op).length := by omega
      have hc := lge hi2; simp only [zap.r0, zap.b0, zai, hx, obs, dct (show (i : Int) < (x.Args.length : Int) by omega), ctr, opsL hu, z17, gA, t1, hc]; cases hin : inB x.Args[i] 0 ((p.zA.length : Int) - 1) with
      | false => rfl
      | true =>
       obtain ⟨o, ho, ho2⟩ := z9u hin; simp only [bnt, cfa, ho, ho2, obs, if_true]; rw [zaez _ _ (t3 i _ hc).1]; simp only [obs]; cases ztv o (zq0 p x i) (zjs x.Op)[i] with
       | false => rfl
       | true =>
        simp only [bnt, cfa, if_true]; rw [w6e]; rw [show zq0 p x (i + 1) = o by
         show p.zA.getD ((x.Args.getD i 0).toNat) z4g = o; rw [gdd (l := x.Args), hx, Option.getD_some, gdd, ho]; rfl]
        rfl)
     (fun _ => by simp only [zap.r0, zap.b0, dcf (show ¬ (x.Args.length : Int) < (x.Args.length : Int) by omega), cfa]) (N := N) (by omega)
    simp only [nc0] at l1; rw [show (⟨(⟨#[]⟩ : ByteArray), 0, (⟨0, 0, 0⟩ : DataType), (⟨0, (⟨#[]⟩ : ByteArray)⟩ : Value), (⟨#[]⟩ : ByteArray), 0, 0⟩ : zG) = zq0 p x 0 from rfl, l1]; cases (List.range x.Args.length).findSome? (gA p x) <;> rfl
theorem z8z {p : zB} {j : Nat} {o : zG} (ho : p.zA[j]? = some o) (h : opE p j = 0) (hd : isD o.Kind = true) : inB o.zJ.Kind 1 3 = zdd o := by
 obtain ⟨h1, h2⟩ := (op_v ho h).ty hd
 unfold zdd
 rcases zpj h1 with ⟨k, _⟩ | ⟨k | k, _⟩ | ⟨k, _⟩ | ⟨k, _⟩
 · rw [k]; rfl
 · rw [k]; rfl
 · rw [k]; rfl
 · rw [k]; rfl
 · exact absurd k h2
theorem zadg (N : Nat) (hN : 1100 < N) {p : zB} (hu : Upto p p.zA.length) (x : zI) : za5 N p x = some (zwi p x) := by
 have hol := hu.ops
 unfold za5 zwi
 rw [zhk]
 simp only [obs]
 cases hop : inB x.Op 0 18 with
 | false => rfl
 | true =>
  obtain ⟨t1, t2, t3, t4⟩ := z7m hop; rw [t4]; simp only [bnt, cfa, obs, zd1, Bool.true_eq_false, if_false, lnm]
  by_cases hl : (x.Args.length : Int) ≠ ((zjs x.Op).length : Int)
  · rw [ifp hl, dct hl]; rfl
  · rw [ifn hl, dcf hl]; simp only [cfa]; have l1 := zvk (f := za5.r0 N) (fun i => ((zjs x.Op).map z5u, (i : Int), p, x)) (gA p x) x.Args.length
     (fun i hi hp => by
      have hx := lge hi; have hi2 : i < (zjs x.Op).length := by omega
      have hc := lge hi2; simp only [za5.r0, za5.b0, zai, hx, obs, lnm, dct (show (i : Int) < ((zjs x.Op).length : Int) by omega), ctr, opsL hu, zhk, gA, List.getElem?_map, hc, Option.map_some]; cases hin : inB x.Args[i] 0 ((p.zA.length : Int) - 1) with
      | false => rfl
      | true =>
       obtain ⟨o, ho, ho2⟩ := z9u hin; have hlt := (gei ho).1; obtain ⟨c1, c2⟩ := t3 i _ hc; have hbf : (zjs x.Op)[i] = 4 → ∃ a b, i = 1 ∧ x.Args[0]? = some a ∧ idx p.zA a = some b ∧ zq0 p x i = b ∧ inB b.zJ.Kind 1 3 = zdd b := fun h4 => by
        obtain ⟨rfl, d, hd, hd2⟩ := c2 h4; have h0 := hp 0 (by omega); have hx0 := lge (show 0 < x.Args.length by omega); unfold gA at h0; rw [hx0, obs] at h0; split at h0
        · rename_i hin0; obtain ⟨b, hb, hb2⟩ := z9u hin0; rw [hb, hd] at h0; simp only at h0; split at h0
          · rename_i hcl; have hlt0 := (gei hb).1; refine ⟨_, b, rfl, hx0, hb2, ?_, z8z hb (hu.ok _ hlt0) ?_⟩
            · show p.zA.getD ((x.Args.getD 0 0).toNat) z4g = b; rw [gdd (l := x.Args), hx0, Option.getD_some, gdd, hb]; rfl
            · unfold ztv at hcl; rcases hd2 with rfl | rfl
              · rw [ifp rfl] at hcl; unfold isD; rw [hcl]; rfl
              · rw [ifn (by decide), ifp rfl] at hcl; exact hcl
          · cases h0
        · cases h0
       have hnum : isD o.Kind = true → inB o.zJ.Kind 1 3 = zdd o := z8z ho (hu.ok _ hlt); have hSD : isS o.Kind = true → isD o.Kind = true := fun h => by unfold isD; rw [h]; rfl
       simp only [bnt, cfa, ho, ho2, obs, if_true, z2x, z6q, zhm, zvf, zcn]; generalize (zjs x.Op)[i] = c at c1 hbf ⊢; have fin : ∀ b : Bool, (cond (!b) (some (Round.result (17 : Int))) (some (Round.again ((zjs x.Op).map z5u, w6 ((i : Int) + 1), p, x)))) = some (cond b (Round.again ((zjs x.Op).map z5u, ((i + 1 : Nat) : Int), p, x)) (.result 17)) := fun b => by
        rw [w6e]; cases b <;> rfl
       have hcs : c = 0 ∨ c = 1 ∨ c = 2 ∨ c = 3 ∨ c = 4 ∨ c = 5 ∨ c = 6 := by omega
       rcases hcs with rfl | rfl | rfl | rfl | rfl | rfl | rfl <;> simp only [z5u, Int.reduceEq, reduceIte, decide_true, decide_false, ctr, cfa]
       · rw [show ztv o (zq0 p x i) 0 = isS o.Kind from rfl]; rw [fin]; cases (isS o.Kind) <;> rfl
       · rw [show ztv o (zq0 p x i) 1 = isD o.Kind from rfl]; rw [fin]; cases (isD o.Kind) <;> rfl
       · rw [show ztv o (zq0 p x i) 2 = (isS o.Kind && inB o.zJ.Kind 1 3) by
          show (isS o.Kind && zdd o) = _; cases hs : isS o.Kind with
          | false => rfl
          | true => rw [hnum (hSD hs)]]
         cases isS o.Kind
         · simp only [ctr, cfa, obs, Bool.true_and, Bool.false_and]; rfl
         · simp only [ctr, cfa, obs, Bool.true_and, Bool.false_and]; rw [fin]; cases (inB o.zJ.Kind 1 3) <;> rfl
       · rw [show ztv o (zq0 p x i) 3 = (isD o.Kind && inB o.zJ.Kind 1 3) by
          show (isD o.Kind && zdd o) = _; cases hs : isD o.Kind with
          | false => rfl
          | true => rw [hnum hs]]
         cases isD o.Kind
         · simp only [ctr, cfa, obs, Bool.true_and, Bool.false_and]; rfl
         · simp only [ctr, cfa, obs, Bool.true_and, Bool.false_and]; rw [fin]; cases (inB o.zJ.Kind 1 3) <;> rfl
       · obtain ⟨a, b, rfl, ha, hb, hbb, hbn⟩ := hbf rfl; rw [show ztv o (zq0 p x 1) 4 = (isD o.Kind && (inB o.zJ.Kind 1 3 == inB b.zJ.Kind 1 3)) by
          show (isD o.Kind && (zdd o == zdd (zq0 p x 1))) = _; rw [hbb, hbn]; cases hs : isD o.Kind with
          | false => rfl
          | true => rw [hnum hs]]
         rw [show w6 (((1 : Nat) : Int) - 1) = ((0 : Nat) : Int) from rfl, zai, ha]; simp only [obs]; rw [hb]; cases isD o.Kind
         · simp only [ctr, cfa, obs, Bool.true_and, Bool.false_and]; rfl
         · simp only [ctr, cfa, obs, Bool.true_and, Bool.false_and]; rw [fin]; cases (inB o.zJ.Kind 1 3 == inB b.zJ.Kind 1 3) <;> rfl
       · rw [show ztv o (zq0 p x i) 5 = decide (o.Kind = 3) from rfl]; rw [fin]; cases (decide (o.Kind = 3)) <;> rfl
       · rw [show ztv o (zq0 p x i) 6 = decide (o.Kind = 5) from rfl]; rw [fin]; cases (decide (o.Kind = 5)) <;> rfl)
     (fun _ => by simp only [za5.r0, za5.b0, lnm, dcf (show ¬ (x.Args.length : Int) < ((zjs x.Op).length : Int) by omega), cfa]) (N := N) (by omega)
    simp only [nc0] at l1; rw [l1]; cases (List.range x.Args.length).findSome? (gA p x) <;> rfl
def zzl (p : zB) (m : zN) : Bool := decide (0 ≤ m.From) && (decide (m.From < m.To) && (decide (m.To ≤ (p.zF.length : Int)) && (inB m.Exception 0 999 && inB m.Handler 0 ((p.zF.length : Int) - 1))))
theorem zaf1 {p : zB} {i : Nat} (hu : Upto p i) (m : zN) : zia p m = some (cond (zzl p m) 0 3) := by
 unfold zia zzl
 rw [insL hu, z17, z17]
 simp only [obs, zxs, z19, ge_iff_le]
 cases decide (0 ≤ m.From) <;> cases decide (m.From < m.To) <;> cases decide (m.To ≤ (p.zF.length : Int)) <;> cases inB m.Exception 0 999 <;> cases inB m.Handler 0 ((p.zF.length : Int) - 1) <;> rfl
theorem zaf9 (p : zB) (m : zN) : ((((decide (m.From < 0) || decide (m.From ≥ m.To)) || decide (m.To > (p.zF.length : Int))) || !inB m.Exception 0 999) || !inB m.Handler 0 ((p.zF.length : Int) - 1)) = !zzl p m := by
 unfold zzl
 rw [show decide (m.From < 0) = !decide (0 ≤ m.From) by rw [← decide_not]; congr 1; simp, show decide (m.From ≥ m.To) = !decide (m.From < m.To) by rw [← decide_not]; congr 1; simp, show decide (m.To > (p.zF.length : Int)) = !decide (m.To ≤ (p.zF.length : Int)) by rw [← decide_not]; congr 1; simp]
 simp only [Bool.not_and, Bool.or_assoc]
theorem z8l (N0 : Nat) (n : Nat) (hn : n ≤ 1000000) (v : Int) : ∀ (N k : Nat), 1 ≤ k → k ≤ n → n - k < N → zl (zb1.r0 N0) N (List.replicate k v ++ List.replicate (n - k) 0, (k : Int)) = some (List.replicate n v, (n : Int))
 | 0, k, _, _, h => by omega
 | N + 1, k, h1, h2, h3 => by
  have hlen : (List.replicate k v ++ List.replicate (n - k) (0 : Int)).length = n := by rw [lna, lnr, lnr]; omega
  simp only [zl, zb1.r0, zb1.b0, hlen]
  by_cases hk : k < n
  · rw [dct (by omega), ctr, ifp, ifp, ifp]; simp only [obs]; have t1 : (List.replicate k v ++ List.replicate (n - k) (0 : Int)).take ((k : Int)).toNat = List.replicate k v := by
     rw [itn, List.take_append_of_le_length (by rw [lnr]; omega), List.take_replicate, Nat.min_self]
    have t2 : (((List.replicate k v ++ List.replicate (n - k) (0 : Int)).drop (0 : Int).toNat).take (((k : Int)).toNat - (0 : Int).toNat)) = List.replicate k v := t1; rw [t1, t2, lnr]; have e : ((k : Int)).toNat = k := itn k; rw [e, List.take_replicate, show min (min k (n - k)) k = min k (n - k) by omega, List.drop_append, List.drop_eq_nil_of_le (by rw [lnr]; omega), lnr, List.drop_replicate, List.nil_append]; rw [w6e]; have := z8l N0 n hn v N (k + min k (n - k)) (by omega) (by omega) (by omega); rw [← this, List.replicate_append_replicate, show n - k - (k + min k (n - k) - k) = n - (k + min k (n - k)) by omega]; rfl
  · obtain rfl : k = n := by omega
    rw [dcf (by omega), cfa, Nat.sub_self]; simp
theorem zabu (N : Nat) (n : Nat) (hn : n ≤ 100000) (hN : n < N) (v : Int) : zb1 N [v] (n : Int) = some (List.replicate n v) := by
 have wu : ∀ m : Nat, m ≤ 1000000 → IntKind.wrap .u64 (m : Int) = (m : Int) := fun m hm => by
  unfold IntKind.wrap; rw [show (2 : Int) ^ IntKind.u64.bits = 18446744073709551616 from rfl, show IntKind.u64.signed = false from rfl]; simp only [Bool.false_and, Bool.false_eq_true, if_false]; omega
 unfold zb1 zoi
 rw [show (([v] : List Int).length : Int) = ((1 : Nat) : Int) from rfl, wu 1 (by decide), wu n (by omega), z40 1 n (by decide) (by omega)]
 rw [show (1 * n) / 18446744073709551616 = 0 by omega, show (1 * n) % 18446744073709551616 = n by omega]
 simp only [obs]
 rw [dcf (by omega), dcf (by omega), dcf (by omega), w6e, ifp, ifp, itn, za0 (by omega)]
 simp only [cfa, ctr, obs, lnr]
 by_cases h0 : n = 0
 · subst h0; obtain ⟨M, rfl⟩ : ∃ M, N = M + 1 := ⟨N - 1, by omega⟩; rfl
 · have := z8l N n (by omega) v N 1 (by omega) (by omega) (by omega); rw [show min ([v] : List Int).length n = 1 by simp; omega]; rw [show ([v] : List Int).take 1 ++ (List.replicate n (0 : Int)).drop 1 = List.replicate 1 v ++ List.replicate (n - 1) 0 by rw [List.drop_replicate]; rfl, this]; rfl
def og (ops : List zG) (k : Nat) : zG := ops.getD k z4g
def pAt (ops : List zG) : Nat → Int
 | 0 => 0
 | k + 1 => pAt ops k + (if (og ops k).Kind = 3 then 16 else 0)
def zlp (ops : List zG) : Nat → Int
 | 0 => 0
 | k + 1 => zlp ops k + (if (og ops k).Kind = 0 then szE (og ops k).zJ else 0)
def sAt (ops : List zG) (k : Nat) : Int := pAt ops ops.length + zlp ops k
def zef (ops : List zG) (i : Nat) : Int :=
 if (og ops i).Kind = 3 then pAt ops i else if (og ops i).Kind = 0 then sAt ops i else if (og ops i).Kind = 1 then sAt ops (nmI ops (og ops i).Base).toNat + (og ops i).Offset else -1
def ztm (ops : List zG) : List Int := (List.range ops.length).map (zef ops)
def zla (ops : List zG) : Int := (sAt ops ops.length + 15) / 16
theorem zqg {ops : List zG} {k : Nat} (h : k < ops.length) : ops[k]? = some (og ops k) := by
 unfold og
 rw [gdd, lge h]
 rfl
theorem zrd (ops : List zG) : ∀ k, 0 ≤ pAt ops k ∧ pAt ops k ≤ 16 * (k : Int) ∧ pAt ops k % 16 = 0
 | 0 => ⟨Int.le_refl _, by show (0 : Int) ≤ 16 * ((0 : Nat) : Int); omega, rfl⟩
 | k + 1 => by
  obtain ⟨h1, h2, h3⟩ := zrd ops k; unfold pAt; split <;> omega
theorem z8u (ops : List zG) {j : Nat} : ∀ {k : Nat}, j ≤ k → pAt ops j ≤ pAt ops k
 | 0, h => by
  obtain rfl : j = 0 := by omega
  exact Int.le_refl _
 | k + 1, h => by
  by_cases e : j = k + 1
  · subst e; exact Int.le_refl _
  · have := z8u ops (show j ≤ k by omega); have e2 : pAt ops (k + 1) = pAt ops k + (if (og ops k).Kind = 3 then 16 else 0) := rfl; rw [e2]; split <;> omega
def zql (p : zB) : Prop := Upto p p.zA.length
theorem zlk {p : zB} (h : zql p) {k : Nat} (hk : k < p.zA.length) : OpV p k (og p.zA k) := op_v (zqg hk) (h.ok k hk)
theorem zwz {p : zB} (h : zql p) {k : Nat} (hk : k < p.zA.length) (h0 : (og p.zA k).Kind = 0) : zfj (og p.zA k).zJ = 0 := ((zlk h hk).ty (by rw [h0]; rfl)).1
theorem zpm {p : zB} (h : zql p) : ∀ k, k ≤ p.zA.length → 0 ≤ zlp p.zA k ∧ zlp p.zA k ≤ 256 * (k : Int)
 | 0, _ => ⟨Int.le_refl _, by show (0 : Int) ≤ 256 * ((0 : Nat) : Int); omega⟩
 | k + 1, hk => by
  obtain ⟨h1, h2⟩ := zpm h k (by omega); unfold zlp; split
  · rename_i h0; have := zfl (zwz h (by omega) h0); omega
  · omega
theorem z6m {p : zB} (h : zql p) {j : Nat} : ∀ {k : Nat}, k ≤ p.zA.length → j ≤ k → zlp p.zA j ≤ zlp p.zA k
 | 0, _, hj => by
  obtain rfl : j = 0 := by omega
  exact Int.le_refl _
 | k + 1, hk, hj => by
  by_cases e : j = k + 1
  · subst e; exact Int.le_refl _
  · have := z6m h (show k ≤ p.zA.length by omega) (show j ≤ k by omega); have e2 : zlp p.zA (k + 1) = zlp p.zA k + (if (og p.zA k).Kind = 0 then szE (og p.zA k).zJ else 0) := rfl; rw [e2]; split
    · rename_i h0; have := zfl (zwz h (by omega) h0); omega
    · omega
theorem ztl {n : Nat} (f : Nat → Int) {k : Nat} (v : Int) : ((List.range n).map f).set k v = (List.range n).map fun i => if i = k then v else f i := by
 apply List.ext_getElem?
 intro i
 rw [List.getElem?_set, List.getElem?_map, List.getElem?_map, lnm, List.length_range]
 by_cases hi : i < n
 · rw [List.getElem?_range hi]
   by_cases e : k = i
   · subst e; simp [hi]
   · simp [e, Ne.symm e]
 · rw [List.getElem?_eq_none (by simpa using hi)]
   by_cases e : k = i
   · subst e; simp [hi]
   · simp [e]
theorem zp9 {n : Nat} (f : Nat → Int) {k : Nat} (h : k < n) : ((List.range n).map f)[k]? = some (f k) := by
 rw [List.getElem?_map, List.getElem?_range h]
 rfl
theorem zgg {n : Nat} {f g : Nat → Int} (h : ∀ i, i < n → f i = g i) : (List.range n).map f = (List.range n).map g := List.map_congr_left fun i hi => h i (List.mem_range.1 hi)
theorem zaah (n : Nat) (v : Int) : List.replicate n v = (List.range n).map fun _ => v := by
 apply List.ext_getElem?
 intro i
 rw [List.getElem?_replicate, List.getElem?_map]
 by_cases hi : i < n
 · rw [ifp hi, List.getElem?_range hi]; rfl
 · rw [ifn hi, List.getElem?_eq_none (by simpa using hi)]; rfl
def A1 (ops : List zG) (k i : Nat) : Int := if i < k ∧ (og ops i).Kind = 3 then pAt ops i else -1
def B1 (ops : List zG) (k i : Nat) : Int := if i < k then (if (og ops i).Kind = 3 then pAt ops i else -1) else 0
def A2 (ops : List zG) (k i : Nat) : Int := if i < k ∧ (og ops i).Kind = 0 then sAt ops i else if (og ops i).Kind = 3 then pAt ops i else -1
def A3 (ops : List zG) (k i : Nat) : Int := if i < k ∧ (og ops i).Kind = 1 then sAt ops (nmI ops (og ops i).Base).toNat + (og ops i).Offset else A2 ops ops.length i
theorem z0s {p : zB} (h : zql p) {i : Nat} (hi : i < p.zA.length) (hk : (og p.zA i).Kind = 1) : ∃ b : Nat, nmI p.zA (og p.zA i).Base = (b : Int) ∧ b < i ∧ (og p.zA b).Kind = 0 ∧ 0 ≤ (og p.zA i).Offset ∧ (og p.zA i).Offset ≤ szE (og p.zA b).zJ - szE (og p.zA i).zJ := by
 have hb := (zlk h hi).base (.inl hk)
 unfold zw4 at hb
 by_cases hc : nmI p.zA (og p.zA i).Base < 0 ∨ (i : Int) ≤ nmI p.zA (og p.zA i).Base
 · rw [ifp hc] at hb; cases hb
 · rw [ifn hc] at hb; refine ⟨(nmI p.zA (og p.zA i).Base).toNat, by omega, by omega, ?_⟩; rw [zqg (by omega)] at hb; simp only at hb; rw [ifn] at hb; split at hb
   · cases hb
   · rename_i h0; split at hb
     · rename_i h1; have := zbf.1 h1; exact ⟨by omega, by omega, by omega⟩
     · cases hb
theorem z5i {p : zB} (h : zql p) {i : Nat} (hi : i < p.zA.length) (hk : (og p.zA i).Kind = 2) : ∃ b : Nat, nmI p.zA (og p.zA i).Base = (b : Int) ∧ b < i ∧ (og p.zA b).Kind = 3 ∧ 0 ≤ (og p.zA i).Offset ∧ (og p.zA i).Offset ≤ 256 := by
 have hb := (zlk h hi).base (.inr hk)
 unfold zw4 at hb
 by_cases hc : nmI p.zA (og p.zA i).Base < 0 ∨ (i : Int) ≤ nmI p.zA (og p.zA i).Base
 · rw [ifp hc] at hb; cases hb
 · rw [ifn hc] at hb; refine ⟨(nmI p.zA (og p.zA i).Base).toNat, by omega, by omega, ?_⟩; rw [zqg (by omega)] at hb; simp only at hb; rw [ifp hk] at hb; split at hb
   · cases hb
   · rename_i h0; split at hb
     · rename_i h1; have := zbf.1 h1; exact ⟨by omega, by omega, by omega⟩
     · cases hb
theorem z7q {p : zB} (h : zql p) (k : Nat) {b : Nat} (hb : b < p.zA.length) (h0 : (og p.zA b).Kind = 0) : A3 p.zA k b = sAt p.zA b := by
 unfold A3 A2
 rw [ifn, ifp ⟨hb, h0⟩]
theorem zacz (ops : List zG) : (List.range ops.length).map (A3 ops ops.length) = ztm ops := by
 refine zgg fun i hi => ?_
 unfold A3 A2 zef
 by_cases h1 : (og ops i).Kind = 1
 · rw [ifp ⟨hi, h1⟩, ifn, ifn, ifp h1]
 · rw [ifn]
   by_cases h0 : (og ops i).Kind = 0
   · rw [ifp ⟨hi, h0⟩, ifn, ifp h0]
   · rw [ifn]
     by_cases h3 : (og ops i).Kind = 3
     · rw [ifp h3, ifp h3]
     · rw [ifn h3, ifn h3, ifn h0, ifn h1]
section
variable {ops : List zG} {k : Nat}
theorem zafm : (List.range ops.length).map (A1 ops (k + 1)) = if (og ops k).Kind = 3 then ((List.range ops.length).map (A1 ops k)).set k (pAt ops k) else (List.range ops.length).map (A1 ops k) := by
 split
 · rename_i h; rw [ztl]; refine zgg fun i _ => ?_; unfold A1
   by_cases e : i = k
   · subst e; rw [ifp ⟨by omega, h⟩, ifp rfl]
   · rw [ifn e]
     by_cases h2 : i < k ∧ (og ops i).Kind = 3
     · rw [ifp h2, ifp ⟨by omega, h2.2⟩]
     · rw [ifn h2, ifn]
 · rename_i h; refine zgg fun i _ => ?_; unfold A1
   by_cases e : i = k
   · subst e; rw [ifn, ifn]
   · by_cases h2 : i < k ∧ (og ops i).Kind = 3
     · rw [ifp h2, ifp ⟨by omega, h2.2⟩]
     · rw [ifn h2, ifn]
theorem zafl : (List.range ops.length).map (B1 ops (k + 1)) = if (og ops k).Kind = 3 then (((List.range ops.length).map (B1 ops k)).set k (-1)).set k (pAt ops k) else ((List.range ops.length).map (B1 ops k)).set k (-1) := by
 split
 · rename_i h; rw [ztl, ztl]; refine zgg fun i _ => ?_; unfold B1
   by_cases e : i = k
   · subst e; rw [ifp, ifp h, ifp rfl]
   · rw [ifn e, ifn e]
     by_cases h2 : i < k
     · rw [ifp h2, ifp]
     · rw [ifn h2, ifn]
 · rename_i h; rw [ztl]; refine zgg fun i _ => ?_; unfold B1
   by_cases e : i = k
   · subst e; rw [ifp, ifn h, ifp rfl]
   · rw [ifn e]
     by_cases h2 : i < k
     · rw [ifp h2, ifp]
     · rw [ifn h2, ifn]
theorem zaar : (List.range ops.length).map (A2 ops (k + 1)) = if (og ops k).Kind = 0 then ((List.range ops.length).map (A2 ops k)).set k (sAt ops k) else (List.range ops.length).map (A2 ops k) := by
 split
 · rename_i h; rw [ztl]; refine zgg fun i _ => ?_; unfold A2
   by_cases e : i = k
   · subst e; rw [ifp ⟨by omega, h⟩, ifp rfl]
   · rw [ifn e]
     by_cases h2 : i < k ∧ (og ops i).Kind = 0
     · rw [ifp h2, ifp ⟨by omega, h2.2⟩]
     · rw [ifn h2, ifn (show ¬ (i < k + 1 ∧ (og ops i).Kind = 0) by omega)]
 · rename_i h; refine zgg fun i _ => ?_; unfold A2
   by_cases e : i = k
   · subst e; rw [ifn (show ¬ (i < i + 1 ∧ (og ops i).Kind = 0) by omega), ifn (show ¬ (i < i ∧ (og ops i).Kind = 0) by omega)]
   · by_cases h2 : i < k ∧ (og ops i).Kind = 0
     · rw [ifp h2, ifp ⟨by omega, h2.2⟩]
     · rw [ifn h2, ifn (show ¬ (i < k + 1 ∧ (og ops i).Kind = 0) by omega)]
theorem zaaq : (List.range ops.length).map (A3 ops (k + 1)) = if (og ops k).Kind = 1 then ((List.range ops.length).map (A3 ops k)).set k (sAt ops (nmI ops (og ops k).Base).toNat + (og ops k).Offset) else (List.range ops.length).map (A3 ops k) := by
 split
 · rename_i h; rw [ztl]; refine zgg fun i _ => ?_; unfold A3
   by_cases e : i = k
   · subst e; rw [ifp ⟨by omega, h⟩, ifp rfl]
   · rw [ifn e]
     by_cases h2 : i < k ∧ (og ops i).Kind = 1
     · rw [ifp h2, ifp ⟨by omega, h2.2⟩]
     · rw [ifn h2, ifn]
 · rename_i h; refine zgg fun i _ => ?_; unfold A3
   by_cases e : i = k
   · subst e; rw [ifn, ifn]
   · by_cases h2 : i < k ∧ (og ops i).Kind = 1
     · rw [ifp h2, ifp ⟨by omega, h2.2⟩]
     · rw [ifn h2, ifn]
end
theorem z8n {a : Int} (h0 : 0 ≤ a) (h1 : a ≤ 1000000) : w6 ((w6 ((w6 (a + 16)) - 1)).tdiv 16) = (a + 15) / 16 := by
 rw [w6e (n := a + 16), w6e (n := a + 16 - 1), tde, show a + 16 - 1 = a + 15 by omega, w6e]
theorem z54 (n : Nat) (f : Nat → Int) : ((List.range n).map f).length = n := by rw [lnm, List.length_range]
theorem z6t (N : Nat) (hN : 1100 < N) {p : zB} (h : zql p) : zm N p.zA = some (ztm p.zA, zla p.zA) := by
 have hl := h.ops
 have hp := fun k => zrd p.zA k
 have hs := fun k hk => zpm h k hk
 unfold zm
 rw [zabu N _ (by omega) (by omega), zaah]
 simp only [obs]
 have l1 := za1 (f := zm.r0 N) (fun k => (p.zA, (List.range p.zA.length).map (A1 p.zA k), pAt p.zA k, p.zA, (p.zA.length : Int), (k : Int))) p.zA.length
  (fun k hk => by
   have h1 := hp k; simp only [zm.r0, zm.b0, zai, zqg hk, obs, dct (show (k : Int) < (p.zA.length : Int) by omega), ctr, z54, ifp (show (0 : Int) ≤ (k : Int) by omega), ifp (show (k : Int) < (p.zA.length : Int) by omega), itn, zp9 _ hk, zafm, zcn]; rw [w6e (n := (k : Int) + 1), w6e (n := pAt p.zA k + 16)]; rw [show pAt p.zA (k + 1) = pAt p.zA k + (if (og p.zA k).Kind = 3 then 16 else 0) from rfl]
   by_cases h3 : (og p.zA k).Kind = 3
   · rw [dct h3, ifp h3, ifp h3]; rfl
   · rw [dcf h3, ifn h3, ifn h3, Int.add_zero]; rfl)
  (by simp only [zm.r0, zm.b0, dcf (show ¬ (p.zA.length : Int) < (p.zA.length : Int) by omega), cfa]) (N := N) (by omega)
 simp only [nc0] at l1
 rw [show ((List.range p.zA.length).map fun _ => (-1 : Int)) = (List.range p.zA.length).map (A1 p.zA 0) from zgg fun i _ => by unfold A1; rw [ifn], show (0 : Int) = pAt p.zA 0 from rfl]
 rw [show pAt p.zA 0 = 0 from rfl] at l1 ⊢
 rw [l1]
 simp only [obs]
 have l2 := za1 (f := zm.r2 N) (fun k => (p.zA, (List.range p.zA.length).map (A2 p.zA k), sAt p.zA k, p.zA, (p.zA.length : Int), (k : Int))) p.zA.length
  (fun k hk => by
   have h1 := hp p.zA.length; have h2 := hs k (by omega); simp only [zm.r2, zm.b2, zai, zqg hk, obs, dct (show (k : Int) < (p.zA.length : Int) by omega), ctr, z54, ifp (show (0 : Int) ≤ (k : Int) by omega), ifp (show (k : Int) < (p.zA.length : Int) by omega), itn, zp9 _ hk, zaar, zcn]; rw [w6e (n := (k : Int) + 1)]; have e : sAt p.zA (k + 1) = sAt p.zA k + (if (og p.zA k).Kind = 0 then szE (og p.zA k).zJ else 0) := by
    unfold sAt; rw [show zlp p.zA (k + 1) = zlp p.zA k + (if (og p.zA k).Kind = 0 then szE (og p.zA k).zJ else 0) from rfl]; omega
   rw [e]
   by_cases h3 : (og p.zA k).Kind = 0
   · have hz := zfl (zwz h hk h3); rw [dct h3, ifp h3, ifp h3, ctr, z50 N (by omega) (zwz h hk h3)]; simp only [obs]; rw [w6e (n := sAt p.zA k + szE (og p.zA k).zJ) (by unfold sAt; omega) (by unfold sAt; omega)]; rfl
   · rw [dcf h3, ifn h3, ifn h3, Int.add_zero]; rfl)
  (by simp only [zm.r2, zm.b2, dcf (show ¬ (p.zA.length : Int) < (p.zA.length : Int) by omega), cfa]) (N := N) (by omega)
 simp only [nc0] at l2
 rw [show ((List.range p.zA.length).map (A1 p.zA p.zA.length)) = (List.range p.zA.length).map (A2 p.zA 0) from zgg fun i hi => by
  unfold A1 A2; rw [ifn (show ¬ (i < 0 ∧ (og p.zA i).Kind = 0) by omega)]
  by_cases h3 : (og p.zA i).Kind = 3
  · rw [ifp ⟨hi, h3⟩, ifp h3]
  · rw [ifn, ifn h3], show pAt p.zA p.zA.length = sAt p.zA 0 by unfold sAt; rw [show zlp p.zA 0 = 0 from rfl, Int.add_zero], l2]
 simp only [obs]
 have l3 := za1 (f := zm.r4 N) (fun k => (p.zA, (List.range p.zA.length).map (A3 p.zA k), sAt p.zA p.zA.length, p.zA, (p.zA.length : Int), (k : Int))) p.zA.length
  (fun k hk => by
   have h1 := hp p.zA.length; simp only [zm.r4, zm.b4, zai, zqg hk, obs, dct (show (k : Int) < (p.zA.length : Int) by omega), ctr, z54, ifp (show (0 : Int) ≤ (k : Int) by omega), ifp (show (k : Int) < (p.zA.length : Int) by omega), itn, zp9 _ hk, zaaq, zcn]; rw [w6e (n := (k : Int) + 1)]
   by_cases h3 : (og p.zA k).Kind = 1
   · obtain ⟨b, e1, e2, e3, e4, e5⟩ := z0s h hk h3; have hz := zfl (zwz h (show b < p.zA.length by omega) e3); have hz2 := zfl ((zlk h hk).ty (by rw [h3]; rfl)).1; have h2 := hs b (by omega); rw [dct h3, ifp h3, ctr, z30 N _ (by omega) (by omega), e1]; simp only [obs]; rw [ifp, ifp, itn, zp9 _ (by omega), z7q h k (by omega) e3]; simp only [obs]; rw [w6e (n := sAt p.zA b + (og p.zA k).Offset) (by unfold sAt; omega) (by unfold sAt; omega)]; rfl
   · rw [dcf h3, ifn h3]; rfl)
  (by simp only [zm.r4, zm.b4, dcf (show ¬ (p.zA.length : Int) < (p.zA.length : Int) by omega), cfa]) (N := N) (by omega)
 simp only [nc0] at l3
 rw [show ((List.range p.zA.length).map (A2 p.zA p.zA.length)) = (List.range p.zA.length).map (A3 p.zA 0) from zgg fun i hi => by
  unfold A3; rw [ifn (show ¬ (i < 0 ∧ (og p.zA i).Kind = 1) by omega)], l3]
 simp only [obs, zacz]
 have h1 := hp p.zA.length
 have h2 := hs p.zA.length (by omega)
 rw [z8n (by unfold sAt; omega) (by unfold sAt; omega)]
 rfl
theorem zel (N : Nat) (hN : 1100 < N) {p : zB} (h : zql p) : zw N p = some (ztm p.zA, zla p.zA) := by
 have hl := h.ops
 have hp := fun k => zrd p.zA k
 have hs := fun k hk => zpm h k hk
 unfold zw
 rw [ifp, ifp, itn, za0 (by omega), ctr, zaah]
 have l1 := za1 (f := zw.r0 N) (fun k => ((List.range p.zA.length).map (B1 p.zA k), pAt p.zA k, (k : Int), p)) p.zA.length
  (fun k hk => by
   have h1 := hp k; simp only [zw.r0, zw.b0, zai, zqg hk, obs, dct (show (k : Int) < (p.zA.length : Int) by omega), ctr, List.length_set, z54, ifp (show (0 : Int) ≤ (k : Int) by omega), ifp (show (k : Int) < (p.zA.length : Int) by omega), itn, zp9 _ hk, zafl, zcn]; rw [w6e (n := (k : Int) + 1), w6e (n := pAt p.zA k + 16)]; rw [show pAt p.zA (k + 1) = pAt p.zA k + (if (og p.zA k).Kind = 3 then 16 else 0) from rfl]
   by_cases h3 : (og p.zA k).Kind = 3
   · rw [dct h3, ifp h3, ifp h3, ctr, ztl, zp9 _ hk]; rfl
   · rw [dcf h3, ifn h3, ifn h3, Int.add_zero]; rfl)
  (by simp only [zw.r0, zw.b0, dcf (show ¬ (p.zA.length : Int) < (p.zA.length : Int) by omega), cfa]) (N := N) (by omega)
 simp only [nc0] at l1
 rw [show ((List.range p.zA.length).map fun _ => (0 : Int)) = (List.range p.zA.length).map (B1 p.zA 0) from zgg fun i _ => by unfold B1; rw [ifn]]
 rw [show pAt p.zA 0 = 0 from rfl] at l1
 rw [l1]
 simp only [obs]
 have l2 := za1 (f := zw.r2 N) (fun k => ((List.range p.zA.length).map (A2 p.zA k), sAt p.zA k, (k : Int), p)) p.zA.length
  (fun k hk => by
   have h1 := hp p.zA.length; have h2 := hs k (by omega); simp only [zw.r2, zw.b2, zai, zqg hk, obs, dct (show (k : Int) < (p.zA.length : Int) by omega), ctr, z54, ifp (show (0 : Int) ≤ (k : Int) by omega), ifp (show (k : Int) < (p.zA.length : Int) by omega), itn, zp9 _ hk, zaar, zcn]; rw [w6e (n := (k : Int) + 1)]; have e : sAt p.zA (k + 1) = sAt p.zA k + (if (og p.zA k).Kind = 0 then szE (og p.zA k).zJ else 0) := by
    unfold sAt; rw [show zlp p.zA (k + 1) = zlp p.zA k + (if (og p.zA k).Kind = 0 then szE (og p.zA k).zJ else 0) from rfl]; omega
   rw [e]
   by_cases h3 : (og p.zA k).Kind = 0
   · have hz := zfl (zwz h hk h3); rw [dct h3, ifp h3, ifp h3, ctr, zs6 (zwz h hk h3)]; simp only [obs]; rw [w6e (n := sAt p.zA k + szE (og p.zA k).zJ) (by unfold sAt; omega) (by unfold sAt; omega)]; rfl
   · rw [dcf h3, ifn h3, ifn h3, Int.add_zero]; rfl)
  (by simp only [zw.r2, zw.b2, dcf (show ¬ (p.zA.length : Int) < (p.zA.length : Int) by omega), cfa]) (N := N) (by omega)
 simp only [nc0] at l2
 rw [show ((List.range p.zA.length).map (B1 p.zA p.zA.length)) = (List.range p.zA.length).map (A2 p.zA 0) from zgg fun i hi => by
  unfold B1 A2; rw [ifn (show ¬ (i < 0 ∧ (og p.zA i).Kind = 0) by omega), ifp hi], show pAt p.zA p.zA.length = sAt p.zA 0 by unfold sAt; rw [show zlp p.zA 0 = 0 from rfl, Int.add_zero], l2]
 simp only [obs]
 have l3 := za1 (f := zw.r4 N) (fun k => ((List.range p.zA.length).map (A3 p.zA k), sAt p.zA p.zA.length, (k : Int), p)) p.zA.length
  (fun k hk => by
   have h1 := hp p.zA.length; simp only [zw.r4, zw.b4, zai, zqg hk, obs, dct (show (k : Int) < (p.zA.length : Int) by omega), ctr, z54, ifp (show (0 : Int) ≤ (k : Int) by omega), ifp (show (k : Int) < (p.zA.length : Int) by omega), itn, zp9 _ hk, zaaq, zcn]; rw [w6e (n := (k : Int) + 1)]
   by_cases h3 : (og p.zA k).Kind = 1
   · obtain ⟨b, e1, e2, e3, e4, e5⟩ := z0s h hk h3; have hz := zfl (zwz h (show b < p.zA.length by omega) e3); have hz2 := zfl ((zlk h hk).ty (by rw [h3]; rfl)).1; have h2 := hs b (by omega); rw [dct h3, ifp h3, ctr, z7z N p (by omega) (by omega), e1]; simp only [obs]; rw [ifp, ifp, itn, zp9 _ (by omega), z7q h k (by omega) e3]; simp only [obs]; rw [w6e (n := sAt p.zA b + (og p.zA k).Offset) (by unfold sAt; omega) (by unfold sAt; omega)]; rfl
   · rw [dcf h3, ifn h3]; rfl)
  (by simp only [zw.r4, zw.b4, dcf (show ¬ (p.zA.length : Int) < (p.zA.length : Int) by omega), cfa]) (N := N) (by omega)
 simp only [nc0] at l3
 rw [show ((List.range p.zA.length).map (A2 p.zA p.zA.length)) = (List.range p.zA.length).map (A3 p.zA 0) from zgg fun i hi => by
  unfold A3; rw [ifn (show ¬ (i < 0 ∧ (og p.zA i).Kind = 1) by omega)], l3]
 simp only [obs, zacz]
 have h1 := hp p.zA.length
 have h2 := hs p.zA.length (by omega)
 rw [z8n (by unfold sAt; omega) (by unfold sAt; omega)]
 rfl
def gO (p : zB) (i : Nat) : Option (zM × Int) := if opE p i = 0 then none else some (⟨1, i⟩, opE p i)
def gX (p : zB) (i : Nat) : Option (zM × Int) := (p.zF[i]?).bind fun x => if zwi p x = 0 then none else some (⟨2, i⟩, zwi p x)
def gMo (p : zB) (i : Nat) : Option (zM × Int) := (p.zL[i]?).bind fun m => if zzl p m = true then none else some (⟨3, i⟩, 3)
def zo9 (p : zB) : zM × Int :=
 if p.zA.length > 24 ∨ p.zF.length > 40 ∨ p.zL.length > 6 then (⟨0, 0⟩, 2)
 else if p.zF.length = 0 then (⟨0, 0⟩, 1)
 else match (List.range p.zA.length).findSome? (gO p) with
  | some r => r
  | none => if zla p.zA > 24 then (⟨0, 0⟩, 30) else match (List.range p.zF.length).findSome? (gX p) with
   | some r => r
   | none => match (List.range p.zL.length).findSome? (gMo p) with
    | some r => r
    | none => (⟨0, 0⟩, 0)
theorem z6d {p : zB} {i : Nat} (h : gO p i = none) : opE p i = 0 := by
 unfold gO at h
 split at h
 · assumption
 · cases h
theorem z88 (p : zB) : ((decide ((p.zA.length : Int) > 24) || decide ((p.zF.length : Int) > 40)) || decide ((p.zL.length : Int) > 6)) = decide (p.zA.length > 24 ∨ p.zF.length > 40 ∨ p.zL.length > 6) := by
 rw [← Bool.decide_or, ← Bool.decide_or]
 congr 1
 apply propext
 omega
theorem z8t (N : Nat) (hN : 1100 < N) (p : zB) : ze N p = some (zo9 p) := by
 unfold ze zo9
 simp only [orB, obs, z88, z19]
 rw [zyt N _ (by simp; omega) (by simp)]
 simp only [obs]
 rw [z1r _ _ _ _ (by decide) (by decide)]
 by_cases hb : p.zA.length > 24 ∨ p.zF.length > 40 ∨ p.zL.length > 6
 · rw [ifp hb, dct hb]; rfl
 rw [ifn hb, dcf hb]
 by_cases h0 : p.zF.length = 0
 · rw [ifp h0, zcn, dct (by omega)]; rfl
 rw [ifn h0, zcn, dcf (by omega)]
 simp only [cfa, bsf]
 have mk : ∀ i, (∀ j, j < i → gO p j = none) → Upto p i := fun i h => { ops := by omega, ins := by omega, ok := fun j hj => z6d (h j hj) }
 have l1 := zvk (f := ze.r0 N) (fun i => ((p.zA.length : Int), (i : Int), p, (⟨0, 0⟩ : zM))) (gO p) p.zA.length
  (fun i hi hp => by
   simp only [ze.r0, ze.b0, dct (show (i : Int) < (p.zA.length : Int) by omega), ctr]; rw [zahi N hN (mk i hp) hi, w6e]; unfold gO; simp only [obs, zd1]
   by_cases h : opE p i = 0
   · rw [ifp h, dcf (fun hh => hh h)]; rfl
   · rw [ifn h, dct h]; rfl)
  (fun _ => by simp only [ze.r0, ze.b0, dcf (show ¬ (p.zA.length : Int) < (p.zA.length : Int) by omega), cfa]) (N := N) (by omega)
 simp only [nc0] at l1
 rw [l1]
 cases hf : (List.range p.zA.length).findSome? (gO p) with
 | some r => rfl
 | none =>
  have hu : zql p := mk _ (zl4.1 hf); simp only [obs, zb5]; rw [z6t N hN hu]; simp only [obs]
  by_cases hq : zla p.zA > 24
  · rw [ifp hq, dct hq]; rfl
  rw [ifn hq, dcf hq]; simp only [cfa]; have l2 := zbh (f := ze.r2 N) (fun i => (p.zF, (p.zF.length : Int), (i : Int), p, (⟨0, 0⟩ : zM))) (gX p) p.zF.length
   (fun i hi => by
    have hx := lge hi; simp only [ze.r2, ze.b2, dct (show (i : Int) < (p.zF.length : Int) by omega), ctr, zai, hx, obs, gX]; rw [zaf2 N hN hu, w6e]; simp only [obs, zd1]
    by_cases h : zwi p p.zF[i] = 0
    · rw [ifp h, dcf (fun hh => hh h)]; rfl
    · rw [ifn h, dct h]; rfl)
   (by simp only [ze.r2, ze.b2, dcf (show ¬ (p.zF.length : Int) < (p.zF.length : Int) by omega), cfa]) (N := N) (by omega)
  simp only [nc0] at l2; rw [l2]; cases (List.range p.zF.length).findSome? (gX p) with
  | some r => rfl
  | none =>
   simp only [obs, zb5]; have l3 := zbh (f := ze.r4 N) (fun i => (p.zL, (p.zL.length : Int), (i : Int), p, (⟨0, 0⟩ : zM))) (gMo p) p.zL.length
    (fun i hi => by
     have hx := lge hi; simp only [ze.r4, ze.b4, dct (show (i : Int) < (p.zL.length : Int) by omega), ctr, zai, hx, obs, gMo]; rw [zaf1 hu, w6e]; simp only [obs]; cases zzl p p.zL[i] <;> rfl)
    (by simp only [ze.r4, ze.b4, dcf (show ¬ (p.zL.length : Int) < (p.zL.length : Int) by omega), cfa]) (N := N) (by omega)
   simp only [nc0] at l3; rw [l3]; cases (List.range p.zL.length).findSome? (gMo p) <;> rfl
theorem zaa2 (N : Nat) (hN : 1100 < N) (p : zB) : zad N p = some (zo9 p) := by
 unfold zad zo9
 simp only [orB, obs, z88]
 by_cases hb : p.zA.length > 24 ∨ p.zF.length > 40 ∨ p.zL.length > 6
 · rw [ifp hb, dct hb]; rfl
 rw [ifn hb, dcf hb]
 by_cases h0 : p.zF.length = 0
 · rw [ifp h0, zcn, dct (by omega)]; rfl
 rw [ifn h0, zcn, dcf (by omega)]
 simp only [cfa]
 have mk : ∀ i, (∀ j, j < i → gO p j = none) → Upto p i := fun i h => { ops := by omega, ins := by omega, ok := fun j hj => z6d (h j hj) }
 have l1 := zvk (f := zad.r0 N) (fun i => ((i : Int), p, (⟨0, 0⟩ : zM))) (gO p) p.zA.length
  (fun i hi hp => by
   simp only [zad.r0, zad.b0, dct (show (i : Int) < (p.zA.length : Int) by omega), ctr]; rw [zagz N hN (mk i hp) hi, w6e]; unfold gO; simp only [obs, zd1]
   by_cases h : opE p i = 0
   · rw [ifp h, dcf (fun hh => hh h)]; rfl
   · rw [ifn h, dct h]; rfl)
  (fun _ => by simp only [zad.r0, zad.b0, dcf (show ¬ (p.zA.length : Int) < (p.zA.length : Int) by omega), cfa]) (N := N) (by omega)
 simp only [nc0] at l1
 rw [l1]
 cases hf : (List.range p.zA.length).findSome? (gO p) with
 | some r => rfl
 | none =>
  have hu : zql p := mk _ (zl4.1 hf); simp only [obs, zb5]; rw [zel N hN hu]; simp only [obs]
  by_cases hq : zla p.zA > 24
  · rw [ifp hq, dct hq]; rfl
  rw [ifn hq, dcf hq]; simp only [cfa]; have l2 := zbh (f := zad.r2 N) (fun i => ((i : Int), p, (⟨0, 0⟩ : zM))) (gX p) p.zF.length
   (fun i hi => by
    have hx := lge hi; simp only [zad.r2, zad.b2, dct (show (i : Int) < (p.zF.length : Int) by omega), ctr, zai, hx, obs, gX]; rw [zadg N hN hu, w6e]; simp only [obs, zd1]
    by_cases h : zwi p p.zF[i] = 0
    · rw [ifp h, dcf (fun hh => hh h)]; rfl
    · rw [ifn h, dct h]; rfl)
   (by simp only [zad.r2, zad.b2, dcf (show ¬ (p.zF.length : Int) < (p.zF.length : Int) by omega), cfa]) (N := N) (by omega)
  simp only [nc0] at l2; rw [l2]; cases (List.range p.zF.length).findSome? (gX p) with
  | some r => rfl
  | none =>
   simp only [obs, zb5]; have l3 := zbh (f := zad.r4 N) (fun i => ((i : Int), p, (⟨0, 0⟩ : zM))) (gMo p) p.zL.length
    (fun i hi => by
     have hx := lge hi; simp only [zad.r4, zad.b4, dct (show (i : Int) < (p.zL.length : Int) by omega), ctr, zai, hx, obs, gMo, zhk, orB, insL hu]; rw [zaf9, w6e]; cases zzl p p.zL[i] <;> rfl)
    (by simp only [zad.r4, zad.b4, dcf (show ¬ (p.zL.length : Int) < (p.zL.length : Int) by omega), cfa]) (N := N) (by omega)
   simp only [nc0] at l3; rw [l3]; cases (List.range p.zL.length).findSome? (gMo p) <;> rfl
theorem zaf3 (N : Nat) (hN : 1100 < N) (p : zB) : ze8 N p = some (zo9 p).2 := by
 unfold ze8
 rw [z8t N hN]; rfl
theorem zadi (N : Nat) (hN : 1100 < N) (p : zB) : zq6 N p = some (zo9 p).2 := by
 unfold zq6
 rw [zaa2 N hN]; rfl
structure ProgV (p : zB) : Prop where
 ok : zql p
 n24 : p.zA.length ≤ 24
 i40 : p.zF.length ≤ 40
 i0 : 0 < p.zF.length
 m6 : p.zL.length ≤ 6
 quads : zla p.zA ≤ 24
 ins : ∀ x ∈ p.zF, zwi p x = 0
 mon : ∀ m ∈ p.zL, zzl p m = true
theorem z8r {p : zB} (h : (zo9 p).2 = 0) : ProgV p := by
 unfold zo9 at h
 split at h
 · cases h
 split at h
 · cases h
 rename_i hb h0
 split at h
 · rename_i r hr
   exfalso
   obtain ⟨i, _, hi, _⟩ := zl1 hr; unfold gO at hi; split at hi
   · cases hi
   · rename_i hne; cases hi; exact hne h
 · rename_i hf; split at h
   · cases h
   rename_i hq; split at h
   · rename_i r hr
     exfalso
     obtain ⟨i, _, hi, _⟩ := zl1 hr; unfold gX at hi; rw [Option.bind_eq_some_iff] at hi; obtain ⟨x, _, hi⟩ := hi; split at hi
     · cases hi
     · rename_i hne; cases hi; exact hne h
   · rename_i hf2; split at h
     · rename_i r hr
       exfalso
       obtain ⟨i, _, hi, _⟩ := zl1 hr; unfold gMo at hi; rw [Option.bind_eq_some_iff] at hi; obtain ⟨x, _, hi⟩ := hi; split at hi
       · cases hi
       · cases hi; cases h
     · rename_i hf3; refine { ok := { ops := by omega, ins := by omega, ok := fun j hj => z6d (zl4.1 hf j hj) }, n24 := by omega, i40 := by omega, i0 := by omega, m6 := by omega, quads := by omega, ins := fun x hx => ?_, mon := fun m hm => ?_ }
       · obtain ⟨i, hi⟩ := List.getElem?_of_mem hx; have := zl4.1 hf2 i (gei hi).1; unfold gX at this; rw [hi, obs] at this; split at this
         · assumption
         · cases this
       · obtain ⟨i, hi⟩ := List.getElem?_of_mem hm; have := zl4.1 hf3 i (gei hi).1; unfold gMo at this; rw [hi, obs] at this; split at this
         · assumption
         · cases this
theorem zpo {b : Bool} {p q : Nat} {t : DataType} {half : Bool} (h : (zjg b p q t half).2 = 0) : -((10 ^ t.Length.toNat : Nat) : Int) < (zjg b p q t half).1.N ∧ (zjg b p q t half).1.N < ((10 ^ t.Length.toNat : Nat) : Int) := by
 unfold zjg at h ⊢
 have := zcu t.Length.toNat
 generalize (p * 10 ^ t.Scale.toNat / q + cond (half && decide (q ≤ p * 10 ^ t.Scale.toNat % q + p * 10 ^ t.Scale.toNat % q)) 1 0) = Q at *
 generalize 10 ^ t.Length.toNat = T at *
 split at h
 · cases h
 · rename_i hn; rw [ifn hn]; cases b
   · show -(T : Int) < (Q : Int) ∧ (Q : Int) < T; omega
   · show -(T : Int) < -(Q : Int) ∧ -(Q : Int) < T; omega
theorem zab7 (b : Bool) (p q : Nat) (t : DataType) (half : Bool) : (zjg b p q t half).1 = ⟨(zjg b p q t half).1.N, ⟨#[]⟩⟩ := by
 unfold zjg
 split <;> rfl
theorem z8p (b : Bool) (p q : Nat) (t : DataType) (half : Bool) : (zjg b p q t half).2 = 0 ∨ (zjg b p q t half).2 = 19 := by
 unfold zjg
 split
 · exact .inr rfl
 · exact .inl rfl
theorem zagm (x : Number) (t : DataType) (half : Bool) : (zoa x t half).1 = ⟨(zoa x t half).1.N, ⟨#[]⟩⟩ := zab7 _ _ _ _ _
theorem z9p (x : Number) (t : DataType) (half : Bool) : (zoa x t half).2 = 0 ∨ (zoa x t half).2 = 19 := z8p _ _ _ _ _
theorem zabf {x : Number} {t : DataType} {half : Bool} (h : (zoa x t half).2 = 0) : -((10 ^ t.Length.toNat : Nat) : Int) < (zoa x t half).1.N ∧ (zoa x t half).1.N < ((10 ^ t.Length.toNat : Nat) : Int) := zpo h
theorem z93 {op : Int} {a b : Number} {t : DataType} {half : Bool} (h : (zln op a b t half).2 = 0) : -((10 ^ t.Length.toNat : Nat) : Int) < (zln op a b t half).1.N ∧ (zln op a b t half).1.N < ((10 ^ t.Length.toNat : Nat) : Int) := by
 unfold zln at h ⊢
 by_cases h1 : (op = 3 ∨ op = 4) ∧ b.N = 0
 · rw [ifp h1] at h; cases h
 · rw [ifn h1] at h ⊢
   by_cases h2 : op = 0
   · rw [ifp h2] at h ⊢; exact zpo h
   · rw [ifn h2] at h ⊢
     by_cases h3 : op = 1
     · rw [ifp h3] at h ⊢; exact zpo h
     · rw [ifn h3] at h ⊢
       by_cases h4 : op = 2
       · rw [ifp h4] at h ⊢; exact zpo h
       · rw [ifn h4] at h ⊢
         by_cases h5 : op = 3
         · rw [ifp h5] at h ⊢; exact zpo h
         · rw [ifn h5] at h ⊢; exact zpo h
theorem zae9 (op : Int) (a b : Number) (t : DataType) (half : Bool) : (zln op a b t half).1 = ⟨(zln op a b t half).1.N, ⟨#[]⟩⟩ := by
 unfold zln z1b
 repeat' split
 all_goals first | rfl | exact zab7 _ _ _ _ _
theorem zact (op : Int) (a b : Number) (t : DataType) (half : Bool) : (zln op a b t half).2 = 0 ∨ (zln op a b t half).2 = 19 ∨ (zln op a b t half).2 = 20 := by
 have := fun b' p q => z8p b' p q t half
 unfold zln z1b
 repeat' split
 all_goals first | exact .inr (.inr rfl) | exact (this _ _ _).elim (fun h => .inl h) (fun h => .inr (.inl h))
theorem zacq {t : DataType} (ht : zj9 t) {b : ByteArray} (h4 : (b.size : Int) = szE t) : ∀ n, zo6 t b = some n → -((10 ^ t.Length.toNat : Nat) : Int) < n ∧ n < ((10 ^ t.Length.toNat : Nat) : Int) := by
 intro n hn
 obtain ⟨⟨l1, l2⟩, l3, l4⟩ := zf6 ht
 unfold zo6 at hn
 split at hn
 · split at hn
   · rename_i hh; cases hn; exact hh
   · cases hn
 · rename_i hk3; have key : ∀ l : List Int, (∀ d ∈ l, 0 ≤ d ∧ d ≤ 15) → (List.range (l.length - 1)).any (zkd l t.Length) = false → (l.length : Int) - 1 - t.Length ≤ 1 → 0 ≤ zga (l.take (l.length - 1)) ∧ zga (l.take (l.length - 1)) < ((10 ^ t.Length.toNat : Nat) : Int) := by
    intro l hr hg hle; rw [List.any_eq_false] at hg; have g9 : ∀ i, i < l.length - 1 → 0 ≤ l.getD i 0 ∧ l.getD i 0 ≤ 9 := fun i hi => by
     have h1 := hg i (List.mem_range.2 hi); unfold zkd at h1; have hx : l[i]? = some (l.getD i 0) := by rw [gdd, lge (by omega)]; rfl
     have h2 := hr _ (lmg hx); rw [Bool.or_eq_true, decide_eq_true_eq] at h1; omega
    have step : ∀ i, i ≤ l.length - 1 → 0 ≤ zga (l.take i) ∧ (zga (l.take i) < ((10 ^ (i - ((l.length : Int) - 1 - t.Length).toNat) : Nat) : Int)) := by
     intro i
     induction i with
     | zero => intro _; rw [List.take_zero]; exact ⟨by decide, by simp [zga]⟩
     | succ i ih =>
      intro hi; have hx : l[i]? = some (l.getD i 0) := by rw [gdd, lge (by omega)]; rfl
      obtain ⟨i1, i2⟩ := ih (by omega); have hd := g9 i (by omega); rw [zeg l i hx, zsm]; refine ⟨by omega, ?_⟩
      by_cases hlead : (i : Int) < (l.length : Int) - 1 - t.Length
      · have h1 := hg i (List.mem_range.2 (by omega)); unfold zkd at h1; rw [Bool.or_eq_true, Bool.and_eq_true, decide_eq_true_eq, decide_eq_true_eq, decide_eq_true_eq] at h1; have h0 : l.getD i 0 = 0 := by
         refine cbc fun h2 => h1 (.inr ⟨by omega, hlead⟩)
        rw [show i - ((l.length : Int) - 1 - t.Length).toNat = 0 by omega, Nat.pow_zero] at i2; rw [h0, show i + 1 - ((l.length : Int) - 1 - t.Length).toNat = 0 by omega, Nat.pow_zero]; omega
      · rw [show i + 1 - ((l.length : Int) - 1 - t.Length).toNat = (i - ((l.length : Int) - 1 - t.Length).toNat) + 1 by omega, Nat.pow_succ]; omega
    obtain ⟨s1, s2⟩ := step (l.length - 1) (Nat.le_refl _); refine ⟨s1, ?_⟩; have hpw : 10 ^ (l.length - 1 - ((l.length : Int) - 1 - t.Length).toNat) ≤ 10 ^ t.Length.toNat := zcj (by omega); omega
   have hbs := h4; rw [zvn ht] at hbs; obtain ⟨_, k1, k2⟩ := ht; have hlen : ((if t.Kind = 1 then zj6 (bl b) else zee (bl b)).length : Int) - 1 - t.Length ≤ 1 := by
    by_cases hk1 : t.Kind = 1
    · rw [ifp hk1] at hbs; rw [ifp hk1, ztj, zas]; omega
    · rw [ifn hk1, ifn hk3] at hbs; rw [ifn hk1]; unfold zee zge; rw [lna, lnm, zas, lns]; omega
   have hrange : ∀ d ∈ (if t.Kind = 1 then zj6 (bl b) else zee (bl b)), 0 ≤ d ∧ d ≤ 15 := by
    split
    · exact zu0.1
    · exact zu0.2
   generalize (if t.Kind = 1 then zj6 (bl b) else zee (bl b)) = l at *; unfold z1w at hn
   by_cases hbad : (List.range (l.length - 1)).any (zkd l t.Length) = true ∨ zm5 l < 10
   · rw [ifp hbad] at hn; cases hn
   · rw [ifn hbad] at hn; rw [not_or] at hbad; obtain ⟨q1, q2⟩ := key l hrange (by simpa using hbad.1) hlen; have hn2 := Option.some.inj hn; split at hn2 <;> omega
def mI (p : zB) (s : zC) (e : Int) : zD := ⟨p, s, ztm p.zA, e⟩
def mS (s : zC) (t : Storage) : zC := ⟨t, s.At, s.Stack, s.Lines, s.Status, s.Exception, s.Steps⟩
def mK (s : zC) (l : List Int) : zC := ⟨s.Storage, s.At, l, s.Lines, s.Status, s.Exception, s.Steps⟩
def mL (s : zC) (l : List ByteArray) : zC := ⟨s.Storage, s.At, s.Stack, l, s.Status, s.Exception, s.Steps⟩
def mT (s : zC) (k : Int) : zC := ⟨s.Storage, s.At, s.Stack, s.Lines, k, s.Exception, s.Steps⟩
def mA (s : zC) (k : Int) : zC := ⟨s.Storage, k, s.Stack, s.Lines, s.Status, s.Exception, s.Steps⟩
def mE (s : zC) (k : Int) : zC := ⟨s.Storage, s.At, s.Stack, s.Lines, s.Status, k, s.Steps⟩
def mP (s : zC) (k : Int) : zC := ⟨s.Storage, s.At, s.Stack, s.Lines, s.Status, s.Exception, k⟩
theorem z68 (p : zB) (s : zC) (n : Int) : zt (mI p s 0) n = some (mI p s n) := rfl
theorem zu3 (p : zB) (s : zC) {e : Int} (he : e ≠ 0) (n : Int) : zt (mI p s e) n = some (mI p s e) := by
 unfold zt
 rw [show (mI p s e).raised = e from rfl, zcn, dcf he]
 rfl
structure StoP (p : zB) (t : Storage) : Prop where
 sto : zpi t
 size : (t.Bytes.size : Int) = 16 * zla p.zA
section
variable {p : zB}
theorem z27 (h : ProgV p) : 0 ≤ sAt p.zA p.zA.length ∧ sAt p.zA p.zA.length ≤ 16 * zla p.zA := by
 have h1 := zrd p.zA p.zA.length
 have h2 := zpm h.ok p.zA.length (Nat.le_refl _)
 unfold zla
 have : sAt p.zA p.zA.length = pAt p.zA p.zA.length + zlp p.zA p.zA.length := rfl
 omega
theorem zok {i : Nat} (hi : i < p.zA.length) : idx (ztm p.zA) (i : Int) = some (zef p.zA i) := by
 rw [zai]
 exact zp9 _ hi
theorem zx3 (h : ProgV p) {i : Nat} (hi : i < p.zA.length) (h3 : (og p.zA i).Kind = 3) {t : Storage} (hs : StoP p t) : zt5 t (zef p.zA i) = true ∧ 0 ≤ zef p.zA i ∧ zef p.zA i % 16 = 0 ∧ zef p.zA i + 16 ≤ (t.Bytes.size : Int) := by
 have e : zef p.zA i = pAt p.zA i := by unfold zef; rw [ifp h3]
 have b1 := zrd p.zA i
 have b2 := z8u p.zA (show i + 1 ≤ p.zA.length by omega)
 have e2 : pAt p.zA (i + 1) = pAt p.zA i + 16 := by
  show pAt p.zA i + (if (og p.zA i).Kind = 3 then 16 else 0) = _; rw [ifp h3]
 have b3 := zpm h.ok p.zA.length (Nat.le_refl _)
 have b4 := z27 h
 have e4 : sAt p.zA p.zA.length = pAt p.zA p.zA.length + zlp p.zA p.zA.length := rfl
 have hz := hs.size
 rw [e]
 refine ⟨?_, b1.1, b1.2.2, by omega⟩
 unfold zt5
 rw [dct b1.1, dct b1.2.2, dct (by omega)]
 rfl
theorem zads (h : ProgV p) {i : Nat} (hi : i < p.zA.length) (hk : (og p.zA i).Kind = 0 ∨ (og p.zA i).Kind = 1) {t : Storage} (hs : StoP p t) : 0 ≤ zef p.zA i ∧ zef p.zA i + szE (og p.zA i).zJ ≤ (t.Bytes.size : Int) := by
 have b1 := zrd p.zA p.zA.length
 have b4 := z27 h
 have hz := hs.size
 have key : ∀ j, j < p.zA.length → (og p.zA j).Kind = 0 → 0 ≤ sAt p.zA j ∧ sAt p.zA j + szE (og p.zA j).zJ ≤ (t.Bytes.size : Int) := by
  intro j hj h0; have b2 := zpm h.ok j (by omega); have b3 := z6m h.ok (Nat.le_refl p.zA.length) (show j + 1 ≤ p.zA.length by omega); have e2 : zlp p.zA (j + 1) = zlp p.zA j + szE (og p.zA j).zJ := by
   show zlp p.zA j + (if (og p.zA j).Kind = 0 then szE (og p.zA j).zJ else 0) = _; rw [ifp h0]
  have e4 : sAt p.zA p.zA.length = pAt p.zA p.zA.length + zlp p.zA p.zA.length := rfl; have e5 : sAt p.zA j = pAt p.zA p.zA.length + zlp p.zA j := rfl; omega
 unfold zef
 rcases hk with h0 | h1
 · rw [ifn, ifp h0]; exact key i hi h0
 · obtain ⟨b, e1, e2, e3, e4, e5⟩ := z0s h.ok hi h1; have := key b (by omega) e3; rw [ifn, ifn, ifp h1, e1, itn]; have hz := zfl ((zlk h.ok hi).ty (by rw [h1]; rfl)).1; omega
theorem z9b (N : Nat) (l : List zG) (h : l.length < N) (hl : l.length < 1000000000) (o : zG) : zi N l o = some (nmI l o.Base) := by
 unfold zi nmI
 have l1 := zbh (f := zi.r0 N) (fun i => (l, (l.length : Int), (i : Int), o)) (gNm l o.Base) l.length
  (fun i hi => by
   have hx := lge hi; simp only [zi.r0, zi.b0, zev, zai, hx, obs, dct (show (i : Int) < (l.length : Int) by omega), ctr, gNm]; rw [w6e]; cases (l[i].Name.toList == o.Base.toList) <;> rfl)
  (by simp only [zi.r0, zi.b0, dcf (show ¬ (l.length : Int) < (l.length : Int) by omega), cfa]) h
 simp only [nc0] at l1
 rw [l1]
 cases (List.range l.length).findSome? (gNm l o.Base) <;> rfl
theorem z55 (N : Nat) (hN : 10 < N) {o : zG} (h : zfj o.zJ = 0) : zdk N o = some (szE o.zJ) := by
 unfold zdk zif
 rw [zre N hN, h]
 simp [z2j h]
theorem zvl (N : Nat) (hN : 2000 < N) (h : ProgV p) {s : zC} (hs : StoP p s.Storage) {i : Nat} (hi : i < p.zA.length) (h3 : (og p.zA i).Kind = 3) (e : Int) :
 zbw N (mI p s e) (i : Int) = some (match ldV s.Storage (zef p.zA i) with | some o => (zji o, zef p.zA i, mI p s e) | none => (z4f, zef p.zA i, mI p s (if e = 0 then 4 else e))) := by
 unfold zbw
 rw [show (mI p s e).layout = ztm p.zA from rfl, zok hi, show (mI p s e).zC.Storage = s.Storage from rfl]
 simp only [obs]
 rw [zaem N hN hs.sto (zx3 h hi h3 hs).1]
 cases ldV s.Storage (zef p.zA i) with
 | some o => rfl
 | none =>
  simp only [obs]
  by_cases he : e = 0
  · subst he; rfl
  · rw [zu3 p s he, ifn he]; rfl
def adI (p : zB) (t : Storage) (i : Nat) : Except Int Int :=
 if (og p.zA i).Kind = 2 then (match ldV t (zef p.zA (nmI p.zA (og p.zA i).Base).toNat) with
  | none => .error 4
  | some o => if o + (og p.zA i).Offset > (t.Bytes.size : Int) - szE (og p.zA i).zJ then .error 5 else .ok (o + (og p.zA i).Offset))
 else .ok (zef p.zA i)
theorem zie {i : Nat} (hi : i < p.zA.length) : idx p.zA (i : Int) = some (og p.zA i) := by
 rw [zai, zqg hi]
theorem zaci {k : Int} (h : isS k = true) : k = 0 ∨ k = 1 ∨ k = 2 := by
 unfold isS at h
 simp only [Bool.or_eq_true, decide_eq_true_eq] at h
 omega
theorem zt7 {k : Int} (h : isS k = true) : isD k = true := by unfold isD; rw [h]; rfl
theorem z6k (N : Nat) (hN : 2000 < N) (h : ProgV p) {s : zC} (hs : StoP p s.Storage) {i : Nat} (hi : i < p.zA.length) (hk : isS (og p.zA i).Kind = true) :
 (∃ e j k, (e = 4 ∨ e = 5) ∧ adI p s.Storage i = .error e ∧ za2 N (mI p s 0) (i : Int) = some (j, mI p s e) ∧ zdx N p s (i : Int) = some (k, e)) ∨
 ∃ a, adI p s.Storage i = .ok a ∧ za2 N (mI p s 0) (i : Int) = some (a, mI p s 0) ∧ zdx N p s (i : Int) = some (a, 0) ∧ 0 ≤ a ∧ a + szE (og p.zA i).zJ ≤ (s.Storage.Bytes.size : Int) := by
 have hl := hs.sto.le
 have n24 := h.n24
 have hty := ((zlk h.ok hi).ty (zt7 hk)).1
 have hsz := zfl hty
 unfold za2 zdx adI
 rw [show (mI p s 0).zB = p from rfl, zie hi, zel N (by omega) h.ok]
 simp only [obs, zd1]
 by_cases h2 : (og p.zA i).Kind = 2
 · rw [ifp h2, dcf (fun hh => hh h2)]; obtain ⟨b, e1, e2, e3, e4, e5⟩ := z5i h.ok hi h2; have hb : b < p.zA.length := by omega
   simp only [cfa]; rw [z9b N _ (by omega) (by omega), z7z N p (by omega) (by omega), e1]; simp only [obs, itn]; rw [zvl N hN h hs hb e3, zok hb]; simp only [obs]; rw [z5v N hN hs.sto (zx3 h hb e3 hs).1]; cases hld : ldV s.Storage (zef p.zA b) with
   | none => exact .inl ⟨4, _, _, .inl rfl, rfl, rfl, rfl⟩
   | some o =>
    have ho := z1q hs.sto hld; simp only [obs, show (zji o).Address.Offset = o from rfl, show (mI p s 0).raised = 0 from rfl, show (mI p s 0).zC = s from rfl, bsf, bst, ctr, cfa]; rw [z55 N (by omega) hty, zs6 hty]; simp only [obs]; rw [w6e (n := o + (og p.zA i).Offset), w6e (n := (s.Storage.Bytes.size : Int) - szE (og p.zA i).zJ)]; unfold z0h; rw [zhk, zhk, w6e (n := (s.Storage.Bytes.size : Int) - (o + (og p.zA i).Offset))]; simp only [obs]
    by_cases hgt : o + (og p.zA i).Offset > (s.Storage.Bytes.size : Int) - szE (og p.zA i).zJ
    · left; rw [dct hgt, ifp hgt]; refine ⟨5, _, 0, .inr rfl, rfl, rfl, ?_⟩
      by_cases h1 : inB (o + (og p.zA i).Offset) 0 (s.Storage.Bytes.size : Int) = true
      · rw [h1, ctr]; rw [show inB (szE (og p.zA i).zJ) 0 ((s.Storage.Bytes.size : Int) - (o + (og p.zA i).Offset)) = false by
         cases hh : inB (szE (og p.zA i).zJ) 0 ((s.Storage.Bytes.size : Int) - (o + (og p.zA i).Offset)) with
         | false => rfl
         | true => have := zbf.1 hh; omega]
        rfl
      · rw [show inB (o + (og p.zA i).Offset) 0 (s.Storage.Bytes.size : Int) = false by simpa using h1]; rfl
    · right; rw [dcf hgt, ifn hgt]; refine ⟨_, rfl, rfl, ?_, by omega, by omega⟩; rw [show inB (o + (og p.zA i).Offset) 0 (s.Storage.Bytes.size : Int) = true from zbf.2 ⟨by omega, by omega⟩, ctr, show inB (szE (og p.zA i).zJ) 0 ((s.Storage.Bytes.size : Int) - (o + (og p.zA i).Offset)) = true from zbf.2 ⟨by omega, by omega⟩]; rfl
 · have hk2 := zaci hk; have hd := zads h hi (by omega) hs; rw [ifn h2, dct h2, show (mI p s 0).layout = ztm p.zA from rfl, zok hi]; exact .inr ⟨_, rfl, rfl, rfl, hd.1, hd.2⟩
theorem z7o (N : Nat) (hN : 2000 < N) (h : ProgV p) {s : zC} (hs : StoP p s.Storage) {i : Nat} (hi : i < p.zA.length) (hk : isS (og p.zA i).Kind = true) {e : Int} (he : e ≠ 0) :
 ∃ j, za2 N (mI p s e) (i : Int) = some (j, mI p s e) := by
 have n24 := h.n24
 unfold za2
 rw [show (mI p s e).zB = p from rfl, zie hi]
 simp only [obs, zd1]
 by_cases h2 : (og p.zA i).Kind = 2
 · rw [dcf (fun hh => hh h2)]; obtain ⟨b, e1, e2, e3, e4, e5⟩ := z5i h.ok hi h2; have hb : b < p.zA.length := by omega
   simp only [cfa]; rw [z9b N _ (by omega) (by omega), e1]; simp only [obs]; rw [zvl N hN h hs hb e3]; cases hld : ldV s.Storage (zef p.zA b) with
   | none =>
    simp only [obs, ifn he]; rw [show (mI p s e).raised = e from rfl, zcn, dcf he]; exact ⟨_, rfl⟩
   | some o =>
    simp only [obs]; rw [show (mI p s e).raised = e from rfl, zcn, dcf he]; exact ⟨_, rfl⟩
 · rw [dct h2, show (mI p s e).layout = ztm p.zA from rfl, zok hi]; exact ⟨_, rfl⟩
end
def z34 (o : zG) : ByteArray := if o.zJ.Kind = 0 then o.Value.S else zz1 o.zJ o.Value.N
theorem zabd (N : Nat) (n len : Nat) (hn : n ≤ 1000000000000000000) (hl : len ≤ 300) (hN : len < N) : ∃ l, za8 N (n : Int) (len : Int) = some l := by
 unfold za8
 rw [ifp, ifp, itn, za0 (by omega), ctr, w6e]
 obtain ⟨s', h1, _⟩ := zzh (f := za8.r0 N) (fun i s => ∃ q P, s = (((q : Nat) : Int), P, (len : Int) - 1 - (i : Int)) ∧ q ≤ n ∧ P.length = len) len
  (fun i s hi hs => by
   obtain ⟨q, P, rfl, h1, h2⟩ := hs; obtain ⟨x, hx⟩ : ∃ x, P[((len : Int) - 1 - (i : Int)).toNat]? = some x := ⟨_, lge (by omega)⟩; simp only [za8.r0, za8.b0, dct (show (len : Int) - 1 - (i : Int) ≥ 0 by omega), ctr, h2]; rw [ifp, ifp, hx]; simp only [obs]; rw [tde, w6e (n := (q : Int) / 10), w6e (n := (len : Int) - 1 - (i : Int) - 1)]; exact ⟨_, rfl, q / 10, _, by rw [show (q : Int) / 10 = ((q / 10 : Nat) : Int) by omega, show (len : Int) - 1 - (i : Int) - 1 = (len : Int) - 1 - ((i + 1 : Nat) : Int) by omega], by omega, by rw [List.length_set]; exact h2⟩)
  (fun s hs => by
   obtain ⟨q, P, rfl, h1, h2⟩ := hs; exact ⟨_, by simp only [za8.r0, za8.b0, dcf (show ¬ (len : Int) - 1 - (len : Int) ≥ 0 by omega), cfa], q, P, rfl, h1, h2⟩) (N := N) hN (s := ((n : Int), List.replicate len 0, (len : Int) - 1)) ⟨n, _, by rw [show (len : Int) - 1 - ((0 : Nat) : Int) = (len : Int) - 1 by omega], Nat.le_refl _, by rw [lnr]⟩
 rw [h1]
 exact ⟨_, rfl⟩
theorem zael {t : DataType} {v : Value} (ht : zj9 t) (hv : zhx t v = 0) : v = ⟨v.N, ⟨#[]⟩⟩ ∧ -((10 ^ t.Length.toNat : Nat) : Int) < v.N ∧ v.N < ((10 ^ t.Length.toNat : Nat) : Int) := by
 obtain ⟨_, k1, k2⟩ := ht
 unfold zhx at hv
 rw [ifn] at hv
 split at hv
 · cases hv
 · rename_i h1; split at hv
   · rename_i h2; have := zbf.1 h2; unfold zqh at this; have h3 : v.S = e0 := cbc h1; obtain ⟨n, s⟩ := v; simp only at h3; subst h3; exact ⟨rfl, by omega, by omega⟩
   · cases hv
theorem zaae (N : Nat) (hN : 400 < N) {o : zG} (ht : zfj o.zJ = 0) (h4 : o.zJ.Kind ≠ 4) (hv : zhx o.zJ o.Value = 0) : zc8 N o.zJ o.Value = some (z34 o, 0) ∧ zbe N o.zJ o.Value = some (z34 o) ∧ ((z34 o).size : Int) = szE o.zJ := by
 by_cases h0 : o.zJ.Kind = 0
 · unfold z34; rw [ifp h0]; have hv' := hv; unfold zhx at hv'; rw [ifp h0] at hv'; have hn : o.Value.N = 0 := by
    refine cbc fun h => ?_; rw [ifp h] at hv'; cases hv'
   rw [ifn (fun h => h hn)] at hv'; have hsz : (o.Value.S.size : Int) = o.zJ.Length := by
    refine cbc fun h => ?_; rw [ifp h] at hv'; cases hv'
   have hlen : 1 ≤ o.zJ.Length ∧ o.zJ.Length ≤ 256 := by
    rcases zpj ht with ⟨_, h⟩ | ⟨h | h, _⟩ | ⟨h, _⟩ | ⟨h, _⟩
    · exact h
    all_goals omega
   refine ⟨?_, ?_, ?_⟩
   · unfold zc8; rw [z80 N (by omega) ht h4, hv]; simp only [obs, bsf, cfa]; unfold zac; obtain ⟨l, hl⟩ := zabd N 0 o.zJ.Length.toNat (by decide) (by omega) (by omega); rw [hn, show (if w6 (0 - 0) > 0 then w6 (0 - 0) else 0) = ((0 : Nat) : Int) from rfl, show o.zJ.Length = ((o.zJ.Length.toNat : Nat) : Int) by omega, hl, h0]; rfl
   · unfold zbe; rw [h0]; rfl
   · unfold szE; rw [ifn, ifn, ifn]; exact hsz
 · have hn := z4s ht h0 h4; obtain ⟨e1, e2, e3⟩ := zael hn hv; unfold z34; rw [ifn h0]; rw [e1]; exact ⟨z64 N (by omega) hn _ ⟨e2, e3⟩, z8i N (by omega) hn _ ⟨e2, e3⟩, z7g hn _⟩
section
variable {p : zB}
theorem z67 {k : Int} (h : isD k = true) : isS k = true ∨ k = 4 := by
 unfold isD at h
 rw [Bool.or_eq_true, decide_eq_true_eq] at h
 exact h
def byI (p : zB) (t : Storage) (i : Nat) : Except Int ByteArray :=
 if (og p.zA i).Kind = 4 then .ok (z34 (og p.zA i)) else match adI p t i with
  | .error e => .error e
  | .ok a => .ok (t.Bytes.extract a.toNat (a + szE (og p.zA i).zJ).toNat)
theorem zyb (N : Nat) (hN : 2000 < N) (h : ProgV p) {s : zC} (hs : StoP p s.Storage) {i : Nat} (hi : i < p.zA.length) (hk : isD (og p.zA i).Kind = true) :
 (∃ e k, (e = 4 ∨ e = 5) ∧ byI p s.Storage i = .error e ∧ zaf N (mI p s 0) (i : Int) = some (⟨#[]⟩, mI p s e) ∧ zju N p s (i : Int) = some (k, e)) ∨
 ∃ b, byI p s.Storage i = .ok b ∧ zaf N (mI p s 0) (i : Int) = some (b, mI p s 0) ∧ zju N p s (i : Int) = some (b, 0) ∧ (b.size : Int) = szE (og p.zA i).zJ := by
 have ho := zlk h.ok hi
 obtain ⟨hty, hk4⟩ := ho.ty hk
 have hsz := zfl hty
 have hl := hs.sto.le
 unfold byI zaf zju
 rw [show (mI p s 0).zB = p from rfl, zie hi]
 simp only [obs, zcn]
 by_cases h4 : (og p.zA i).Kind = 4
 · obtain ⟨e1, e2, e3⟩ := zaae N (by omega) hty hk4 (ho.val (.inr h4)); rw [ifp h4, dct h4, ctr, ctr, e1, e2]; exact .inr ⟨_, rfl, rfl, rfl, e3⟩
 · rw [ifn h4, dcf h4, cfa, cfa]; have hS := (z67 hk).resolve_right h4; rcases z6k N hN h hs hi hS with ⟨e, j, k, he, h1, h2, h3⟩ | ⟨a, h1, h2, h3, h4, h5⟩
   · left; rw [h1, h2, h3]; refine ⟨e, ⟨#[]⟩, he, rfl, ?_, ?_⟩
     · rcases he with rfl | rfl <;> rfl
     · rcases he with rfl | rfl <;> rfl
   · right; rw [h1, h2, h3]; simp only [obs, show (mI p s 0).raised = 0 from rfl, bsf, cfa]; rw [z55 N (by omega) hty, zs6 hty]; simp only [obs, show (mI p s 0).zC = s from rfl]; have c1 : 0 ≤ a + szE (og p.zA i).zJ ∧ a + szE (og p.zA i).zJ ≤ (s.Storage.Bytes.size : Int) := by omega
     have c2 : 0 ≤ a ∧ a ≤ a + szE (og p.zA i).zJ := by omega
     rw [w6e]; simp only [ifp c1, ifp c2]; refine ⟨_, rfl, rfl, rfl, ?_⟩; rw [zc2 _ _ _ (by omega) (by omega)]; omega
theorem z7n (N : Nat) (hN : 2000 < N) (h : ProgV p) {s : zC} (hs : StoP p s.Storage) {i : Nat} (hi : i < p.zA.length) (hk : isD (og p.zA i).Kind = true) {e : Int} (he : e ≠ 0) :
 ∃ b, zaf N (mI p s e) (i : Int) = some (b, mI p s e) ∧ b.size ≤ 256 := by
 have ho := zlk h.ok hi
 obtain ⟨hty, hk4⟩ := ho.ty hk
 have hsz := zfl hty
 unfold zaf
 rw [show (mI p s e).zB = p from rfl, zie hi]
 simp only [obs, zcn]
 by_cases h4 : (og p.zA i).Kind = 4
 · obtain ⟨e1, e2, e3⟩ := zaae N (by omega) hty hk4 (ho.val (.inr h4)); rw [dct h4, ctr, e1]; exact ⟨_, rfl, by show (z34 (og p.zA i)).size ≤ 256; omega⟩
 · rw [dcf h4, cfa]; obtain ⟨j, hj⟩ := z7o N hN h hs hi ((z67 hk).resolve_right h4) he; rw [hj]; simp only [obs, show (mI p s e).raised = e from rfl, zd1, dct he, ctr]; exact ⟨_, rfl, by decide⟩
def nuI (p : zB) (t : Storage) (i : Nat) : Except Int Number :=
 match byI p t i with | .error e => .error e | .ok b => match zo6 (og p.zA i).zJ b with | none => .error 1 | some n => .ok ⟨n, (og p.zA i).zJ.Scale⟩
theorem z1m (h : ProgV p) {i : Nat} (hi : i < p.zA.length) (hk : isD (og p.zA i).Kind = true) (hn : zdd (og p.zA i) = true) : zj9 (og p.zA i).zJ := by
 obtain ⟨hty, hk4⟩ := (zlk h.ok hi).ty hk
 unfold zdd at hn
 exact z4s hty (of_decide_eq_true hn) hk4
theorem zaf8 {t : DataType} (ht : zj9 t) {n : Int} (h : -((10 ^ t.Length.toNat : Nat) : Int) < n ∧ n < ((10 ^ t.Length.toNat : Nat) : Int)) : zdl ⟨n, t.Scale⟩ := by
 obtain ⟨⟨l1, l2⟩, l3, l4⟩ := zf6 ht
 have hpw : 10 ^ t.Length.toNat ≤ 10 ^ 15 := zcj (by omega)
 refine ⟨⟨?_, ?_⟩, l3, ?_⟩
 · show -999999999999999 ≤ n; omega
 · show n ≤ 999999999999999; omega
 · show t.Scale ≤ 15; omega
theorem zrj (N : Nat) (hN : 2000 < N) (h : ProgV p) {s : zC} (hs : StoP p s.Storage) {i : Nat} (hi : i < p.zA.length) (hk : isD (og p.zA i).Kind = true) (hn : zdd (og p.zA i) = true) :
 (∃ e k, (e = 4 ∨ e = 5 ∨ e = 1) ∧ nuI p s.Storage i = .error e ∧ zp N (mI p s 0) (i : Int) = some (⟨0, 0⟩, mI p s e) ∧ zdq N p s (i : Int) = some (k, e)) ∨
 ∃ n, nuI p s.Storage i = .ok n ∧ zp N (mI p s 0) (i : Int) = some (n, mI p s 0) ∧ zdq N p s (i : Int) = some (n, 0) ∧ zdl n := by
 have ht := z1m h hi hk hn
 unfold nuI zp zdq
 rcases zyb N hN h hs hi hk with ⟨e, k, he, h1, h2, h3⟩ | ⟨b, h1, h2, h3, h4⟩
 · left; rw [h1, h2, h3]; refine ⟨e, ⟨0, 0⟩, by omega, rfl, ?_, ?_⟩
   · rcases he with rfl | rfl <;> rfl
   · rcases he with rfl | rfl <;> rfl
 · obtain ⟨v1, a1, e1, g1, g2⟩ := zace N hN ht h4; obtain ⟨v2, a2, e2, g3, g4⟩ := zab2 N hN ht h4; rw [h1, h2, h3]; simp only [obs, show (mI p s 0).raised = 0 from rfl, show (mI p s 0).zB = p from rfl, bsf, cfa]; rw [zie hi]; simp only [obs]; rw [g1, g3]; simp only [obs, z68]; have hb := zacq ht h4; cases hdv : zo6 (og p.zA i).zJ b with
   | none =>
    rw [hdv] at g2 g4; simp only [] at g2 g4; left; refine ⟨1, ⟨0, 0⟩, by omega, rfl, ?_, ?_⟩
    · rw [zd1, dct g2]; rfl
    · rw [zd1, dct g4]; rfl
   | some n =>
    rw [hdv] at g2 g4; simp only [] at g2 g4; right; refine ⟨⟨n, (og p.zA i).zJ.Scale⟩, rfl, ?_, ?_, zaf8 ht (hb n hdv)⟩
    · rw [g2.2, g2.1]; rfl
    · rw [g4.2, g4.1]; rfl
theorem z62 (N : Nat) (hN : 2000 < N) (h : ProgV p) {s : zC} (hs : StoP p s.Storage) {i : Nat} (hi : i < p.zA.length) (hk : isD (og p.zA i).Kind = true) {e : Int} (he : e ≠ 0) :
 zp N (mI p s e) (i : Int) = some (⟨0, 0⟩, mI p s e) := by
 unfold zp
 obtain ⟨b, hb, _⟩ := z7n N hN h hs hi hk he
 rw [hb]
 simp only [obs, show (mI p s e).raised = e from rfl, zd1, dct he, ctr]
def wrI (p : zB) (s : zC) (i : Nat) (d : ByteArray) : Except Int zC :=
 match adI p s.Storage i with | .error e => .error e | .ok a => .ok (mS s (wrV s.Storage a.toNat d))
theorem z95 (N : Nat) (hN : 2000 < N) (h : ProgV p) {s : zC} (hs : StoP p s.Storage) {i : Nat} (hi : i < p.zA.length) (hk : isS (og p.zA i).Kind = true) {d : ByteArray} (hd : (d.size : Int) = szE (og p.zA i).zJ) :
 (∃ e k, (e = 4 ∨ e = 5) ∧ wrI p s i d = .error e ∧ zat N (mI p s 0) (i : Int) d = some (mI p s e) ∧ zdx N p s (i : Int) = some (k, e)) ∨
 ∃ a : Nat, wrI p s i d = .ok (mS s (wrV s.Storage a d)) ∧ zat N (mI p s 0) (i : Int) d = some (mI p (mS s (wrV s.Storage a d)) 0) ∧ zdx N p s (i : Int) = some ((a : Int), 0) ∧ zc9 N s.Storage (a : Int) d = some (wrV s.Storage a d) ∧ StoP p (wrV s.Storage a d) := by
 have hty := ((zlk h.ok hi).ty (zt7 hk)).1
 have hsz := zfl hty
 unfold wrI zat
 rcases z6k N hN h hs hi hk with ⟨e, j, k, he, h1, h2, h3⟩ | ⟨a, h1, h2, h3, h4, h5⟩
 · left; rw [h1, h2, h3]; refine ⟨e, k, he, rfl, ?_, rfl⟩; rcases he with rfl | rfl <;> rfl
 · right; obtain ⟨a, rfl⟩ : ∃ k : Nat, a = (k : Int) := ⟨a.toNat, by omega⟩; rw [h1, h2, h3]; have hw : a + d.size ≤ s.Storage.Bytes.size := by omega
   have hw0 : 0 < d.size := by omega
   refine ⟨a, rfl, ?_, rfl, z8d N hN hs.sto hw hw0, ⟨zabm hs.sto hw hw0, by rw [z26 hw]; exact hs.size⟩⟩; simp only [obs, show (mI p s 0).raised = 0 from rfl, show (mI p s 0).zC = s from rfl, bst, ctr]; rw [zac1 N hN hs.sto hw hw0]; rfl
end
theorem z9a (b : ByteArray) (hb : b.size ≤ 5000) (n : Nat) (hn : n ≤ 5000) : zes b (n : Int) = some ⟨(bl b ++ List.replicate (n - b.size) 32).toArray⟩ := by
 have hmax : IntKind.i64.max = 9223372036854775807 := by decide
 unfold zes znn
 rw [w6e]
 have e : (if (0 : Int) > (n : Int) - (b.size : Int) then 0 else (n : Int) - (b.size : Int)) = ((n - b.size : Nat) : Int) := by split <;> omega
 have hs1 : (⟨#[32]⟩ : ByteArray).size = 1 := rfl
 rw [e, ifp ⟨by omega, by omega, by rw [hs1]; omega⟩, obs, itn, zxg, hmax]
 have hs : (⟨(List.replicate (n - b.size) (32 : UInt8)).toArray⟩ : ByteArray).size = n - b.size := by
  show (List.replicate (n - b.size) (32 : UInt8)).length = _; rw [lnr]
 rw [ifn (by rw [hs]; omega)]
 refine congrArg some (zix ?_)
 rw [zdj]
 rfl
def cmpT (a b : ByteArray) : Int := z1x (bl (zr4 a (max a.size b.size))) (bl (zr4 b (max a.size b.size)))
theorem z9c {R : Type} (a b : ByteArray) (ha : a.size ≤ 5000) (hb : b.size ≤ 5000) (k : Int → Option R) : ((zes a (b.size : Int)).bind fun r8 => (zes b (a.size : Int)).bind fun r9 => (zj7 r8 r9).bind k) = k (cmpT a b) := by
 unfold zj7 zd4
 rw [z9a a ha b.size hb, z9a b hb a.size ha]
 simp only [obs]
 rw [z7c, z7c, Nat.max_comm b.size a.size, zagn (by rw [z1h, z1h])]
 rfl
theorem zafz {R : Type} (N : Nat) (hN : 10000 < N) (a b : ByteArray) (ha : a.size ≤ 5000) (hb : b.size ≤ 5000) (k : Int → Option R) :
 ((zjx N a (if (b.size : Int) > (a.size : Int) then (b.size : Int) else (a.size : Int))).bind fun r12 => (zjx N b (if (b.size : Int) > (a.size : Int) then (b.size : Int) else (a.size : Int))).bind fun r13 =>
 (zbg (!((Op.bytesLess r12.toList r13.toList) || (r12.toList == r13.toList)))).bind fun r14 => (zbg (Op.bytesLess r12.toList r13.toList)).bind fun r15 => k (w6 (r14 - r15))) = k (cmpT a b) := by
 have e : (if (b.size : Int) > (a.size : Int) then (b.size : Int) else (a.size : Int)) = ((max a.size b.size : Nat) : Int) := by split <;> omega
 rw [e, z0z N hN a ha _ (by omega), z0z N hN b hb _ (by omega)]
 simp only [obs]
 rw [znp, znp, zis, zis]
 simp only [obs]
 unfold cmpT z1x
 generalize bl (zr4 a (max a.size b.size)) = x
 generalize bl (zr4 b (max a.size b.size)) = y
 cases hx : Op.bytesLess x y with
 | true => rfl
 | false =>
  rw [ifn (by decide)]; simp only [Bool.false_or, cfa]
  by_cases hxy : x = y
  · rw [hxy, ifp rfl]; simp only [bst, bnt, cfa]; rfl
  · rw [ifn hxy, show (x == y) = false from beq_eq_false_iff_ne.2 hxy]; rfl
theorem zzr (N : Nat) (hN : 100 < N) {x : Number} (hx : zdl x) : zbs N x = some (zgb x) := by
 have hx' := hx
 obtain ⟨⟨h1, h2⟩, h3, h4⟩ := hx'
 unfold zbs
 obtain ⟨k, hk⟩ : ∃ k : Nat, x.Scale = (k : Int) := ⟨x.Scale.toNat, by omega⟩
 have := za1 (f := zbs.r0 N) (fun i => (x.Scale, (i : Int), (⟨x.N.tdiv (10 ^ i), x.Scale⟩ : Number))) k
  (fun i hi => by
   have hb := Int.natAbs_tdiv_le_natAbs x.N (10 ^ i); have hb2 := Int.natAbs_tdiv_le_natAbs (x.N.tdiv (10 ^ i)) 10; simp only [zbs.r0, zbs.b0, hk, dct (show (i : Int) < (k : Int) by omega), ctr]; rw [w6e (n := (i : Int) + 1), w6e, zaft]; rfl)
  (by simp only [zbs.r0, zbs.b0, hk, dcf (show ¬ (k : Int) < (k : Int) by omega), cfa]) (N := N) (by omega)
 simp only [nc0, Int.pow_zero, Int.tdiv_one, eN] at this
 rw [this]
 show some (x.N.tdiv (10 ^ k)) = some (zgb x)
 unfold zgb
 rw [hk, itn]
theorem z4l (N : Nat) (hN : 100 < N) {x : Number} (hx : zdl x) : zoj N x = some (zgb x) := by
 have hw := zv3 hx
 obtain ⟨⟨h1, h2⟩, h3, h4⟩ := hx
 unfold zoj
 have hp := z3i N hN x.Scale.toNat (by omega)
 rw [Int.toNat_of_nonneg h3] at hp
 have hpos := zcu x.Scale.toNat
 rw [hp, obs, ifn, show ((10 ^ x.Scale.toNat : Nat) : Int) = 10 ^ x.Scale.toNat by rw [Int.natCast_pow]; rfl]
 show some (w6 (zgb x)) = _
 rw [w6e]
theorem z2l (n lo hi : Int) : zc1 n lo hi = some (inB n lo hi) := by
 unfold zc1 inB
 cases decide (lo ≤ n) <;> rfl
section
variable {p : zB}
def zqf (p : zB) (s : zC) (i : Nat) (r : Value × Int) : Except Int zC :=
 if r.2 = 20 then .error 3 else if r.2 = 19 then .error 2 else wrI p s i (zz1 (og p.zA i).zJ r.1.N)
def zuc (N : Nat) (p : zB) (s : zC) (i : Nat) (r : Value × Int) : Option (Int × zC) :=
 cond (r.2 == 20) (some (3, s)) (cond (r.2 != 0) (some (2, s)) ((zdx N p s (i : Int)).bind fun r19 => cond (r19.2 != 0) (some (r19.2, s)) ((zbe N (og p.zA i).zJ r.1).bind fun r20 =>
  (zc9 N s.Storage r19.1 r20).bind fun r21 => some (0, mS s r21))))
theorem zadl (N : Nat) (hN : 2000 < N) (h : ProgV p) {s : zC} (hs : StoP p s.Storage) {i : Nat} (hi : i < p.zA.length) (hk : isS (og p.zA i).Kind = true) (hn : zdd (og p.zA i) = true)
 {r : Value × Int} (hr : r.2 = 0 ∨ r.2 = 19 ∨ r.2 = 20) (hS : r.1 = ⟨r.1.N, ⟨#[]⟩⟩) (hb : r.2 = 0 → -((10 ^ (og p.zA i).zJ.Length.toNat : Nat) : Int) < r.1.N ∧ r.1.N < ((10 ^ (og p.zA i).zJ.Length.toNat : Nat) : Int)) :
 (∃ e, (2 ≤ e ∧ e ≤ 5) ∧ zqf p s i r = .error e ∧ zal N (mI p s 0) (i : Int) r.1 r.2 = some (mI p s e) ∧ zuc N p s i r = some (e, s)) ∨
 ∃ t, zqf p s i r = .ok (mS s t) ∧ zal N (mI p s 0) (i : Int) r.1 r.2 = some (mI p (mS s t) 0) ∧ zuc N p s i r = some (0, mS s t) ∧ StoP p t := by
 have ht := z1m h hi (zt7 hk) hn
 unfold zqf zal zuc
 rcases hr with h0 | h0 | h0
 · obtain ⟨b1, b2⟩ := hb h0; have hz := z7g ht r.1.N; rw [h0, ifn (by decide), ifn (by decide)]; simp only [show ((0 : Int) == 20) = false from rfl, show ((0 : Int) == 19) = false from rfl, bsf, cfa, show (mI p s 0).raised = 0 from rfl, bst, ctr, show (mI p s 0).zB = p from rfl]; rw [zie hi, hS]; simp only [obs]; rw [z64 N (by omega) ht _ ⟨b1, b2⟩, z8i N (by omega) ht _ ⟨b1, b2⟩]; simp only [obs]; rcases z95 N hN h hs hi hk hz with ⟨e, k, he, h1, h2, h3⟩ | ⟨a, h1, h2, h3, h4, h5⟩
   · left; rw [h1, h2, h3]; refine ⟨e, by omega, rfl, rfl, ?_⟩; rcases he with rfl | rfl <;> rfl
   · right; rw [h1, h2, h3]; refine ⟨_, rfl, rfl, ?_, h5⟩; simp only [obs, bsf, cfa]; rw [h4]; rfl
 · left; rw [h0]; exact ⟨2, by decide, rfl, rfl, rfl⟩
 · left; rw [h0]; exact ⟨3, by decide, rfl, rfl, rfl⟩
theorem zaa3 (N : Nat) (s : zC) (i : Int) (v : Value) (c : Int) {e : Int} (he : e ≠ 0) : zal N (mI p s e) i v c = some (mI p s e) := by
 have hf : ((mI p s e).raised == 0) = false := by rw [show (mI p s e).raised = e from rfl, zcn]; exact dcf he
 unfold zal
 rw [zu3 p s he, zu3 p s he]
 simp only [obs, hf, cfa]
 cases (c == 20) <;> cases (c == 19) <;> rfl
structure StI (p : zB) (s : zC) : Prop where
 sto : StoP p s.Storage
 at0 : 0 ≤ s.At
 at1 : s.At < (p.zF.length : Int)
 stk : s.Stack.length ≤ 6
 calls : ∀ i ∈ s.Stack, (0 ≤ i ∧ i < (p.zF.length : Int)) ∧ ∃ x, p.zF[i.toNat]? = some x ∧ x.Op = 13
 lines : s.Lines.length ≤ 40
 long : ∀ l ∈ s.Lines, l.size ≤ 256
 st0 : 0 ≤ s.Status
 st1 : s.Status ≤ 3
 ex0 : 0 ≤ s.Exception
 ex1 : s.Exception ≤ 999
 sp0 : 0 ≤ s.Steps
 sp1 : s.Steps ≤ 300
theorem StI.S {s : zC} (h : StI p s) {t : Storage} (ht : StoP p t) : StI p (mS s t) := { sto := ht, at0 := h.at0, at1 := h.at1, stk := h.stk, calls := h.calls, lines := h.lines, long := h.long, st0 := h.st0, st1 := h.st1, ex0 := h.ex0, ex1 := h.ex1, sp0 := h.sp0, sp1 := h.sp1 }
theorem StI.K {s : zC} (h : StI p s) {l : List Int} (h1 : l.length ≤ 6) (h2 : ∀ i ∈ l, (0 ≤ i ∧ i < (p.zF.length : Int)) ∧ ∃ x, p.zF[i.toNat]? = some x ∧ x.Op = 13) : StI p (mK s l) := { sto := h.sto, at0 := h.at0, at1 := h.at1, stk := h1, calls := h2, lines := h.lines, long := h.long, st0 := h.st0, st1 := h.st1, ex0 := h.ex0, ex1 := h.ex1, sp0 := h.sp0, sp1 := h.sp1 }
theorem StI.T {s : zC} (h : StI p s) {k : Int} (h1 : 0 ≤ k) (h2 : k ≤ 3) : StI p (mT s k) := { sto := h.sto, at0 := h.at0, at1 := h.at1, stk := h.stk, calls := h.calls, lines := h.lines, long := h.long, st0 := h1, st1 := h2, ex0 := h.ex0, ex1 := h.ex1, sp0 := h.sp0, sp1 := h.sp1 }
theorem StI.A {s : zC} (h : StI p s) {k : Int} (h1 : 0 ≤ k) (h2 : k < (p.zF.length : Int)) : StI p (mA s k) := { sto := h.sto, at0 := h1, at1 := h2, stk := h.stk, calls := h.calls, lines := h.lines, long := h.long, st0 := h.st0, st1 := h.st1, ex0 := h.ex0, ex1 := h.ex1, sp0 := h.sp0, sp1 := h.sp1 }
theorem StI.E {s : zC} (h : StI p s) {k : Int} (h1 : 0 ≤ k) (h2 : k ≤ 999) : StI p (mE s k) := { sto := h.sto, at0 := h.at0, at1 := h.at1, stk := h.stk, calls := h.calls, lines := h.lines, long := h.long, st0 := h.st0, st1 := h.st1, ex0 := h1, ex1 := h2, sp0 := h.sp0, sp1 := h.sp1 }
theorem StI.P {s : zC} (h : StI p s) {k : Int} (h1 : 0 ≤ k) (h2 : k ≤ 300) : StI p (mP s k) := { sto := h.sto, at0 := h.at0, at1 := h.at1, stk := h.stk, calls := h.calls, lines := h.lines, long := h.long, st0 := h.st0, st1 := h.st1, ex0 := h.ex0, ex1 := h.ex1, sp0 := h1, sp1 := h2 }
theorem StI.L {s : zC} (h : StI p s) {l : ByteArray} (h1 : s.Lines.length < 40) (h2 : l.size ≤ 256) : StI p (mL s (s.Lines ++ [l])) := {
 sto := h.sto, at0 := h.at0, at1 := h.at1, stk := h.stk, calls := h.calls
 lines := by show (s.Lines ++ [l]).length ≤ 40; rw [lna, lns]; omega
 long := fun y hy => by
  rcases List.mem_append.1 (show y ∈ s.Lines ++ [l] from hy) with h3 | h3
  · exact h.long y h3
  · rw [List.mem_singleton.1 h3]; exact h2
 st0 := h.st0, st1 := h.st1, ex0 := h.ex0, ex1 := h.ex1, sp0 := h.sp0, sp1 := h.sp1 }
def ai (x : zI) (k : Nat) : Nat := (x.Args.getD k 0).toNat
def oa (p : zB) (x : zI) (k : Nat) : zG := og p.zA (ai x k)
def zp3 (s : zC) (r : Except Int zC) : Except Int (Int × zC) := match r with | .error e => .error e | .ok t => .ok (s.At + 1, t)
def zaa6 (p : zB) (s : zC) (x : zI) (half : Bool) : Except Int zC := match nuI p s.Storage (ai x 1) with | .error e => .error e | .ok n => zqf p s (ai x 0) (zoa n (oa p x 0).zJ half)
def zaec (p : zB) (s : zC) (x : zI) : Except Int zC := match byI p s.Storage (ai x 1) with | .error e => .error e | .ok b => wrI p s (ai x 0) (zr4 b (oa p x 0).zJ.Length.toNat)
def zz7 (p : zB) (s : zC) (x : zI) : Except Int zC := match nuI p s.Storage (ai x 1) with | .error e => .error e | .ok a => match nuI p s.Storage (ai x 2) with | .error e => .error e | .ok b => zqf p s (ai x 0) (zln (x.Op - 2) a b (oa p x 0).zJ false)
def z2i (p : zB) (s : zC) (x : zI) : Except Int Int :=
 if zdd (oa p x 0) = true then (match nuI p s.Storage (ai x 0) with | .error e => .error e | .ok a => match nuI p s.Storage (ai x 1) with | .error e => .error e | .ok b => .ok (z8x (zak a (zg a b)) (zak b (zg a b))))
 else match byI p s.Storage (ai x 0) with | .error e => .error e | .ok a => match byI p s.Storage (ai x 1) with | .error e => .error e | .ok b => .ok (cmpT a b)
def zt8 (op o : Int) : Bool := if op = 7 then decide (o = 0) else decide (o < 0)
def z4h (p : zB) (s : zC) (i : Nat) : Except Int ByteArray :=
 if zdd (og p.zA i) = true then (match nuI p s.Storage i with | .error e => .error e | .ok n => .ok (zww n)) else byI p s.Storage i
def zg4 (p : zB) (s : zC) (x : zI) : Except Int (Int × zC) :=
 match x.Op.toNat with
 | 0 => zp3 s (if zdd (oa p x 0) = true then zaa6 p s x false else zaec p s x)
 | 1 => zp3 s (zaa6 p s x true)
 | 2 => zp3 s (zz7 p s x)
 | 3 => zp3 s (zz7 p s x)
 | 4 => zp3 s (zz7 p s x)
 | 5 => zp3 s (zz7 p s x)
 | 6 => zp3 s (zz7 p s x)
 | 7 => (match z2i p s x with | .error e => .error e | .ok o => .ok (cond (zt8 7 o) (oa p x 2).Target (s.At + 1), s))
 | 8 => (match z2i p s x with | .error e => .error e | .ok o => .ok (cond (zt8 8 o) (oa p x 2).Target (s.At + 1), s))
 | 9 => .ok ((oa p x 0).Target, s)
 | 10 => zp3 s (match adI p s.Storage (ai x 1) with | .error e => .error e | .ok a => .ok (mS s (stV s.Storage (zef p.zA (ai x 0)).toNat a.toNat)))
 | 11 => zp3 s (match ldV s.Storage (zef p.zA (ai x 1)) with | none => .error 4 | some o => .ok (mS s (stV s.Storage (zef p.zA (ai x 0)).toNat o.toNat)))
 | 12 => zp3 s (match ldV s.Storage (zef p.zA (ai x 0)) with
  | none => .error 4
  | some o => match nuI p s.Storage (ai x 1) with
   | .error e => .error e
   | .ok n => if inB (o + zgb n) 0 16777215 = true then .ok (mS s (stV s.Storage (zef p.zA (ai x 0)).toNat (o + zgb n).toNat)) else .error 5)
 | 13 => if 6 ≤ s.Stack.length then .error 6 else .ok ((oa p x 0).Target, mK s (s.Stack ++ [s.At]))
 | 14 => if s.Stack.length = 0 then .ok (s.At, mT s 1) else .ok (s.Stack.getD (s.Stack.length - 1) 0 + 1, mK s (s.Stack.take (s.Stack.length - 1)))
 | 15 => (match nuI p s.Storage (ai x 0) with | .error e => .error e | .ok n => if inB (zgb n) 100 999 = true then .error (zgb n) else .error 2)
 | 16 => zp3 s (zqf p s (ai x 0) (zoa ⟨s.Exception, 0⟩ (oa p x 0).zJ false))
 | 17 => (match z4h p s (ai x 0) with | .error e => .error e | .ok l => if s.Lines.length = 40 then .ok (s.At + 1, mT s 3) else .ok (s.At + 1, mL s (s.Lines ++ [l])))
 | _ => .ok (s.At + 1, mT s 1)
def zhz (N : Nat) (p : zB) (s : zC) (x : zI) : Prop :=
 (∃ e nx ny t, zg4 p s x = .error e ∧ (1 ≤ e ∧ e ≤ 999) ∧ zd N (mI p s 0) x = some (nx, mI p s e) ∧ zae N p s = some (ny, e, t)) ∨
 ∃ n k t, zg4 p s x = .ok (n, t) ∧ zd N (mI p s 0) x = some (n, mI p t 0) ∧ zae N p s = some (k, 0, t) ∧ (t.Status = 0 → k = n ∧ 0 ≤ n ∧ n ≤ (p.zF.length : Int)) ∧ StI p t ∧ t.At = s.At ∧ t.Steps = s.Steps ∧ t.Exception = s.Exception
theorem zfw (h : ProgV p) {x : zI} (hx : x ∈ p.zF) {k : Nat} {c : Int} (hc : (zjs x.Op)[k]? = some c) :
 idx x.Args (k : Int) = some ((ai x k : Nat) : Int) ∧ ai x k < p.zA.length ∧ ztv (oa p x k) (zq0 p x k) c = true := by
 have hi := h.ins x hx
 unfold zwi at hi
 split at hi
 · cases hi
 split at hi
 · cases hi
 rename_i h1 h2
 have hk := (gei hc).1
 have hkl : k < x.Args.length := by omega
 have hx := lge hkl
 have he : gA p x k = none := by
  cases hf : (List.range x.Args.length).findSome? (gA p x) with
  | none => exact zl4.1 hf k hkl
  | some r =>
   exfalso
   rw [hf] at hi; simp only at hi; subst hi; obtain ⟨i, _, hi, _⟩ := zl1 hf; unfold gA at hi; rw [Option.bind_eq_some_iff] at hi; obtain ⟨a, _, ha⟩ := hi; split at ha
   · split at ha
     · split at ha <;> cases ha
     · cases ha
   · cases ha
 unfold gA at he
 rw [hx, obs] at he
 split at he
 · rename_i hin; have := zbf.1 hin; have hai : ai x k = (x.Args[k]).toNat := by
    unfold ai; rw [gdd, hx]; rfl
   have hlt : ai x k < p.zA.length := by omega
   have ho := zqg hlt; rw [← hai, ho, hc] at he; simp only at he; refine ⟨by rw [zai, hx, hai]; congr 1; omega, hlt, ?_⟩; split at he
   · assumption
   · cases he
 · cases he
theorem zagg (h : ProgV p) {x : zI} (hx : x ∈ p.zF) : 0 ≤ x.Op ∧ x.Op ≤ 18 := by
 have hi := h.ins x hx
 unfold zwi at hi
 split at hi
 · cases hi
 · rename_i h1; have := zbf.1 (show inB x.Op 0 18 = true by simpa using h1); exact this
end
section
variable {p : zB} {s : zC}
theorem zzt (o : zG) : zda o = some (zdd o) := by
 unfold zda zdd
 rw [zd1]
theorem zvi (h : ProgV p) {i : Nat} (hi : i < p.zA.length) (hk : isD (og p.zA i).Kind = true) : zlw p (i : Int) = some (zdd (og p.zA i)) := by
 unfold zlw
 rw [zie hi]
 simp only [obs, zvf]
 rw [z8z (zqg hi) (h.ok.ok i hi) hk]
theorem zab6 (N : Nat) (hN : 4000 < N) (h : ProgV p) {i : Nat} (hi : i < p.zA.length) (ht : zj9 (og p.zA i).zJ) {x : Number} (hx : zdl x) (half : Bool) : zq3 N p s (i : Int) x half = zuc N p s i (zoa x (og p.zA i).zJ half) := by
 unfold zq3 zuc
 rw [zie hi]
 simp only [obs]
 rw [zaet N hN hx ht]
 simp only [obs]
 rcases z9p x (og p.zA i).zJ half with h0 | h0 <;> rw [h0] <;> rfl
theorem zs2 : zdl ⟨0, 0⟩ := ⟨⟨by decide, by decide⟩, by decide, by decide⟩
def zub (N : Nat) (p : zB) (s : zC) (m : Except Int zC) (prog : Option zD) (rf : Option (Int × zC)) : Prop :=
 (∃ e u, (1 ≤ e ∧ e ≤ 5) ∧ m = .error e ∧ prog = some (mI p s e) ∧ rf = some (e, u)) ∨ ∃ t, m = .ok (mS s t) ∧ prog = some (mI p (mS s t) 0) ∧ rf = some (0, mS s t) ∧ StoP p t
theorem zub.mk (N : Nat) {m : Except Int zC} {r : Value × Int} {i : Nat} (hN : 2000 < N) (h : ProgV p) (hs : StoP p s.Storage) (hi : i < p.zA.length) (hk : isS (og p.zA i).Kind = true) (hn : zdd (og p.zA i) = true)
 (hr : r.2 = 0 ∨ r.2 = 19 ∨ r.2 = 20) (hS : r.1 = ⟨r.1.N, ⟨#[]⟩⟩) (hb : r.2 = 0 → -((10 ^ (og p.zA i).zJ.Length.toNat : Nat) : Int) < r.1.N ∧ r.1.N < ((10 ^ (og p.zA i).zJ.Length.toNat : Nat) : Int)) (hm : m = zqf p s i r) :
 zub N p s m (zal N (mI p s 0) (i : Int) r.1 r.2) (zuc N p s i r) := by
 subst hm
 rcases zadl N hN h hs hi hk hn hr hS hb with ⟨e, he, h1, h2, h3⟩ | ⟨t, h1, h2, h3, h4⟩
 · exact .inl ⟨e, s, by omega, h1, h2, h3⟩
 · exact .inr ⟨t, h1, h2, h3, h4⟩
theorem z7l (N : Nat) (hN : 4000 < N) (h : ProgV p) (hs : StoP p s.Storage) {i : Nat} (hi : i < p.zA.length) (hk : isS (og p.zA i).Kind = true) (hn : zdd (og p.zA i) = true) {x : Number} (hx : zdl x) (half : Bool) :
 zub N p s (zqf p s i (zoa x (og p.zA i).zJ half)) ((zdv N x (og p.zA i).zJ half).bind fun r4 => (zal N (mI p s 0) (i : Int) r4.1 r4.2).bind fun r5 => some r5) (zq3 N p s (i : Int) x half) := by
 have ht := z1m h hi (zt7 hk) hn
 rw [zaaf N (by omega) hx ht, zab6 N hN h hi ht hx]
 have := zub.mk (m := zqf p s i (zoa x (og p.zA i).zJ half)) N (by omega) h hs hi hk hn (by rcases z9p x (og p.zA i).zJ half with h | h; exact .inl h; exact .inr (.inl h)) (zagm x _ half) (fun h0 => zabf h0) rfl
 simp only [obs]
 rcases this with ⟨e, u, he, h1, h2, h3⟩ | ⟨t, h1, h2, h3, h4⟩
 · exact .inl ⟨e, u, he, h1, by rw [h2]; rfl, h3⟩
 · exact .inr ⟨t, h1, by rw [h2]; rfl, h3, h4⟩
theorem z86 (N : Nat) (hN : 4000 < N) (h : ProgV p) (hs : StoP p s.Storage) {i j : Nat} (hi : i < p.zA.length) (hk : isS (og p.zA i).Kind = true) (hn : zdd (og p.zA i) = true) (hj : j < p.zA.length) (hkj : isD (og p.zA j).Kind = true) (hnj : zdd (og p.zA j) = true) (half : Bool) :
 zub N p s (match nuI p s.Storage j with | .error e => .error e | .ok n => zqf p s i (zoa n (og p.zA i).zJ half)) (zdi N (mI p s 0) (i : Int) (j : Int) half)
  ((zdq N p s (j : Int)).bind fun r11 => cond (r11.2 != 0) (some (r11.2, s)) ((zq3 N p s (i : Int) r11.1 half).bind fun r13 => some (r13.1, r13.2))) := by
 have ht := z1m h hi (zt7 hk) hn
 unfold zdi
 rw [show (mI p s 0).zB = p from rfl, zie hi]
 simp only [obs, zzt, hn, ctr]
 rcases zrj N (by omega) h hs hj hkj hnj with ⟨e, k, he, h1, h2, h3⟩ | ⟨n, h1, h2, h3, h4⟩
 · left; rw [h1, h2, h3]; simp only [obs]; rw [zaaf N (by omega) zs2 ht]; simp only [obs]; rw [zaa3 N s (i : Int) _ _ (show e ≠ 0 by omega), zd1, dct (show e ≠ 0 by omega)]; exact ⟨e, s, by omega, rfl, rfl, rfl⟩
 · rw [h1, h2, h3]; simp only [obs, bsf, cfa]; have := z7l N hN h hs hi hk hn h4 half; rcases this with ⟨e, u, he, g1, g2, g3⟩ | ⟨t, g1, g2, g3, g4⟩
   · exact .inl ⟨e, u, he, g1, g2, by rw [g3]; rfl⟩
   · exact .inr ⟨t, g1, g2, by rw [g3]; rfl, g4⟩
theorem zacg (N : Nat) (hN : 20000 < N) (h : ProgV p) (hs : StoP p s.Storage) {i j : Nat} (hi : i < p.zA.length) (hk : isS (og p.zA i).Kind = true) (hn : zdd (og p.zA i) = false) (hj : j < p.zA.length) (hkj : isD (og p.zA j).Kind = true) :
 zub N p s (match byI p s.Storage j with | .error e => .error e | .ok b => wrI p s i (zr4 b (og p.zA i).zJ.Length.toNat)) (zdi N (mI p s 0) (i : Int) (j : Int) false)
  ((zju N p s (j : Int)).bind fun r5 => cond (r5.2 != 0) (some (r5.2, s)) ((zdx N p s (i : Int)).bind fun r6 => cond (r6.2 != 0) (some (r6.2, s))
   ((zjx N r5.1 (og p.zA i).zJ.Length).bind fun r8 => (zc9 N s.Storage r6.1 r8).bind fun r9 => some (0, mS s r9)))) := by
 have hty := ((zlk h.ok hi).ty (zt7 hk)).1
 have hsz := zfl hty
 have h0 : (og p.zA i).zJ.Kind = 0 := by
  unfold zdd at hn; have := of_decide_eq_false hn; omega
 have hle : szE (og p.zA i).zJ = (og p.zA i).zJ.Length := by unfold szE; rw [ifn, ifn, ifn]
 have hL : (og p.zA i).zJ.Length = (((og p.zA i).zJ.Length.toNat : Nat) : Int) := by omega
 have tail : ∀ b : ByteArray, b.size ≤ 5000 → ∀ M : zD, ((zdk N (og p.zA i)).bind fun r7 => (zes b r7).bind fun r8 => (zdk N (og p.zA i)).bind fun r9 =>
  if 0 ≤ r9 ∧ r9 ≤ (r8.size : Int) then (if 0 ≤ (0 : Int) ∧ (0 : Int) ≤ r9 then ((zat N M (i : Int) (r8.extract (0 : Int).toNat r9.toNat)).bind fun r10 => some r10) else none) else none) = zat N M (i : Int) (zr4 b (og p.zA i).zJ.Length.toNat) := by
  intro b hb M; rw [z55 N (by omega) hty, hle]; simp only [obs]; have hpad := z9a b hb (og p.zA i).zJ.Length.toNat (by omega); rw [← hL] at hpad; rw [hpad, obs]; have hps : (⟨(bl b ++ List.replicate ((og p.zA i).zJ.Length.toNat - b.size) 32).toArray⟩ : ByteArray).size = b.size + ((og p.zA i).zJ.Length.toNat - b.size) := by
   show (bl b ++ List.replicate ((og p.zA i).zJ.Length.toNat - b.size) 32).length = _; rw [lna, lnr, zas]
  rw [ifp ⟨by omega, by rw [hps]; omega⟩, ifp, show (0 : Int).toNat = 0 from rfl, zack]; cases zat N M (i : Int) (zr4 b (og p.zA i).zJ.Length.toNat) <;> rfl
 unfold zdi
 rw [show (mI p s 0).zB = p from rfl, zie hi]
 simp only [obs, zzt, hn, cfa]
 rcases zyb N (by omega) h hs hj hkj with ⟨e, k, he, h1, h2, h3⟩ | ⟨b, h1, h2, h3, h4⟩
 · left; rw [h1, h2, h3]; simp only [obs]; rw [tail _ (by decide), zd1, dct (show e ≠ 0 by omega)]; unfold zat; obtain ⟨j', hj'⟩ := z7o N (by omega) h hs hi hk (show e ≠ 0 by omega); rw [hj']; simp only [obs, show (mI p s e).raised = e from rfl, zcn, dcf (show e ≠ 0 by omega), cfa]; exact ⟨e, s, by omega, rfl, rfl, rfl⟩
 · have hzb := zfl ((zlk h.ok hj).ty hkj).1; have hrp : zjx N b (og p.zA i).zJ.Length = some (zr4 b (og p.zA i).zJ.Length.toNat) := by
    have h := z0z N (by omega) b (by omega) (og p.zA i).zJ.Length.toNat (by omega); rw [← hL] at h; exact h
   rw [h1, h2, h3]; simp only [obs, bsf, cfa]; rw [tail b (by omega), hrp]; simp only [obs]; rcases z95 N (by omega) h hs hi hk (d := zr4 b (og p.zA i).zJ.Length.toNat) (by rw [z1h]; omega) with ⟨e, k, he, g1, g2, g3⟩ | ⟨a, g1, g2, g3, g4, g5⟩
   · left; rw [g2, g3]; simp only [obs, zd1, dct (show e ≠ 0 by omega), ctr]; exact ⟨e, s, by omega, g1, rfl, rfl⟩
   · right; rw [g2, g3]; simp only [obs, bsf, cfa]; rw [g4]; exact ⟨_, g1, rfl, rfl, g5⟩
theorem zacs (N : Nat) (hN : 4000 < N) (h : ProgV p) (hs : StoP p s.Storage) {op : Int} (hop : 0 ≤ op ∧ op ≤ 4) {i : Nat} (hi : i < p.zA.length) (hk : isS (og p.zA i).Kind = true) (hn : zdd (og p.zA i) = true) {a b : Number} (ha : zdl a) (hb : zdl b) :
 zub N p s (zqf p s i (zln op a b (og p.zA i).zJ false)) ((zgd N op a b (og p.zA i).zJ false).bind fun r7 => (zal N (mI p s 0) (i : Int) r7.1 r7.2).bind fun r9 => some r9)
  ((zkz N (⟨op, (og p.zA i).zJ, false⟩ : zT) a b).bind fun r18 => zuc N p s i r18) := by
 have ht := z1m h hi (zt7 hk) hn
 rw [zae1 N (by omega) hop ha hb ht, zaeu N hN hop ha hb ht]
 have := zub.mk (m := zqf p s i (zln op a b (og p.zA i).zJ false)) N (by omega) h hs hi hk hn (zact _ _ _ _ _) (zae9 _ _ _ _ _) (fun h0 => z93 h0) rfl
 simp only [obs]
 rcases this with ⟨e, u, he, h1, h2, h3⟩ | ⟨t, h1, h2, h3, h4⟩
 · exact .inl ⟨e, u, he, h1, by rw [h2]; rfl, h3⟩
 · exact .inr ⟨t, h1, by rw [h2]; rfl, h3, h4⟩
theorem zva (N : Nat) (h : ProgV p) (hs : StI p s) {x : zI} {m : Except Int zC} {prog : Option zD} {rf : Option (Int × zC)} (hp : zub N p s m prog rf) (hx : zg4 p s x = zp3 s m)
 (h1 : zd N (mI p s 0) x = prog.bind fun r => some (w6 (s.At + 1), r)) (h2 : zae N p s = rf.bind fun r => some (w6 (s.At + 1), r.1, r.2)) : zhz N p s x := by
 have a0 := hs.at0
 have a1 := hs.at1
 have i40 := h.i40
 have wn1 : w6 (s.At + 1) = s.At + 1 := w6e
 unfold zhz
 rw [hx, h1, h2, wn1]
 rcases hp with ⟨e, u, he, g1, g2, g3⟩ | ⟨t, g1, g2, g3, g4⟩
 · rw [g1, g2, g3]; exact .inl ⟨e, _, _, u, rfl, by omega, rfl, rfl⟩
 · rw [g1, g2, g3]; exact .inr ⟨_, _, _, rfl, rfl, rfl, fun _ => ⟨rfl, by omega, by omega⟩, hs.S g4, rfl, rfl, rfl⟩
theorem zme (hs : StI p s) {x : zI} (hx : p.zF[s.At.toNat]? = some x) : idx p.zF s.At = some x := by
 unfold idx
 rw [ifp hs.at0, hx]
theorem zagq (N : Nat) (hN : 20000 < N) (h : ProgV p) (hs : StI p s) {x : zI} (hx : p.zF[s.At.toNat]? = some x) (hop : x.Op = 0) : zhz N p s x := by
 have hm := lmg hx
 have hi := zme hs hx
 obtain ⟨a0, b0, c0⟩ := zfw h hm (k := 0) (c := 0) (by rw [hop]; rfl)
 obtain ⟨a1, b1, c1⟩ := zfw h hm (k := 1) (c := 4) (by rw [hop]; rfl)
 have c0 : isS (og p.zA (ai x 0)).Kind = true := c0
 have c1 : (isD (og p.zA (ai x 1)).Kind && (zdd (og p.zA (ai x 1)) == zdd (og p.zA (ai x 0)))) = true := c1
 rw [Bool.and_eq_true] at c1
 have cn := eq_of_beq c1.2
 have a0 : idx x.Args 0 = some ((ai x 0 : Nat) : Int) := a0
 have a1 : idx x.Args 1 = some ((ai x 1 : Nat) : Int) := a1
 have hex : zg4 p s x = zp3 s (if zdd (og p.zA (ai x 0)) = true then zaa6 p s x false else zaec p s x) := by unfold zg4; rw [hop]; rfl
 cases hn : zdd (og p.zA (ai x 0)) with
 | true =>
  rw [hn] at hex cn; refine zva N h hs (z86 N (by omega) h hs.sto b0 c0 hn b1 c1.1 cn false) hex ?_ ?_
  · unfold zd; simp only [hop, Int.reduceBEq, ctr, cfa, obs, a0, a1]; rfl
  · unfold zae zm6; rw [hi, zel N (by omega) h.ok]; simp only [hop, Int.reduceBEq, ctr, cfa, obs, a0, a1, zvi h b0 (zt7 c0), hn, bnt]
 | false =>
  rw [hn] at hex; refine zva N h hs (zacg N (by omega) h hs.sto b0 c0 hn b1 c1.1) hex ?_ ?_
  · unfold zd; simp only [hop, Int.reduceBEq, ctr, cfa, obs, a0, a1]; rfl
  · unfold zae zm6; rw [hi, zel N (by omega) h.ok]; simp only [hop, Int.reduceBEq, ctr, cfa, obs, a0, a1, zvi h b0 (zt7 c0), hn, Bool.not_false, zie b0]; rfl
theorem zagp (N : Nat) (hN : 20000 < N) (h : ProgV p) (hs : StI p s) {x : zI} (hx : p.zF[s.At.toNat]? = some x) (hop : x.Op = 1) : zhz N p s x := by
 have hm := lmg hx
 have hi := zme hs hx
 obtain ⟨a0, b0, c0⟩ := zfw h hm (k := 0) (c := 2) (by rw [hop]; rfl)
 obtain ⟨a1, b1, c1⟩ := zfw h hm (k := 1) (c := 3) (by rw [hop]; rfl)
 have c0 : (isS (og p.zA (ai x 0)).Kind && zdd (og p.zA (ai x 0))) = true := c0
 have c1 : (isD (og p.zA (ai x 1)).Kind && zdd (og p.zA (ai x 1))) = true := c1
 rw [Bool.and_eq_true] at c0 c1
 have a0 : idx x.Args 0 = some ((ai x 0 : Nat) : Int) := a0
 have a1 : idx x.Args 1 = some ((ai x 1 : Nat) : Int) := a1
 refine zva N h hs (z86 N (by omega) h hs.sto b0 c0.1 c0.2 b1 c1.1 c1.2 true) (by unfold zg4; rw [hop]; rfl) ?_ ?_
 · unfold zd; simp only [hop, Int.reduceBEq, ctr, cfa, obs, a0, a1]; rfl
 · unfold zae zm6; rw [hi, zel N (by omega) h.ok]; simp only [hop, Int.reduceBEq, ctr, cfa, obs, a0, a1]
theorem zacu (N : Nat) (hN : 20000 < N) (h : ProgV p) (hs : StI p s) {x : zI} (hx : p.zF[s.At.toNat]? = some x) (hop : 2 ≤ x.Op ∧ x.Op ≤ 6) : zhz N p s x := by
 have hm := lmg hx
 have hi := zme hs hx
 have hcls : zjs x.Op = [2, 3, 3] := by
  rcases (by omega : x.Op = 2 ∨ x.Op = 3 ∨ x.Op = 4 ∨ x.Op = 5 ∨ x.Op = 6) with e | e | e | e | e <;> rw [e] <;> rfl
 obtain ⟨a0, b0, c0⟩ := zfw h hm (k := 0) (c := 2) (by rw [hcls]; rfl)
 obtain ⟨a1, b1, c1⟩ := zfw h hm (k := 1) (c := 3) (by rw [hcls]; rfl)
 obtain ⟨a2, b2, c2⟩ := zfw h hm (k := 2) (c := 3) (by rw [hcls]; rfl)
 have c0 : (isS (og p.zA (ai x 0)).Kind && zdd (og p.zA (ai x 0))) = true := c0
 have c1 : (isD (og p.zA (ai x 1)).Kind && zdd (og p.zA (ai x 1))) = true := c1
 have c2 : (isD (og p.zA (ai x 2)).Kind && zdd (og p.zA (ai x 2))) = true := c2
 rw [Bool.and_eq_true] at c0 c1 c2
 have a0 : idx x.Args 0 = some ((ai x 0 : Nat) : Int) := a0
 have a1 : idx x.Args 1 = some ((ai x 1 : Nat) : Int) := a1
 have a2 : idx x.Args 2 = some ((ai x 2 : Nat) : Int) := a2
 have w1 : w6 (x.Op - 2) = x.Op - 2 := w6e
 have w2 : w6 (x.Op - 2 + 0) = x.Op - 2 := by rw [Int.add_zero]; exact w1
 have hel : (([0, 1, 2, 3, 4] : List Int)[(x.Op - 2).toNat]?) = some (x.Op - 2) := by
  rcases (by omega : x.Op = 2 ∨ x.Op = 3 ∨ x.Op = 4 ∨ x.Op = 5 ∨ x.Op = 6) with e | e | e | e | e <;> rw [e] <;> rfl
 have hpart : zub N p s (zz7 p s x) (zdt N (mI p s 0) (x.Op - 2) x.Args)
  ((zdq N p s ((ai x 1 : Nat) : Int)).bind fun r11 => cond (r11.2 != 0) (some (r11.2, s)) ((zdq N p s ((ai x 2 : Nat) : Int)).bind fun r15 => cond (r15.2 != 0) (some (r15.2, s))
   ((zkz N (⟨x.Op - 2, (og p.zA (ai x 0)).zJ, false⟩ : zT) r11.1 r15.1).bind fun r18 => zuc N p s (ai x 0) r18))) := by
  unfold zz7 zdt; rw [a0, a1, a2]; simp only [obs]; rcases zrj N (by omega) h hs.sto b1 c1.1 c1.2 with ⟨e, k, he, h1, h2, h3⟩ | ⟨n, h1, h2, h3, h4⟩
  · left; rw [h1, h2, h3]; simp only [obs]; rw [z62 N (by omega) h hs.sto b2 c2.1 (show e ≠ 0 by omega)]; simp only [obs, show (mI p s e).raised = e from rfl, zd1, dct (show e ≠ 0 by omega), ctr]; exact ⟨e, s, by omega, rfl, rfl, rfl⟩
  · rw [h1, h2, h3]; simp only [obs, bsf, cfa]; rcases zrj N (by omega) h hs.sto b2 c2.1 c2.2 with ⟨e, k, he, g1, g2, g3⟩ | ⟨n2, g1, g2, g3, g4⟩
    · left; rw [g1, g2, g3]; simp only [obs, show (mI p s e).raised = e from rfl, zd1, dct (show e ≠ 0 by omega), ctr]; exact ⟨e, s, by omega, rfl, rfl, rfl⟩
    · rw [g1, g2, g3]; simp only [obs, show (mI p s 0).raised = 0 from rfl, show (mI p s 0).zB = p from rfl, bsf, cfa]; rw [zie b0]; simp only [obs]; exact zacs N (by omega) h hs.sto (by omega) b0 c0.1 c0.2 h4 g4
 refine zva N h hs hpart ?_ ?_ ?_
 · unfold zg4; rcases (by omega : x.Op = 2 ∨ x.Op = 3 ∨ x.Op = 4 ∨ x.Op = 5 ∨ x.Op = 6) with e | e | e | e | e <;> rw [e] <;> rfl
 · unfold zd; rw [w1, w2]; rcases (by omega : x.Op = 2 ∨ x.Op = 3 ∨ x.Op = 4 ∨ x.Op = 5 ∨ x.Op = 6) with e | e | e | e | e <;> simp only [e, Int.reduceBEq, ctr, cfa, obs] <;> rfl
 · unfold zae zm6; rw [hi, zel N (by omega) h.ok]; simp only [obs, a0, a1, a2, w1, hel, ifp (show 0 ≤ x.Op - 2 by omega), ifp (show x.Op - 2 < (([0, 1, 2, 3, 4] : List Int).length : Int) by show x.Op - 2 < 5; omega), zie b0]; rcases (by omega : x.Op = 2 ∨ x.Op = 3 ∨ x.Op = 4 ∨ x.Op = 5 ∨ x.Op = 6) with e | e | e | e | e <;> simp only [e, Int.reduceBEq, ctr, cfa, obs] <;> rfl
end
end
end Go.Proofs.YtmifhmfokbigiaaGreatDoor.M
