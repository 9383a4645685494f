/- The plain law of HardwareSteps: part 1. -/
import Derived.Test.YtppbpnknfigboaaGreatDoorPHardwareStepsx0
namespace Go.Proofs.YtppbpnknfigboaaGreatDoor.M
open Go Go.Amx
set_option linter.unusedVariables false
set_option linter.unusedSimpArgs false
set_option maxRecDepth 100000
set_option exponentiation.threshold 3000
noncomputable section
theorem zny (l : List Int) (x : Int) : dv (l ++ [x]) = dv l + 10 ^ l.length * x.toNat := by
 rw [zr9]; simp [dv]
theorem zs7 (l : List Int) (i : Nat) {x : Int} (h : l[i]? = some x) : dv (l.take (i + 1)) = dv (l.take i) + 10 ^ i * x.toNat := by
 have hl := (gei h).1
 rw [zef l i h, zny, lnt, Nat.min_eq_left (Nat.le_of_lt hl)]
theorem zpa (l : List Int) (i : Nat) {x : Int} (h : l[i]? = some x) : dv (l.drop i) = x.toNat + 10 * dv (l.drop (i + 1)) := by
 obtain ⟨h1, h2⟩ := gei h
 rw [List.drop_eq_getElem_cons h1, h2]; rfl
theorem zpb {l : List Int} (h : dok l) {x : Int} (h0 : 0 ≤ x) (h1 : x < 10) : dok (l ++ [x]) := zuc h fun d hd => by
 rcases List.mem_cons.1 hd with rfl | hd
 · exact ⟨h0, h1⟩
 · cases hd
theorem z5l {l : List Int} (h : dok l) (hc : znl l) (hl : l ≠ []) : 10 ^ (l.length - 1) ≤ dv l := by
 refine cbc fun hn => ?_
 have := (zho (dv l) (l.length - 1)).2 (by omega)
 rw [zzv h hc] at this
 have : l.length ≠ 0 := fun h => hl (List.length_eq_zero_iff.1 h)
 omega
theorem z6y {l : List Int} (h : dok l) (hg : l ≠ [] → 10 ^ (l.length - 1) ≤ dv l) : znl l := by
 unfold znl
 intro hlast
 have hne : l ≠ [] := by intro h; rw [h] at hlast; cases hlast
 have hg' := hg hne
 have hlen : l.length ≠ 0 := fun h => hne (List.length_eq_zero_iff.1 h)
 have hx : l[l.length - 1]? = some 0 := by rw [← List.getLast?_eq_getElem?]; exact hlast
 have := zs7 l (l.length - 1) hx
 rw [show l.length - 1 + 1 = l.length by omega, List.take_length] at this
 have hlt := zzt (zyl h (l.length - 1))
 rw [lnt, Nat.min_eq_left (by omega)] at hlt
 simp only [Int.toNat_zero, Nat.mul_zero, Nat.add_zero] at this
 omega
theorem zqd {l : List Int} (h : dok l) {i : Nat} {x : Int} (hx : l[i]? = some x) : 0 ≤ x ∧ x < 10 := h x (lmg hx)
theorem zqz (N : Nat) (l : List Int) (h : dok l) (hN : l.length < N) (hl : l.length < 1000000) : zb4 N l = some (dg (dv l)) := by
 unfold zb4
 obtain ⟨s', h1, h2⟩ := zk0 (f := zb4.r0 N) (fun s => dok s ∧ dv s = dv l ∧ s.length < 1000000) (fun s => s.length) (fun s => s = dg (dv l))
  (fun s hs => by
   obtain ⟨s1, s2, s3⟩ := hs; simp only [zb4.r0, zb4.b0]
   by_cases h0 : s.length = 0
   · have hn : s = [] := List.length_eq_zero_iff.1 h0; right; rw [dcf (by omega)]; refine ⟨s, rfl, ?_⟩; rw [← s2, hn]; exact zkw.symm
   · obtain ⟨x, hx⟩ : ∃ x, s[s.length - 1]? = some x := zew (by omega); rw [dct (show (s.length : Int) > 0 by omega), w6e, show (s.length : Int) - 1 = ((s.length - 1 : Nat) : Int) by omega, zan, hx]; simp only [ctr, obs]
     by_cases hz : x = 0
     · left; rw [zar, dct hz, ctr, ifp, ifp]; refine ⟨_, rfl, ⟨?_, ?_, ?_⟩, ?_⟩
       · rw [itn, show (0 : Int).toNat = 0 from rfl, dr0]; exact zyl s1 _
       · rw [itn, show (0 : Int).toNat = 0 from rfl, dr0, ← s2]; have := zs7 s (s.length - 1) hx; rw [show s.length - 1 + 1 = s.length by omega, List.take_length, hz] at this; simp only [Int.toNat_zero, Nat.mul_zero, Nat.add_zero] at this; exact this.symm
       · rw [itn, show (0 : Int).toNat = 0 from rfl, dr0, lnt]; omega
       · rw [itn, show (0 : Int).toNat = 0 from rfl, dr0, lnt]; omega
     · right; rw [zar, dcf hz, cfa]; refine ⟨s, rfl, ?_⟩; rw [← s2]; refine (zzv s1 ?_).symm; unfold znl; rw [List.getLast?_eq_getElem?, hx]; intro h; exact hz (Option.some.inj h))
  (N := N) (s := l) ⟨h, rfl, hl⟩ hN
 rw [h1, h2]
 rfl
theorem z6m {n : Nat} (h : n ≠ 0) : (dg n).length = (dg (n / 10)).length + 1 := by rw [zoj h, lnc]
theorem zu9 (N : Nat) (hN : 1000 < N) (n : Int) (hn : -1000000000000000 ≤ n ∧ n ≤ 1000000000000000) (z : Nat) (hz : z < 100) : zcm N n (z : Int) = some ⟨decide (n < 0), dg (n.natAbs * 10 ^ z)⟩ := by
 unfold zcm zfp
 rw [ifp, ifp, zax (by omega), ctr, zon (by omega) (by omega), itn]
 simp only [obs]
 have hd19 : (dg n.natAbs).length ≤ 18 := (zho _ 18).2 (by omega)
 obtain ⟨s', h1, h2⟩ := zk0 (f := zcm.r0 N) (fun s => ∃ (l : List Int) (x : Nat), s = (n, l, (x : Int), (⟨false, []⟩ : zI)) ∧ dok l ∧ dv l + 10 ^ l.length * x = n.natAbs * 10 ^ z ∧ l.length + (dg x).length ≤ 200 ∧ x ≤ 1000000000000000)
  (fun s => (dg s.2.2.1.toNat).length) (fun s => ∃ l : List Int, s = (n, l, 0, (⟨false, []⟩ : zI)) ∧ dok l ∧ dv l = n.natAbs * 10 ^ z ∧ l.length ≤ 200)
  (fun s hs => by
   obtain ⟨l, x, rfl, s1, s2, s3, s4⟩ := hs; simp only [zcm.r0, zcm.b0]
   by_cases h0 : x = 0
   · right; subst h0; refine ⟨_, rfl, l, rfl, s1, by rw [← s2]; simp, by omega⟩
   · left; have hl := z6m h0; rw [dct (show (x : Int) > 0 by omega), ctr, zax (by simp only [lnc, ln0]; omega), ctr, tme, tde, w6e]; refine ⟨_, rfl, ⟨l ++ [((x % 10 : Nat) : Int)], x / 10, ?_, zpb s1 (by omega) (by omega), ?_, ?_, by omega⟩, ?_⟩
     · rw [show (x : Int) % 10 = ((x % 10 : Nat) : Int) by omega, show (x : Int) / 10 = ((x / 10 : Nat) : Int) by omega]
     · rw [zny, itn, lna, lns, Nat.pow_succ, ← s2, Nat.mul_assoc, Nat.add_assoc, ← Nat.mul_add]
       congr 2
       omega
     · rw [lna, lns]; omega
     · show (dg ((x : Int) / 10).toNat).length < (dg ((x : Int)).toNat).length; rw [itn, show ((x : Int) / 10).toNat = x / 10 by omega]; omega)
  (N := N) (s := (n, List.replicate z 0, ((n.natAbs : Nat) : Int), (⟨false, []⟩ : zI))) ⟨List.replicate z 0, n.natAbs, rfl, zqc z, by rw [zrm, lnr, Nat.zero_add, Nat.mul_comm], by rw [lnr]; omega, by omega⟩ (by show (dg (((n.natAbs : Nat) : Int)).toNat).length < N; rw [itn]; omega)
 obtain ⟨l, rfl, l1, l2, l3⟩ := h2
 rw [h1]
 simp only [obs]
 rw [zqz N l l1 (by omega) (by omega), l2]
 rfl
theorem zit {l : List Int} {i : Nat} (h : l.length ≤ i) : dv (l.drop i) = 0 := by rw [List.drop_of_length_le h]; rfl
theorem zaaa (O c x y A B T P : Nat) (hP : O + P * (c + (x + 10 * A) + (y + 10 * B)) = T) : O + P * ((c + x + y) % 10) + P * 10 * ((c + x + y) / 10 + A + B) = T := by
 rw [← hP, Nat.mul_assoc, Nat.add_assoc, ← Nat.mul_add]
 congr 2
 omega
theorem z5b (N : Nat) (hN : 4000 < N) {a b : List Int} (ha : dok a) (hb : dok b) (la : a.length ≤ 1000) (lb : b.length ≤ 1000) :
 ∃ r, zcr N a b = some r ∧ dok r ∧ dv r = dv a + dv b ∧ r.length ≤ max a.length b.length + 1 ∧ (znl a → znl b → r = dg (dv a + dv b)) := by
 unfold zcr
 obtain ⟨s', h1, h2⟩ := zk0 (f := zcr.r0 N)
  (fun s => ∃ (o : List Int) (c i : Nat), s = (a, b, o, (c : Int), (i : Int)) ∧ o.length = i ∧ dok o ∧ c ≤ 1 ∧ dv o + 10 ^ i * (c + dv (a.drop i) + dv (b.drop i)) = dv a + dv b ∧ (i ≤ max a.length b.length ∨ (i = max a.length b.length + 1 ∧ c = 0 ∧ 10 ^ (max a.length b.length) ≤ dv o)))
  (fun s => 2 * (max a.length b.length - s.2.2.2.2.toNat) + s.2.2.2.1.toNat) (fun s => ∃ (o : List Int), s.2.2.1 = o ∧ dok o ∧ dv o = dv a + dv b ∧ o.length ≤ max a.length b.length + 1 ∧ (o.length ≤ max a.length b.length ∨ 10 ^ (o.length - 1) ≤ dv o) ∧ max a.length b.length ≤ o.length)
  (fun s hs => by
   obtain ⟨o, c, i, rfl, s1, s2, s3, s4, s5⟩ := hs; simp only [zcr.r0, zcr.b0]; have hg : ((cond (decide ((i : Int) < (a.length : Int))) (some true) (some (decide ((i : Int) < (b.length : Int))))).bind fun g1001 => (cond g1001 (some true) (some (decide ((c : Int) > 0))))) = some (decide (i < a.length ∨ i < b.length ∨ 0 < c)) := by
    by_cases h1 : i < a.length
    · rw [dct (show (i : Int) < (a.length : Int) by omega), dct (show i < a.length ∨ i < b.length ∨ 0 < c by omega)]; rfl
    · rw [dcf (show ¬ (i : Int) < (a.length : Int) by omega)]
      by_cases h2 : i < b.length
      · rw [dct (show (i : Int) < (b.length : Int) by omega), dct (show i < a.length ∨ i < b.length ∨ 0 < c by omega)]; rfl
      · rw [dcf (show ¬ (i : Int) < (b.length : Int) by omega)]
        by_cases h3 : 0 < c
        · rw [dct (show (c : Int) > 0 by omega), dct (show i < a.length ∨ i < b.length ∨ 0 < c by omega)]; rfl
        · rw [dcf (show ¬ (c : Int) > 0 by omega), dcf (by omega)]; rfl
   rw [← Option.bind_assoc, hg]; simp only [obs]
   by_cases hgo : i < a.length ∨ i < b.length ∨ 0 < c
   · left; rw [dct hgo, ctr]; have hi : i ≤ max a.length b.length := by
      rcases s5 with s5 | ⟨s5, s6, _⟩ <;> omega
     have hroom : ∀ x : Int, Nat.ble ((o.length + ([x] : List Int).length) * 8) zab = true := fun x => zax (by simp only [lnc, ln0]; omega); obtain ⟨x, A, hx1, hx2⟩ : ∃ (x A : Nat), dv (a.drop i) = x + 10 * A ∧ (dv (a.drop (i + 1)) = A ∧ x < 10 ∧ (if i < a.length then a[i]? = some (x : Int) else x = 0)) := by
      by_cases h : i < a.length
      · obtain ⟨x, hx⟩ : ∃ x, a[i]? = some x := zew h; have hb := zqd ha hx; have hdr := zpa a i hx; exact ⟨x.toNat, dv (a.drop (i + 1)), hdr, rfl, by omega, by rw [ifp h, hx]; congr 1; omega⟩
      · exact ⟨0, 0, by rw [zit (by omega)], by rw [zit (by omega)], by omega, by rw [ifn h]⟩
     obtain ⟨y, B, hy1, hy2⟩ : ∃ (y B : Nat), dv (b.drop i) = y + 10 * B ∧ (dv (b.drop (i + 1)) = B ∧ y < 10 ∧ (if i < b.length then b[i]? = some (y : Int) else y = 0)) := by
      by_cases h : i < b.length
      · obtain ⟨x, hx⟩ : ∃ x, b[i]? = some x := zew h; have hb := zqd hb hx; have hdr := zpa b i hx; exact ⟨x.toNat, dv (b.drop (i + 1)), hdr, rfl, by omega, by rw [ifp h, hx]; congr 1; omega⟩
      · exact ⟨0, 0, by rw [zit (by omega)], by rw [zit (by omega)], by omega, by rw [ifn h]⟩
     obtain ⟨hA, hx3, hx4⟩ := hx2; obtain ⟨hB, hy3, hy4⟩ := hy2; rw [hx1, hy1] at s4; have alg := zaaa _ _ _ _ _ _ _ _ s4; refine ⟨(a, b, o ++ [(((c + x + y) % 10 : Nat) : Int)], (((c + x + y) / 10 : Nat) : Int), ((i + 1 : Nat) : Int)), ?_, ⟨o ++ [(((c + x + y) % 10 : Nat) : Int)], (c + x + y) / 10, i + 1, rfl, by rw [lna, lns, s1], zpb s2 (by omega) (by omega), by omega, ?_, ?_⟩, ?_⟩
     · have fin : ∀ v : Int, v = ((c + x + y : Nat) : Int) → (cond (Nat.ble ((o.length + ([v.tmod 10] : List Int).length) * 8) zab) (some (Stp.again (a, b, o ++ [v.tmod 10], w6 (v.tdiv 10), w6 ((i : Int) + 1)))) none) = some (.again (a, b, o ++ [(((c + x + y) % 10 : Nat) : Int)], (((c + x + y) / 10 : Nat) : Int), ((i + 1 : Nat) : Int))) := by
        intro v hv; rw [hroom, ctr, hv, tme, tde, w6e, w6e]
        congr 1
       by_cases h1 : i < a.length
       · rw [ifp h1] at hx4; rw [dct (show (i : Int) < (a.length : Int) by omega), ctr, zan, hx4, obs]
         by_cases h2 : i < b.length
         · rw [ifp h2] at hy4; rw [dct (show (i : Int) < (b.length : Int) by omega), ctr, zan, hy4, obs]; refine fin _ ?_; rw [w6e (n := (c : Int) + (x : Int)), w6e]; omega
         · rw [ifn h2] at hy4; rw [dcf (show ¬ (i : Int) < (b.length : Int) by omega), cfa]; refine fin _ ?_; rw [w6e]; omega
       · rw [ifn h1] at hx4; rw [dcf (show ¬ (i : Int) < (a.length : Int) by omega), cfa]
         by_cases h2 : i < b.length
         · rw [ifp h2] at hy4; rw [dct (show (i : Int) < (b.length : Int) by omega), ctr, zan, hy4, obs]; refine fin _ ?_; rw [w6e]; omega
         · rw [ifn h2] at hy4; rw [dcf (show ¬ (i : Int) < (b.length : Int) by omega), cfa]; refine fin _ ?_; omega
     · rw [zny, s1, itn, hA, hB, Nat.pow_succ]; exact alg
     · by_cases him : i = max a.length b.length
       · right; have hx0 : x = 0 := by rw [ifn] at hx4; exact hx4
         have hy0 : y = 0 := by rw [ifn] at hy4; exact hy4
         have hc1 : c = 1 := by omega
         refine ⟨by omega, by omega, ?_⟩; rw [zny, s1, itn, hx0, hy0, hc1, him]; omega
       · left; omega
     · show 2 * (max a.length b.length - ((i + 1 : Nat) : Int).toNat) + (((c + x + y) / 10 : Nat) : Int).toNat < 2 * (max a.length b.length - (i : Int).toNat) + (c : Int).toNat; simp only [itn]
       by_cases him : i = max a.length b.length
       · have hx0 : x = 0 := by rw [ifn] at hx4; exact hx4
         have hy0 : y = 0 := by rw [ifn] at hy4; exact hy4
         omega
       · omega
   · right; rw [dcf hgo, cfa]; rw [zit (by omega), zit (by omega), show c = 0 by omega] at s4; refine ⟨_, rfl, o, rfl, s2, by omega, ?_, ?_, by omega⟩
     · rcases s5 with s5 | ⟨s5, _, _⟩ <;> omega
     · rcases s5 with s5 | ⟨s5, _, s7⟩
       · left; omega
       · right; rw [s1, s5, Nat.add_sub_cancel]; exact s7)
  (N := N) (s := (a, b, [], 0, 0)) ⟨[], 0, 0, rfl, rfl, fun d hd => (List.not_mem_nil hd).elim, by omega, by simp [dv], .inl (by omega)⟩ (by show 2 * (max a.length b.length - (0 : Int).toNat) + (0 : Int).toNat < N; simp only [Int.toNat_zero]; omega)
 obtain ⟨o, ho, o1, o2, o3, o4, o5⟩ := h2
 rw [h1]
 simp only [obs, ho]
 refine ⟨o, rfl, o1, o2, o3, fun hca hcb => ?_⟩
 rw [← o2]
 refine (zzv o1 (z6y o1 fun hne => ?_)).symm
 rcases o4 with o4 | o4
 · have hol : o.length ≠ 0 := fun h => hne (List.length_eq_zero_iff.1 h); have hm : o.length = a.length ∨ o.length = b.length := by omega
   rcases hm with hm | hm
   · have := z5l ha hca (fun h => by rw [h] at hm; exact hol hm); rw [hm, o2]; omega
   · have := z5l hb hcb (fun h => by rw [h] at hm; exact hol hm); rw [hm, o2]; omega
 · exact o4
theorem zx1 (N : Nat) (hN : 4000 < N) (a b : Nat) (ha : a < 10 ^ 900) (hb : b < 10 ^ 900) : zcr N (dg a) (dg b) = some (dg (a + b)) := by
 obtain ⟨r, h1, _, _, _, h2⟩ := z5b N hN (zj6 a) (zj6 b) (Nat.le_trans ((zho a 900).2 ha) (by decide)) (Nat.le_trans ((zho b 900).2 hb) (by decide))
 rw [h1, h2 (z5m a) (z5m b), zkk, zkk]
theorem zx2 (N : Nat) (hN : 4000 < N) (a b : Nat) (ha : a < 10 ^ 900) (hb : b < 10 ^ 900) : zcv N (dg a) (dg b) = some (zie a b) := by
 have la : (dg a).length ≤ 900 := (zho a 900).2 ha
 have lb : (dg b).length ≤ 900 := (zho b 900).2 hb
 unfold zcv
 by_cases hl : (dg a).length = (dg b).length
 · rw [zb6, dcf (by omega), cfa]; have key := z8m (f := zcv.r0 N) (fun s => ∃ i : Nat, s = (dg a, dg b, (i : Int) - 1) ∧ i ≤ (dg a).length ∧ (dg a).drop i = (dg b).drop i) (fun s => (s.2.2 + 1).toNat) (fun r => r = zie a b) (fun s => dg a = dg b)
    (fun s hs => by
     obtain ⟨i, rfl, s1, s2⟩ := hs; simp only [zcv.r0, zcv.b0]; cases i with
     | zero =>
      right; left; refine ⟨_, rfl, ?_⟩; rw [dr0, dr0] at s2; exact s2
     | succ i =>
      obtain ⟨x, hx⟩ : ∃ x, (dg a)[i]? = some x := zew (by omega); obtain ⟨y, hy⟩ : ∃ y, (dg b)[i]? = some y := zew (by omega); rw [dct (show ((i + 1 : Nat) : Int) - 1 ≥ 0 by omega), ctr, show ((i + 1 : Nat) : Int) - 1 = (i : Int) by omega, zan, zan, hx, hy]; simp only [obs, zhq]; obtain ⟨hxl, hxe⟩ := gei hx; obtain ⟨hyl, hye⟩ := gei hy
      by_cases hxy : x = y
      · left; rw [zb6, dcf (by omega), cfa, w6e]; refine ⟨_, rfl, ⟨i, rfl, by omega, ?_⟩, ?_⟩
        · rw [List.drop_eq_getElem_cons hxl, List.drop_eq_getElem_cons hyl, hxe, hye, hxy, s2]
        · show ((i : Int) - 1 + 1).toNat < ((i : Int) + 1).toNat; omega
      · right; right; rw [zb6, dct hxy, ctr]; refine ⟨_, rfl, ?_⟩; unfold zie
        by_cases hlt : x < y
        · have := z81 (zj6 a) (zj6 b) i hxl hyl s2 (by rw [hxe, hye]; exact hlt); rw [zkk, zkk] at this; rw [dcf (by omega), ifp this]; decide
        · have := z81 (zj6 b) (zj6 a) i hyl hxl s2.symm (by rw [hxe, hye]; omega); rw [zkk, zkk] at this; rw [dct (by omega), ifn, ifp this]; decide)
    (N := N) (s := (dg a, dg b, ((dg a).length : Int) - 1)) ⟨(dg a).length, rfl, Nat.le_refl _, by rw [List.drop_of_length_le (Nat.le_refl _), List.drop_of_length_le (by omega)]⟩ (by show (((dg a).length : Int) - 1 + 1).toNat < N; omega)
   rw [w6e]; rcases key with ⟨s', h1, h2⟩ | ⟨r, h1, h2⟩
   · have e := congrArg dv h2; rw [zkk, zkk] at e; rw [h1, e]; unfold zie; rw [ifn, ifn]; rfl
   · rw [h1, h2]; rfl
 · rw [zb6, dct (by omega), ctr, zhq]; simp only [obs]; unfold zie
   by_cases hlt : (dg a).length < (dg b).length
   · rw [dcf (by omega), ifp (zzu hlt)]; rfl
   · have h2 := zzu (a := b) (b := a) (by omega); rw [dct (by omega), ifn, ifp h2]; rfl
theorem zx3 (N : Nat) (hN : 4000 < N) (a b : Nat) (ha : a < 10 ^ 900) (hba : b ≤ a) : zc9 N (dg a) (dg b) = some (dg (a - b)) := by
 have la : (dg a).length ≤ 900 := (zho a 900).2 ha
 have lab : (dg b).length ≤ (dg a).length := (zho b _).2 (Nat.lt_of_le_of_lt hba ((zho a _).1 (Nat.le_refl _)))
 have hA := zj6 a
 have hB := zj6 b
 have vA := zkk a
 have vB := zkk b
 unfold zc9
 generalize dg a = A at *
 generalize dg b = B at *
 obtain ⟨s', h1, h2⟩ := zk0 (f := zc9.r0 N)
  (fun s => ∃ (o : List Int) (c i : Nat), s = (A, B, o, (c : Int), (i : Int)) ∧ o.length = i ∧ i ≤ A.length ∧ dok o ∧ c ≤ 1 ∧ dv o + dv (B.take i) = dv (A.take i) + 10 ^ i * c)
  (fun s => A.length - s.2.2.2.2.toNat) (fun s => ∃ c : Nat, dok s.2.2.1 ∧ s.2.2.1.length = A.length ∧ dv s.2.2.1 + b = a + 10 ^ A.length * c)
  (fun s hs => by
   obtain ⟨o, c, i, rfl, s1, s2, s3, s4, s5⟩ := hs; simp only [zc9.r0, zc9.b0]
   by_cases hi : i < A.length
   · left; obtain ⟨x, hx⟩ : ∃ x, A[i]? = some x := zew hi; obtain ⟨x0, x1⟩ := zqd hA hx; have tA := zs7 A i hx; have hroom : ∀ x : Int, Nat.ble ((o.length + ([x] : List Int).length) * 8) zab = true := fun x => zax (by simp only [lnc, ln0]; omega); rw [dct (show (i : Int) < (A.length : Int) by omega), ctr, zan, hx]; simp only [obs, zhq]; obtain ⟨y, hy1, hy2, hy3⟩ : ∃ y : Int, (0 ≤ y ∧ y < 10) ∧ dv (B.take (i + 1)) = dv (B.take i) + 10 ^ i * y.toNat ∧ (if i < B.length then B[i]? = some y else y = 0) := by
      by_cases h : i < B.length
      · obtain ⟨y, hy⟩ : ∃ y, B[i]? = some y := zew h; exact ⟨y, zqd hB hy, zs7 B i hy, by rw [ifp h]; exact hy⟩
      · exact ⟨0, by omega, by rw [List.take_of_length_le (by omega), List.take_of_length_le (by omega)]; simp, by rw [ifn h]⟩
     have fin : ∀ v : Int, v = x - (c : Int) - y → (cond (Nat.ble ((o.length + ([w6 (v + w6 (10 * cond (decide (v < 0)) 1 0))] : List Int).length) * 8) zab) (some (Stp.again (A, B, o ++ [w6 (v + w6 (10 * cond (decide (v < 0)) 1 0))], cond (decide (v < 0)) (1 : Int) 0, w6 ((i : Int) + 1)))) none) = some (Stp.again (A, B, o ++ [if v < 0 then v + 10 else v], ((if v < 0 then 1 else 0 : Nat) : Int), ((i + 1 : Nat) : Int))) := by
      intro v hv; rw [hroom, ctr, w6e (n := (i : Int) + 1)]
      by_cases hneg : v < 0
      · rw [dct hneg, ifp hneg, ifp hneg, ctr, w6e (n := 10 * 1) (by decide) (by decide), w6e]; rfl
      · rw [dcf hneg, ifn hneg, ifn hneg, cfa, w6e (n := 10 * 0) (by decide) (by decide), w6e, Int.mul_zero, Int.add_zero]; rfl
     refine ⟨(A, B, o ++ [if x - (c : Int) - y < 0 then x - (c : Int) - y + 10 else x - (c : Int) - y], ((if x - (c : Int) - y < 0 then 1 else 0 : Nat) : Int), ((i + 1 : Nat) : Int)), ?_, ⟨_, _, _, rfl, by rw [lna, lns, s1], by omega, zpb s3 (by split <;> omega) (by split <;> omega), zzm _, ?_⟩, ?_⟩
     · by_cases h : i < B.length
       · rw [ifp h] at hy3; rw [dct (show (i : Int) < (B.length : Int) by omega), ctr, zan, hy3, obs, w6e (n := x - (c : Int)), w6e (n := x - (c : Int) - y)]; exact fin _ rfl
       · rw [ifn h] at hy3; rw [dcf (show ¬ (i : Int) < (B.length : Int) by omega), cfa, w6e (n := x - (c : Int))]; have := fin (x - (c : Int)) (by omega); rw [this, hy3, Int.sub_zero]
     · rw [zny, hy2, tA, s1, Nat.pow_succ]; generalize 10 ^ i = P at *; have e : ∀ u : Nat, P * 10 * u = P * (10 * u) := fun u => Nat.mul_assoc _ _ _; rw [e]; have lin : (if x - (c : Int) - y < 0 then x - (c : Int) - y + 10 else x - (c : Int) - y).toNat + y.toNat + c = x.toNat + 10 * (if x - (c : Int) - y < 0 then 1 else 0) := by split <;> omega
       have := congrArg (P * ·) lin; simp only [Nat.mul_add] at this; generalize P * (if x - (c : Int) - y < 0 then x - (c : Int) - y + 10 else x - (c : Int) - y).toNat = U at *; generalize P * (10 * (if x - (c : Int) - y < 0 then 1 else 0)) = V at *; omega
     · show A.length - ((i + 1 : Nat) : Int).toNat < A.length - (i : Int).toNat; simp only [itn]; omega
   · right; rw [dcf (show ¬ (i : Int) < (A.length : Int) by omega), cfa]; rw [List.take_of_length_le (by omega), List.take_of_length_le (by omega), vA, vB] at s5; exact ⟨_, rfl, c, s3, (show o.length = A.length by omega), by rw [show A.length = i by omega]; exact s5⟩)
  (N := N) (s := (A, B, [], 0, 0)) ⟨[], 0, 0, rfl, rfl, by omega, fun d hd => (List.not_mem_nil hd).elim, by omega, by simp [dv]⟩ (by show A.length - (0 : Int).toNat < N; omega)
 obtain ⟨c, o1, o2, o3⟩ := h2
 have hlt := zzt o1
 rw [o2] at hlt
 have hc : c = 0 := by
  refine cbc fun h => ?_; have := Nat.mul_le_mul_left (10 ^ A.length) (show 1 ≤ c by omega); rw [Nat.mul_one] at this; clear ha; generalize 10 ^ A.length * c = M at *; generalize 10 ^ A.length = P at *; omega
 rw [h1]
 simp only [obs]
 rw [zqz N _ o1 (by omega) (by omega), show dv s'.2.2.1 = a - b by rw [hc] at o3; omega]
 rfl
def sgn (s : Bool) (m : Nat) : Int := cond s (-(m : Int)) m
theorem zq2 (m : Nat) : decide (((dg m).length : Int) > 0) = decide (m ≠ 0) := by
 simp only [decide_eq_decide]
 constructor
 · intro h h2; rw [h2, zkw] at h; simp at h
 · intro h; rw [zoj h, lnc]; omega
theorem z3c (m : Nat) : (((dg m).length : Int) == 0) = decide (m = 0) := by
 rw [zar]
 simp only [decide_eq_decide]
 constructor
 · intro h; refine cbc fun h2 => ?_; rw [zoj h2, lnc] at h; omega
 · intro h; rw [h, zkw]; rfl
theorem z2h (N : Nat) (hN : 4000 < N) (s u : Bool) (p q : Nat) (hp : p < 10 ^ 800) (hq : q < 10 ^ 800) : ∃ v m, zjz N ⟨s, dg p⟩ ⟨u, dg q⟩ = some ⟨v, dg m⟩ ∧ sgn v m = sgn s p + sgn u q ∧ m ≤ p + q := by
 have h89 : (10 : Nat) ^ 800 < 10 ^ 900 := by decide
 unfold zjz
 rw [zx1 N hN p q (by omega) (by omega), zx2 N hN p q (by omega) (by omega)]
 simp only [obs]
 by_cases hsu : s = u
 · subst hsu; simp only [bst, ctr]; exact ⟨_, _, rfl, by unfold sgn; cases s <;> simp <;> omega, by omega⟩
 · rw [show (s == u) = false from beq_eq_false_iff_ne.2 hsu, cfa]; unfold zie
   by_cases h : p < q
   · rw [ifp h, zx3 N hN q p (by omega) (Nat.le_of_lt h)]; simp only [show decide ((-1 : Int) < 0) = true from rfl, ctr, obs, zq2]; have hz : decide (q - p ≠ 0) = true := dct (by omega); rw [hz]; refine ⟨u, q - p, by cases u <;> rfl, ?_, by omega⟩; unfold sgn; cases s <;> cases u <;> simp_all <;> omega
   · have hf : ∀ k : Int, decide ((if q < p then (1 : Int) else 0) < 0) = false := fun _ => by split <;> rfl
     rw [ifn h, hf 0, zx3 N hN p q (by omega) (by omega)]; simp only [cfa, obs, zq2]; refine ⟨s && decide (p - q ≠ 0), p - q, by cases s <;> rfl, ?_, by omega⟩; unfold sgn
     by_cases hz : p - q = 0
     · rw [dcf (by omega)]; cases s <;> cases u <;> simp_all <;> omega
     · rw [dct hz]; cases s <;> cases u <;> simp_all <;> omega
theorem zw8 (N : Nat) (hN : 1000 < N) {a b : Number} (ha : zc6 a) (hb : zc6 b) : zhg N a b = some (⟨decide (a.N < 0), dg (zal a (zi a b)).natAbs⟩, ⟨decide (b.N < 0), dg (zal b (zi a b)).natAbs⟩, zi a b) := by
 obtain ⟨s1, s2, s3, s4⟩ := zmh ha hb
 obtain ⟨⟨a1, a2⟩, a3, a4⟩ := ha
 obtain ⟨⟨b1, b2⟩, b3, b4⟩ := hb
 unfold zhg
 rw [show (if b.Scale > a.Scale then b.Scale else a.Scale) = zi a b from rfl, w6e, w6e]
 have e1 := zu9 N hN a.N ⟨by omega, by omega⟩ (zi a b - a.Scale).toNat (by omega)
 have e2 := zu9 N hN b.N ⟨by omega, by omega⟩ (zi a b - b.Scale).toNat (by omega)
 rw [Int.toNat_of_nonneg (by omega)] at e1 e2
 rw [e1, obs, e2, obs, ziv, ziv]
theorem zqo (x : Number) (s : Int) : sgn (decide (x.N < 0)) (zal x s).natAbs = zal x s := by
 have := zn6 x s
 unfold sgn
 by_cases h : x.N < 0
 · rw [dct h, ctr]; have := this.2 h; omega
 · rw [dcf h, cfa]; have : ¬ zal x s < 0 := fun h2 => h (this.1 h2); omega
theorem z47 (s : Bool) (m : Nat) : sgn (!s) m = -sgn s m := by unfold sgn; cases s <;> simp
theorem p30 {n : Nat} (h : n ≤ 10 ^ 30) : n < 10 ^ 800 := Nat.lt_of_le_of_lt h (by decide)
theorem z2m (N : Nat) (hN : 4000 < N) {a b : Number} (ha : zc6 a) (hb : zc6 b) : zg1 N a b = some (z0b (zal a (zi a b)) (zal b (zi a b))) := by
 obtain ⟨s1, s2, s3, s4⟩ := zmh ha hb
 unfold zg1
 simp only [eN]
 rw [zw8 N (by omega) ha hb]
 simp only [obs]
 obtain ⟨v, m, h1, h2, _⟩ := z2h N hN (decide (a.N < 0)) (!decide (b.N < 0)) _ _ (p30 (zi1 ha s4)) (p30 (zi1 hb s4))
 rw [h1]
 simp only [obs, z3c, zhq]
 rw [z47, zqo, zqo] at h2
 generalize zal a (zi a b) = A at *
 generalize zal b (zi a b) = B at *
 unfold sgn at h2
 unfold z0b
 by_cases hz : m = 0
 · rw [dct hz, ctr]; have : A = B := by cases v <;> simp_all <;> omega
   rw [ifn, ifn]
 · rw [dcf hz, cfa]; cases v with
   | true =>
    rw [ctr] at h2; rw [ifp]; decide
   | false =>
    rw [cfa] at h2; rw [ifn, ifp]; decide
theorem zacl (O c x y A P T : Nat) (hP : O + P * (c + (x + 10 * A) * y) = T) : O + P * ((c + x * y) % 10) + P * 10 * ((c + x * y) / 10 + A * y) = T := by
 rw [← hP, Nat.mul_assoc, Nat.add_assoc, ← Nat.mul_add, Nat.add_mul, Nat.mul_assoc 10 A y]
 congr 2
 generalize x * y = z at *
 generalize A * y = w at *
 omega
theorem zad1 (N : Nat) (hN : 4000 < N) (p : Nat) (hp : p < 10 ^ 100) (o : List Int) (L3 L4 : zI) (i : Nat) (hi : i ≤ 100) (y : Nat) (hy : y < 10) (hy2 : L3.zT[i]? = some (y : Int)) (s : Bool) :
 ∃ row c k, zm (zba.r2 N) N (o, (i : Int), List.replicate i (0 : Int), 0, 0, (⟨s, dg p⟩ : zI), L3, L4) = some (o, (i : Int), row, c, k, ⟨s, dg p⟩, L3, L4) ∧ dok row ∧ dv row = 10 ^ i * (p * y) ∧ row.length ≤ 300 := by
 have lp : (dg p).length ≤ 100 := (zho p 100).2 hp
 have hA := zj6 p
 have vA := zkk p
 generalize dg p = A at *
 obtain ⟨s', h1, h2⟩ := zk0 (f := zba.r2 N)
  (fun t => ∃ (row : List Int) (c k : Nat), t = (o, (i : Int), row, (c : Int), (k : Int), (⟨s, A⟩ : zI), L3, L4) ∧ row.length = i + k ∧ k ≤ A.length + 1 ∧ dok row ∧ c ≤ 8 ∧ dv row + 10 ^ (i + k) * (c + dv (A.drop k) * y) = 10 ^ i * (p * y) ∧ (A.length < k → c = 0))
  (fun t => 2 * (A.length - t.2.2.2.2.1.toNat) + (if t.2.2.2.1 = 0 then 0 else 1)) (fun t => ∃ (row : List Int) (c k : Int), t = (o, (i : Int), row, c, k, (⟨s, A⟩ : zI), L3, L4) ∧ dok row ∧ dv row = 10 ^ i * (p * y) ∧ row.length ≤ 300)
  (fun t ht => by
   obtain ⟨row, c, k, rfl, s1, s2, s3, s4, s5, s6⟩ := ht; have hroom : ∀ x : Int, Nat.ble ((row.length + ([x] : List Int).length) * 8) zab = true := fun x => zax (by simp only [lnc, ln0]; omega); simp only [zba.r2, zba.b2]
   by_cases hk : k < A.length
   · left; obtain ⟨x, hx⟩ : ∃ x, A[k]? = some x := zew hk; obtain ⟨x0, x1⟩ := zqd hA hx; obtain ⟨u, rfl⟩ : ∃ u : Nat, x = (u : Int) := ⟨x.toNat, by omega⟩; have hd := zpa A k hx; rw [itn] at hd; have hmul : u * y ≤ 9 * 9 := Nat.mul_le_mul (by omega) (by omega); rw [dct (show (k : Int) < (A.length : Int) by omega)]; simp only [ctr, obs]; rw [zan, hx, zan, hy2]; simp only [obs]; have hv : w6 ((c : Int) + w6 ((u : Int) * (y : Int))) = ((c + u * y : Nat) : Int) := by
      rw [← Int.natCast_mul, w6e (n := ((u * y : Nat) : Int)), w6e]; omega
     rw [hv, hroom, ctr, tme, tde, w6e (n := ((c + u * y : Nat) : Int) / 10), w6e (n := (k : Int) + 1)]; rw [hd] at s5; have alg := zacl _ _ _ _ _ _ _ s5; refine ⟨_, rfl, ⟨row ++ [(((c + u * y) % 10 : Nat) : Int)], (c + u * y) / 10, k + 1, ?_, ?_, by omega, zpb s3 (by omega) (by omega), by omega, ?_, fun h => by omega⟩, ?_⟩
     · generalize u * y = z; rw [show ((c + z : Nat) : Int) % 10 = (((c + z) % 10 : Nat) : Int) by omega, show ((c + z : Nat) : Int) / 10 = (((c + z) / 10 : Nat) : Int) by omega]; rfl
     · rw [lna, lns, s1]; omega
     · rw [zny, s1, itn, show i + (k + 1) = i + k + 1 by omega, Nat.pow_succ]; exact alg
     · show 2 * (A.length - ((k : Int) + 1).toNat) + (if ((c + u * y : Nat) : Int) / 10 = 0 then 0 else 1) < 2 * (A.length - (k : Int).toNat) + (if (c : Int) = 0 then 0 else 1); have := zzm (((c + u * y : Nat) : Int) / 10 = 0); split <;> split <;> omega
   · rw [dcf (show ¬ (k : Int) < (A.length : Int) by omega)]; simp only [cfa, obs]; rw [zit (show A.length ≤ k by omega)] at s5
     by_cases hc : c = 0
     · right; rw [dcf (show ¬ (c : Int) > 0 by omega), cfa]; refine ⟨_, rfl, row, _, _, rfl, s3, ?_, by omega⟩; rw [hc] at s5; simpa using s5
     · left; have hkA : k = A.length := by
        refine cbc fun h => hc (s6 (by omega))
       rw [dct (show (c : Int) > 0 by omega), ctr, hroom, ctr, tme, tde, w6e (n := (c : Int) / 10), w6e (n := (k : Int) + 1)]; refine ⟨_, rfl, ⟨row ++ [(c : Int)], 0, k + 1, ?_, ?_, by omega, zpb s3 (by omega) (by omega), by omega, ?_, fun _ => rfl⟩, ?_⟩
       · rw [show (c : Int) % 10 = (c : Int) by omega, show (c : Int) / 10 = ((0 : Nat) : Int) by omega]; rfl
       · rw [lna, lns, s1]; omega
       · rw [zny, s1, itn, zit (show A.length ≤ k + 1 by omega)]; simp only [Nat.zero_mul, Nat.add_zero, Nat.mul_zero] at s5 ⊢; exact s5
       · show 2 * (A.length - ((k : Int) + 1).toNat) + (if (c : Int) / 10 = 0 then 0 else 1) < 2 * (A.length - (k : Int).toNat) + (if (c : Int) = 0 then 0 else 1); rw [ifp, ifn]; omega)
  (N := N) (s := (o, (i : Int), List.replicate i (0 : Int), 0, 0, (⟨s, A⟩ : zI), L3, L4)) ⟨List.replicate i 0, 0, 0, rfl, by rw [lnr]; rfl, by omega, zqc i, by omega, by rw [zrm, dr0, vA]; simp, fun h => rfl⟩ (by show 2 * (A.length - (0 : Int).toNat) + (if (0 : Int) = 0 then 0 else 1) < N; rw [ifp rfl]; omega)
 obtain ⟨row, c, k, rfl, r1, r2, r3⟩ := h2
 exact ⟨row, c, k, h1, r1, r2, r3⟩
theorem z6a (N : Nat) (hN : 4000 < N) (s u : Bool) (p q : Nat) (hp : p < 10 ^ 90) (hq : q < 10 ^ 90) : zba N ⟨s, dg p⟩ ⟨u, dg q⟩ = some ⟨(s != u) && decide (p * q ≠ 0), dg (p * q)⟩ := by
 have lq : (dg q).length ≤ 90 := (zho q 90).2 hq
 have hB := zj6 q
 have vB := zkk q
 unfold zba
 obtain ⟨s', h1, h2⟩ := zk0 (f := zba.r0 N)
  (fun t => ∃ (o : List Int) (i : Nat), t = (o, (i : Int), (⟨s, dg p⟩ : zI), (⟨u, dg q⟩ : zI), (⟨false, []⟩ : zI)) ∧ i ≤ (dg q).length ∧ dok o ∧ o.length ≤ 300 + i ∧ dv o = p * dv ((dg q).take i))
  (fun t => (dg q).length - t.2.1.toNat) (fun t => ∃ o : List Int, (∃ i : Int, t = (o, i, (⟨s, dg p⟩ : zI), (⟨u, dg q⟩ : zI), (⟨false, []⟩ : zI))) ∧ dok o ∧ o.length ≤ 400 ∧ dv o = p * q)
  (fun t ht => by
   obtain ⟨o, i, rfl, s1, s2, s3, s4⟩ := ht; simp only [zba.r0, zba.b0]
   by_cases hi : i < (dg q).length
   · left; obtain ⟨y, hy⟩ : ∃ y, (dg q)[i]? = some y := zew hi; obtain ⟨y0, y1⟩ := zqd hB hy; obtain ⟨w, rfl⟩ : ∃ w : Nat, y = (w : Int) := ⟨y.toNat, by omega⟩; rw [dct (show (i : Int) < ((dg q).length : Int) by omega), ctr, ifp, ifp, zax (by omega), ctr, itn]; obtain ⟨row, c, k, r1, r2, r3, r4⟩ := zad1 N hN p (Nat.lt_of_lt_of_le hp (zca (by decide))) o (⟨u, dg q⟩ : zI) (⟨false, []⟩ : zI) i (by omega) w (by omega) hy s; rw [r1]; simp only [obs]; obtain ⟨r, g1, g2, g3, g4, _⟩ := z5b N hN s2 r2 (by omega) (by omega); rw [g1]; simp only [obs]; rw [w6e]; refine ⟨_, rfl, ⟨r, i + 1, rfl, by omega, g2, ?_, ?_⟩, ?_⟩
     · omega
     · rw [g3, s4, r3, zs7 _ i hy, itn, Nat.mul_add, Nat.mul_left_comm]
     · show (dg q).length - ((i : Int) + 1).toNat < (dg q).length - (i : Int).toNat; omega
   · right; rw [dcf (show ¬ (i : Int) < ((dg q).length : Int) by omega), cfa]; refine ⟨_, rfl, o, ⟨_, rfl⟩, s2, by omega, ?_⟩; rw [s4, List.take_of_length_le (by omega), vB])
  (N := N) (s := ([], 0, (⟨s, dg p⟩ : zI), (⟨u, dg q⟩ : zI), (⟨false, []⟩ : zI))) ⟨[], 0, rfl, by omega, fun d hd => (List.not_mem_nil hd).elim, by simp, by simp [dv]⟩ (by show (dg q).length - (0 : Int).toNat < N; omega)
 obtain ⟨o, ⟨i, rfl⟩, o1, o2, o3⟩ := h2
 rw [h1]
 simp only [obs]
 rw [zqz N o o1 (by omega) (by omega), o3]
 simp only [obs, zq2]
 cases s <;> cases u <;> rfl
theorem z93 (N : Nat) (hN : 4000 < N) (A : List Int) (b r0 : Nat) (hb : 0 < b) (hb2 : b < 10 ^ 500) (Q : List Int) (hQ : dok Q) (i : Nat) (hi : i < Q.length) (hz : Q[i]? = some 0) (hr : r0 < 10 * b) :
 zm (za1.r2 N) N (A, dg b, Q, dg r0, (i : Int)) = some (A, dg b, Q.set i ((r0 / b : Nat) : Int), dg (r0 % b), (i : Int)) := by
 have h56 : (10 : Nat) ^ 500 * 10 ≤ 10 ^ 900 := by decide
 obtain ⟨s', h1, h2⟩ := zk0 (f := za1.r2 N)
  (fun t => ∃ (r c : Nat), t = (A, dg b, Q.set i (c : Int), dg r, (i : Int)) ∧ r + c * b = r0)
  (fun t => 10 - (zav t.2.2.1 i).toNat) (fun t => t = (A, dg b, Q.set i ((r0 / b : Nat) : Int), dg (r0 % b), (i : Int)))
  (fun t ht => by
   obtain ⟨r, c, rfl, s1⟩ := ht; have hc : c < 10 := by
    refine cbc fun h => ?_; have := Nat.mul_le_mul_right b (show 10 ≤ c by omega); omega
   have hl : (Q.set i (c : Int)).length = Q.length := List.length_set; have hx : (Q.set i (c : Int))[i]? = some (c : Int) := by rw [List.getElem?_set, ifp rfl, ifp hi]
   have hr0 : r ≤ r0 := by omega
   simp only [za1.r2, za1.b2]; rw [zx2 N hN r b (by omega) (by omega), obs, zsz]
   by_cases h : b ≤ r
   · left; rw [dct h, ctr, zx3 N hN r b (by omega) h, obs, hl, ifp, ifp, itn, hx]; simp only [obs]; rw [ifp, ifp, w6e, List.set_set]; refine ⟨_, rfl, ⟨r - b, c + 1, rfl, ?_⟩, ?_⟩
     · rw [Nat.add_mul, Nat.one_mul]; omega
     · have g : ∀ v : Int, zav (Q.set i v) i = v := by
        intro v; clear hx hl hz
        induction Q generalizing i with
        | nil => simp at hi
        | cons q Q ih =>
         cases i with
         | zero => rfl
         | succ i =>
          rw [List.set_cons_succ]; show (if i + 1 = 0 then q else zav (Q.set i v) (i + 1 - 1)) = v; rw [ifn, Nat.add_sub_cancel]; exact ih (fun d hd => hQ d (List.mem_cons_of_mem _ hd)) i (by simpa using hi)
       show 10 - (zav (Q.set i ((c : Int) + 1)) i).toNat < 10 - (zav (Q.set i (c : Int)) i).toNat; rw [g, g]; omega
   · right; rw [dcf h, cfa]; refine ⟨_, rfl, ?_⟩; have e1 : r0 / b = c := by rw [← s1, Nat.add_mul_div_right _ _ hb, Nat.div_eq_of_lt (by omega), Nat.zero_add]
     have e2 : r0 % b = r := by rw [← s1, Nat.add_mul_mod_self_right, mel (by omega)]
     rw [e1, e2])
  (N := N) (s := (A, dg b, Q, dg r0, (i : Int))) ⟨r0, 0, by
   have : Q.set i ((0 : Nat) : Int) = Q := by
    refine List.ext_getElem? fun k => ?_; rw [List.getElem?_set]; split
    · rename_i hk; rw [← hk, hz]; rfl
    · rfl
   rw [this], by omega⟩ (by show 10 - (zav Q i).toNat < N; omega)
 rw [h1, h2]
theorem zy9 (N : Nat) (hN : 4000 < N) (a b : Nat) (ha : a < 10 ^ 400) (hb : 0 < b) (hb2 : b < 10 ^ 400) : za1 N (dg a) (dg b) = some (dg (a / b), dg (a % b)) := by
 have la : (dg a).length ≤ 400 := (zho a 400).2 ha
 have h45 : (10 : Nat) ^ 400 < 10 ^ 500 := by decide
 have hA := zj6 a
 have vA := zkk a
 unfold za1
 generalize dg a = A at *
 rw [ifp, ifp, zax (by omega), ctr, itn, w6e]
 obtain ⟨s', h1, h2⟩ := zk0 (f := za1.r0 N)
  (fun t => ∃ (Q : List Int) (i : Nat), t = (A, dg b, Q, dg (dv (A.drop i) % b), (i : Int) - 1) ∧ i ≤ A.length ∧ Q.length = A.length ∧ dok Q ∧ dv (Q.drop i) = dv (A.drop i) / b ∧ (∀ k, k < i → Q[k]? = some 0))
  (fun t => (t.2.2.2.2 + 1).toNat) (fun t => dok t.2.2.1 ∧ t.2.2.1.length = A.length ∧ dv t.2.2.1 = a / b ∧ t.2.2.2.1 = dg (a % b))
  (fun t ht => by
   obtain ⟨Q, i, rfl, s1, s2, s3, s4, s5⟩ := ht; simp only [za1.r0, za1.b0]; cases i with
   | zero =>
    right; rw [dr0, dr0, vA] at s4; refine ⟨_, rfl, s3, s2, s4, ?_⟩; rw [dr0, vA]
   | succ i =>
    left; obtain ⟨x, hx⟩ : ∃ x, A[i]? = some x := zew (by omega); obtain ⟨x0, x1⟩ := zqd hA hx; obtain ⟨u, rfl⟩ : ∃ u : Nat, x = (u : Int) := ⟨x.toNat, by omega⟩; have hd := zpa A i hx; rw [itn] at hd; have hrb : dv (A.drop (i + 1)) % b < b := Nat.mod_lt _ hb; have hdm := Nat.div_add_mod (dv (A.drop (i + 1))) b; rw [show ((i + 1 : Nat) : Int) - 1 = (i : Int) by omega, dct (show (i : Int) ≥ 0 by omega), ctr, zan, hx]; simp only [obs]; generalize dv (A.drop (i + 1)) = p at *; have lr : (dg (p % b)).length ≤ 500 := (zho _ 500).2 (by omega); rw [zax (by simp only [lnc, ln0]; omega), ctr]; have hrest : dok ([(u : Int)] ++ dg (p % b)) := zuc (fun d hd => by
     rcases List.mem_cons.1 hd with rfl | hd
     · omega
     · cases hd) (zj6 _)
    rw [zqz N _ hrest (by rw [lna, lns]; omega) (by rw [lna, lns]; omega)]; have hv : dv ([(u : Int)] ++ dg (p % b)) = u + 10 * (p % b) := by
     show (u : Int).toNat + 10 * dv (dg (p % b)) = _; rw [zkk, itn]
    rw [hv]; simp only [obs]; rw [z93 N hN A b (u + 10 * (p % b)) hb (by omega) Q s3 i (by omega) (s5 i (by omega)) (by omega)]; simp only [obs]; rw [w6e]; have eq1 : u + 10 * p = b * (10 * (p / b)) + (u + 10 * (p % b)) := by
     rw [Nat.mul_left_comm]; omega
    have ed : (u + 10 * p) / b = 10 * (p / b) + (u + 10 * (p % b)) / b := by rw [eq1, Nat.mul_add_div hb]
    have em : (u + 10 * p) % b = (u + 10 * (p % b)) % b := by rw [eq1, Nat.mul_add_mod]
    have hdig : (u + 10 * (p % b)) / b < 10 := Nat.div_lt_of_lt_mul (by rw [Nat.mul_comm]; omega); generalize (u + 10 * (p % b)) / b = G at *; refine ⟨_, rfl, ⟨Q.set i (G : Int), i, ?_, by omega, by rw [List.length_set]; exact s2, ?_, ?_, ?_⟩, ?_⟩
    · rw [hd, em]
    · intro d hd; rcases List.mem_or_eq_of_mem_set hd with h | h
      · exact s3 d h
      · rw [h]; omega
    · have hxs : (Q.set i (G : Int))[i]? = some (G : Int) := by rw [List.getElem?_set, ifp rfl, ifp]
      rw [zpa _ i hxs, itn, List.drop_set_of_lt (by omega), s4, hd, ed]; omega
    · intro k hk; rw [List.getElem?_set, ifn]; exact s5 k (by omega)
    · show ((i : Int) - 1 + 1).toNat < ((i : Int) + 1).toNat; omega)
  (N := N) (s := (A, dg b, List.replicate A.length 0, [], (A.length : Int) - 1)) ⟨List.replicate A.length 0, A.length, by rw [zit (Nat.le_refl _), Nat.zero_mod, zkw], by omega, lnr, zqc _, by rw [zit (Nat.le_refl _), Nat.zero_div, zit (by rw [lnr]; omega)], fun k hk => by rw [List.getElem?_replicate, ifp hk]⟩ (by show ((A.length : Int) - 1 + 1).toNat < N; omega)
 obtain ⟨o1, o2, o3, o4⟩ := h2
 rw [h1]
 simp only [obs]
 rw [zqz N _ o1 (by omega) (by omega), o3, o4]
 rfl
theorem zu7 (k : Nat) (hk : k ≤ 100) : zgh (k : Int) = some (dg (10 ^ k)) := by
 unfold zgh
 rw [ifp, ifp, zax (by omega), ctr, itn, lnr, zax (by simp only [lnc, ln0]; omega), ctr]
 congr 1
 have h1 : dok (List.replicate k (0 : Int) ++ [1]) := zpb (zqc k) (by decide) (by decide)
 have h2 : dv (List.replicate k (0 : Int) ++ [1]) = 10 ^ k := by rw [zny, zrm, lnr]; simp
 rw [← h2]
 refine (zzv h1 ?_).symm
 unfold znl
 rw [List.getLast?_append]
 simp
def zx9 (p q : Nat) (half : Bool) : Nat := p / q + cond (half && decide (q ≤ p % q + p % q)) 1 0
theorem z9x (N : Nat) (hN : 4000 < N) (s : Bool) (p q : Nat) (hp : p ≤ 10 ^ 100) (hq : 0 < q) (hq2 : q ≤ 10 ^ 100) (k : Nat) (hk : k ≤ 15) (half : Bool) :
 ∃ v, zj9 N ⟨⟨s, dg p⟩, dg q⟩ (k : Int) half = some ⟨v, dg (zx9 (p * 10 ^ k) q half)⟩ ∧ (zx9 (p * 10 ^ k) q half ≠ 0 → v = s) := by
 have hs : p * 10 ^ k ≤ 10 ^ 100 * 10 ^ 15 := Nat.mul_le_mul hp (zca hk)
 have h115 : (10 : Nat) ^ 100 * 10 ^ 15 < 10 ^ 400 := by decide
 have h4 : (10 : Nat) ^ 400 < 10 ^ 900 := by decide
 have h14 : (10 : Nat) ^ 100 < 10 ^ 400 := by decide
 have hr := Nat.mod_lt (p * 10 ^ k) hq
 have hdl := Nat.div_le_self (p * 10 ^ k) q
 have lp : (dg p).length ≤ 101 := (zho p 101).2 (by have : (10 : Nat) ^ 100 < 10 ^ 101 := (by decide); omega)
 unfold zj9
 rw [ifp, ifp, zax (by omega), ctr, itn, lnr, zax (by show (k + (dg p).length) * 8 ≤ 1000000; omega), ctr]
 have hd : dok (List.replicate k (0 : Int) ++ dg p) := zuc (zqc k) (zj6 p)
 have hv : dv (List.replicate k (0 : Int) ++ dg p) = p * 10 ^ k := by rw [zr9, zrm, zkk, lnr, Nat.zero_add, Nat.mul_comm]
 show ∃ v, ((zb4 N (List.replicate k (0 : Int) ++ dg p)).bind _) = _ ∧ _
 rw [zqz N _ hd (by rw [lna, lnr]; omega) (by rw [lna, lnr]; omega), hv]
 simp only [obs]
 rw [zy9 N hN _ q (by omega) hq (by omega)]
 simp only [obs]
 rw [zx1 N hN _ _ (by omega) (by omega)]
 simp only [obs]
 rw [zx2 N hN _ q (by omega) (by omega)]
 simp only [obs, zsz]
 have kk : (cond half (some (decide (q ≤ p * 10 ^ k % q + p * 10 ^ k % q))) (some false)) = some (half && decide (q ≤ p * 10 ^ k % q + p * 10 ^ k % q)) := by cases half <;> rfl
 rw [kk, obs]
 unfold zx9
 cases (half && decide (q ≤ p * 10 ^ k % q + p * 10 ^ k % q)) with
 | true =>
  rw [ctr, ctr, show ([1] : List Int) = dg 1 by rw [zoj (by decide), show 1 / 10 = 0 from rfl, zkw]; rfl, zx1 N hN _ 1 (by omega) (by omega)]; simp only [obs, zq2]; refine ⟨s && decide (p * 10 ^ k / q + 1 ≠ 0), by cases s <;> rfl, fun h => ?_⟩; rw [dct h, Bool.and_true]
 | false =>
  rw [cfa, cfa]; simp only [obs, zq2, Nat.add_zero]; refine ⟨s && decide (p * 10 ^ k / q ≠ 0), by cases s <;> rfl, fun h => ?_⟩; rw [dct h, Bool.and_true]
theorem z9z (N : Nat) (hN : 4000 < N) (v : Bool) (m : Nat) (hm : m < 10 ^ 16) : zda N ⟨v, dg m⟩ = some (sgn v m) := by
 have lm : (dg m).length ≤ 16 := (zho m 16).2 hm
 have hA := zj6 m
 have vA := zkk m
 unfold zda
 generalize dg m = A at *
 have lp := zbm (f := zda.r0 N) (fun i => (((dv (A.drop (A.length - i)) : Nat) : Int), (A.length : Int) - 1 - (i : Int), (⟨v, A⟩ : zI))) A.length
  (fun i hi => by
   obtain ⟨x, hx⟩ : ∃ x, A[A.length - 1 - i]? = some x := zew (by omega); obtain ⟨x0, x1⟩ := zqd hA hx; have hd := zpa A _ hx; rw [show A.length - 1 - i + 1 = A.length - i by omega] at hd; have hb := zzt (zaas hA (A.length - i)); have hb2 : 10 ^ (A.drop (A.length - i)).length ≤ 10 ^ 16 := zca (by rw [List.length_drop]; omega); simp only [zda.r0, zda.b0, dct (show (A.length : Int) - 1 - (i : Int) ≥ 0 by omega), ctr]; rw [show (A.length : Int) - 1 - (i : Int) = ((A.length - 1 - i : Nat) : Int) by omega, zan, hx]; simp only [obs]; rw [w6e (n := 10 * ((dv (A.drop (A.length - i)) : Nat) : Int)), w6e (n := 10 * ((dv (A.drop (A.length - i)) : Nat) : Int) + x), w6e, show A.length - (i + 1) = A.length - 1 - i by omega, hd]
   congr 3
   · omega
   · congr 1
     omega)
  (by simp only [zda.r0, zda.b0, dcf (show ¬ (A.length : Int) - 1 - (A.length : Int) ≥ 0 by omega), cfa]) (N := N) (by omega)
 simp only [Nat.sub_zero, nc0, Int.sub_zero, Nat.sub_self, dr0, zit (Nat.le_refl A.length), vA] at lp
 show ((zm (zda.r0 N) N (0, w6 ((A.length : Int) - 1), (⟨v, A⟩ : zI))).bind _) = _
 rw [w6e, lp]
 simp only [obs]
 unfold sgn
 cases v
 · rfl
 · rw [ctr, ctr, w6e, Int.zero_sub]
theorem z7z (N : Nat) (hN : 4000 < N) (s : Bool) (p q : Nat) (hp : p ≤ 10 ^ 100) (hq : 0 < q) (hq2 : q ≤ 10 ^ 100) {t : DataType} (ht : ziy t) (half : Bool) :
 ∃ n e, zi2 N ⟨⟨s, dg p⟩, dg q⟩ t half = some (n, e) ∧ ((⟨n, ⟨#[]⟩⟩ : Value), e) = ziq s p q t half := by
 obtain ⟨⟨l1, l2⟩, l3, l4⟩ := zgo ht
 obtain ⟨v, h1, h2⟩ := z9x N hN s p q hp hq hq2 t.Scale.toNat (by omega) half
 rw [Int.toNat_of_nonneg l3] at h1
 unfold zi2
 show ∃ n e, ((zj9 N ⟨⟨s, dg p⟩, dg q⟩ t.Scale half).bind _) = _ ∧ _
 rw [h1]
 simp only [obs]
 have hl := zho (zx9 (p * 10 ^ t.Scale.toNat) q half) t.Length.toNat
 have e : ziq s p q t half = if 10 ^ t.Length.toNat ≤ zx9 (p * 10 ^ t.Scale.toNat) q half then (⟨0, ⟨#[]⟩⟩, 19) else (⟨sgn s (zx9 (p * 10 ^ t.Scale.toNat) q half), ⟨#[]⟩⟩, 0) := rfl
 rw [e]
 generalize zx9 (p * 10 ^ t.Scale.toNat) q half = Q at *
 by_cases h : 10 ^ t.Length.toNat ≤ Q
 · rw [ifp h]; have : ¬ (dg Q).length ≤ t.Length.toNat := fun h3 => by have := hl.1 h3; omega
   rw [dct (by omega)]; exact ⟨_, _, rfl, rfl⟩
 · rw [ifn h]; have : (dg Q).length ≤ t.Length.toNat := hl.2 (by omega); have hQ : Q < 10 ^ 16 := Nat.lt_of_lt_of_le (by omega : Q < 10 ^ t.Length.toNat) (zca (by omega)); rw [dcf (by omega), cfa, z9z N hN v Q hQ]; refine ⟨_, _, rfl, ?_⟩
   congr 2
   unfold sgn
   by_cases h0 : Q = 0
   · rw [h0]; cases v <;> cases s <;> rfl
   · rw [h2 h0]
theorem zuk {t : DataType} (ht : ziy t) : zfo t = some 0 := by
 obtain ⟨h0, h1, h2⟩ := ht
 unfold zfo
 rw [zz6, h0]
 simp only [obs, bsf, cfa]
 rw [zto, za6.2 ⟨h1, h2⟩]
 simp only [obs, zhq]
 decide
theorem zab8 (N : Nat) (hN : 4000 < N) {x : Number} (hx : zc6 x) {t : DataType} (ht : ziy t) (half : Bool) : zg4 N x t half = some (zmp x t half) := by
 have hx' := hx
 obtain ⟨⟨h1, h2⟩, h3, h4⟩ := hx'
 unfold zg4 zjj
 rw [zpw, zkt.2 hx]
 simp only [obs, bsf, cfa, eN]
 rw [zuk ht]
 simp only [obs, bsf, cfa]
 have e1 := zu9 N (by omega) x.N ⟨by omega, by omega⟩ 0 (by omega)
 rw [Nat.pow_zero, Nat.mul_one, nc0] at e1
 have e2 := zu7 x.Scale.toNat (by omega)
 rw [Int.toNat_of_nonneg h3] at e2
 rw [e1, obs, e2, obs]
 simp only [obs]
 have hp : x.N.natAbs ≤ 10 ^ 100 := Nat.le_trans (show x.N.natAbs ≤ 10 ^ 15 by omega) (by decide)
 obtain ⟨n, e, g1, g2⟩ := z7z N hN (decide (x.N < 0)) x.N.natAbs (10 ^ x.Scale.toNat) hp (zcg _) (zca (by omega)) ht half
 show ((zi2 N ⟨⟨decide (x.N < 0), dg x.N.natAbs⟩, dg (10 ^ x.Scale.toNat)⟩ t half).bind _) = _
 rw [g1]
 simp only [obs]
 rw [g2]
 rfl
theorem z2z {n : Nat} (h : n ≤ 10 ^ 31) : n ≤ 10 ^ 100 := Nat.le_trans h (by decide)
theorem z2t (s : Bool) (p q : Nat) (hq : 0 < q) (t : DataType) (half : Bool) : ziq s p q t half = z0a (sgn s p) q t half := z2u s p q hq t half
theorem zab9 (N : Nat) (hN : 4000 < N) {op : Int} (hop : 0 ≤ op ∧ op ≤ 4) {a b : Number} (ha : zc6 a) (hb : zc6 b) {t : DataType} (ht : ziy t) (half : Bool) : zdk N ⟨op, t, half⟩ a b = some (zhm op a b t half) := by
 obtain ⟨s1, s2, s3, s4⟩ := zmh ha hb
 have la := zi1 ha s4
 have lb := zi1 hb s4
 have ha' := ha
 have hb' := hb
 obtain ⟨⟨a1, a2⟩, a3, a4⟩ := ha'
 obtain ⟨⟨b1, b2⟩, b3, b4⟩ := hb'
 have zb := zw3 b (zi a b)
 have ga := zqo a (zi a b)
 have gb := zqo b (zi a b)
 have q1 : 10 ^ (zi a b).toNat ≤ 10 ^ 100 := zca (by omega)
 unfold zdk
 simp only [eD]
 rw [zgy, za6.2 hop]
 simp only [obs, bnt, cfa]
 rw [zpw, zpw, zkt.2 ha, zkt.2 hb]
 simp only [obs, bsf, cfa]
 rw [zuk ht]
 simp only [obs, bsf, cfa, eN]
 have fin : ∀ (s : Bool) (p q : Nat), p ≤ 10 ^ 100 → 0 < q → q ≤ 10 ^ 100 → ((zi2 N ⟨⟨s, dg p⟩, dg q⟩ t half).bind fun r6 => some ((⟨r6.1, (⟨#[]⟩ : ByteArray)⟩ : Value), r6.2)) = some (ziq s p q t half) := fun s p q hp hq hq2 => by
  obtain ⟨n, e, g1, g2⟩ := z7z N hN s p q hp hq hq2 ht half; rw [g1, obs, g2]
 unfold zl3
 rw [zw8 N (by omega) ha hb]
 simp only [obs, z3c]
 have ep := zu7 (zi a b).toNat (by omega)
 rw [Int.toNat_of_nonneg s3] at ep
 have g : (cond (op == 3) (some true) (some (op == 4))) = some (decide (op = 3 ∨ op = 4)) := by
  rw [zar, zar]
  by_cases h : op = 3
  · rw [dct h, dct (show op = 3 ∨ op = 4 by omega)]; rfl
  · rw [dcf h]
    by_cases h2 : op = 4
    · rw [dct h2, dct (show op = 3 ∨ op = 4 by omega)]; rfl
    · rw [dcf h2, dcf (show ¬ (op = 3 ∨ op = 4) by omega)]; rfl
 rw [g]
 simp only [obs]
 have hbz : (zal b (zi a b)).natAbs = 0 ↔ b.N = 0 := by
  rw [Int.natAbs_eq_zero]; exact zb
 rw [show (cond (decide (op = 3 ∨ op = 4)) (some (decide ((zal b (zi a b)).natAbs = 0))) (some false)) = some (decide ((op = 3 ∨ op = 4) ∧ b.N = 0)) by
  by_cases h : op = 3 ∨ op = 4
  · rw [dct h, ctr]; congr 1; rw [decide_eq_decide]; constructor
    · intro h2; exact ⟨h, hbz.1 h2⟩
    · intro h2; exact hbz.2 h2.2
  · rw [dcf h, cfa, dcf (fun h2 => h h2.1)]]
 simp only [obs]
 unfold zhm
 by_cases hz : (op = 3 ∨ op = 4) ∧ b.N = 0
 · rw [dct hz, ifp hz]; rfl
 · rw [dcf hz, ifn hz, cfa]
   by_cases o0 : op = 0
   · obtain ⟨v, m, h1, h2, h3⟩ := z2h N hN (decide (a.N < 0)) (decide (b.N < 0)) _ _ (p30 la) (p30 lb); rw [ga, gb] at h2; rw [ifp o0, o0]; simp only [show ((0 : Int) == 1) = false from rfl, show ((0 : Int) == 2) = false from rfl, show ((0 : Int) == 3) = false from rfl, show ((0 : Int) == 4) = false from rfl, cfa]; rw [h1]; simp only [obs]; rw [ep]; simp only [obs, bsf, cfa]; rw [fin v m _ (z2z (by omega)) (zcg _) q1, z2t _ _ _ (zcg _), h2]
   · rw [ifn o0]
     by_cases o1 : op = 1
     · rw [ifp o1, zar, dct o1, ctr]; have hneg : (cond (!decide (b.N < 0)) (some (decide ((((dg (zal b (zi a b)).natAbs).length : Nat) : Int) > 0))) (some false)) = some (!decide (b.N < 0) && decide ((zal b (zi a b)).natAbs ≠ 0)) := by
        rw [zq2]; cases decide (b.N < 0) <;> rfl
       rw [hneg]; simp only [obs]; obtain ⟨v, m, h1, h2, h3⟩ := z2h N hN (decide (a.N < 0)) (!decide (b.N < 0) && decide ((zal b (zi a b)).natAbs ≠ 0)) _ _ (p30 la) (p30 lb); have gb2 : sgn (!decide (b.N < 0) && decide ((zal b (zi a b)).natAbs ≠ 0)) (zal b (zi a b)).natAbs = -zal b (zi a b) := by
        by_cases h0 : (zal b (zi a b)).natAbs = 0
        · have h00 := Int.natAbs_eq_zero.1 h0; rw [h0, dcf (show ¬ (0 : Nat) ≠ 0 by omega), Bool.and_false, h00]; rfl
        · rw [dct h0, Bool.and_true, z47, gb]
       rw [ga, gb2] at h2; rw [h1]; simp only [obs]; rw [ep]; simp only [obs, bsf, cfa]; rw [fin v m _ (z2z (by omega)) (zcg _) q1, z2t _ _ _ (zcg _), h2, Int.sub_eq_add_neg]
     · rw [ifn o1, zar, dcf o1, cfa]
       by_cases o2 : op = 2
       · rw [ifp o2, zar, dct o2, ctr]; have p90 : ∀ n : Nat, n ≤ 10 ^ 30 → n < 10 ^ 90 := fun n h => Nat.lt_of_le_of_lt h (by decide); rw [z6a N hN _ _ _ _ (p90 _ la) (p90 _ lb)]; simp only [obs]; have e2 := zu7 (2 * zi a b).toNat (by omega); rw [Int.toNat_of_nonneg (by omega)] at e2; rw [w6e, e2]; simp only [obs, bsf, cfa]; have hm : (zal a (zi a b)).natAbs * (zal b (zi a b)).natAbs ≤ 10 ^ 100 := Nat.le_trans (Nat.mul_le_mul la lb) (by decide); rw [fin _ _ _ hm (zcg _) (zca (by omega))]; have e3 : (zal a (zi a b)).natAbs * (zal b (zi a b)).natAbs = a.N.natAbs * b.N.natAbs * 10 ^ ((zi a b - a.Scale).toNat + (zi a b - b.Scale).toNat) := by
          rw [ziv, ziv, Nat.mul_mul_mul_comm, ← Nat.pow_add]
         have e4 : 10 ^ (2 * zi a b).toNat = 10 ^ (a.Scale + b.Scale).toNat * 10 ^ ((zi a b - a.Scale).toNat + (zi a b - b.Scale).toNat) := by
          rw [← Nat.pow_add]; congr 1; omega
         rw [z0y _ (decide (a.N < 0) != decide (b.N < 0)) _ _ (zcg _) _ _ (fun h => by rw [dct h, Bool.and_true]), e3, e4, zzc _ _ _ _ (zcg _) (zcg _)]
       · rw [ifn o2, zar, dcf o2, cfa]
         by_cases o3 : op = 3
         · have hb0 : b.N ≠ 0 := fun h => hz ⟨.inl o3, h⟩; have hbp : 0 < (zal b (zi a b)).natAbs := by
            have : ¬ (zal b (zi a b)).natAbs = 0 := fun h => hb0 (hbz.1 h); omega
           rw [ifp o3, zar, dct o3, ctr]; simp only [obs, bsf, cfa]; rw [fin _ _ _ (z2z (by omega)) hbp (z2z (by omega))]; have hmin : 0 ≤ a.Scale + b.Scale - zi a b := by unfold zi; split <;> omega
           have e3 : a.N.natAbs * 10 ^ b.Scale.toNat = (zal a (zi a b)).natAbs * 10 ^ (a.Scale + b.Scale - zi a b).toNat := by
            rw [ziv, Nat.mul_assoc, ← Nat.pow_add]; congr 2; omega
           have e4 : b.N.natAbs * 10 ^ a.Scale.toNat = (zal b (zi a b)).natAbs * 10 ^ (a.Scale + b.Scale - zi a b).toNat := by
            rw [ziv, Nat.mul_assoc, ← Nat.pow_add]; congr 2; omega
           rw [e3, e4, zzc _ _ _ _ (zcg _) hbp]; rfl
         · have hb0 : b.N ≠ 0 := fun h => hz ⟨by omega, h⟩; have hbp : 0 < (zal b (zi a b)).natAbs := by
            have : ¬ (zal b (zi a b)).natAbs = 0 := fun h => hb0 (hbz.1 h); omega
           have p400 : ∀ n : Nat, n ≤ 10 ^ 30 → n < 10 ^ 400 := fun n h => Nat.lt_of_le_of_lt h (by decide); have hm := Nat.mod_lt (zal a (zi a b)).natAbs hbp; rw [ifn o3, zar, dcf o3, cfa, zar, dct (show op = 4 by omega), ctr, zy9 N hN _ _ (p400 _ la) hbp (p400 _ lb)]; simp only [obs]; rw [ep]; simp only [obs, bsf, cfa]; rw [fin _ _ _ (z2z (by omega)) (zcg _) q1]
theorem zwg (N : Nat) (hN : 2000 < N) {s : Storage} (h : ziu s) {a : Int} (ha : ze3 s a = true) :
 zeh N s a = some (match ldV s a with | some o => (zid o, 0) | none => (zyr, 22)) := by
 obtain ⟨a1, a2, a3⟩ := zka ha
 have hl := h.le
 have hq := h.quad
 have ht := h.tags
 unfold zeh
 rw [zz7 h.ok, ha]
 simp only [obs, bnt, cfa]
 have ed : w6 (a.tdiv 16) = (((a / 16).toNat : Nat) : Int) := by
  rw [tde a1, w6e]; omega
 have hi : (a / 16).toNat < s.Tags.length := by omega
 rw [ed, zan, lge hi]
 simp only [obs]
 unfold ldV
 rw [lge hi]
 cases hb : s.Tags[(a / 16).toNat] with
 | false => rfl
 | true =>
  simp only [bnt, cfa, if_true]; unfold ziw; rw [w6e (n := (((a / 16).toNat : Nat) : Int) * 16), w6e, ifp, ifp]; simp only [obs]; have e : s.Bytes.extract ((((a / 16).toNat : Nat) : Int) * 16).toNat ((((a / 16).toNat : Nat) : Int) * 16 + 16).toNat = s.Bytes.extract (16 * (a / 16).toNat) (16 * (a / 16).toNat + 16) := by
   rw [show ((((a / 16).toNat : Nat) : Int) * 16).toNat = 16 * (a / 16).toNat by omega, show ((((a / 16).toNat : Nat) : Int) * 16 + 16).toNat = 16 * (a / 16).toNat + 16 by omega]
  rw [e, z2k N (by omega) _ (by rw [zcp _ _ _ (by omega) (by omega)]; omega), zkq]; obtain ⟨off, _, h2⟩ := h.ptr (a / 16).toNat (by rw [lge hi, hb]); rw [h2]; rfl
theorem z5d {s : Storage} (h : s.Tags.length ≤ 100000) : zdi s = some s := by
 unfold zdi zh3
 rw [zax (by omega)]
 rfl
theorem zxy (N : Nat) (hN : 2000 < N) {s : Storage} (h : ziu s) {a : Nat} {d : ByteArray} (hd : a + d.size ≤ s.Bytes.size) (hd0 : 0 < d.size) : zbf N s (a : Int) d = some (wrV s a d) := by
 have hl := h.le
 have hq := h.quad
 have ht := h.tags
 have hmax : IntKind.i64.max = 9223372036854775807 := by decide
 unfold zbf zmd
 rw [z5d (by omega), hmax]
 simp only [obs]
 have z1 : (s.Bytes.extract (0 : Int).toNat (a : Int).toNat).size = a := by rw [zcp _ _ _ (by omega) (by omega)]; omega
 rw [ifp, ifp, ifn (by rw [z1]; omega), w6e (n := (a : Int) + (d.size : Int)), ifp]
 have z2 : (s.Bytes.extract ((a : Int) + (d.size : Int)).toNat s.Bytes.size).size = s.Bytes.size - (a + d.size) := by rw [zcp _ _ _ (by omega) (by omega)]; omega
 rw [ifn (by rw [z2, bsa, z1]; omega)]
 simp only [obs]
 have f1 : ((s.Bytes.extract (0 : Int).toNat (a : Int).toNat) ++ d) ++ (s.Bytes.extract ((a : Int) + (d.size : Int)).toNat s.Bytes.size) = (wrV s a d).Bytes := by
  refine zg9 ?_; rw [zdd, zdd, zey, zey, show (0 : Int).toNat = 0 from rfl, dr0, show ((a : Int) + (d.size : Int)).toNat = a + d.size by omega, ← zao s.Bytes, List.take_length, itn]; rfl
 rw [f1]
 have lp := zbm (f := zbf.r0 N) (fun i => ((a : Int), d, (i : Int), (⟨⟨#[]⟩, []⟩ : Storage), (⟨(wrV s a d).Bytes, if i = 0 then s.Tags else clr s.Tags a i⟩ : Storage))) d.size
  (fun i hi => by
   have hlen : (if i = 0 then s.Tags else clr s.Tags a i).length = s.Tags.length := by split <;> simp [zwr]
   have ei : w6 ((w6 ((a : Int) + (i : Int))).tdiv 16) = (((a + i) / 16 : Nat) : Int) := by
    rw [w6e (n := (a : Int) + (i : Int)), tde, w6e]; omega
   simp only [zbf.r0, zbf.b0, dct (show (i : Int) < (d.size : Int) by omega), ctr, ei, hlen]; rw [ifp, ifp, itn]; obtain ⟨x, hx⟩ : ∃ x, (if i = 0 then s.Tags else clr s.Tags a i)[(a + i) / 16]? = some x := zew (by omega); rw [hx]; simp only [obs]; rw [w6e]; have e2 : (if i = 0 then s.Tags else clr s.Tags a i).set ((a + i) / 16) false = clr s.Tags a (i + 1) := by
    refine List.ext_getElem? fun k => ?_; rw [zws, List.getElem?_set, hlen]; have hc : (if i = 0 then s.Tags else clr s.Tags a i)[k]? = if i ≠ 0 ∧ 16 * k < a + i ∧ a < 16 * k + 16 then (if k < s.Tags.length then some false else none) else s.Tags[k]? := by
     by_cases h0 : i = 0
     · rw [ifp h0, ifn]
     · rw [ifn h0, zws]
       by_cases h1 : 16 * k < a + i ∧ a < 16 * k + 16
       · rw [ifp h1, ifp (show i ≠ 0 ∧ 16 * k < a + i ∧ a < 16 * k + 16 from ⟨h0, h1⟩)]
       · rw [ifn h1, ifn (fun h => h1 h.2)]
    rw [hc]
    by_cases hk : (a + i) / 16 = k
    · rw [ifp hk, ifp (show (a + i) / 16 < s.Tags.length by omega), ifp (show 16 * k < a + (i + 1) ∧ a < 16 * k + 16 by omega), ifp]
    · rw [ifn hk]
      by_cases h1 : i ≠ 0 ∧ 16 * k < a + i ∧ a < 16 * k + 16
      · rw [ifp h1, ifp (show 16 * k < a + (i + 1) ∧ a < 16 * k + 16 by omega)]
      · rw [ifn h1, ifn (show ¬ (16 * k < a + (i + 1) ∧ a < 16 * k + 16) by omega)]
   rw [e2, ifn (show ¬ i + 1 = 0 by omega)]; rfl)
  (by simp only [zbf.r0, zbf.b0, dcf (show ¬ (d.size : Int) < (d.size : Int) by omega), cfa]) (N := N) (by omega)
 simp only [if_true, nc0] at lp
 rw [lp, ifn (show ¬ d.size = 0 by omega)]
 rfl
theorem z4s (N : Nat) (hN : 200 < N) (off : Nat) (h : off ≤ 16777215) : zlh N (zid off) = some (pbV off) := by
 unfold zlh zid
 have b := fun v k hv hk => zsk N (by omega) v k hv hk
 have hmax : IntKind.i64.max = 9223372036854775807 := by decide
 have sz : ∀ v k, (zdf (zbl v k)).size = k := fun v k => by
  show (bl (zdf (zbl v k))).length = k; rw [zgt, lnm, zyp]
 rw [show zas N 0 1 = _ from b 0 1 (by decide) (by decide), show zas N 0 2 = _ from b 0 2 (by decide) (by decide), show zas N 1 6 = _ from b 1 6 (by decide) (by decide), show zas N (off : Int) 6 = _ from b off 6 (by omega) (by decide), hmax]
 simp only [obs]
 have z0 : (⟨#[0]⟩ : ByteArray).size = 1 := rfl
 rw [ifn (by rw [sz, z0]; decide), ifn (by rw [bsa, sz, z0, sz]; decide), ifn (by rw [bsa, bsa, sz, z0, sz, sz]; decide), ifn (by rw [bsa, bsa, bsa, sz, z0, sz, sz, sz]; decide)]
 refine congrArg some (zg9 ?_)
 unfold pbV
 rw [zdd, zdd, zdd, zdd, zgt, zgt, zgt, zgt, zgt]
 simp only [List.map_append]
 rfl
theorem zx0 (N : Nat) (hN : 2000 < N) {s : Storage} (h : ziu s) {a : Int} (ha : ze3 s a = true) (off : Nat) (ho : off ≤ 16777215) : ze5 N s a (zid off) = some (stV s a.toNat off) := by
 obtain ⟨a1, a2, a3⟩ := zka ha
 have hl := h.le
 have hq := h.quad
 have ht := h.tags
 have hA : a = ((a.toNat : Nat) : Int) := by omega
 have hw : a.toNat + (pbV off).size ≤ s.Bytes.size := by rw [zk7]; omega
 unfold ze5
 simp only [eS]
 rw [z4s N (by omega) off ho]
 simp only [obs]
 have hp := zxy N hN h hw (by rw [zk7]; omega)
 rw [← hA] at hp
 rw [hp]
 simp only [obs]
 have ed : w6 (a.tdiv 16) = ((a.toNat / 16 : Nat) : Int) := by
  rw [tde a1, w6e]; omega
 have hlen : (wrV s a.toNat (pbV off)).Tags.length = s.Tags.length := zwr _ _ _
 rw [ed, ifp, ifp (by rw [hlen]; omega), itn, lge (by rw [hlen]; omega)]
 rfl
def zk8 (b : ByteArray) (n : Nat) : ByteArray := ⟨((bl b).take n ++ List.replicate (n - b.size) 32).toArray⟩
theorem zvm (b : ByteArray) (n : Nat) : (zk8 b n).size = n := by
 show ((bl b).take n ++ List.replicate (n - b.size) 32).length = n
 rw [lna, lnt, lnr, zao]; omega
theorem z7y (N : Nat) (c : Nat) (hc : c < 256) (n : Nat) (hn : n < N) (hn2 : n ≤ 100000) : zcw N (c : Int) (n : Int) = some ⟨(List.replicate n (UInt8.ofNat c)).toArray⟩ := by
 unfold zcw
 have := zbm (f := zcw.r0 N) (fun i => ((c : Int), (n : Int), List.replicate i (c : Int), (i : Int))) n
  (fun i hi => by
   simp only [zcw.r0, zcw.b0, dct (show (i : Int) < (n : Int) by omega), ctr]; rw [zax (by simp only [lnr, lnc, ln0]; omega), ctr, w6e, ← List.replicate_succ']; rfl)
  (by simp only [zcw.r0, zcw.b0, dcf (show ¬ (n : Int) < (n : Int) by omega), cfa]) hn
 simp only [nc0, List.replicate_zero] at this
 rw [this, obs]
 congr 1
 refine zg9 ?_
 rw [zgt, List.map_replicate]
 rfl
theorem zu8 (N : Nat) (hN : 10000 < N) (b : ByteArray) (hb : b.size ≤ 5000) (n : Nat) (hn : n ≤ 5000) : zea N b (n : Int) = some (zk8 b n) := by
 have hmax : IntKind.i64.max = 9223372036854775807 := by decide
 unfold zea
 by_cases h : n ≤ b.size
 · rw [dct (by omega), ctr, ifp, ifp]
   congr 1
   refine zg9 ?_; rw [zey, show (0 : Int).toNat = 0 from rfl, dr0, itn]; show _ = (bl b).take n ++ List.replicate (n - b.size) 32; rw [show n - b.size = 0 by omega, List.replicate_zero, List.append_nil]
 · rw [dcf (by omega), cfa, w6e, show (n : Int) - (b.size : Int) = ((n - b.size : Nat) : Int) by omega, show (32 : Int) = ((32 : Nat) : Int) from rfl, z7y N 32 (by decide) _ (by omega) (by omega), obs, hmax]; have hs : (⟨(List.replicate (n - b.size) (UInt8.ofNat 32)).toArray⟩ : ByteArray).size = n - b.size := by
    show (List.replicate (n - b.size) (UInt8.ofNat 32)).length = _; rw [lnr]
   rw [ifn (by rw [hs]; omega)]
   congr 1
   refine zg9 ?_; rw [zdd]; show bl b ++ List.replicate (n - b.size) 32 = (bl b).take n ++ List.replicate (n - b.size) 32; rw [List.take_of_length_le (by rw [zao]; omega)]
theorem zsl (c : UInt8) : ∀ n, Lib.repeatL [c] n = List.replicate n c
 | 0 => rfl
 | n + 1 => by show c :: Lib.repeatL [c] n = _; rw [zsl c n, List.replicate_succ]
theorem z3h (b : ByteArray) (hb : b.size ≤ 5000) (n : Nat) (hn : n ≤ 5000) : zd8 b (n : Int) = some ⟨(bl b ++ List.replicate (n - b.size) 32).toArray⟩ := by
 have hmax : IntKind.i64.max = 9223372036854775807 := by decide
 unfold zd8 zoq
 rw [w6e]
 have e : (if (0 : Int) > (n : Int) - (b.size : Int) then 0 else (n : Int) - (b.size : Int)) = ((n - b.size : Nat) : Int) := by split <;> omega
 have hs1 : (⟨#[32]⟩ : ByteArray).size = 1 := rfl
 rw [e, ifp ⟨by omega, by omega, by rw [hs1]; omega⟩, obs, itn, zsl, hmax]
 have hs : (⟨(List.replicate (n - b.size) (32 : UInt8)).toArray⟩ : ByteArray).size = n - b.size := by
  show (List.replicate (n - b.size) (32 : UInt8)).length = _; rw [lnr]
 rw [ifn (by rw [hs]; omega)]
 refine congrArg some (zg9 ?_)
 rw [zdd]
 rfl
theorem z8p (b : ByteArray) (n : Nat) : (⟨(bl b ++ List.replicate (n - b.size) 32).toArray⟩ : ByteArray).extract 0 n = zk8 b n := by
 refine zg9 ?_
 rw [zey, dr0]
 show (bl b ++ List.replicate (n - b.size) 32).take n = (bl b).take n ++ List.replicate (n - b.size) 32
 rw [List.take_append, zao, List.take_replicate, Nat.min_self]
theorem z06 (b : ByteArray) (n : Nat) : (⟨(bl b ++ List.replicate (n - b.size) 32).toArray⟩ : ByteArray) = zk8 b (max b.size n) := by
 refine zg9 ?_
 show bl b ++ List.replicate (n - b.size) 32 = (bl b).take (max b.size n) ++ List.replicate (max b.size n - b.size) 32
 rw [List.take_of_length_le (by rw [zao]; omega), show max b.size n - b.size = n - b.size by omega]
def zv3 (x y : List UInt8) : Int := if Op.bytesLess x y = true then -1 else if x = y then 0 else 1
theorem z33 : ∀ (x y : List UInt8), x.length = y.length → (match (List.range x.length).find? (fun i => x.getD i 0 != y.getD i 0) with | some i => if x.getD i 0 < y.getD i 0 then (-1 : Int) else 1 | none => 0) = zv3 x y
 | [], [], _ => rfl
 | [], _ :: _, h => by cases h
 | _ :: _, [], h => by cases h
 | a :: x, b :: y, h => by
  have ih := z33 x y (by simpa using h); rw [lnc, List.range_succ_eq_map, List.find?_cons]; rw [List.getD_cons_zero, List.getD_cons_zero]
  by_cases hab : a = b
  · subst hab; simp only [bsf]; rw [List.find?_map]; have e : ((fun i => (a :: x).getD i 0 != (a :: y).getD i 0) ∘ Nat.succ) = fun i => x.getD i 0 != y.getD i 0 := by
     funext i
     rfl
    rw [e]; have e2 : zv3 (a :: x) (a :: y) = zv3 x y := by
     unfold zv3; have e3 : Op.bytesLess (a :: x) (a :: y) = Op.bytesLess x y := by
      show (decide (a < a) || (a == a && Op.bytesLess x y)) = _; rw [dcf (UInt8.lt_irrefl a)]; simp
     rw [e3]; simp
    rw [e2, ← ih]; cases (List.range x.length).find? (fun i => x.getD i 0 != y.getD i 0) <;> rfl
  · have hne : (a != b) = true := by simpa using hab
    rw [hne]; simp only [List.getD_cons_zero]; unfold zv3; have e3 : Op.bytesLess (a :: x) (b :: y) = decide (a < b) := by
     show (decide (a < b) || (a == b && Op.bytesLess x y)) = _; rw [show (a == b) = false from beq_eq_false_iff_ne.2 hab, Bool.false_and, Bool.or_false]
    rw [e3]
    by_cases hlt : a < b
    · rw [ifp hlt, ifp (dct hlt)]
    · rw [ifn hlt, ifn (by rw [dcf hlt]; decide), ifn (by intro h; exact hab (List.cons.inj h).1)]
theorem zae3 {a b : ByteArray} (h : a.size = b.size) : Extern.BytealgCompare.cmp a b = zv3 (bl a) (bl b) := by
 unfold Extern.BytealgCompare.cmp
 rw [← z33 (bl a) (bl b) (by rw [zao, zao, h]), zao, show min a.size b.size = a.size by omega]
 have g : ∀ (c : ByteArray) (i : Nat), i < c.size → c[i]! = (bl c).getD i 0 := fun c i hi => by
  rw [getElem!_pos c i hi, gdd, lge (by rw [zao]; exact hi)]; rfl
 have e : (List.range a.size).find? (fun i => a[i]! != b[i]!) = (List.range a.size).find? (fun i => (bl a).getD i 0 != (bl b).getD i 0) := by
  have key : ∀ l : List Nat, (∀ i ∈ l, i < a.size) → l.find? (fun i => a[i]! != b[i]!) = l.find? (fun i => (bl a).getD i 0 != (bl b).getD i 0) := by
   intro l
   induction l with
   | nil => intro _; rfl
   | cons i l ih =>
    intro hl; have hi := hl i List.mem_cons_self; rw [List.find?_cons, List.find?_cons, g a i hi, g b i (by omega), ih fun j hj => hl j (List.mem_cons_of_mem _ hj)]
  exact key _ fun i hi => List.mem_range.1 hi
 rw [e]
 cases hf : (List.range a.size).find? (fun i => (bl a).getD i 0 != (bl b).getD i 0) with
 | none => simp only []; rw [ifn, ifn]
 | some i =>
  have hi := List.mem_range.1 (List.mem_of_find?_eq_some hf); simp only []; rw [g a i hi, g b i (by omega)]
def zok (o : Int) : Int := if o < 0 then 1 else if o = 0 then 2 else 4
theorem z3i (o : Int) : zeq o = some (zok o) := by
 unfold zeq zok
 by_cases h : o < 0
 · rw [dct h, ifp h]; rfl
 · rw [dcf h, ifn h, cfa]
   by_cases h2 : o = 0
   · rw [dcf (by omega), ifp h2]; rfl
   · rw [dct (by omega), ifn h2]; rfl
theorem zq8 (o : Int) : zdh o = some (zok o) := by
 unfold zdh zok
 by_cases h : o < 0
 · rw [dct h, ifp h]; rfl
 · rw [dcf h, ifn h, cfa, zar]
   by_cases h2 : o = 0
   · rw [dct h2, ifp h2]; rfl
   · rw [dcf h2, ifn h2]; rfl
def zn3 (a b : ByteArray) : Int := zok (zv3 (bl (zk8 a (max a.size b.size))) (bl (zk8 b (max a.size b.size))))
theorem zyi (a b : ByteArray) (ha : a.size ≤ 5000) (hb : b.size ≤ 5000) : zcu a b = some (zn3 a b) := by
 unfold zcu zjy zd7
 rw [z3h a ha b.size hb, z3h b hb a.size ha]
 simp only [obs]
 rw [z06, z06, Nat.max_comm b.size a.size, zae3 (by rw [zvm, zvm]), z3i]
 rfl
theorem zxz (N : Nat) (hN : 10000 < N) (a b : ByteArray) (ha : a.size ≤ 5000) (hb : b.size ≤ 5000) : zgf N a b = some (zn3 a b) := by
 unfold zgf
 have e : (if (b.size : Int) > (a.size : Int) then (b.size : Int) else (a.size : Int)) = ((max a.size b.size : Nat) : Int) := by split <;> omega
 rw [e, zu8 N hN a ha _ (by omega), zu8 N hN b hb _ (by omega)]
 simp only [obs]
 rw [zru, zru, zhq, zhq]
 simp only [obs]
 unfold zn3 zv3
 generalize bl (zk8 a (max a.size b.size)) = x
 generalize bl (zk8 b (max a.size b.size)) = y
 cases hx : Op.bytesLess x y with
 | true =>
  rw [ifp rfl]; simp only [Bool.true_or, bnt, cfa, ctr]; rw [show w6 ((0 : Int) - 1) = -1 by decide, zq8]; rfl
 | false =>
  rw [ifn (by decide)]; simp only [Bool.false_or, cfa]
  by_cases hxy : x = y
  · rw [hxy, ifp rfl]; simp only [bst, bnt, cfa]; rw [show w6 ((0 : Int) - 0) = 0 by decide, zq8]; rfl
  · rw [ifn hxy, show (x == y) = false from beq_eq_false_iff_ne.2 hxy]; simp only [Bool.not_false, ctr]; rw [show w6 ((1 : Int) - 0) = 1 by decide, zq8]; rfl
theorem zads (x : Int) (i : Nat) : (x.tdiv (10 ^ i)).tdiv 10 = x.tdiv (10 ^ (i + 1)) := by
 have key : ∀ m : Nat, ((m : Int).tdiv (10 ^ i)).tdiv 10 = (m : Int).tdiv (10 ^ (i + 1)) := fun m => by
  rw [show (10 : Int) ^ i = ((10 ^ i : Nat) : Int) by rw [Int.natCast_pow]; rfl, show (10 : Int) ^ (i + 1) = ((10 ^ (i + 1) : Nat) : Int) by rw [Int.natCast_pow]; rfl, ← Int.ofNat_tdiv, ← Int.ofNat_tdiv, show (10 : Int) = ((10 : Nat) : Int) from rfl, ← Int.ofNat_tdiv, Nat.div_div_eq_div_mul, Nat.pow_succ]
 obtain ⟨m, rfl | rfl⟩ := Int.eq_nat_or_neg x
 · exact key m
 · rw [Int.neg_tdiv, Int.neg_tdiv, key m, Int.neg_tdiv]
def zgb (x : Number) : Int := x.N.tdiv (10 ^ x.Scale.toNat)
theorem zuw {x : Number} (hx : zc6 x) : -999999999999999 ≤ zgb x ∧ zgb x ≤ 999999999999999 := by
 obtain ⟨⟨h1, h2⟩, _⟩ := hx
 have h := Int.natAbs_tdiv_le_natAbs x.N (10 ^ x.Scale.toNat)
 unfold zgb
 omega
theorem z3f (N : Nat) (hN : 100 < N) {x : Number} (hx : zc6 x) : zbw N x = some (zgb x) := by
 have hx' := hx
 obtain ⟨⟨h1, h2⟩, h3, h4⟩ := hx'
 unfold zbw
 obtain ⟨k, hk⟩ : ∃ k : Nat, x.Scale = (k : Int) := ⟨x.Scale.toNat, by omega⟩
 have := zbm (f := zbw.r0 N) (fun i => (x.Scale, (i : Int), (⟨x.N.tdiv (10 ^ i), x.Scale⟩ : Number))) k
  (fun i hi => by
   have hb := Int.natAbs_tdiv_le_natAbs x.N (10 ^ i); have hb2 := Int.natAbs_tdiv_le_natAbs (x.N.tdiv (10 ^ i)) 10; simp only [zbw.r0, zbw.b0, hk, dct (show (i : Int) < (k : Int) by omega), ctr]; rw [w6e (n := (i : Int) + 1), w6e, zads]; rfl)
  (by simp only [zbw.r0, zbw.b0, hk, dcf (show ¬ (k : Int) < (k : Int) by omega), cfa]) (N := N) (by omega)
 simp only [nc0, Int.pow_zero, Int.tdiv_one, eN] at this
 rw [this]
 show some (x.N.tdiv (10 ^ k)) = some (zgb x)
 unfold zgb
 rw [hk, itn]
theorem zy7 (N : Nat) (hN : 100 < N) {x : Number} (hx : zc6 x) : zge N x = some (zgb x) := by
 have hw := zuw hx
 obtain ⟨⟨h1, h2⟩, h3, h4⟩ := hx
 unfold zge
 have hp := z2i N hN x.Scale.toNat (by omega)
 rw [Int.toNat_of_nonneg h3] at hp
 have hpos := zcg x.Scale.toNat
 rw [hp, obs, ifn, show ((10 ^ x.Scale.toNat : Nat) : Int) = 10 ^ x.Scale.toNat by rw [Int.natCast_pow]; rfl]
 show some (w6 (zgb x)) = _
 rw [w6e]
def zmv (m scale : Nat) : List UInt8 := List.replicate (scale + 1 - (Lib.decDigits m).length) 48 ++ Lib.decDigits m
def ptT (l : List UInt8) (scale : Nat) : List UInt8 := if 0 < scale then l.take (l.length - scale) ++ [46] ++ l.drop (l.length - scale) else l
def sgT (n : Int) (l : List UInt8) : ByteArray := ⟨(if n < 0 then [45] ++ l else l).toArray⟩
def zph (x : Number) : ByteArray := sgT x.N (ptT (zmv x.N.natAbs x.Scale.toNat) x.Scale.toNat)
theorem z3m {x : Number} (h0 : 0 ≤ x.Scale) (B : ByteArray) (h1 : x.Scale < (B.size : Int)) (h2 : B.size ≤ 100) :
 ((cond (decide (x.Scale > 0))
 (if 0 ≤ (w6 ((B.size : Int) - x.Scale)) ∧ (w6 ((B.size : Int) - x.Scale)) ≤ (B.size : Int) then (if 0 ≤ (0 : Int) ∧ (0 : Int) ≤ (w6 ((B.size : Int) - x.Scale)) then (if (((B.extract (0 : Int).toNat (w6 ((B.size : Int) - x.Scale)).toNat).size + (⟨#[46]⟩ : ByteArray).size : Nat) : Int) > IntKind.i64.max then none else if 0 ≤ (w6 ((B.size : Int) - x.Scale)) ∧ (w6 ((B.size : Int) - x.Scale)) ≤ (B.size : Int) then (if ((((B.extract (0 : Int).toNat (w6 ((B.size : Int) - x.Scale)).toNat) ++ (⟨#[46]⟩ : ByteArray)).size + (B.extract (w6 ((B.size : Int) - x.Scale)).toNat B.size).size : Nat) : Int) > IntKind.i64.max then none else cond (decide (x.N < 0))
 (if (((⟨#[45]⟩ : ByteArray).size + (((B.extract (0 : Int).toNat (w6 ((B.size : Int) - x.Scale)).toNat) ++ (⟨#[46]⟩ : ByteArray)) ++ (B.extract (w6 ((B.size : Int) - x.Scale)).toNat B.size)).size : Nat) : Int) > IntKind.i64.max then none else some (((⟨#[45]⟩ : ByteArray) ++ (((B.extract (0 : Int).toNat (w6 ((B.size : Int) - x.Scale)).toNat) ++ (⟨#[46]⟩ : ByteArray)) ++ (B.extract (w6 ((B.size : Int) - x.Scale)).toNat B.size))), 0))
 (some ((((B.extract (0 : Int).toNat (w6 ((B.size : Int) - x.Scale)).toNat) ++ (⟨#[46]⟩ : ByteArray)) ++ (B.extract (w6 ((B.size : Int) - x.Scale)).toNat B.size)), 0))) else none) else none) else none)
 (cond (decide (x.N < 0)) (if (((⟨#[45]⟩ : ByteArray).size + B.size : Nat) : Int) > IntKind.i64.max then none else some (((⟨#[45]⟩ : ByteArray) ++ B), 0)) (some (B, 0)))) : Option (ByteArray × Int)) = some (sgT x.N (ptT (bl B) x.Scale.toNat), 0) := by
 have hmax : IntKind.i64.max = 9223372036854775807 := by decide
 have z1 : (⟨#[46]⟩ : ByteArray).size = 1 := rfl
 have z2 : (⟨#[45]⟩ : ByteArray).size = 1 := rfl
 rw [hmax, w6e]
 obtain ⟨k, hk⟩ : ∃ k : Nat, (B.size : Int) - x.Scale = (k : Int) := ⟨((B.size : Int) - x.Scale).toNat, by omega⟩
 have hk2 : k = B.size - x.Scale.toNat := by omega
 rw [hk, itn, show (0 : Int).toNat = 0 from rfl]
 have s1 : (B.extract 0 k).size = k := by rw [zcp _ _ _ (by omega) (by omega)]; omega
 have s2 : (B.extract k B.size).size = B.size - k := by rw [zcp _ _ _ (by omega) (by omega)]
 by_cases hs : x.Scale > 0
 · rw [dct hs, ctr, ifp, ifp, ifn (by rw [s1, z1]; omega), ifp, ifn (by rw [bsa, s1, z1, s2]; omega)]; have e : bl ((B.extract 0 k ++ (⟨#[46]⟩ : ByteArray)) ++ B.extract k B.size) = ptT (bl B) x.Scale.toNat := by
    unfold ptT; rw [zdd, zdd, zey, zey, dr0, ifp, ← zao B, List.take_length, zao, hk2]; rfl
   by_cases hn : x.N < 0
   · rw [dct hn, ctr, ifn (by rw [bsa, bsa, s1, z1, s2, z2]; omega)]
     congr 2
     refine zg9 ?_; rw [zdd, e]; unfold sgT; rw [ifp hn]; rfl
   · rw [dcf hn, cfa]
     congr 2
     refine zg9 ?_; rw [e]; unfold sgT; rw [ifn hn]; rfl
 · rw [dcf hs, cfa]; have e : ptT (bl B) x.Scale.toNat = bl B := by unfold ptT; rw [ifn]
   rw [e]
   by_cases hn : x.N < 0
   · rw [dct hn, ctr, ifn (by rw [z2]; omega)]
     congr 2
     refine zg9 ?_; rw [zdd]; unfold sgT; rw [ifp hn]; rfl
   · rw [dcf hn, cfa]
     congr 2
     unfold sgT; rw [ifn hn]; rfl
theorem z9m {x : Number} (h0 : 0 ≤ x.Scale) (B : ByteArray) (h1 : x.Scale < (B.size : Int)) (h2 : B.size ≤ 100) :
 (cond (decide (x.Scale > 0))
 (if 0 ≤ (w6 ((B.size : Int) - x.Scale)) ∧ (w6 ((B.size : Int) - x.Scale)) ≤ (B.size : Int) then (if 0 ≤ (0 : Int) ∧ (0 : Int) ≤ (w6 ((B.size : Int) - x.Scale)) then (if (((B.extract (0 : Int).toNat (w6 ((B.size : Int) - x.Scale)).toNat).size + (⟨#[46]⟩ : ByteArray).size : Nat) : Int) > IntKind.i64.max then none else if 0 ≤ (w6 ((B.size : Int) - x.Scale)) ∧ (w6 ((B.size : Int) - x.Scale)) ≤ (B.size : Int) then (if ((((B.extract (0 : Int).toNat (w6 ((B.size : Int) - x.Scale)).toNat) ++ (⟨#[46]⟩ : ByteArray)).size + (B.extract (w6 ((B.size : Int) - x.Scale)).toNat B.size).size : Nat) : Int) > IntKind.i64.max then none else cond (decide (x.N < 0))
 (if (((⟨#[45]⟩ : ByteArray).size + (((B.extract (0 : Int).toNat (w6 ((B.size : Int) - x.Scale)).toNat) ++ (⟨#[46]⟩ : ByteArray)) ++ (B.extract (w6 ((B.size : Int) - x.Scale)).toNat B.size)).size : Nat) : Int) > IntKind.i64.max then none else some ((⟨#[45]⟩ : ByteArray) ++ (((B.extract (0 : Int).toNat (w6 ((B.size : Int) - x.Scale)).toNat) ++ (⟨#[46]⟩ : ByteArray)) ++ (B.extract (w6 ((B.size : Int) - x.Scale)).toNat B.size))))
 (some (((B.extract (0 : Int).toNat (w6 ((B.size : Int) - x.Scale)).toNat) ++ (⟨#[46]⟩ : ByteArray)) ++ (B.extract (w6 ((B.size : Int) - x.Scale)).toNat B.size)))) else none) else none) else none)
 (cond (decide (x.N < 0)) (if (((⟨#[45]⟩ : ByteArray).size + B.size : Nat) : Int) > IntKind.i64.max then none else some ((⟨#[45]⟩ : ByteArray) ++ B)) (some B))) = some (sgT x.N (ptT (bl B) x.Scale.toNat)) := by
 have hmax : IntKind.i64.max = 9223372036854775807 := by decide
 have z1 : (⟨#[46]⟩ : ByteArray).size = 1 := rfl
 have z2 : (⟨#[45]⟩ : ByteArray).size = 1 := rfl
 rw [hmax, w6e]
 obtain ⟨k, hk⟩ : ∃ k : Nat, (B.size : Int) - x.Scale = (k : Int) := ⟨((B.size : Int) - x.Scale).toNat, by omega⟩
 have hk2 : k = B.size - x.Scale.toNat := by omega
 rw [hk, itn, show (0 : Int).toNat = 0 from rfl]
 have s1 : (B.extract 0 k).size = k := by rw [zcp _ _ _ (by omega) (by omega)]; omega
 have s2 : (B.extract k B.size).size = B.size - k := by rw [zcp _ _ _ (by omega) (by omega)]
 by_cases hs : x.Scale > 0
 · rw [dct hs, ctr, ifp, ifp, ifn (by rw [s1, z1]; omega), ifp, ifn (by rw [bsa, s1, z1, s2]; omega)]; have e : bl ((B.extract 0 k ++ (⟨#[46]⟩ : ByteArray)) ++ B.extract k B.size) = ptT (bl B) x.Scale.toNat := by
    unfold ptT; rw [zdd, zdd, zey, zey, dr0, ifp, ← zao B, List.take_length, zao, hk2]; rfl
   by_cases hn : x.N < 0
   · rw [dct hn, ctr, ifn (by rw [bsa, bsa, s1, z1, s2, z2]; omega)]; refine congrArg some (zg9 ?_); rw [zdd, e]; unfold sgT; rw [ifp hn]; rfl
   · rw [dcf hn, cfa]; refine congrArg some (zg9 ?_); rw [e]; unfold sgT; rw [ifn hn]; rfl
 · rw [dcf hs, cfa]; have e : ptT (bl B) x.Scale.toNat = bl B := by unfold ptT; rw [ifn]
   rw [e]
   by_cases hn : x.N < 0
   · rw [dct hn, ctr, ifn (by rw [z2]; omega)]; refine congrArg some (zg9 ?_); rw [zdd]; unfold sgT; rw [ifp hn]; rfl
   · rw [dcf hn, cfa]; unfold sgT; rw [ifn hn]; rfl
theorem zwp (m : Nat) : ∀ k, 0 < k → m < 10 ^ k → (Lib.decDigits m).length ≤ k ∧ 0 < (Lib.decDigits m).length := by
 induction m using Nat.strongRecOn with
 | _ m ih =>
  intro k hk hm; rw [Lib.decDigits]
  by_cases h : m < 10
  · rw [dif_pos h, lns]; omega
  · rw [dif_neg h, lna, lns]; obtain ⟨j, rfl⟩ : ∃ j, k = j + 1 := ⟨k - 1, by omega⟩; rw [Nat.pow_succ] at hm; have hj : 0 < j := by
     refine cbc fun h0 => ?_; rw [show j = 0 by omega] at hm; omega
    have := ih (m / 10) (by omega) j hj (by omega); omega
theorem zym (m scale : Nat) (hm : m < 10 ^ 15) (hs : scale ≤ 15) : scale < (zmv m scale).length ∧ (zmv m scale).length ≤ 16 := by
 have := zwp m 15 (by decide) hm
 unfold zmv
 rw [lna, lnr]
 omega
theorem z8d {x : Number} (hx : zc6 x) : zet x = some (zph x, 0) := by
 have hx' := hx
 obtain ⟨⟨h1, h2⟩, h3, h4⟩ := hx'
 have hmax : IntKind.i64.max = 9223372036854775807 := by decide
 have hlen := zwp x.N.natAbs 15 (by decide) (by omega)
 have hdl := zym x.N.natAbs x.Scale.toNat (by omega) (by omega)
 unfold zet
 rw [zkz, zkt.2 hx]
 simp only [obs, bsf, cfa]
 rw [zon (by omega) (by omega)]
 have hi : zys (((x.N.natAbs : Nat) : Int)) = some ⟨(Lib.decDigits x.N.natAbs).toArray⟩ := by
  unfold zys Lib.itoa; rw [ifp ⟨by omega, by omega⟩, ifn, itn]
 rw [hi]
 simp only [obs]
 have hsz : (⟨(Lib.decDigits x.N.natAbs).toArray⟩ : ByteArray).size = (Lib.decDigits x.N.natAbs).length := rfl
 by_cases hle : ((Lib.decDigits x.N.natAbs).length : Int) ≤ x.Scale
 · rw [hsz, dct hle, ctr, w6e (n := x.Scale + 1), w6e]; have hr : zoq (⟨#[48]⟩ : ByteArray) (x.Scale + 1 - ((Lib.decDigits x.N.natAbs).length : Int)) = some ⟨(List.replicate (x.Scale.toNat + 1 - (Lib.decDigits x.N.natAbs).length) 48).toArray⟩ := by
    unfold zoq; have hs1 : (⟨#[48]⟩ : ByteArray).size = 1 := rfl; rw [ifp ⟨by omega, by omega, by rw [hs1]; omega⟩, zsl, show (x.Scale + 1 - ((Lib.decDigits x.N.natAbs).length : Int)).toNat = x.Scale.toNat + 1 - (Lib.decDigits x.N.natAbs).length by omega]
   rw [hr]; simp only [obs]; have hs2 : (⟨(List.replicate (x.Scale.toNat + 1 - (Lib.decDigits x.N.natAbs).length) (48 : UInt8)).toArray⟩ : ByteArray).size = x.Scale.toNat + 1 - (Lib.decDigits x.N.natAbs).length := by
    show (List.replicate (x.Scale.toNat + 1 - (Lib.decDigits x.N.natAbs).length) (48 : UInt8)).length = _; rw [lnr]
   rw [hmax, ifn (by rw [hs2]; omega)]; have hb : (⟨(List.replicate (x.Scale.toNat + 1 - (Lib.decDigits x.N.natAbs).length) (48 : UInt8)).toArray⟩ : ByteArray) ++ ⟨(Lib.decDigits x.N.natAbs).toArray⟩ = ⟨(zmv x.N.natAbs x.Scale.toNat).toArray⟩ := by
    refine zg9 ?_; rw [zdd]; rfl
   rw [hb]; have := z3m h3 ⟨(zmv x.N.natAbs x.Scale.toNat).toArray⟩ (by show x.Scale < ((zmv x.N.natAbs x.Scale.toNat).length : Int); omega) (by show (zmv x.N.natAbs x.Scale.toNat).length ≤ 100; omega); rw [hmax, zabk] at this; unfold zph; exact this
 · rw [hsz, dcf hle, cfa, ← hsz]; have hb : bl (⟨(Lib.decDigits x.N.natAbs).toArray⟩ : ByteArray) = zmv x.N.natAbs x.Scale.toNat := by
    unfold zmv; rw [show x.Scale.toNat + 1 - (Lib.decDigits x.N.natAbs).length = 0 by omega]; rfl
   have := z3m h3 ⟨(Lib.decDigits x.N.natAbs).toArray⟩ (by rw [hsz]; omega) (by rw [hsz]; omega); rw [hb] at this; unfold zph; exact this
theorem zva : ∀ (N m : Nat), 0 < N → m < 10 ^ N → N ≤ 18 → ∀ K, zcx (N + K) (m : Int) = some ⟨(Lib.decDigits m).toArray⟩
 | 0, m, h, _, _ => by omega
 | N + 1, m, _, hm, hN => fun K => by
  have hmax : IntKind.i64.max = 9223372036854775807 := by decide
  have h18 : 10 ^ (N + 1) ≤ 10 ^ 18 := zca hN; rw [show N + 1 + K = (N + K) + 1 by omega]; show (cond (decide ((m : Int) < (-9))) _ (cond (decide ((m : Int) < 0)) _ (cond (decide ((m : Int) < 10)) _ _))) = _; rw [dcf (by omega), dcf (by omega), cfa, cfa, Lib.decDigits]
  by_cases h : m < 10
  · rw [dct (by omega), ctr, dif_pos h, w6e, zla (by omega) (by omega)]; refine congrArg some (zg9 ?_); rw [zgt]; show [UInt8.ofNat (48 + (m : Int)).toNat] = [UInt8.ofNat (48 + m)]; rw [show (48 + (m : Int)).toNat = 48 + m by omega]
  · rw [Nat.pow_succ] at hm; have hN0 : 0 < N := by
     refine cbc fun h0 => ?_; rw [show N = 0 by omega] at hm; omega
    have ih := zva N (m / 10) hN0 (by omega) (by omega) K; rw [dcf (by omega), cfa, dif_neg h, tde, tme, w6e (n := (m : Int) / 10), show (m : Int) / 10 = ((m / 10 : Nat) : Int) by omega, ih, obs, w6e, zla (by omega) (by omega), hmax]; have hl := zwp (m / 10) N hN0 (by omega); have hs : (⟨(Lib.decDigits (m / 10)).toArray⟩ : ByteArray).size = (Lib.decDigits (m / 10)).length := rfl; have hs2 : (zdf ([48 + (m : Int) % 10] : List Int)).size = 1 := rfl; rw [ifn (by rw [hs, hs2]; omega)]; refine congrArg some (zg9 ?_); rw [zdd, zgt]; show Lib.decDigits (m / 10) ++ [UInt8.ofNat (48 + (m : Int) % 10).toNat] = Lib.decDigits (m / 10) ++ [UInt8.ofNat (48 + m % 10)]; rw [show (48 + (m : Int) % 10).toNat = 48 + m % 10 by omega]
theorem zab4 (N : Nat) (hN : 100 < N) {x : Number} (hx : zc6 x) : zd4 N x = some (zph x) := by
 have hx' := hx
 obtain ⟨⟨h1, h2⟩, h3, h4⟩ := hx'
 have hmax : IntKind.i64.max = 9223372036854775807 := by decide
 have hlen := zwp x.N.natAbs 15 (by decide) (by omega)
 have hdl := zym x.N.natAbs x.Scale.toNat (by omega) (by omega)
 unfold zd4 zfp
 rw [zon (by omega) (by omega)]
 simp only [obs, eN]
 have hd := zva 15 x.N.natAbs (by decide) (by omega) (by decide) (N - 15)
 rw [show 15 + (N - 15) = N by omega] at hd
 rw [hd]
 simp only [obs]
 have z1 : (⟨#[48]⟩ : ByteArray).size = 1 := rfl
 have lp := zbm (f := zd4.r0 N) (fun i => ((⟨(List.replicate i (48 : UInt8) ++ Lib.decDigits x.N.natAbs).toArray⟩ : ByteArray), x)) (x.Scale.toNat + 1 - (Lib.decDigits x.N.natAbs).length)
  (fun i hi => by
   have hs : (⟨(List.replicate i (48 : UInt8) ++ Lib.decDigits x.N.natAbs).toArray⟩ : ByteArray).size = i + (Lib.decDigits x.N.natAbs).length := by
    show (List.replicate i (48 : UInt8) ++ Lib.decDigits x.N.natAbs).length = _; rw [lna, lnr]
   simp only [zd4.r0, zd4.b0]; rw [dct (by rw [hs]; omega), ctr, hmax, ifn (by rw [hs, z1]; omega)]; refine congrArg some (congrArg Stp.again (Prod.ext (zg9 ?_) rfl)); show bl ((⟨#[48]⟩ : ByteArray) ++ ⟨(List.replicate i (48 : UInt8) ++ Lib.decDigits x.N.natAbs).toArray⟩) = List.replicate (i + 1) (48 : UInt8) ++ Lib.decDigits x.N.natAbs; rw [zdd, List.replicate_succ]; rfl)
  (by
   have hs : (⟨(List.replicate (x.Scale.toNat + 1 - (Lib.decDigits x.N.natAbs).length) (48 : UInt8) ++ Lib.decDigits x.N.natAbs).toArray⟩ : ByteArray).size = x.Scale.toNat + 1 - (Lib.decDigits x.N.natAbs).length + (Lib.decDigits x.N.natAbs).length := by
    show (List.replicate (x.Scale.toNat + 1 - (Lib.decDigits x.N.natAbs).length) (48 : UInt8) ++ Lib.decDigits x.N.natAbs).length = _; rw [lna, lnr]
   simp only [zd4.r0, zd4.b0]; rw [dcf (by rw [hs]; omega), cfa]) (N := N) (by omega)
 rw [List.replicate_zero, List.nil_append] at lp
 rw [lp]
 have := z9m h3 ⟨(zmv x.N.natAbs x.Scale.toNat).toArray⟩ (by show x.Scale < ((zmv x.N.natAbs x.Scale.toNat).length : Int); omega) (by show (zmv x.N.natAbs x.Scale.toNat).length ≤ 100; omega)
 rw [zabk] at this
 unfold zph
 exact this
theorem z5x {x : Number} (hx : zc6 x) : (zph x).size ≤ 256 := by
 obtain ⟨⟨h1, h2⟩, h3, h4⟩ := hx
 have hdl := zym x.N.natAbs x.Scale.toNat (by omega) (by omega)
 have hp : (ptT (zmv x.N.natAbs x.Scale.toNat) x.Scale.toNat).length ≤ 17 := by
  unfold ptT; split
  · rw [lna, lna, lnt, List.length_drop, lns]; omega
  · omega
 unfold zph sgT
 show (if x.N < 0 then [45] ++ ptT (zmv x.N.natAbs x.Scale.toNat) x.Scale.toNat else ptT (zmv x.N.natAbs x.Scale.toNat) x.Scale.toNat).length ≤ 256
 split
 · rw [lna, lns]; omega
 · omega
structure InsV (m : zJ) (c : zG) (x : zB) (u : zM) : Prop where
 r : u.R = true → 0 ≤ x.R ∧ x.R < m.Registers
 a : u.A = true → 0 ≤ x.A ∧ x.A < m.Registers
 b : u.B = true → 0 ≤ x.B ∧ x.B < m.Registers
 ty1 : u.zF = 1 → ziy x.zF
 ty2 : u.zF = 2 → zdx x.zF = 0 ∧ x.zF.Kind = 0
 ty3 : u.zF = 3 → zdx x.zF = 0
 se1 : u.Second = 1 → ziy x.Second
 se2 : u.Second = 2 → zdx x.Second = 0 ∧ x.Second.Kind = 0
 tg : u.Target = true → 0 ≤ x.Target ∧ x.Target < (c.zC.length : Int)
 ma : u.Mask = true → 1 ≤ x.Mask ∧ x.Mask ≤ 7
 pt : u.Pointer = true → ze3 c.Storage x.Pointer = true
 sr : u.Source = true → ze3 c.Storage x.Source = true
 pl : u.Place = true → zcn c.Storage x.Place (szE (zgw x)) = true
 fr : u.From = true → zcn c.Storage x.From (szE x.Second) = true
 ca : u.zK = true → 0 ≤ x.zK ∧ x.zK ≤ 4
 nu : zc6 x.Number
 tx : x.Text.size ≤ 256
 ot : x.Other.size ≤ 256
 is : x.zL = true → x.Op = 4
theorem zaa6 {t : DataType} (h : zeb t 1 = 0) : ziy t := by
 unfold zeb at h
 rw [ifn (by decide)] at h
 by_cases h0 : zdx t = 0
 · rw [ifp h0] at h; split at h
   · cases h
   · rename_i h1; refine ⟨h0, ?_⟩; refine cbc fun h2 => h1 (.inl ⟨rfl, h2⟩)
 · rw [ifn h0] at h; exact absurd h h0
theorem zaa5 {t : DataType} (h : zeb t 2 = 0) : zdx t = 0 ∧ t.Kind = 0 := by
 unfold zeb at h
 rw [ifn (by decide)] at h
 by_cases h0 : zdx t = 0
 · rw [ifp h0] at h; split at h
   · cases h
   · rename_i h1; refine ⟨h0, ?_⟩; refine cbc fun h2 => h1 (.inr (.inl ⟨rfl, h2⟩))
 · rw [ifn h0] at h; exact absurd h h0
theorem zabe {m : zJ} {c : zG} {x : zB} (h : zo9 m c x = 0) : (0 ≤ x.Op ∧ x.Op ≤ 26) ∧ ∃ u, zfx x = some u ∧ InsV m c x u := by
 unfold zo9 at h
 by_cases hop : inB x.Op 0 26 = true
 · refine ⟨za6.1 hop, ?_⟩; obtain ⟨f, u, hf, hu, ag, _⟩ := z08 x hop; rw [ifp hop, hu] at h; have h' : zyg m c x u = 0 := h; unfold zyg at h'; cases he : zm5 x u with
   | true => rw [he] at h'; cases h'
   | false =>
    rw [he] at h'; simp only [cfa] at h'; cases hl : zp8 m x with
    | true => rw [hl] at h'; cases h'
    | false =>
     rw [hl] at h'; simp only [cfa] at h'
     by_cases h1 : zeb x.zF u.zF = 0
     · by_cases h2 : zeb x.Second u.Second = 0
       · rw [ifn, ifn] at h'; cases hr : zni m c x u with
         | true => rw [hr] at h'; simp at h'
         | false =>
          rw [hr] at h'; simp only [cfa] at h'
          by_cases h3 : zlp x.Number = 0
          · rw [ifn] at h'; cases hlg : zpm x with
            | true => rw [hlg] at h'; cases h'
            | false =>
             unfold zni at hr; simp only [Bool.or_eq_false_iff] at hr; obtain ⟨r1, r2, r3, r4, r5, r6, r7, r8⟩ := hr; rw [List.any_eq_false] at r1; have reg : ∀ i, i ∈ zn9 x u → 0 ≤ i ∧ i < m.Registers := fun i hi => by
              have := r1 i hi; unfold zgd at this; have h4 : inB i 0 (m.Registers - 1) = true := by simpa using this
              have := za6.1 h4; omega
             have andF : ∀ {p q : Bool}, (p && !q) = false → p = true → q = true := fun {p q} h hp => by subst hp; simpa using h
             unfold zpm at hlg; simp only [Bool.or_eq_false_iff, decide_eq_false_iff_not] at hlg; refine ⟨u, hu, ?_⟩; exact {
              r := fun hx => reg _ (by unfold zn9; rw [hx]; simp)
              a := fun hx => reg _ (by unfold zn9; rw [hx]; simp)
              b := fun hx => reg _ (by unfold zn9; rw [hx]; simp)
              ty1 := fun hx => zaa6 (by rw [hx] at h1; exact h1)
              ty2 := fun hx => zaa5 (by rw [hx] at h1; exact h1)
              ty3 := fun hx => zqk h1 (by rw [hx]; decide)
              se1 := fun hx => zaa6 (by rw [hx] at h2; exact h2)
              se2 := fun hx => zaa5 (by rw [hx] at h2; exact h2)
              tg := fun hx => by have := za6.1 (andF r2 hx); omega
              ma := fun hx => za6.1 (andF r3 hx)
              pt := fun hx => andF r4 hx
              sr := fun hx => andF r5 hx
              pl := fun hx => andF r6 hx
              fr := fun hx => andF r7 hx
              ca := fun hx => za6.1 (andF r8 hx)
              nu := zkt.1 h3
              tx := by omega
              ot := by omega
              is := (zsr he).1 }
          · rw [ifp h3] at h'; exact absurd h' h3
       · rw [ifn, ifp h2] at h'; exact absurd h' h2
     · rw [ifp h1] at h'; exact absurd h' h1
 · rw [ifn hop] at h; cases h
structure CodeV (m : zJ) (c : zG) : Prop where
 m1 : 2 ≤ m.Registers
 m2 : m.Registers ≤ 8
 sto : ziu c.Storage
 len : c.zC.length ≤ 240
 pos : 0 < c.zC.length
 traps : c.zO.length ≤ 40
 ins : ∀ x ∈ c.zC, zo9 m c x = 0
 trap : ∀ t ∈ c.zO, zqm c t = true
structure StV (m : zJ) (c : zG) (s : zA) : Prop where
 regs : (s.Registers.length : Int) = m.Registers
 nums : ∀ r ∈ s.Registers, zc6 r
 cnd : s.Condition = 0 ∨ s.Condition = 1 ∨ s.Condition = 2 ∨ s.Condition = 4
 sto : ziu s.Storage
 size : s.Storage.Bytes.size = c.Storage.Bytes.size
 at0 : 0 ≤ s.At
 at1 : s.At < (c.zC.length : Int)
 stk : s.Stack.length ≤ 6
 calls : ∀ i ∈ s.Stack, (0 ≤ i ∧ i < (c.zC.length : Int)) ∧ ∃ x, c.zC[i.toNat]? = some x ∧ x.Op = 18
 lines : s.Lines.length ≤ 40
 long : ∀ l ∈ s.Lines, l.size ≤ 256
 st0 : 0 ≤ s.Status
 st1 : s.Status ≤ 3
 ex0 : 0 ≤ s.Exception
 ex1 : s.Exception ≤ 999
 mk0 : 0 ≤ s.Marks
 mk1 : s.Marks ≤ 300
 sp0 : 0 ≤ s.Steps
 sp1 : s.Steps ≤ 3000
def zlu (s : Storage) (p : zN) (n : Int) : Except Int Int :=
 if p.Based = true then (match ldV s p.Pointer with | none => .error 4 | some o => if o + p.Offset > (s.Bytes.size : Int) - n then .error 5 else .ok (o + p.Offset)) else .ok p.Offset
def zlt (s : Storage) (p : zN) (t : DataType) : Except Int ByteArray :=
 match zlu s p (szE t) with | .error e => .error e | .ok a => .ok (s.Bytes.extract a.toNat (a + szE t).toNat)
def zyc (s : Storage) (p : zN) (t : DataType) : Except Int Number :=
 match zlt s p t with | .error e => .error e | .ok b => match zmb t b with | none => .error 1 | some n => .ok ⟨n, t.Scale⟩
theorem zii (s : zA) (c : zG) (b : Bool) (n : Int) (hn : n ≠ 0) : zg ⟨s, c, 0⟩ b n = some (!b, ⟨s, c, cond b n 0⟩) := by
 unfold zg
 cases b
 · rfl
 · simp only [bst, ctr, obs, zar, dcf hn]; rfl
theorem zqq (N : Nat) (hN : 2000 < N) (s : zA) (c : zG) (h : ziu s.Storage) {a : Int} (ha : ze3 s.Storage a = true) :
 za2 N ⟨s, c, 0⟩ a = some (match ldV s.Storage a with | some o => (zid o, true, ⟨s, c, 0⟩) | none => (zyr, false, ⟨s, c, 4⟩)) := by
 unfold za2
 simp only []
 rw [zabs N hN h ha]
 cases ldV s.Storage a with
 | none => simp only [obs]; rw [zii _ _ _ _ (by decide)]; rfl
 | some o => simp only [obs]; rw [zii _ _ _ _ (by decide)]; rfl
theorem zns {s t : Storage} (h : s.Bytes.size = t.Bytes.size) (a : Int) : ze3 s a = ze3 t a := by unfold ze3; rw [h]
theorem zg5 {s t : Storage} (h : s.Bytes.size = t.Bytes.size) (p : zN) (n : Int) : zcn s p n = zcn t p n := by unfold zcn; rw [h, zns h]
theorem zse (N : Nat) (hN : 2000 < N) (s : zA) (c : zG) (h : ziu s.Storage) {p : zN} {n : Int} (hp : zcn s.Storage p n = true) (hn : 0 < n) (hn2 : n ≤ 256) :
 (∃ e j k, (e = 4 ∨ e = 5) ∧ zlu s.Storage p n = .error e ∧ zbb N ⟨s, c, 0⟩ p n = some (j, false, ⟨s, c, e⟩) ∧ zbt N s p n = some (k, e)) ∨
 ∃ a, zlu s.Storage p n = .ok a ∧ zbb N ⟨s, c, 0⟩ p n = some (a, true, ⟨s, c, 0⟩) ∧ zbt N s p n = some (a, 0) ∧ 0 ≤ a ∧ a + n ≤ (s.Storage.Bytes.size : Int) := by
 have hl := h.le
 unfold zcn at hp
 unfold zlu zbb zbt
 try simp only [eS]
 by_cases hb : p.Based = true
 · rw [ifp hb] at hp; rw [Bool.and_eq_true] at hp; obtain ⟨hp1, hp2⟩ := hp; have hp3 := za6.1 hp2; rw [ifp hb, hb]; simp only [bnt, cfa]; rw [zqq N hN s c h hp1, zwg N hN h hp1]; cases hld : ldV s.Storage p.Pointer with
   | none =>
    left; exact ⟨4, 0, 0, .inl rfl, rfl, rfl, rfl⟩
   | some o =>
    have ho := zvs h hld; simp only [obs, bnt, cfa, bsf]; rw [zii _ _ _ _ (by decide)]; simp only [obs]; rw [show (zid o).Address.Offset = o from rfl, w6e (n := o + p.Offset), w6e (n := (s.Storage.Bytes.size : Int) - n)]; unfold zhf; rw [zgy, zgy, w6e (n := (s.Storage.Bytes.size : Int) - (o + p.Offset))]; simp only [obs]
    by_cases hgt : o + p.Offset > (s.Storage.Bytes.size : Int) - n
    · left; refine ⟨5, o + p.Offset, 0, .inr rfl, ?_, ?_, ?_⟩
      · show (if o + p.Offset > (s.Storage.Bytes.size : Int) - n then (Except.error 5 : Except Int Int) else .ok (o + p.Offset)) = _; rw [ifp hgt]
      · rw [dct hgt]; rfl
      · by_cases h1 : inB (o + p.Offset) 0 (s.Storage.Bytes.size : Int) = true
        · rw [h1, ctr]; rw [show inB n 0 ((s.Storage.Bytes.size : Int) - (o + p.Offset)) = false by
           cases hh : inB n 0 ((s.Storage.Bytes.size : Int) - (o + p.Offset)) with
           | false => rfl
           | true => have := za6.1 hh; omega]
          rfl
        · rw [show inB (o + p.Offset) 0 (s.Storage.Bytes.size : Int) = false by simpa using h1]; rfl
    · right; refine ⟨o + p.Offset, ?_, ?_, ?_, by omega, by omega⟩
      · show (if o + p.Offset > (s.Storage.Bytes.size : Int) - n then (Except.error 5 : Except Int Int) else .ok (o + p.Offset)) = _; rw [ifn hgt]
      · rw [dcf hgt]; rfl
      · rw [show inB (o + p.Offset) 0 (s.Storage.Bytes.size : Int) = true from za6.2 ⟨by omega, by omega⟩, ctr, show inB n 0 ((s.Storage.Bytes.size : Int) - (o + p.Offset)) = true from za6.2 ⟨by omega, by omega⟩]; rfl
 · have hb' : p.Based = false := by simpa using hb
   rw [ifn hb] at hp; have hp3 := za6.1 hp; rw [ifn hb, hb']; right; exact ⟨p.Offset, rfl, rfl, rfl, by omega, by omega⟩
theorem znr (N : Nat) (hN : 2000 < N) (s : zA) (c : zG) (h : ziu s.Storage) {p : zN} {t : DataType} (ht : zdx t = 0) (hp : zcn s.Storage p (szE t) = true) :
 (∃ e b k, (e = 4 ∨ e = 5) ∧ zlt s.Storage p t = .error e ∧ zu N ⟨s, c, 0⟩ p t = some (b, false, ⟨s, c, e⟩) ∧ zc3 N s p t = some (k, e)) ∨
 ∃ b, zlt s.Storage p t = .ok b ∧ zu N ⟨s, c, 0⟩ p t = some (b, true, ⟨s, c, 0⟩) ∧ zc3 N s p t = some (b, 0) ∧ (b.size : Int) = szE t := by
 have hsz := zkm ht
 have hl := h.le
 unfold zlt zu zc3
 simp only [eS, eD, eP]
 rw [z0e N (by omega) ht, zjr ht]
 simp only [obs]
 have eH : (⟨s.Registers, s.Condition, s.Storage, s.At, s.Stack, s.Lines, s.Status, s.Exception, s.Marks, s.Steps⟩ : zA) = s := rfl
 try rw [eH]
 rcases zse N hN s c h hp hsz.1 hsz.2 with ⟨e, j, k, he, h1, h2, h3⟩ | ⟨a, h1, h2, h3, h4, h5⟩
 · left; rw [h1, h2, h3]; refine ⟨e, ⟨#[]⟩, ⟨#[]⟩, he, rfl, rfl, ?_⟩; rcases he with rfl | rfl <;> rfl
 · right; rw [h1, h2, h3]; simp only [obs, bnt, cfa, bsf]; rw [w6e, ifp, ifp, ifp, ifp]; refine ⟨_, rfl, rfl, rfl, ?_⟩; rw [zcp _ _ _ (by omega) (by omega)]; omega
theorem z21 (N : Nat) (hN : 2000 < N) (s : zA) (c : zG) (h : ziu s.Storage) {p : zN} {t : DataType} (ht : ziy t) (hp : zcn s.Storage p (szE t) = true) :
 (∃ e b k, (e = 4 ∨ e = 5 ∨ e = 1) ∧ zyc s.Storage p t = .error e ∧ zbs N ⟨s, c, 0⟩ p t = some (b, false, ⟨s, c, e⟩) ∧ zgg N s p t = some (k, e)) ∨
 ∃ n, zyc s.Storage p t = .ok n ∧ zbs N ⟨s, c, 0⟩ p t = some (n, true, ⟨s, c, 0⟩) ∧ zgg N s p t = some (n, 0) ∧ zc6 n := by
 unfold zyc zbs zgg
 rcases znr N hN s c h ht.1 hp with ⟨e, b, k, he, h1, h2, h3⟩ | ⟨b, h1, h2, h3, h4⟩
 · left; rw [h1, h2, h3]; refine ⟨e, ⟨0, 0⟩, ⟨0, 0⟩, by omega, rfl, rfl, ?_⟩; rcases he with rfl | rfl <;> rfl
 · obtain ⟨v1, a1, e1, g1, g2⟩ := z8g N hN ht h4; obtain ⟨v2, a2, e2, g3, g4⟩ := z72 N hN ht h4; rw [h1, h2, h3]; simp only [obs, bnt, cfa, bsf]; rw [g1, g3]; simp only [obs]; rw [zii _ _ _ _ (by decide)]; simp only [obs]; have hbound : ∀ n, zmb t b = some n → -((10 ^ t.Length.toNat : Nat) : Int) < n ∧ n < ((10 ^ t.Length.toNat : Nat) : Int) := by
    intro n hn; obtain ⟨⟨l1, l2⟩, l3, l4⟩ := zgo ht; unfold zmb at hn; split at hn
    · split at hn
      · rename_i hh; cases hn; exact hh
      · cases hn
    · rename_i hk3; have key : ∀ l : List Int, (∀ d ∈ l, 0 ≤ d ∧ d ≤ 15) → (List.range (l.length - 1)).any (ziz l t.Length) = false → (l.length : Int) - 1 - t.Length ≤ 1 → 0 ≤ zfd (l.take (l.length - 1)) ∧ zfd (l.take (l.length - 1)) < ((10 ^ t.Length.toNat : Nat) : Int) := by
       intro l hr hg hle; rw [List.any_eq_false] at hg; have g9 : ∀ i, i < l.length - 1 → 0 ≤ l.getD i 0 ∧ l.getD i 0 ≤ 9 := fun i hi => by
        have h1 := hg i (List.mem_range.2 hi); unfold ziz at h1; have hx : l[i]? = some (l.getD i 0) := by rw [gdd, lge (by omega)]; rfl
        have h2 := hr _ (lmg hx); rw [Bool.or_eq_true, decide_eq_true_eq] at h1; omega
       have step : ∀ i, i ≤ l.length - 1 → 0 ≤ zfd (l.take i) ∧ (zfd (l.take i) < ((10 ^ (i - ((l.length : Int) - 1 - t.Length).toNat) : Nat) : Int)) := by
        intro i
        induction i with
        | zero => intro _; rw [List.take_zero]; exact ⟨by decide, by simp [zfd]⟩
        | succ i ih =>
         intro hi; have hx : l[i]? = some (l.getD i 0) := by rw [gdd, lge (by omega)]; rfl
         obtain ⟨i1, i2⟩ := ih (by omega); have hd := g9 i (by omega); rw [zef l i hx, zog]; refine ⟨by omega, ?_⟩
         by_cases hlead : (i : Int) < (l.length : Int) - 1 - t.Length
         · have h1 := hg i (List.mem_range.2 (by omega)); unfold ziz at h1; rw [Bool.or_eq_true, Bool.and_eq_true, decide_eq_true_eq, decide_eq_true_eq, decide_eq_true_eq] at h1; have h0 : l.getD i 0 = 0 := by
            refine cbc fun h2 => h1 (.inr ⟨by omega, hlead⟩)
           rw [show i - ((l.length : Int) - 1 - t.Length).toNat = 0 by omega, Nat.pow_zero] at i2; rw [h0, show i + 1 - ((l.length : Int) - 1 - t.Length).toNat = 0 by omega, Nat.pow_zero]; omega
         · rw [show i + 1 - ((l.length : Int) - 1 - t.Length).toNat = (i - ((l.length : Int) - 1 - t.Length).toNat) + 1 by omega, Nat.pow_succ]; omega
       obtain ⟨s1, s2⟩ := step (l.length - 1) (Nat.le_refl _); refine ⟨s1, ?_⟩; have hpw : 10 ^ (l.length - 1 - ((l.length : Int) - 1 - t.Length).toNat) ≤ 10 ^ t.Length.toNat := zca (by omega); omega
      have hbs := h4; rw [zqy ht] at hbs; obtain ⟨_, k1, k2⟩ := ht; have hlen : ((if t.Kind = 1 then zih (bl b) else zee (bl b)).length : Int) - 1 - t.Length ≤ 1 := by
       by_cases hk1 : t.Kind = 1
       · rw [ifp hk1] at hbs; rw [ifp hk1, zo4, zao]; omega
       · rw [ifn hk1, ifn hk3] at hbs; rw [ifn hk1]; unfold zee zfq; rw [lna, lnm, zao, lns]; omega
      have hrange : ∀ d ∈ (if t.Kind = 1 then zih (bl b) else zee (bl b)), 0 ≤ d ∧ d ≤ 15 := by
       split
       · exact zp6.1
       · exact zp6.2
      generalize (if t.Kind = 1 then zih (bl b) else zee (bl b)) = l at *; unfold zv2 at hn
      by_cases hbad : (List.range (l.length - 1)).any (ziz l t.Length) = true ∨ zkn l < 10
      · rw [ifp hbad] at hn; cases hn
      · rw [ifn hbad] at hn; rw [not_or] at hbad; obtain ⟨q1, q2⟩ := key l hrange (by simpa using hbad.1) hlen; have hn2 := Option.some.inj hn; split at hn2 <;> omega
   cases hdv : zmb t b with
   | none =>
    rw [hdv] at g2 g4; simp only [] at g2 g4; left; refine ⟨1, ⟨v1.N, t.Scale⟩, ⟨0, 0⟩, by omega, rfl, ?_, ?_⟩
    · rw [zb6, dct g2]; rfl
    · rw [zb6, dct g4]; rfl
   | some n =>
    rw [hdv] at g2 g4; simp only [] at g2 g4; right; have hb := hbound n hdv; obtain ⟨⟨l1, l2⟩, l3, l4⟩ := zgo ht; have hpw : 10 ^ t.Length.toNat ≤ 10 ^ 15 := zca (by omega); refine ⟨⟨n, t.Scale⟩, rfl, ?_, ?_, ⟨⟨?_, ?_⟩, l3, ?_⟩⟩
    · rw [g2.2, g2.1]; rfl
    · rw [g4.2, g4.1]; rfl
    · show -999999999999999 ≤ n; omega
    · show n ≤ 999999999999999; omega
    · show t.Scale ≤ 15; omega
def updR (s : zA) (i : Int) (n : Number) : zA := ⟨s.Registers.set i.toNat n, s.Condition, s.Storage, s.At, s.Stack, s.Lines, s.Status, s.Exception, s.Marks, s.Steps⟩
def updS (s : zA) (t : Storage) : zA := ⟨s.Registers, s.Condition, t, s.At, s.Stack, s.Lines, s.Status, s.Exception, s.Marks, s.Steps⟩
def updC (s : zA) (k : Int) : zA := ⟨s.Registers, k, s.Storage, s.At, s.Stack, s.Lines, s.Status, s.Exception, s.Marks, s.Steps⟩
def updL (s : zA) (l : List ByteArray) : zA := ⟨s.Registers, s.Condition, s.Storage, s.At, s.Stack, l, s.Status, s.Exception, s.Marks, s.Steps⟩
def updT (s : zA) (k : Int) : zA := ⟨s.Registers, s.Condition, s.Storage, s.At, s.Stack, s.Lines, k, s.Exception, s.Marks, s.Steps⟩
def updK (s : zA) (l : List Int) : zA := ⟨s.Registers, s.Condition, s.Storage, s.At, l, s.Lines, s.Status, s.Exception, s.Marks, s.Steps⟩
def updM (s : zA) (k : Int) : zA := ⟨s.Registers, s.Condition, s.Storage, s.At, s.Stack, s.Lines, s.Status, s.Exception, k, s.Steps⟩
def rg (s : zA) (i : Int) : Number := s.Registers.getD i.toNat ⟨0, 0⟩
def zq9 (s : zA) (a b : Int) : Int := zok (z0b (zal (rg s a) (zi (rg s a) (rg s b))) (zal (rg s b) (zi (rg s a) (rg s b))))
def zpx (s : zA) (l : ByteArray) : Except Int (Int × zA) := if s.Lines.length = 40 then .ok (s.At + 1, updT s 3) else .ok (s.At + 1, updL s (s.Lines ++ [l]))
def ze4 (s : zA) (x : zB) : Except Int (Int × zA) :=
 match x.Op.toNat with
 | 0 => match zyc s.Storage x.Place x.zF with | .error e => .error e | .ok n => .ok (s.At + 1, updR s x.R n)
 | 1 => if (zmp (rg s x.R) x.zF x.Half).2 ≠ 0 then .error 2 else match zlu s.Storage x.Place (szE x.zF) with | .error e => .error e | .ok a => .ok (s.At + 1, updS s (wrV s.Storage a.toNat (zrl x.zF (zmp (rg s x.R) x.zF x.Half).1.N)))
 | 2 => .ok (s.At + 1, updR s x.R x.Number)
 | 3 => .ok (s.At + 1, updR s x.R (rg s x.A))
 | 4 => match (if x.zL = true then zyc s.Storage x.Place x.Second else .ok (rg s x.B)) with
  | .error e => .error e
  | .ok b => if (zhm x.zK (rg s x.A) b x.zF false).2 = 20 then .error 3 else if (zhm x.zK (rg s x.A) b x.zF false).2 ≠ 0 then .error 2 else .ok (s.At + 1, updR s x.R ⟨(zhm x.zK (rg s x.A) b x.zF false).1.N, x.zF.Scale⟩)
 | 5 => .ok (s.At + 1, updC s (zq9 s x.A x.B))
 | 6 => .ok (cond (zh .i64 s.Condition x.Mask != 0) x.Target (s.At + 1), s)
 | 7 => .ok (cond (zh .i64 (zq9 s x.A x.B) x.Mask != 0) x.Target (s.At + 1), s)
 | 8 => .ok (x.Target, s)
 | 9 => match zlt s.Storage x.From x.Second with
  | .error e => .error e
  | .ok b => match zlu s.Storage x.Place (szE x.zF) with | .error e => .error e | .ok a => .ok (s.At + 1, updS s (wrV s.Storage a.toNat (zk8 b x.zF.Length.toNat)))
 | 10 => match zlu s.Storage x.Place (szE x.zF) with | .error e => .error e | .ok a => .ok (s.At + 1, updS s (wrV s.Storage a.toNat (zk8 x.Text x.zF.Length.toNat)))
 | 11 => match zlt s.Storage x.Place x.zF with
  | .error e => .error e
  | .ok a => match zlt s.Storage x.From x.Second with | .error e => .error e | .ok b => .ok (s.At + 1, updC s (zn3 a b))
 | 12 => match zlt s.Storage x.Place x.zF with | .error e => .error e | .ok a => .ok (s.At + 1, updC s (zn3 a x.Text))
 | 13 => .ok (s.At + 1, updC s (zn3 x.Text x.Other))
 | 14 => match zlu s.Storage x.Place (szE x.zF) with | .error e => .error e | .ok a => .ok (s.At + 1, updS s (stV s.Storage x.Pointer.toNat a.toNat))
 | 15 => match ldV s.Storage x.Source with | none => .error 4 | some o => .ok (s.At + 1, updS s (stV s.Storage x.Pointer.toNat o.toNat))
 | 16 => match ldV s.Storage x.Pointer with
  | none => .error 4
  | some o => if inB (o + zgb (rg s x.R)) 0 16777215 = true then .ok (s.At + 1, updS s (stV s.Storage x.Pointer.toNat (o + zgb (rg s x.R)).toNat)) else .error 5
 | 17 => match ldV s.Storage x.Pointer with | none => .error 4 | some _ => .ok (s.At + 1, s)
 | 18 => if 6 ≤ s.Stack.length then .error 6 else .ok (x.Target, updK s (s.Stack ++ [s.At]))
 | 19 => if s.Stack.length = 0 then .ok (s.At, updT s 1) else .ok (s.Stack.getD (s.Stack.length - 1) 0 + 1, updK s (s.Stack.take (s.Stack.length - 1)))
 | 20 => if inB (zgb (rg s x.R)) 100 999 = true then .error (zgb (rg s x.R)) else .error 2
 | 21 => .ok (s.At + 1, updR s x.R ⟨s.Exception, 0⟩)
 | 22 => zpx s (zph (rg s x.R))
 | 23 => match zlt s.Storage x.Place x.zF with | .error e => .error e | .ok b => zpx s b
 | 24 => zpx s x.Text
 | 25 => if s.Marks = 300 then .ok (s.At + 1, updT s 3) else .ok (s.At + 1, updM s (s.Marks + 1))
 | _ => .ok (s.At + 1, updT s 1)
section
variable {m : zJ} {c : zG} {s : zA}
theorem StV.updR (h : StV m c s) {i : Int} {n : Number} (hn : zc6 n) : StV m c (updR s i n) := {
 regs := by show ((s.Registers.set i.toNat n).length : Int) = _; rw [List.length_set]; exact h.regs
 nums := fun r hr => by
  rcases List.mem_or_eq_of_mem_set (show r ∈ s.Registers.set i.toNat n from hr) with h1 | h1
  · exact h.nums r h1
  · rw [h1]; exact hn
 cnd := h.cnd, sto := h.sto, size := h.size, at0 := h.at0, at1 := h.at1, stk := h.stk, calls := h.calls, lines := h.lines, long := h.long, st0 := h.st0, st1 := h.st1, ex0 := h.ex0, ex1 := h.ex1, mk0 := h.mk0, mk1 := h.mk1, sp0 := h.sp0, sp1 := h.sp1 }
theorem StV.updS (h : StV m c s) {t : Storage} (ht : ziu t) (hz : t.Bytes.size = s.Storage.Bytes.size) : StV m c (updS s t) := {
 regs := h.regs, nums := h.nums, cnd := h.cnd, sto := ht, size := hz.trans h.size, at0 := h.at0, at1 := h.at1, stk := h.stk, calls := h.calls, lines := h.lines, long := h.long, st0 := h.st0, st1 := h.st1, ex0 := h.ex0, ex1 := h.ex1, mk0 := h.mk0, mk1 := h.mk1, sp0 := h.sp0, sp1 := h.sp1 }
theorem StV.updC (h : StV m c s) {k : Int} (hk : k = 1 ∨ k = 2 ∨ k = 4) : StV m c (updC s k) := {
 regs := h.regs, nums := h.nums, cnd := .inr hk, sto := h.sto, size := h.size, at0 := h.at0, at1 := h.at1, stk := h.stk, calls := h.calls, lines := h.lines, long := h.long, st0 := h.st0, st1 := h.st1, ex0 := h.ex0, ex1 := h.ex1, mk0 := h.mk0, mk1 := h.mk1, sp0 := h.sp0, sp1 := h.sp1 }
theorem StV.updL (h : StV m c s) {l : ByteArray} (h1 : s.Lines.length < 40) (h2 : l.size ≤ 256) : StV m c (updL s (s.Lines ++ [l])) := {
 regs := h.regs, nums := h.nums, cnd := h.cnd, sto := h.sto, size := h.size, at0 := h.at0, at1 := h.at1, stk := h.stk, calls := h.calls
 lines := by show (s.Lines ++ [l]).length ≤ 40; rw [lna, lns]; omega
 long := fun y hy => by
  rcases List.mem_append.1 (show y ∈ s.Lines ++ [l] from hy) with h3 | h3
  · exact h.long y h3
  · rw [List.mem_singleton.1 h3]; exact h2
 st0 := h.st0, st1 := h.st1, ex0 := h.ex0, ex1 := h.ex1, mk0 := h.mk0, mk1 := h.mk1, sp0 := h.sp0, sp1 := h.sp1 }
theorem StV.updT (h : StV m c s) {k : Int} (h1 : 0 ≤ k) (h2 : k ≤ 3) : StV m c (updT s k) := {
 regs := h.regs, nums := h.nums, cnd := h.cnd, sto := h.sto, size := h.size, at0 := h.at0, at1 := h.at1, stk := h.stk, calls := h.calls, lines := h.lines, long := h.long, st0 := h1, st1 := h2, ex0 := h.ex0, ex1 := h.ex1, mk0 := h.mk0, mk1 := h.mk1, sp0 := h.sp0, sp1 := h.sp1 }
theorem StV.updK (h : StV m c s) {l : List Int} (h1 : l.length ≤ 6) (h2 : ∀ i ∈ l, (0 ≤ i ∧ i < (c.zC.length : Int)) ∧ ∃ x, c.zC[i.toNat]? = some x ∧ x.Op = 18) : StV m c (updK s l) := {
 regs := h.regs, nums := h.nums, cnd := h.cnd, sto := h.sto, size := h.size, at0 := h.at0, at1 := h.at1, stk := h1, calls := h2, lines := h.lines, long := h.long, st0 := h.st0, st1 := h.st1, ex0 := h.ex0, ex1 := h.ex1, mk0 := h.mk0, mk1 := h.mk1, sp0 := h.sp0, sp1 := h.sp1 }
theorem StV.updM (h : StV m c s) {k : Int} (h1 : 0 ≤ k) (h2 : k ≤ 300) : StV m c (updM s k) := {
 regs := h.regs, nums := h.nums, cnd := h.cnd, sto := h.sto, size := h.size, at0 := h.at0, at1 := h.at1, stk := h.stk, calls := h.calls, lines := h.lines, long := h.long, st0 := h.st0, st1 := h.st1, ex0 := h.ex0, ex1 := h.ex1, mk0 := h1, mk1 := h2, sp0 := h.sp0, sp1 := h.sp1 }
theorem zgc (h : StV m c s) {i : Int} (hi : 0 ≤ i ∧ i < m.Registers) : 0 ≤ i ∧ i < (s.Registers.length : Int) ∧ s.Registers[i.toNat]? = some (rg s i) ∧ idx s.Registers i = some (rg s i) ∧ zc6 (rg s i) := by
 have hr := h.regs
 have hx : s.Registers[i.toNat]? = some (rg s i) := by
  unfold rg; rw [gdd, lge (by omega)]; rfl
 refine ⟨hi.1, by omega, hx, ?_, h.nums _ (lmg hx)⟩
 unfold idx
 rw [ifp hi.1, hx]
theorem zpr (o : Int) : zok o = 1 ∨ zok o = 2 ∨ zok o = 4 := by
 unfold zok
 repeat' split
 all_goals simp
theorem zvu (h : StV m c s) (hm : m.Registers ≤ 8) {i : Int} (hi : 0 ≤ i ∧ i < m.Registers) (n : Number) (e : Int) : zad ⟨s, c, e⟩ i n = some ⟨updR s i n, c, e⟩ := by
 obtain ⟨h1, h2, h3, _⟩ := zgc h hi
 have hr := h.regs
 unfold zad zed
 simp only []
 rw [zax (by omega), ctr, obs, ifp h1, ifp h2, h3]
 rfl
theorem z05 (N : Nat) (hN : 300 < N) (h : StV m c s) (x : zB) (ha : 0 ≤ x.A ∧ x.A < m.Registers) (hb : 0 ≤ x.B ∧ x.B < m.Registers) (e : Int) : zaz N ⟨s, c, e⟩ x = some (zq9 s x.A x.B) := by
 obtain ⟨_, _, _, a4, a5⟩ := zgc h ha
 obtain ⟨_, _, _, b4, b5⟩ := zgc h hb
 unfold zaz
 simp only []
 rw [a4, b4]
 simp only [obs]
 rw [z4w N hN a5 b5]
 simp only [obs]
 rw [z3i]
 rfl
theorem z1h (x y : Int) : zh .i64 x y = zh .i64 y x := by unfold zh; rw [BitVec.and_comm]
def zcj (N : Nat) (m : zJ) (c : zG) (s : zA) (x : zB) : Prop :=
 (∃ e nx ny t, ze4 s x = .error e ∧ (1 ≤ e ∧ e ≤ 999) ∧ ze N ⟨s, c, 0⟩ x = some (nx, ⟨s, c, e⟩) ∧ zd N c s = some (ny, e, t)) ∨
 ∃ n k t, ze4 s x = .ok (n, t) ∧ ze N ⟨s, c, 0⟩ x = some (n, ⟨t, c, 0⟩) ∧ zd N c s = some (k, 0, t) ∧ (t.Status = 0 → k = n ∧ 0 ≤ n ∧ n ≤ (c.zC.length : Int)) ∧ StV m c t ∧ t.At = s.At ∧ t.Steps = s.Steps ∧ t.Exception = s.Exception
theorem zhk {x : zB} (hc : CodeV m c) (hx : x ∈ c.zC) {k : Int} (hop : x.Op = k) {U : zM} (hU : z5v k x.zL = some U) : InsV m c x U := by
 obtain ⟨_, u, h1, h2⟩ := zabe (hc.ins x hx)
 rw [z7g, hop, hU] at h1
 cases h1
 exact h2
end
section
variable {m : zJ} {c : zG} {s : zA}
theorem zml {b : Bool} {p q : Nat} {t : DataType} {half : Bool} (h : (ziq b p q t half).2 = 0) : -((10 ^ t.Length.toNat : Nat) : Int) < (ziq b p q t half).1.N ∧ (ziq b p q t half).1.N < ((10 ^ t.Length.toNat : Nat) : Int) := by
 unfold ziq at h ⊢
 have := zcg t.Length.toNat
 generalize (p * 10 ^ t.Scale.toNat / q + cond (half && decide (q ≤ p * 10 ^ t.Scale.toNat % q + p * 10 ^ t.Scale.toNat % q)) 1 0) = Q at *
 generalize 10 ^ t.Length.toNat = T at *
 split at h
 · cases h
 · rename_i hn; rw [ifn hn]; cases b
   · show -(T : Int) < (Q : Int) ∧ (Q : Int) < T; omega
   · show -(T : Int) < -(Q : Int) ∧ -(Q : Int) < T; omega
theorem zad7 (b : Bool) (p q : Nat) (t : DataType) (half : Bool) : (ziq b p q t half).1 = ⟨(ziq b p q t half).1.N, ⟨#[]⟩⟩ := by
 unfold ziq
 split <;> rfl
theorem zacz {x : Number} {t : DataType} {half : Bool} (h : (zmp x t half).2 = 0) : (ziq (decide (x.N < 0)) x.N.natAbs (10 ^ x.Scale.toNat) t half).2 = 0 := h
theorem zae1 (x : Number) (t : DataType) (half : Bool) : (zmp x t half).1 = ⟨(zmp x t half).1.N, ⟨#[]⟩⟩ := zad7 _ _ _ _ _
theorem ex_0 (s : zA) {x : zB} (hop : x.Op = 0) : ze4 s x = (match zyc s.Storage x.Place x.zF with | .error e => .error e | .ok n => .ok (s.At + 1, updR s x.R n)) := by
 cases x; cases hop; rfl
theorem hx_0 (N : Nat) (M : zD) {x : zB} (hop : x.Op = 0) : ze N M x = (zbs N M x.Place x.zF).bind fun r1 => cond r1.2.1 ((zad r1.2.2 x.R r1.1).bind fun r => some (w6 (r.zA.At + 1), r)) (some (w6 (r1.2.2.zA.At + 1), r1.2.2)) := by
 cases x; cases hop; rfl
theorem rx_0 (N : Nat) {x : zB} (hop : x.Op = 0) (hi : idx c.zC s.At = some x) : zd N c s = ((zgg N s x.Place x.zF).bind fun r1 => cond (r1.2 != 0) (some (r1.2, s)) (if 0 ≤ x.R then (if x.R < (s.Registers.length : Int) then ((s.Registers[x.R.toNat]?).bind fun _ => some (0, updR s x.R r1.1)) else none) else none)).bind fun r => some (w6 (s.At + 1), r.1, r.2) := by
 unfold zd
 rw [hi, obs]
 clear hi
 cases x; cases hop; rfl
theorem zafd (N : Nat) (hN : 20000 < N) (hc : CodeV m c) (hs : StV m c s) {x : zB} (hx : c.zC[s.At.toNat]? = some x) (hop : x.Op = 0) : zcj N m c s x := by
 have iv := zhk hc (lmg hx) hop (U := ⟨true, false, false, true, false, false, false, false, false, false, false, false, false, false, 1, 0⟩) rfl
 have hi : idx c.zC s.At = some x := by unfold idx; rw [ifp hs.at0, hx]
 have m8 := hc.m2
 have a0 := hs.at0
 have a1 := hs.at1
 have n240 := hc.len
 have wn1 : w6 (s.At + 1) = s.At + 1 := w6e
 unfold zcj
 rw [ex_0 s hop, hx_0 N _ hop, rx_0 N hop hi]
 obtain ⟨g1, g2, g3, g4, g5⟩ := zgc hs (iv.r rfl)
 have hp : zcn s.Storage x.Place (szE x.zF) = true := by rw [zg5 hs.size]; have := iv.pl rfl; unfold zgw at this; rw [ifn] at this; exact this
 rcases z21 N (by omega) s c hs.sto (iv.ty1 rfl) hp with ⟨e, b, k, he, h1, h2, h3⟩ | ⟨n, h1, h2, h3, h4⟩
 · rw [h1, h2, h3]; refine .inl ⟨e, _, w6 (s.At + 1), s, rfl, by omega, rfl, ?_⟩; rcases he with rfl | rfl | rfl <;> rfl
 · rw [h1, h2, h3]; refine .inr ⟨_, _, _, rfl, ?_, ?_, fun _ => ⟨rfl, by omega, by omega⟩, hs.updR h4, rfl, rfl, rfl⟩
   · simp only [obs, ctr]; rw [zvu hs m8 (iv.r rfl)]; show some (w6 (s.At + 1), _) = _; rw [wn1]
   · simp only [obs, bsf, cfa]; rw [ifp g1, ifp g2, g3]; show some (w6 (s.At + 1), _) = _; rw [wn1]
theorem ex_1 (s : zA) {x : zB} (hop : x.Op = 1) : ze4 s x = (if (zmp (rg s x.R) x.zF x.Half).2 ≠ 0 then .error 2 else match zlu s.Storage x.Place (szE x.zF) with | .error e => .error e | .ok a => .ok (s.At + 1, updS s (wrV s.Storage a.toNat (zrl x.zF (zmp (rg s x.R) x.zF x.Half).1.N)))) := by
 cases x; cases hop; rfl
theorem hx_1 (N : Nat) (M : zD) {x : zB} (hop : x.Op = 1) : ze N M x = (ze7 N M x).bind fun r => some (w6 (r.zA.At + 1), r) := by
 cases x; cases hop; rfl
theorem rx_1 (N : Nat) {x : zB} (hop : x.Op = 1) (hi : idx c.zC s.At = some x) : zd N c s = (if 0 ≤ x.R then (if x.R < (s.Registers.length : Int) then ((s.Registers[x.R.toNat]?).bind fun x3 => (zg4 N x3 x.zF x.Half).bind fun r4 =>
 cond (r4.2 != 0) (some (2, s)) ((za3 x.zF).bind fun r5 => (zbt N s x.Place r5).bind fun r6 => cond (r6.2 != 0) (some (r6.2, s))
 ((za4 N x.zF r4.1).bind fun r7 => (zbf N s.Storage r6.1 r7).bind fun r8 => some (0, updS s r8)))) else none) else none).bind fun r => some (w6 (s.At + 1), r.1, r.2) := by
 unfold zd
 rw [hi, obs]
 clear hi
 cases x; cases hop; rfl
theorem zafc (N : Nat) (hN : 20000 < N) (hc : CodeV m c) (hs : StV m c s) {x : zB} (hx : c.zC[s.At.toNat]? = some x) (hop : x.Op = 1) : zcj N m c s x := by
 have iv := zhk hc (lmg hx) hop (U := ⟨true, false, false, true, false, true, false, false, false, false, false, false, false, false, 1, 0⟩) rfl
 have hi : idx c.zC s.At = some x := by unfold idx; rw [ifp hs.at0, hx]
 have m8 := hc.m2
 have a0 := hs.at0
 have a1 := hs.at1
 have n240 := hc.len
 have wn1 : w6 (s.At + 1) = s.At + 1 := w6e
 unfold zcj
 rw [ex_1 s hop, hx_1 N _ hop, rx_1 N hop hi]
 obtain ⟨g1, g2, g3, g4, g5⟩ := zgc hs (iv.r rfl)
 have ht := iv.ty1 rfl
 have hp : zcn s.Storage x.Place (szE x.zF) = true := by rw [zg5 hs.size]; have := iv.pl rfl; unfold zgw at this; rw [ifn] at this; exact this
 have hsz := zkm ht.1
 unfold ze7
 rw [ifp g1, ifp g2, g3]
 simp only []
 rw [g4]
 simp only [obs]
 rw [zacj N (by omega) g5 ht, zab8 N (by omega) g5 ht]
 simp only [obs]
 rw [zii _ _ _ _ (by decide)]
 simp only [obs]
 by_cases hv : (zmp (rg s x.R) x.zF x.Half).2 = 0
 · rw [hv, ifn (by decide)]; simp only [bsf, Bool.not_false, ctr, cfa]; have hr : -((10 ^ x.zF.Length.toNat : Nat) : Int) < (zmp (rg s x.R) x.zF x.Half).1.N ∧ (zmp (rg s x.R) x.zF x.Half).1.N < ((10 ^ x.zF.Length.toNat : Nat) : Int) := zml (zacz hv); obtain ⟨n, hcv⟩ : ∃ n, (zmp (rg s x.R) x.zF x.Half).1 = ⟨n, ⟨#[]⟩⟩ := ⟨_, zae1 _ _ _⟩; rw [hcv] at hr ⊢; simp only [] at hr ⊢; rw [z8e N (by omega) ht _ hr, zjr ht.1]; simp only [obs]; have hes := z8y ht n; unfold zbd; rw [hes]; rcases zse N (by omega) s c hs.sto hp hsz.1 hsz.2 with ⟨e, j, k, he, h1, h2, h3⟩ | ⟨a, h1, h2, h3, h4, h5⟩
   · rw [h1, h2, h3]; refine .inl ⟨e, _, w6 (s.At + 1), s, rfl, by omega, rfl, ?_⟩; rcases he with rfl | rfl <;> rfl
   · rw [h1, h2, h3]; obtain ⟨a, rfl⟩ : ∃ k : Nat, a = (k : Int) := ⟨a.toNat, by omega⟩; have hw : a + (zrl x.zF n).size ≤ s.Storage.Bytes.size := by omega
     have hw0 : 0 < (zrl x.zF n).size := by omega
     refine .inr ⟨_, _, _, rfl, ?_, ?_, fun _ => ⟨rfl, by omega, by omega⟩, hs.updS (z1t hs.sto hw hw0) (ztg hw), rfl, rfl, rfl⟩
     · simp only [obs, ctr]; rw [z1v N (by omega) hs.sto hw hw0]; show some (w6 (s.At + 1), _) = _; rw [wn1]; rfl
     · simp only [obs, bsf, cfa]; rw [z97 N (by omega) ht _ hr]; simp only [obs]; rw [zxy N (by omega) hs.sto hw hw0]; show some (w6 (s.At + 1), _) = _; rw [wn1]; rfl
 · rw [ifp hv, zb6, dct hv]; exact .inl ⟨2, _, _, s, rfl, by omega, rfl, rfl⟩
theorem ex_2 (s : zA) {x : zB} (hop : x.Op = 2) : ze4 s x = (.ok (s.At + 1, updR s x.R x.Number)) := by
 cases x; cases hop; rfl
theorem hx_2 (N : Nat) (M : zD) {x : zB} (hop : x.Op = 2) : ze N M x = (zad M x.R x.Number).bind fun r => some (w6 (r.zA.At + 1), r) := by
 cases x; cases hop; rfl
theorem rx_2 (N : Nat) {x : zB} (hop : x.Op = 2) (hi : idx c.zC s.At = some x) : zd N c s = (if 0 ≤ x.R then (if x.R < (s.Registers.length : Int) then ((s.Registers[x.R.toNat]?).bind fun _ => some (0, updR s x.R x.Number)) else none) else none).bind fun r => some (w6 (s.At + 1), r.1, r.2) := by
 unfold zd
 rw [hi, obs]
 clear hi
 cases x; cases hop; rfl
theorem zafb (N : Nat) (hN : 20000 < N) (hc : CodeV m c) (hs : StV m c s) {x : zB} (hx : c.zC[s.At.toNat]? = some x) (hop : x.Op = 2) : zcj N m c s x := by
 have iv := zhk hc (lmg hx) hop (U := ⟨true, false, false, false, false, false, true, false, false, false, false, false, false, false, 0, 0⟩) rfl
 have hi : idx c.zC s.At = some x := by unfold idx; rw [ifp hs.at0, hx]
 have m8 := hc.m2
 have a0 := hs.at0
 have a1 := hs.at1
 have n240 := hc.len
 have wn1 : w6 (s.At + 1) = s.At + 1 := w6e
 unfold zcj
 rw [ex_2 s hop, hx_2 N _ hop, rx_2 N hop hi]
 obtain ⟨g1, g2, g3, g4, g5⟩ := zgc hs (iv.r rfl)
 refine .inr ⟨_, _, _, rfl, ?_, ?_, fun _ => ⟨rfl, by omega, by omega⟩, hs.updR iv.nu, rfl, rfl, rfl⟩
 · rw [zvu hs m8 (iv.r rfl)]; show some (w6 (s.At + 1), _) = _; rw [wn1]
 · rw [ifp g1, ifp g2, g3]; show some (w6 (s.At + 1), _) = _; rw [wn1]
theorem ex_3 (s : zA) {x : zB} (hop : x.Op = 3) : ze4 s x = (.ok (s.At + 1, updR s x.R (rg s x.A))) := by
 cases x; cases hop; rfl
theorem hx_3 (N : Nat) (M : zD) {x : zB} (hop : x.Op = 3) : ze N M x = (idx M.zA.Registers x.A).bind fun v => (zad M x.R v).bind fun r => some (w6 (r.zA.At + 1), r) := by
 cases x; cases hop; rfl
theorem rx_3 (N : Nat) {x : zB} (hop : x.Op = 3) (hi : idx c.zC s.At = some x) : zd N c s = (if 0 ≤ x.A then (if x.A < (s.Registers.length : Int) then ((s.Registers[x.A.toNat]?).bind fun v => if 0 ≤ x.R then (if x.R < (s.Registers.length : Int) then ((s.Registers[x.R.toNat]?).bind fun _ => some (0, updR s x.R v)) else none) else none) else none) else none).bind fun r => some (w6 (s.At + 1), r.1, r.2) := by
 unfold zd
 rw [hi, obs]
 clear hi
 cases x; cases hop; rfl
theorem zafa (N : Nat) (hN : 20000 < N) (hc : CodeV m c) (hs : StV m c s) {x : zB} (hx : c.zC[s.At.toNat]? = some x) (hop : x.Op = 3) : zcj N m c s x := by
 have iv := zhk hc (lmg hx) hop (U := ⟨true, true, false, false, false, false, false, false, false, false, false, false, false, false, 0, 0⟩) rfl
 have hi : idx c.zC s.At = some x := by unfold idx; rw [ifp hs.at0, hx]
 have m8 := hc.m2
 have a0 := hs.at0
 have a1 := hs.at1
 have n240 := hc.len
 have wn1 : w6 (s.At + 1) = s.At + 1 := w6e
 unfold zcj
 rw [ex_3 s hop, hx_3 N _ hop, rx_3 N hop hi]
 obtain ⟨g1, g2, g3, g4, g5⟩ := zgc hs (iv.r rfl)
 obtain ⟨f1, f2, f3, f4, f5⟩ := zgc hs (iv.a rfl)
 refine .inr ⟨_, _, _, rfl, ?_, ?_, fun _ => ⟨rfl, by omega, by omega⟩, hs.updR f5, rfl, rfl, rfl⟩
 · show ((idx s.Registers x.A).bind _) = _; rw [f4, obs, zvu hs m8 (iv.r rfl)]; show some (w6 (s.At + 1), _) = _; rw [wn1]
 · rw [ifp f1, ifp f2, f3, obs, ifp g1, ifp g2, g3]; show some (w6 (s.At + 1), _) = _; rw [wn1]
theorem ex_5 (s : zA) {x : zB} (hop : x.Op = 5) : ze4 s x = (.ok (s.At + 1, updC s (zq9 s x.A x.B))) := by
 cases x; cases hop; rfl
theorem hx_5 (N : Nat) (M : zD) {x : zB} (hop : x.Op = 5) : ze N M x = (zaz N M x).bind fun r => some (w6 (M.zA.At + 1), ⟨updC M.zA r, M.code, M.raised⟩) := by
 cases x; cases hop; rfl
theorem rx_5 (N : Nat) {x : zB} (hop : x.Op = 5) (hi : idx c.zC s.At = some x) : zd N c s = (if 0 ≤ x.A then (if x.A < (s.Registers.length : Int) then ((s.Registers[x.A.toNat]?).bind fun v => if 0 ≤ x.B then (if x.B < (s.Registers.length : Int) then ((s.Registers[x.B.toNat]?).bind fun w => (zg1 N v w).bind fun r14 => (zdh r14).bind fun r15 => some (0, updC s r15)) else none) else none) else none) else none).bind fun r => some (w6 (s.At + 1), r.1, r.2) := by
 unfold zd
 rw [hi, obs]
 clear hi
 cases x; cases hop; rfl
theorem zae8 (N : Nat) (hN : 20000 < N) (hc : CodeV m c) (hs : StV m c s) {x : zB} (hx : c.zC[s.At.toNat]? = some x) (hop : x.Op = 5) : zcj N m c s x := by
 have iv := zhk hc (lmg hx) hop (U := ⟨false, true, true, false, false, false, false, false, false, false, false, false, false, false, 0, 0⟩) rfl
 have hi : idx c.zC s.At = some x := by unfold idx; rw [ifp hs.at0, hx]
 have m8 := hc.m2
 have a0 := hs.at0
 have a1 := hs.at1
 have n240 := hc.len
 have wn1 : w6 (s.At + 1) = s.At + 1 := w6e
 unfold zcj
 rw [ex_5 s hop, hx_5 N _ hop, rx_5 N hop hi]
 obtain ⟨g1, g2, g3, g4, g5⟩ := zgc hs (iv.b rfl)
 obtain ⟨f1, f2, f3, f4, f5⟩ := zgc hs (iv.a rfl)
 refine .inr ⟨_, _, _, rfl, ?_, ?_, fun _ => ⟨rfl, by omega, by omega⟩, hs.updC (zpr _), rfl, rfl, rfl⟩
 · rw [z05 N (by omega) hs x (iv.a rfl) (iv.b rfl)]; show some (w6 (s.At + 1), _) = _; rw [wn1]
 · rw [ifp f1, ifp f2, f3, obs, ifp g1, ifp g2, g3, obs, z2m N (by omega) f5 g5, obs, zq8]; show some (w6 (s.At + 1), _) = _; rw [wn1]; rfl
theorem zahl (s : zA) {x : zB} (hop : x.Op = 21) : ze4 s x = (.ok (s.At + 1, updR s x.R ⟨s.Exception, 0⟩)) := by
 cases x; cases hop; rfl
theorem zag0 (N : Nat) (M : zD) {x : zB} (hop : x.Op = 21) : ze N M x = (zad M x.R ⟨M.zA.Exception, 0⟩).bind fun r => some (w6 (r.zA.At + 1), r) := by
 cases x; cases hop; rfl
theorem zafx (N : Nat) {x : zB} (hop : x.Op = 21) (hi : idx c.zC s.At = some x) : zd N c s = (if 0 ≤ x.R then (if x.R < (s.Registers.length : Int) then ((s.Registers[x.R.toNat]?).bind fun _ => some (0, updR s x.R ⟨s.Exception, 0⟩)) else none) else none).bind fun r => some (w6 (s.At + 1), r.1, r.2) := by
 unfold zd
 rw [hi, obs]
 clear hi
 cases x; cases hop; rfl
theorem zac8 (N : Nat) (hN : 20000 < N) (hc : CodeV m c) (hs : StV m c s) {x : zB} (hx : c.zC[s.At.toNat]? = some x) (hop : x.Op = 21) : zcj N m c s x := by
 have iv := zhk hc (lmg hx) hop (U := ⟨true, false, false, false, false, false, false, false, false, false, false, false, false, false, 0, 0⟩) rfl
 have hi : idx c.zC s.At = some x := by unfold idx; rw [ifp hs.at0, hx]
 have m8 := hc.m2
 have a0 := hs.at0
 have a1 := hs.at1
 have n240 := hc.len
 have wn1 : w6 (s.At + 1) = s.At + 1 := w6e
 unfold zcj
 rw [zahl s hop, zag0 N _ hop, zafx N hop hi]
 obtain ⟨g1, g2, g3, g4, g5⟩ := zgc hs (iv.r rfl)
 have hn : zc6 ⟨s.Exception, 0⟩ := by
  have := hs.ex0; have := hs.ex1; exact ⟨⟨by show -999999999999999 ≤ s.Exception; omega, by show s.Exception ≤ 999999999999999; omega⟩, by show (0 : Int) ≤ 0; omega, by show (0 : Int) ≤ 15; omega⟩
 refine .inr ⟨_, _, _, rfl, ?_, ?_, fun _ => ⟨rfl, by omega, by omega⟩, hs.updR hn, rfl, rfl, rfl⟩
 · rw [zvu hs m8 (iv.r rfl)]; show some (w6 (s.At + 1), _) = _; rw [wn1]
 · rw [ifp g1, ifp g2, g3]; show some (w6 (s.At + 1), _) = _; rw [wn1]
end
section
variable {m : zJ} {c : zG} {s : zA}
theorem z41 {op : Int} {a b : Number} {t : DataType} {half : Bool} (h : (zhm op a b t half).2 = 0) : -((10 ^ t.Length.toNat : Nat) : Int) < (zhm op a b t half).1.N ∧ (zhm op a b t half).1.N < ((10 ^ t.Length.toNat : Nat) : Int) := by
 unfold zhm at h ⊢
 by_cases h1 : (op = 3 ∨ op = 4) ∧ b.N = 0
 · rw [ifp h1] at h; cases h
 · rw [ifn h1] at h ⊢
   by_cases h2 : op = 0
   · rw [ifp h2] at h ⊢; exact zml h
   · rw [ifn h2] at h ⊢
     by_cases h3 : op = 1
     · rw [ifp h3] at h ⊢; exact zml h
     · rw [ifn h3] at h ⊢
       by_cases h4 : op = 2
       · rw [ifp h4] at h ⊢; exact zml h
       · rw [ifn h4] at h ⊢
         by_cases h5 : op = 3
         · rw [ifp h5] at h ⊢; exact zml h
         · rw [ifn h5] at h ⊢; exact zml h
theorem zaef {t : DataType} (ht : ziy t) {n : Int} (h : -((10 ^ t.Length.toNat : Nat) : Int) < n ∧ n < ((10 ^ t.Length.toNat : Nat) : Int)) : zc6 ⟨n, t.Scale⟩ := by
 obtain ⟨⟨l1, l2⟩, l3, l4⟩ := zgo ht
 have hpw : 10 ^ t.Length.toNat ≤ 10 ^ 15 := zca (by omega)
 refine ⟨⟨?_, ?_⟩, l3, ?_⟩
 · show -999999999999999 ≤ n; omega
 · show n ≤ 999999999999999; omega
 · show t.Scale ≤ 15; omega
theorem z34 (N : Nat) (hN : 20000 < N) (hs : StV m c s) (m8 : m.Registers ≤ 8) {x : zB} (hr : 0 ≤ x.R ∧ x.R < m.Registers) (ha : 0 ≤ x.A ∧ x.A < m.Registers) (ht : ziy x.zF) (ho : 0 ≤ x.zK ∧ x.zK ≤ 4) {b : Number} (hb : zc6 b) :
 (∃ e, (e = 3 ∨ e = 2) ∧ (if (zhm x.zK (rg s x.A) b x.zF false).2 = 20 then (.error 3 : Except Int (Int × zA)) else if (zhm x.zK (rg s x.A) b x.zF false).2 ≠ 0 then .error 2 else .ok (s.At + 1, updR s x.R ⟨(zhm x.zK (rg s x.A) b x.zF false).1.N, x.zF.Scale⟩)) = .error e ∧
  ((zco N x.zK (rg s x.A) b x.zF false).bind fun r3 => (zg ⟨s, c, 0⟩ (r3.2 == 20) 3).bind fun r4 => cond r4.1 ((zg r4.2 (r3.2 != 0) 2).bind fun r5 => cond r5.1 ((zad r5.2 x.R (⟨r3.1.N, x.zF.Scale⟩ : Number)).bind fun r6 => some r6) (some r5.2)) (some r4.2)) = some ⟨s, c, e⟩ ∧
  ((zdk N (⟨x.zK, x.zF, false⟩ : zU) (rg s x.A) b).bind fun r19 => cond (r19.2 == 20) (some ((3 : Int), s)) (cond (r19.2 != 0) (some (2, s)) (if 0 ≤ x.R then (if x.R < (s.Registers.length : Int) then ((s.Registers[x.R.toNat]?).bind fun _ => some (0, updR s x.R ⟨r19.1.N, x.zF.Scale⟩)) else none) else none))) = some (e, s)) ∨
 ∃ n, zc6 n ∧ (if (zhm x.zK (rg s x.A) b x.zF false).2 = 20 then (.error 3 : Except Int (Int × zA)) else if (zhm x.zK (rg s x.A) b x.zF false).2 ≠ 0 then .error 2 else .ok (s.At + 1, updR s x.R ⟨(zhm x.zK (rg s x.A) b x.zF false).1.N, x.zF.Scale⟩)) = .ok (s.At + 1, updR s x.R n) ∧
  ((zco N x.zK (rg s x.A) b x.zF false).bind fun r3 => (zg ⟨s, c, 0⟩ (r3.2 == 20) 3).bind fun r4 => cond r4.1 ((zg r4.2 (r3.2 != 0) 2).bind fun r5 => cond r5.1 ((zad r5.2 x.R (⟨r3.1.N, x.zF.Scale⟩ : Number)).bind fun r6 => some r6) (some r5.2)) (some r4.2)) = some ⟨updR s x.R n, c, 0⟩ ∧
  ((zdk N (⟨x.zK, x.zF, false⟩ : zU) (rg s x.A) b).bind fun r19 => cond (r19.2 == 20) (some ((3 : Int), s)) (cond (r19.2 != 0) (some (2, s)) (if 0 ≤ x.R then (if x.R < (s.Registers.length : Int) then ((s.Registers[x.R.toNat]?).bind fun _ => some (0, updR s x.R ⟨r19.1.N, x.zF.Scale⟩)) else none) else none))) = some (0, updR s x.R n) := by
 obtain ⟨g1, g2, g3, g4, g5⟩ := zgc hs hr
 obtain ⟨f1, f2, f3, f4, f5⟩ := zgc hs ha
 rw [zack N (by omega) ho f5 hb ht, zab9 N (by omega) ho f5 hb ht]
 simp only [obs]
 rw [zii _ _ _ _ (by decide)]
 simp only [obs, zar]
 by_cases h20 : (zhm x.zK (rg s x.A) b x.zF false).2 = 20
 · left; rw [dct h20, ifp h20]; exact ⟨3, .inl rfl, rfl, rfl, rfl⟩
 · rw [dcf h20, ifn h20]; simp only [Bool.not_false, ctr, cfa]; rw [zii _ _ _ _ (by decide)]; simp only [obs]
   by_cases h0 : (zhm x.zK (rg s x.A) b x.zF false).2 = 0
   · right; have hn := zaef ht (z41 h0); rw [ifn (by rw [h0]; decide), h0]; refine ⟨_, hn, rfl, ?_, ?_⟩
     · simp only [bsf, Bool.not_false, ctr, cfa]; rw [zvu hs m8 hr]; rfl
     · simp only [bsf, cfa]; rw [ifp g1, ifp g2, g3]; rfl
   · left; rw [ifp h0, zb6, dct h0]; exact ⟨2, .inr rfl, rfl, rfl, rfl⟩
theorem ex_4 (s : zA) {x : zB} (hop : x.Op = 4) : ze4 s x = (match (if x.zL = true then zyc s.Storage x.Place x.Second else .ok (rg s x.B)) with
 | .error e => .error e
 | .ok b => if (zhm x.zK (rg s x.A) b x.zF false).2 = 20 then .error 3 else if (zhm x.zK (rg s x.A) b x.zF false).2 ≠ 0 then .error 2 else .ok (s.At + 1, updR s x.R ⟨(zhm x.zK (rg s x.A) b x.zF false).1.N, x.zF.Scale⟩)) := by
 cases x; cases hop; rfl
theorem hx_4 (N : Nat) (M : zD) {x : zB} (hop : x.Op = 4) : ze N M x = (cond x.zL ((zbs N M x.Place x.Second).bind fun r1 => cond (!r1.2.1) (some r1.2.2) ((idx r1.2.2.zA.Registers x.A).bind fun x2 =>
 (zco N x.zK x2 r1.1 x.zF false).bind fun r3 => (zg r1.2.2 (r3.2 == 20) 3).bind fun r4 =>
 cond r4.1 ((zg r4.2 (r3.2 != 0) 2).bind fun r5 => cond r5.1 ((zad r5.2 x.R (⟨r3.1.N, x.zF.Scale⟩ : Number)).bind fun r6 => some r6)
 (some r5.2)) (some r4.2))) ((idx M.zA.Registers x.B).bind fun x7 => (idx M.zA.Registers x.A).bind fun x8 =>
 (zco N x.zK x8 x7 x.zF false).bind fun r9 => (zg M (r9.2 == 20) 3).bind fun r10 =>
 cond r10.1 ((zg r10.2 (r9.2 != 0) 2).bind fun r11 => cond r11.1 ((zad r11.2 x.R (⟨r9.1.N, x.zF.Scale⟩ : Number)).bind fun r12 =>
 some r12) (some r11.2)) (some r10.2))).bind fun r => some (w6 (r.zA.At + 1), r) := by
 cases x; cases hop; rfl
theorem rx_4 (N : Nat) {x : zB} (hop : x.Op = 4) (hi : idx c.zC s.At = some x) : zd N c s = (cond x.zL ((zgg N s x.Place x.Second).bind fun r17 => cond (r17.2 != 0) (some (r17.2, s))
 (if 0 ≤ x.A then (if x.A < (s.Registers.length : Int) then ((s.Registers[x.A.toNat]?).bind fun x18 =>
 (zdk N (⟨x.zK, x.zF, false⟩ : zU) x18 r17.1).bind fun r19 => cond (r19.2 == 20) (some (3, s)) (cond (r19.2 != 0) (some (2, s)) (if 0 ≤ x.R then (if x.R < (s.Registers.length : Int) then ((s.Registers[x.R.toNat]?).bind fun _ => some (0, updR s x.R ⟨r19.1.N, x.zF.Scale⟩)) else none) else none))) else none) else none))
 (if 0 ≤ x.B then (if x.B < (s.Registers.length : Int) then ((s.Registers[x.B.toNat]?).bind fun x21 =>
 if 0 ≤ x.A then (if x.A < (s.Registers.length : Int) then ((s.Registers[x.A.toNat]?).bind fun x22 =>
 (zdk N (⟨x.zK, x.zF, false⟩ : zU) x22 x21).bind fun r19 => cond (r19.2 == 20) (some (3, s)) (cond (r19.2 != 0) (some (2, s)) (if 0 ≤ x.R then (if x.R < (s.Registers.length : Int) then ((s.Registers[x.R.toNat]?).bind fun _ => some (0, updR s x.R ⟨r19.1.N, x.zF.Scale⟩)) else none) else none))) else none) else none) else none) else none)).bind fun r => some (w6 (s.At + 1), r.1, r.2) := by
 unfold zd
 rw [hi, obs]
 clear hi
 cases x; cases hop; rfl
theorem zae9 (N : Nat) (hN : 20000 < N) (hc : CodeV m c) (hs : StV m c s) {x : zB} (hx : c.zC[s.At.toNat]? = some x) (hop : x.Op = 4) : zcj N m c s x := by
 have hi : idx c.zC s.At = some x := by unfold idx; rw [ifp hs.at0, hx]
 have m8 := hc.m2
 have a0 := hs.at0
 have a1 := hs.at1
 have n240 := hc.len
 have wn1 : w6 (s.At + 1) = s.At + 1 := w6e
 unfold zcj
 rw [ex_4 s hop, hx_4 N _ hop, rx_4 N hop hi]
 by_cases hst : x.zL = true
 · have iv := zhk hc (lmg hx) hop (U := ⟨true, true, false, true, false, false, false, true, false, false, false, false, false, false, 1, 1⟩) (by rw [hst]; rfl); obtain ⟨f1, f2, f3, f4, f5⟩ := zgc hs (iv.a rfl); have hp : zcn s.Storage x.Place (szE x.Second) = true := by rw [zg5 hs.size]; have := iv.pl rfl; unfold zgw at this; rw [ifp hop] at this; exact this
   rw [hst]; simp only [ctr, if_true]; rcases z21 N (by omega) s c hs.sto (iv.se1 rfl) hp with ⟨e, b, k, he, h1, h2, h3⟩ | ⟨n, h1, h2, h3, h4⟩
   · rw [h1, h2, h3]; refine .inl ⟨e, _, w6 (s.At + 1), s, rfl, by omega, rfl, ?_⟩; rcases he with rfl | rfl | rfl <;> rfl
   · rw [h1, h2, h3]; simp only [obs, bnt, cfa, bsf]; rw [f4, ifp f1, ifp f2, f3]; simp only [obs]; rcases z34 (c := c) N hN hs m8 (iv.r rfl) (iv.a rfl) (iv.ty1 rfl) (iv.ca rfl) h4 with ⟨e, he, k1, k2, k3⟩ | ⟨n, hn, k1, k2, k3⟩
     · rw [k1, k2, k3]; exact .inl ⟨e, _, w6 (s.At + 1), s, rfl, by omega, rfl, rfl⟩
     · rw [k1, k2, k3]; refine .inr ⟨_, _, _, rfl, ?_, ?_, fun _ => ⟨rfl, by omega, by omega⟩, hs.updR hn, rfl, rfl, rfl⟩
       · show some (w6 (s.At + 1), _) = _; rw [wn1]
       · show some (w6 (s.At + 1), _) = _; rw [wn1]
 · have hst' : x.zL = false := by simpa using hst
   have iv := zhk hc (lmg hx) hop (U := ⟨true, true, true, false, false, false, false, true, false, false, false, false, false, false, 1, 0⟩) (by rw [hst']; rfl); obtain ⟨f1, f2, f3, f4, f5⟩ := zgc hs (iv.a rfl); obtain ⟨b1, b2, b3, b4, b5⟩ := zgc hs (iv.b rfl); rw [hst']; simp only [cfa, Bool.false_eq_true, if_false]; rw [b4, obs, f4, ifp b1, ifp b2, b3]; simp only [obs]; rw [ifp f1, ifp f2, f3]; simp only [obs]; rcases z34 (c := c) N hN hs m8 (iv.r rfl) (iv.a rfl) (iv.ty1 rfl) (iv.ca rfl) b5 with ⟨e, he, k1, k2, k3⟩ | ⟨n, hn, k1, k2, k3⟩
   · rw [k1, k2, k3]; exact .inl ⟨e, _, w6 (s.At + 1), s, rfl, by omega, rfl, rfl⟩
   · rw [k1, k2, k3]; refine .inr ⟨_, _, _, rfl, ?_, ?_, fun _ => ⟨rfl, by omega, by omega⟩, hs.updR hn, rfl, rfl, rfl⟩
     · show some (w6 (s.At + 1), _) = _; rw [wn1]
     · show some (w6 (s.At + 1), _) = _; rw [wn1]
theorem ex_6 (s : zA) {x : zB} (hop : x.Op = 6) : ze4 s x = (.ok (cond (zh .i64 s.Condition x.Mask != 0) x.Target (s.At + 1), s)) := by
 cases x; cases hop; rfl
theorem hx_6 (N : Nat) (M : zD) {x : zB} (hop : x.Op = 6) : ze N M x = (cond ((zh .i64 M.zA.Condition x.Mask) != 0) (some (x.Target, M)) (some ((w6 (M.zA.At + 1)), M))).bind fun r => some (r.1, r.2) := by
 cases x; cases hop; rfl
theorem rx_6 (N : Nat) {x : zB} (hop : x.Op = 6) (hi : idx c.zC s.At = some x) : zd N c s = cond ((zh .i64 x.Mask s.Condition) != 0) (some (x.Target, 0, s)) (some ((w6 (s.At + 1)), 0, s)) := by
 unfold zd
 rw [hi, obs]
 clear hi
 cases x; cases hop; rfl
theorem zae7 (N : Nat) (hN : 20000 < N) (hc : CodeV m c) (hs : StV m c s) {x : zB} (hx : c.zC[s.At.toNat]? = some x) (hop : x.Op = 6) : zcj N m c s x := by
 have iv := zhk hc (lmg hx) hop (U := ⟨false, false, false, false, false, false, false, false, true, true, false, false, false, false, 0, 0⟩) rfl
 have hi : idx c.zC s.At = some x := by unfold idx; rw [ifp hs.at0, hx]
 have m8 := hc.m2
 have a0 := hs.at0
 have a1 := hs.at1
 have n240 := hc.len
 have wn1 : w6 (s.At + 1) = s.At + 1 := w6e
 unfold zcj
 rw [ex_6 s hop, hx_6 N _ hop, rx_6 N hop hi]
 have ht := iv.tg rfl
 rw [z1h x.Mask s.Condition]
 simp only [wn1]
 cases (zh .i64 s.Condition x.Mask != 0) with
 | true => exact .inr ⟨_, _, _, rfl, rfl, rfl, fun _ => ⟨rfl, by show 0 ≤ x.Target; omega, by show x.Target ≤ _; omega⟩, hs, rfl, rfl, rfl⟩
 | false => exact .inr ⟨_, _, _, rfl, rfl, rfl, fun _ => ⟨rfl, by show 0 ≤ s.At + 1; omega, by show s.At + 1 ≤ _; omega⟩, hs, rfl, rfl, rfl⟩
theorem ex_7 (s : zA) {x : zB} (hop : x.Op = 7) : ze4 s x = (.ok (cond (zh .i64 (zq9 s x.A x.B) x.Mask != 0) x.Target (s.At + 1), s)) := by
 cases x; cases hop; rfl
theorem hx_7 (N : Nat) (M : zD) {x : zB} (hop : x.Op = 7) : ze N M x = ((zaz N M x).bind fun r3 => cond ((zh .i64 r3 x.Mask) != 0) (some (x.Target, M)) (some ((w6 (M.zA.At + 1)), M))).bind fun r => some (r.1, r.2) := by
 cases x; cases hop; rfl
theorem rx_7 (N : Nat) {x : zB} (hop : x.Op = 7) (hi : idx c.zC s.At = some x) : zd N c s = if 0 ≤ x.A then (if x.A < (s.Registers.length : Int) then ((s.Registers[x.A.toNat]?).bind fun x2 =>
 if 0 ≤ x.B then (if x.B < (s.Registers.length : Int) then ((s.Registers[x.B.toNat]?).bind fun x3 => (zg1 N x2 x3).bind fun r4 => (zdh r4).bind fun r5 =>
 cond ((zh .i64 x.Mask r5) != 0) (some (x.Target, 0, s)) (some ((w6 (s.At + 1)), 0, s))) else none) else none) else none) else none := by
 unfold zd
 rw [hi, obs]
 clear hi
 cases x; cases hop; rfl
theorem zae6 (N : Nat) (hN : 20000 < N) (hc : CodeV m c) (hs : StV m c s) {x : zB} (hx : c.zC[s.At.toNat]? = some x) (hop : x.Op = 7) : zcj N m c s x := by
 have iv := zhk hc (lmg hx) hop (U := ⟨false, true, true, false, false, false, false, false, true, true, false, false, false, false, 0, 0⟩) rfl
 have hi : idx c.zC s.At = some x := by unfold idx; rw [ifp hs.at0, hx]
 have m8 := hc.m2
 have a0 := hs.at0
 have a1 := hs.at1
 have n240 := hc.len
 have wn1 : w6 (s.At + 1) = s.At + 1 := w6e
 unfold zcj
 rw [ex_7 s hop, hx_7 N _ hop, rx_7 N hop hi]
 have ht := iv.tg rfl
 obtain ⟨g1, g2, g3, g4, g5⟩ := zgc hs (iv.b rfl)
 obtain ⟨f1, f2, f3, f4, f5⟩ := zgc hs (iv.a rfl)
 rw [z05 N (by omega) hs x (iv.a rfl) (iv.b rfl), ifp f1, ifp f2, f3, obs, obs, ifp g1, ifp g2, g3, obs, z2m N (by omega) f5 g5, obs, zq8, obs]
 rw [show zok (z0b (zal (rg s x.A) (zi (rg s x.A) (rg s x.B))) (zal (rg s x.B) (zi (rg s x.A) (rg s x.B)))) = zq9 s x.A x.B from rfl, z1h x.Mask]
 simp only [wn1]
 cases (zh .i64 (zq9 s x.A x.B) x.Mask != 0) with
 | true => exact .inr ⟨_, _, _, rfl, rfl, rfl, fun _ => ⟨rfl, by show 0 ≤ x.Target; omega, by show x.Target ≤ _; omega⟩, hs, rfl, rfl, rfl⟩
 | false => exact .inr ⟨_, _, _, rfl, rfl, rfl, fun _ => ⟨rfl, by show 0 ≤ s.At + 1; omega, by show s.At + 1 ≤ _; omega⟩, hs, rfl, rfl, rfl⟩
theorem ex_8 (s : zA) {x : zB} (hop : x.Op = 8) : ze4 s x = (.ok (x.Target, s)) := by
 cases x; cases hop; rfl
theorem hx_8 (N : Nat) (M : zD) {x : zB} (hop : x.Op = 8) : ze N M x = some (x.Target, M) := by
 cases x; cases hop; rfl
theorem rx_8 (N : Nat) {x : zB} (hop : x.Op = 8) (hi : idx c.zC s.At = some x) : zd N c s = some (x.Target, 0, s) := by
 unfold zd
 rw [hi, obs]
 clear hi
 cases x; cases hop; rfl
theorem zae5 (N : Nat) (hN : 20000 < N) (hc : CodeV m c) (hs : StV m c s) {x : zB} (hx : c.zC[s.At.toNat]? = some x) (hop : x.Op = 8) : zcj N m c s x := by
 have iv := zhk hc (lmg hx) hop (U := ⟨false, false, false, false, false, false, false, false, false, true, false, false, false, false, 0, 0⟩) rfl
 have hi : idx c.zC s.At = some x := by unfold idx; rw [ifp hs.at0, hx]
 have m8 := hc.m2
 have a0 := hs.at0
 have a1 := hs.at1
 have n240 := hc.len
 have wn1 : w6 (s.At + 1) = s.At + 1 := w6e
 unfold zcj
 rw [ex_8 s hop, hx_8 N _ hop, rx_8 N hop hi]
 have ht := iv.tg rfl
 exact .inr ⟨_, _, _, rfl, rfl, rfl, fun _ => ⟨rfl, by omega, by omega⟩, hs, rfl, rfl, rfl⟩
theorem z26 (N : Nat) (hN : 20000 < N) (hc : CodeV m c) (hs : StV m c s) {p : zN} {t : DataType} (ht : zdx t = 0) (hk : t.Kind = 0) (hp : zcn s.Storage p (szE t) = true) (b : ByteArray) (hb : b.size ≤ 5000) :
 (∃ e, (e = 4 ∨ e = 5) ∧ zlu s.Storage p (szE t) = .error e ∧
  ((zd8 b t.Length).bind fun r4 => if 0 ≤ t.Length ∧ t.Length ≤ (r4.size : Int) then (if 0 ≤ (0 : Int) ∧ (0 : Int) ≤ t.Length then ((zbd N ⟨s, c, 0⟩ p (r4.extract (0 : Int).toNat t.Length.toNat)).bind fun r5 => some r5) else none) else none) = some ⟨s, c, e⟩ ∧
  (((zbt N s p (szE t)).bind fun r12 => cond (r12.2 != 0) (some (r12.2, s)) ((zea N b (szE t)).bind fun r13 => (zbf N s.Storage r12.1 r13).bind fun r14 => some (0, updS s r14))) = some (e, s))) ∨
 ∃ a, zlu s.Storage p (szE t) = .ok a ∧ StV m c (updS s (wrV s.Storage a.toNat (zk8 b t.Length.toNat))) ∧
  ((zd8 b t.Length).bind fun r4 => if 0 ≤ t.Length ∧ t.Length ≤ (r4.size : Int) then (if 0 ≤ (0 : Int) ∧ (0 : Int) ≤ t.Length then ((zbd N ⟨s, c, 0⟩ p (r4.extract (0 : Int).toNat t.Length.toNat)).bind fun r5 => some r5) else none) else none) = some ⟨updS s (wrV s.Storage a.toNat (zk8 b t.Length.toNat)), c, 0⟩ ∧
  (((zbt N s p (szE t)).bind fun r12 => cond (r12.2 != 0) (some (r12.2, s)) ((zea N b (szE t)).bind fun r13 => (zbf N s.Storage r12.1 r13).bind fun r14 => some (0, updS s r14))) = some (0, updS s (wrV s.Storage a.toNat (zk8 b t.Length.toNat)))) := by
 have hsz := zkm ht
 have hle : szE t = t.Length := by unfold szE; rw [ifn, ifn, ifn]
 have hL : t.Length = ((t.Length.toNat : Nat) : Int) := by omega
 have hpad := z3h b hb t.Length.toNat (by omega)
 rw [← hL] at hpad
 rw [hpad, obs]
 have hps : (⟨(bl b ++ List.replicate (t.Length.toNat - b.size) 32).toArray⟩ : ByteArray).size = b.size + (t.Length.toNat - b.size) := by
  show (bl b ++ List.replicate (t.Length.toNat - b.size) 32).length = _; rw [lna, lnr, zao]
 rw [ifp ⟨by omega, by rw [hps]; omega⟩, ifp, show (0 : Int).toNat = 0 from rfl, z8p]
 have hrp : zea N b (szE t) = some (zk8 b t.Length.toNat) := by
  have h := zu8 N (by omega) b hb t.Length.toNat (by omega); rw [← hL] at h; rw [hle]; exact h
 unfold zbd
 have hpz : ((zk8 b t.Length.toNat).size : Int) = szE t := by rw [zvm]; omega
 rw [hpz]
 rcases zse N (by omega) s c hs.sto hp hsz.1 hsz.2 with ⟨e, j, k, he, h1, h2, h3⟩ | ⟨a, h1, h2, h3, h4, h5⟩
 · left; rw [h1, h2, h3]; refine ⟨e, he, rfl, rfl, ?_⟩; rcases he with rfl | rfl <;> rfl
 · right; rw [h1, h2, h3]; obtain ⟨a, rfl⟩ : ∃ k : Nat, a = (k : Int) := ⟨a.toNat, by omega⟩; have hw : a + (zk8 b t.Length.toNat).size ≤ s.Storage.Bytes.size := by omega
   have hw0 : 0 < (zk8 b t.Length.toNat).size := by omega
   refine ⟨_, rfl, hs.updS (z1t hs.sto hw hw0) (ztg hw), ?_, ?_⟩
   · simp only [obs, ctr]; rw [z1v N (by omega) hs.sto hw hw0]; rfl
   · simp only [obs, bsf, cfa]; rw [hrp]; simp only [obs]; rw [zxy N (by omega) hs.sto hw hw0]; rfl
theorem ex_9 (s : zA) {x : zB} (hop : x.Op = 9) : ze4 s x = (match zlt s.Storage x.From x.Second with
 | .error e => .error e
 | .ok b => match zlu s.Storage x.Place (szE x.zF) with | .error e => .error e | .ok a => .ok (s.At + 1, updS s (wrV s.Storage a.toNat (zk8 b x.zF.Length.toNat)))) := by
 cases x; cases hop; rfl
theorem hx_9 (N : Nat) (M : zD) {x : zB} (hop : x.Op = 9) : ze N M x = ((zu N M x.From x.Second).bind fun r1 => cond r1.2.1 ((zd8 r1.1 x.zF.Length).bind fun r4 => if 0 ≤ x.zF.Length ∧ x.zF.Length ≤ (r4.size : Int) then (if 0 ≤ (0 : Int) ∧ (0 : Int) ≤ x.zF.Length then ((zbd N r1.2.2 x.Place (r4.extract (0 : Int).toNat x.zF.Length.toNat)).bind fun r5 => some r5) else none) else none) (some r1.2.2)).bind fun r => some (w6 (r.zA.At + 1), r) := by
 cases x; cases hop; rfl
theorem rx_9 (N : Nat) {x : zB} (hop : x.Op = 9) (hi : idx c.zC s.At = some x) : zd N c s = ((za3 x.zF).bind fun r1 => (zc3 N s x.From x.Second).bind fun r8 => cond (r8.2 != 0) (some (r8.2, s)) ((zbt N s x.Place r1).bind fun r12 => cond (r12.2 != 0) (some (r12.2, s)) ((zea N r8.1 r1).bind fun r13 => (zbf N s.Storage r12.1 r13).bind fun r14 => some (0, updS s r14)))).bind fun r => some (w6 (s.At + 1), r.1, r.2) := by
 unfold zd
 rw [hi, obs]
 clear hi
 cases x; cases hop; rfl
theorem zae4 (N : Nat) (hN : 20000 < N) (hc : CodeV m c) (hs : StV m c s) {x : zB} (hx : c.zC[s.At.toNat]? = some x) (hop : x.Op = 9) : zcj N m c s x := by
 have iv := zhk hc (lmg hx) hop (U := ⟨false, false, false, true, true, false, false, false, false, false, false, false, false, false, 2, 2⟩) rfl
 have hi : idx c.zC s.At = some x := by unfold idx; rw [ifp hs.at0, hx]
 have m8 := hc.m2
 have a0 := hs.at0
 have a1 := hs.at1
 have n240 := hc.len
 have wn1 : w6 (s.At + 1) = s.At + 1 := w6e
 unfold zcj
 rw [ex_9 s hop, hx_9 N _ hop, rx_9 N hop hi]
 have hp : zcn s.Storage x.Place (szE x.zF) = true := by rw [zg5 hs.size]; have := iv.pl rfl; unfold zgw at this; rw [ifn] at this; exact this
 have hf : zcn s.Storage x.From (szE x.Second) = true := by rw [zg5 hs.size]; exact iv.fr rfl
 rw [zjr (iv.ty2 rfl).1, obs]
 have hz2 := zkm (iv.se2 rfl).1
 rcases znr N (by omega) s c hs.sto (iv.se2 rfl).1 hf with ⟨e, b, k, he, h1, h2, h3⟩ | ⟨b, h1, h2, h3, h4⟩
 · rw [h1, h2, h3]; refine .inl ⟨e, _, w6 (s.At + 1), s, rfl, by omega, rfl, ?_⟩; rcases he with rfl | rfl <;> rfl
 · rw [h1, h2, h3]; simp only [obs, ctr, bsf, cfa]; rcases z26 N hN hc hs (iv.ty2 rfl).1 (iv.ty2 rfl).2 hp b (by omega) with ⟨e, he, k1, k2, k3⟩ | ⟨a, k1, k4, k2, k3⟩
   · rw [k1, k2, k3]; exact .inl ⟨e, _, w6 (s.At + 1), s, rfl, by omega, rfl, rfl⟩
   · rw [k1, k2, k3]; refine .inr ⟨_, _, _, rfl, ?_, ?_, fun _ => ⟨rfl, by omega, by omega⟩, k4, rfl, rfl, rfl⟩
     · show some (w6 (s.At + 1), _) = _; rw [wn1]
     · show some (w6 (s.At + 1), _) = _; rw [wn1]
theorem zahw (s : zA) {x : zB} (hop : x.Op = 10) : ze4 s x = (match zlu s.Storage x.Place (szE x.zF) with | .error e => .error e | .ok a => .ok (s.At + 1, updS s (wrV s.Storage a.toNat (zk8 x.Text x.zF.Length.toNat)))) := by
 cases x; cases hop; rfl
theorem zahb (N : Nat) (M : zD) {x : zB} (hop : x.Op = 10) : ze N M x = ((zd8 x.Text x.zF.Length).bind fun r4 => if 0 ≤ x.zF.Length ∧ x.zF.Length ≤ (r4.size : Int) then (if 0 ≤ (0 : Int) ∧ (0 : Int) ≤ x.zF.Length then ((zbd N M x.Place (r4.extract (0 : Int).toNat x.zF.Length.toNat)).bind fun r5 => some r5) else none) else none).bind fun r => some (w6 (r.zA.At + 1), r) := by
 cases x; cases hop; rfl
theorem zaf8 (N : Nat) {x : zB} (hop : x.Op = 10) (hi : idx c.zC s.At = some x) : zd N c s = ((za3 x.zF).bind fun r1 => (zbt N s x.Place r1).bind fun r12 => cond (r12.2 != 0) (some (r12.2, s)) ((zea N x.Text r1).bind fun r13 => (zbf N s.Storage r12.1 r13).bind fun r14 => some (0, updS s r14))).bind fun r => some (w6 (s.At + 1), r.1, r.2) := by
 unfold zd
 rw [hi, obs]
 clear hi
 cases x; cases hop; rfl
theorem zadj (N : Nat) (hN : 20000 < N) (hc : CodeV m c) (hs : StV m c s) {x : zB} (hx : c.zC[s.At.toNat]? = some x) (hop : x.Op = 10) : zcj N m c s x := by
 have iv := zhk hc (lmg hx) hop (U := ⟨false, false, false, true, false, false, false, false, false, false, true, false, false, false, 2, 0⟩) rfl
 have hi : idx c.zC s.At = some x := by unfold idx; rw [ifp hs.at0, hx]
 have m8 := hc.m2
 have a0 := hs.at0
 have a1 := hs.at1
 have n240 := hc.len
 have wn1 : w6 (s.At + 1) = s.At + 1 := w6e
 unfold zcj
 rw [zahw s hop, zahb N _ hop, zaf8 N hop hi]
 have hp : zcn s.Storage x.Place (szE x.zF) = true := by rw [zg5 hs.size]; have := iv.pl rfl; unfold zgw at this; rw [ifn] at this; exact this
 have htx := iv.tx
 rw [zjr (iv.ty2 rfl).1, obs]
 rcases z26 N hN hc hs (iv.ty2 rfl).1 (iv.ty2 rfl).2 hp x.Text (by omega) with ⟨e, he, k1, k2, k3⟩ | ⟨a, k1, k4, k2, k3⟩
 · rw [k1, k2, k3]; exact .inl ⟨e, _, w6 (s.At + 1), s, rfl, by omega, rfl, rfl⟩
 · rw [k1, k2, k3]; refine .inr ⟨_, _, _, rfl, ?_, ?_, fun _ => ⟨rfl, by omega, by omega⟩, k4, rfl, rfl, rfl⟩
   · show some (w6 (s.At + 1), _) = _; rw [wn1]
   · show some (w6 (s.At + 1), _) = _; rw [wn1]
theorem zahv (s : zA) {x : zB} (hop : x.Op = 11) : ze4 s x = (match zlt s.Storage x.Place x.zF with
 | .error e => .error e
 | .ok a => match zlt s.Storage x.From x.Second with | .error e => .error e | .ok b => .ok (s.At + 1, updC s (zn3 a b))) := by
 cases x; cases hop; rfl
theorem zaha (N : Nat) (M : zD) {x : zB} (hop : x.Op = 11) : ze N M x = ((zu N M x.Place x.zF).bind fun r1 => (cond r1.2.1 (some true) (some false)).bind fun g2 => cond g2 ((zu N r1.2.2 x.From x.Second).bind fun r3 => cond r3.2.1 ((zcu r1.1 r3.1).bind fun r4 => some (⟨updC r3.2.2.zA r4, r3.2.2.code, r3.2.2.raised⟩ : zD)) (some r3.2.2)) (cond r1.2.1 ((zcu r1.1 x.Text).bind fun r5 => some (⟨updC r1.2.2.zA r5, r1.2.2.code, r1.2.2.raised⟩ : zD)) (some r1.2.2))).bind fun r => some (w6 (r.zA.At + 1), r) := by
 cases x; cases hop; rfl
theorem zaf7 (N : Nat) {x : zB} (hop : x.Op = 11) (hi : idx c.zC s.At = some x) : zd N c s = ((za3 x.zF).bind fun r1 => (zc3 N s x.Place x.zF).bind fun r5 => cond (r5.2 != 0) (some (r5.2, s)) ((zc3 N s x.From x.Second).bind fun r6 => cond (r6.2 != 0) (some (r6.2, s)) ((zgf N r5.1 r6.1).bind fun r7 => some (0, updC s r7)))).bind fun r => some (w6 (s.At + 1), r.1, r.2) := by
 unfold zd
 rw [hi, obs]
 clear hi
 cases x; cases hop; rfl
theorem zadi (N : Nat) (hN : 20000 < N) (hc : CodeV m c) (hs : StV m c s) {x : zB} (hx : c.zC[s.At.toNat]? = some x) (hop : x.Op = 11) : zcj N m c s x := by
 have iv := zhk hc (lmg hx) hop (U := ⟨false, false, false, true, true, false, false, false, false, false, false, false, false, false, 2, 2⟩) rfl
 have hi : idx c.zC s.At = some x := by unfold idx; rw [ifp hs.at0, hx]
 have m8 := hc.m2
 have a0 := hs.at0
 have a1 := hs.at1
 have n240 := hc.len
 have wn1 : w6 (s.At + 1) = s.At + 1 := w6e
 unfold zcj
 rw [zahv s hop, zaha N _ hop, zaf7 N hop hi]
 have hp : zcn s.Storage x.Place (szE x.zF) = true := by rw [zg5 hs.size]; have := iv.pl rfl; unfold zgw at this; rw [ifn] at this; exact this
 have hf : zcn s.Storage x.From (szE x.Second) = true := by rw [zg5 hs.size]; exact iv.fr rfl
 rw [zjr (iv.ty2 rfl).1, obs]
 have hz1 := zkm (iv.ty2 rfl).1
 have hz2 := zkm (iv.se2 rfl).1
 rcases znr N (by omega) s c hs.sto (iv.ty2 rfl).1 hp with ⟨e, b, k, he, h1, h2, h3⟩ | ⟨b, h1, h2, h3, h4⟩
 · rw [h1, h2, h3]; refine .inl ⟨e, _, w6 (s.At + 1), s, rfl, by omega, rfl, ?_⟩; rcases he with rfl | rfl <;> rfl
 · rw [h1, h2, h3]; simp only [obs, ctr, bsf, cfa]; rcases znr N (by omega) s c hs.sto (iv.se2 rfl).1 hf with ⟨e, d, k, he, k1, k2, k3⟩ | ⟨d, k1, k2, k3, k4⟩
   · rw [k1, k2, k3]; refine .inl ⟨e, _, w6 (s.At + 1), s, rfl, by omega, rfl, ?_⟩; rcases he with rfl | rfl <;> rfl
   · rw [k1, k2, k3]; refine .inr ⟨_, _, _, rfl, ?_, ?_, fun _ => ⟨rfl, by omega, by omega⟩, hs.updC (zpr _), rfl, rfl, rfl⟩
     · simp only [obs, ctr]; rw [zyi b d (by omega) (by omega)]; show some (w6 (s.At + 1), _) = _; rw [wn1]
     · simp only [obs, bsf, cfa]; rw [zxz N (by omega) b d (by omega) (by omega)]; show some (w6 (s.At + 1), _) = _; rw [wn1]
theorem zahu (s : zA) {x : zB} (hop : x.Op = 12) : ze4 s x = (match zlt s.Storage x.Place x.zF with | .error e => .error e | .ok a => .ok (s.At + 1, updC s (zn3 a x.Text))) := by
 cases x; cases hop; rfl
theorem zag9 (N : Nat) (M : zD) {x : zB} (hop : x.Op = 12) : ze N M x = ((zu N M x.Place x.zF).bind fun r1 => (cond r1.2.1 (some false) (some false)).bind fun g2 => cond g2 ((zu N r1.2.2 x.From x.Second).bind fun r3 => cond r3.2.1 ((zcu r1.1 r3.1).bind fun r4 => some (⟨updC r3.2.2.zA r4, r3.2.2.code, r3.2.2.raised⟩ : zD)) (some r3.2.2)) (cond r1.2.1 ((zcu r1.1 x.Text).bind fun r5 => some (⟨updC r1.2.2.zA r5, r1.2.2.code, r1.2.2.raised⟩ : zD)) (some r1.2.2))).bind fun r => some (w6 (r.zA.At + 1), r) := by
 cases x; cases hop; rfl
theorem zaf6 (N : Nat) {x : zB} (hop : x.Op = 12) (hi : idx c.zC s.At = some x) : zd N c s = ((za3 x.zF).bind fun r1 => (zc3 N s x.Place x.zF).bind fun r5 => cond (r5.2 != 0) (some (r5.2, s)) ((zgf N r5.1 x.Text).bind fun r7 => some (0, updC s r7))).bind fun r => some (w6 (s.At + 1), r.1, r.2) := by
 unfold zd
 rw [hi, obs]
 clear hi
 cases x; cases hop; rfl
theorem zadh (N : Nat) (hN : 20000 < N) (hc : CodeV m c) (hs : StV m c s) {x : zB} (hx : c.zC[s.At.toNat]? = some x) (hop : x.Op = 12) : zcj N m c s x := by
 have iv := zhk hc (lmg hx) hop (U := ⟨false, false, false, true, false, false, false, false, false, false, true, false, false, false, 2, 0⟩) rfl
 have hi : idx c.zC s.At = some x := by unfold idx; rw [ifp hs.at0, hx]
 have m8 := hc.m2
 have a0 := hs.at0
 have a1 := hs.at1
 have n240 := hc.len
 have wn1 : w6 (s.At + 1) = s.At + 1 := w6e
 unfold zcj
 rw [zahu s hop, zag9 N _ hop, zaf6 N hop hi]
 have hp : zcn s.Storage x.Place (szE x.zF) = true := by rw [zg5 hs.size]; have := iv.pl rfl; unfold zgw at this; rw [ifn] at this; exact this
 rw [zjr (iv.ty2 rfl).1, obs]
 have hz1 := zkm (iv.ty2 rfl).1
 have htx := iv.tx
 rcases znr N (by omega) s c hs.sto (iv.ty2 rfl).1 hp with ⟨e, b, k, he, h1, h2, h3⟩ | ⟨b, h1, h2, h3, h4⟩
 · rw [h1, h2, h3]; refine .inl ⟨e, _, w6 (s.At + 1), s, rfl, by omega, rfl, ?_⟩; rcases he with rfl | rfl <;> rfl
 · rw [h1, h2, h3]; refine .inr ⟨_, _, _, rfl, ?_, ?_, fun _ => ⟨rfl, by omega, by omega⟩, hs.updC (zpr _), rfl, rfl, rfl⟩
   · simp only [obs, ctr, cfa]; rw [zyi b x.Text (by omega) (by omega)]; show some (w6 (s.At + 1), _) = _; rw [wn1]
   · simp only [obs, bsf, cfa]; rw [zxz N (by omega) b x.Text (by omega) (by omega)]; show some (w6 (s.At + 1), _) = _; rw [wn1]
theorem zaht (s : zA) {x : zB} (hop : x.Op = 13) : ze4 s x = (.ok (s.At + 1, updC s (zn3 x.Text x.Other))) := by
 cases x; cases hop; rfl
theorem zag8 (N : Nat) (M : zD) {x : zB} (hop : x.Op = 13) : ze N M x = (zcu x.Text x.Other).bind fun r => some (w6 (M.zA.At + 1), ⟨updC M.zA r, M.code, M.raised⟩) := by
 cases x; cases hop; rfl
theorem zaf5 (N : Nat) {x : zB} (hop : x.Op = 13) (hi : idx c.zC s.At = some x) : zd N c s = ((za3 x.zF).bind fun r1 => (zgf N x.Text x.Other).bind fun r2 => some (0, updC s r2)).bind fun r => some (w6 (s.At + 1), r.1, r.2) := by
 unfold zd
 rw [hi, obs]
 clear hi
 cases x; cases hop; rfl
theorem zadg (N : Nat) (hN : 20000 < N) (hc : CodeV m c) (hs : StV m c s) {x : zB} (hx : c.zC[s.At.toNat]? = some x) (hop : x.Op = 13) : zcj N m c s x := by
 have iv := zhk hc (lmg hx) hop (U := ⟨false, false, false, false, false, false, false, false, false, false, true, true, false, false, 0, 0⟩) rfl
 have hi : idx c.zC s.At = some x := by unfold idx; rw [ifp hs.at0, hx]
 have m8 := hc.m2
 have a0 := hs.at0
 have a1 := hs.at1
 have n240 := hc.len
 have wn1 : w6 (s.At + 1) = s.At + 1 := w6e
 unfold zcj
 rw [zaht s hop, zag8 N _ hop, zaf5 N hop hi]
 have htx := iv.tx
 have hot := iv.ot
 have hsz : ∃ k, za3 x.zF = some k := by
  unfold za3; rw [zhq]; cases (x.zF.Kind == 1) <;> cases (x.zF.Kind == 3) <;> cases (x.zF.Kind == 4) <;> exact ⟨_, rfl⟩
 obtain ⟨k, hk⟩ := hsz
 rw [hk, obs, zyi _ _ (by omega) (by omega), zxz N (by omega) _ _ (by omega) (by omega)]
 refine .inr ⟨_, _, _, rfl, ?_, ?_, fun _ => ⟨rfl, by omega, by omega⟩, hs.updC (zpr _), rfl, rfl, rfl⟩
 · show some (w6 (s.At + 1), _) = _; rw [wn1]
 · show some (w6 (s.At + 1), _) = _; rw [wn1]
end
section
variable {m : zJ} {c : zG} {s : zA}
theorem zahs (s : zA) {x : zB} (hop : x.Op = 14) : ze4 s x = (match zlu s.Storage x.Place (szE x.zF) with | .error e => .error e | .ok a => .ok (s.At + 1, updS s (stV s.Storage x.Pointer.toNat a.toNat))) := by
 cases x; cases hop; rfl
theorem zag7 (N : Nat) (M : zD) {x : zB} (hop : x.Op = 14) : ze N M x = ((ze0 N x.zF).bind fun r1 => (zbb N M x.Place r1).bind fun r2 => cond r2.2.1 ((zce N r2.2.2.zA.Storage x.Pointer (⟨0, (⟨1, r2.1⟩ : Address), 0⟩ : Pointer)).bind fun r3 => some (⟨updS r2.2.2.zA r3.1, r2.2.2.code, r2.2.2.raised⟩ : zD)) (some r2.2.2)).bind fun r => some (w6 (r.zA.At + 1), r) := by
 cases x; cases hop; rfl
theorem zaf4 (N : Nat) {x : zB} (hop : x.Op = 14) (hi : idx c.zC s.At = some x) : zd N c s = ((za3 x.zF).bind fun r1 => (zbt N s x.Place r1).bind fun r2 => cond (r2.2 != 0) (some (r2.2, s)) ((ze5 N s.Storage x.Pointer (⟨0, (⟨1, r2.1⟩ : Address), 0⟩ : Pointer)).bind fun r3 => some (0, updS s r3))).bind fun r => some (w6 (s.At + 1), r.1, r.2) := by
 unfold zd
 rw [hi, obs]
 clear hi
 cases x; cases hop; rfl
theorem zadf (N : Nat) (hN : 20000 < N) (hc : CodeV m c) (hs : StV m c s) {x : zB} (hx : c.zC[s.At.toNat]? = some x) (hop : x.Op = 14) : zcj N m c s x := by
 have iv := zhk hc (lmg hx) hop (U := ⟨false, false, false, true, false, false, false, false, false, false, false, false, true, false, 3, 0⟩) rfl
 have hi : idx c.zC s.At = some x := by unfold idx; rw [ifp hs.at0, hx]
 have m8 := hc.m2
 have a0 := hs.at0
 have a1 := hs.at1
 have n240 := hc.len
 have wn1 : w6 (s.At + 1) = s.At + 1 := w6e
 unfold zcj
 rw [zahs s hop, zag7 N _ hop, zaf4 N hop hi]
 have ht := iv.ty3 rfl
 have hp : zcn s.Storage x.Place (szE x.zF) = true := by rw [zg5 hs.size]; have := iv.pl rfl; unfold zgw at this; rw [ifn] at this; exact this
 have hq : ze3 s.Storage x.Pointer = true := by rw [zns hs.size]; exact iv.pt rfl
 obtain ⟨q1, q2, q3⟩ := zka hq
 have hsz := zkm ht
 have hle := hs.sto.le
 have hqd := hs.sto.quad
 rw [z0e N (by omega) ht, zjr ht, obs, obs]
 rcases zse N (by omega) s c hs.sto hp hsz.1 hsz.2 with ⟨e, j, k, he, h1, h2, h3⟩ | ⟨a, h1, h2, h3, h4, h5⟩
 · rw [h1, h2, h3]; refine .inl ⟨e, _, w6 (s.At + 1), s, rfl, by omega, rfl, ?_⟩; rcases he with rfl | rfl <;> rfl
 · rw [h1, h2, h3]; obtain ⟨a, rfl⟩ : ∃ k : Nat, a = (k : Int) := ⟨a.toNat, by omega⟩; refine .inr ⟨_, _, _, rfl, ?_, ?_, fun _ => ⟨rfl, by omega, by omega⟩, hs.updS (z11 (off := a) hs.sto (by omega) (by omega) (by omega)) (zxp (by omega)), rfl, rfl, rfl⟩
   · simp only [obs, ctr]; rw [show (⟨0, ⟨1, (a : Int)⟩, 0⟩ : Pointer) = zid a from rfl, zxm N (by omega) hs.sto hq a (by omega)]; show some (w6 (s.At + 1), _) = _; rw [wn1]; rfl
   · simp only [obs, bsf, cfa]; rw [show (⟨0, ⟨1, (a : Int)⟩, 0⟩ : Pointer) = zid a from rfl, zx0 N (by omega) hs.sto hq a (by omega)]; show some (w6 (s.At + 1), _) = _; rw [wn1]; rfl
theorem zahr (s : zA) {x : zB} (hop : x.Op = 15) : ze4 s x = (match ldV s.Storage x.Source with | none => .error 4 | some o => .ok (s.At + 1, updS s (stV s.Storage x.Pointer.toNat o.toNat))) := by
 cases x; cases hop; rfl
theorem zag6 (N : Nat) (M : zD) {x : zB} (hop : x.Op = 15) : ze N M x = ((za2 N M x.Source).bind fun r4 => cond r4.2.1 ((zce N r4.2.2.zA.Storage x.Pointer r4.1).bind fun r5 => some (⟨updS r4.2.2.zA r5.1, r4.2.2.code, r4.2.2.raised⟩ : zD)) (some r4.2.2)).bind fun r => some (w6 (r.zA.At + 1), r) := by
 cases x; cases hop; rfl
theorem zaf3 (N : Nat) {x : zB} (hop : x.Op = 15) (hi : idx c.zC s.At = some x) : zd N c s = ((zeh N s.Storage x.Source).bind fun r4 => cond (r4.2 != 0) (some (4, s)) ((ze5 N s.Storage x.Pointer r4.1).bind fun r5 => some (0, updS s r5))).bind fun r => some (w6 (s.At + 1), r.1, r.2) := by
 unfold zd
 rw [hi, obs]
 clear hi
 cases x; cases hop; rfl
theorem zade (N : Nat) (hN : 20000 < N) (hc : CodeV m c) (hs : StV m c s) {x : zB} (hx : c.zC[s.At.toNat]? = some x) (hop : x.Op = 15) : zcj N m c s x := by
 have iv := zhk hc (lmg hx) hop (U := ⟨false, false, false, false, false, false, false, false, false, false, false, false, true, true, 0, 0⟩) rfl
 have hi : idx c.zC s.At = some x := by unfold idx; rw [ifp hs.at0, hx]
 have m8 := hc.m2
 have a0 := hs.at0
 have a1 := hs.at1
 have n240 := hc.len
 have wn1 : w6 (s.At + 1) = s.At + 1 := w6e
 unfold zcj
 rw [zahr s hop, zag6 N _ hop, zaf3 N hop hi]
 have hq : ze3 s.Storage x.Pointer = true := by rw [zns hs.size]; exact iv.pt rfl
 have hq2 : ze3 s.Storage x.Source = true := by rw [zns hs.size]; exact iv.sr rfl
 obtain ⟨q1, q2, q3⟩ := zka hq
 have hle := hs.sto.le
 have hqd := hs.sto.quad
 rw [zqq N (by omega) s c hs.sto hq2, zwg N (by omega) hs.sto hq2]
 cases hld : ldV s.Storage x.Source with
 | none => exact .inl ⟨4, _, _, s, rfl, by omega, rfl, rfl⟩
 | some o =>
  have ho := zvs hs.sto hld; obtain ⟨o, rfl⟩ : ∃ k : Nat, o = (k : Int) := ⟨o.toNat, by omega⟩; refine .inr ⟨_, _, _, rfl, ?_, ?_, fun _ => ⟨rfl, by omega, by omega⟩, hs.updS (z11 (off := o) hs.sto (by omega) (by omega) (by omega)) (zxp (by omega)), rfl, rfl, rfl⟩
  · simp only [obs, ctr]; rw [zxm N (by omega) hs.sto hq o (by omega)]; show some (w6 (s.At + 1), _) = _; rw [wn1]; rfl
  · simp only [obs, bsf, cfa]; rw [zx0 N (by omega) hs.sto hq o (by omega)]; show some (w6 (s.At + 1), _) = _; rw [wn1]; rfl
theorem zahq (s : zA) {x : zB} (hop : x.Op = 16) : ze4 s x = (match ldV s.Storage x.Pointer with
 | none => .error 4
 | some o => if inB (o + zgb (rg s x.R)) 0 16777215 = true then .ok (s.At + 1, updS s (stV s.Storage x.Pointer.toNat (o + zgb (rg s x.R)).toNat)) else .error 5) := by
 cases x; cases hop; rfl
theorem zag5 (N : Nat) (M : zD) {x : zB} (hop : x.Op = 16) : ze N M x = ((zel N M x).bind fun r6 => some r6).bind fun r => some (w6 (r.zA.At + 1), r) := by
 cases x; cases hop; rfl
theorem zaf2 (N : Nat) {x : zB} (hop : x.Op = 16) (hi : idx c.zC s.At = some x) : zd N c s = ((zeh N s.Storage x.Pointer).bind fun r10 => cond (r10.2 != 0) (some (4, s)) (if 0 ≤ x.R then (if x.R < (s.Registers.length : Int) then ((s.Registers[x.R.toNat]?).bind fun x12 => (zge N x12).bind fun r13 => (zf (w6 (r10.1.Address.Offset + r13)) 0 16777215).bind fun r14 => cond (!r14) (some (5, s)) ((ze5 N s.Storage x.Pointer (⟨r10.1.Kind, (⟨r10.1.Address.zY, (w6 (r10.1.Address.Offset + r13))⟩ : Address), r10.1.Authority⟩ : Pointer)).bind fun r15 => some (0, updS s r15))) else none) else none)).bind fun r => some (w6 (s.At + 1), r.1, r.2) := by
 unfold zd
 rw [hi, obs]
 clear hi
 cases x; cases hop; rfl
theorem zadd (N : Nat) (hN : 20000 < N) (hc : CodeV m c) (hs : StV m c s) {x : zB} (hx : c.zC[s.At.toNat]? = some x) (hop : x.Op = 16) : zcj N m c s x := by
 have iv := zhk hc (lmg hx) hop (U := ⟨true, false, false, false, false, false, false, false, false, false, false, false, true, false, 0, 0⟩) rfl
 have hi : idx c.zC s.At = some x := by unfold idx; rw [ifp hs.at0, hx]
 have m8 := hc.m2
 have a0 := hs.at0
 have a1 := hs.at1
 have n240 := hc.len
 have wn1 : w6 (s.At + 1) = s.At + 1 := w6e
 unfold zcj
 rw [zahq s hop, zag5 N _ hop, zaf2 N hop hi]
 have hq : ze3 s.Storage x.Pointer = true := by rw [zns hs.size]; exact iv.pt rfl
 obtain ⟨q1, q2, q3⟩ := zka hq
 obtain ⟨g1, g2, g3, g4, g5⟩ := zgc hs (iv.r rfl)
 have hle := hs.sto.le
 have hqd := hs.sto.quad
 unfold zel
 rw [zqq N (by omega) s c hs.sto hq, zwg N (by omega) hs.sto hq]
 cases hld : ldV s.Storage x.Pointer with
 | none => exact .inl ⟨4, _, _, s, rfl, by omega, rfl, rfl⟩
 | some o =>
  have ho := zvs hs.sto hld; have hwb := zuw g5; simp only [obs, bnt, cfa, bsf]; rw [g4, ifp g1, ifp g2, g3]; simp only [obs]; rw [z3f N (by omega) g5, zy7 N (by omega) g5]; simp only [obs]; rw [show (zid o).Address.Offset = o from rfl, w6e (n := o + zgb (rg s x.R)), zmn, zgy]; simp only [obs]; rw [zii _ _ _ _ (by decide)]; simp only [obs]; cases hin : inB (o + zgb (rg s x.R)) 0 16777215 with
  | false =>
   rw [ifn (by decide)]; exact .inl ⟨5, _, _, s, rfl, by omega, rfl, rfl⟩
  | true =>
   have hr := za6.1 hin; rw [ifp rfl]; obtain ⟨k, hk⟩ : ∃ k : Nat, o + zgb (rg s x.R) = (k : Int) := ⟨(o + zgb (rg s x.R)).toNat, by omega⟩; rw [hk]; rw [show (⟨(zid o).Kind, ⟨(zid o).Address.zY, (k : Int)⟩, (zid o).Authority⟩ : Pointer) = zid k from rfl]; refine .inr ⟨_, _, _, rfl, ?_, ?_, fun _ => ⟨rfl, by omega, by omega⟩, hs.updS (z11 (off := k) hs.sto (by omega) (by omega) (by omega)) (zxp (by omega)), rfl, rfl, rfl⟩
   · simp only [bnt, Bool.not_false, ctr]; rw [zxm N (by omega) hs.sto hq k (by omega)]; show some (w6 (s.At + 1), _) = _; rw [wn1]; rfl
   · simp only [bnt, cfa]; rw [zx0 N (by omega) hs.sto hq k (by omega)]; show some (w6 (s.At + 1), _) = _; rw [wn1]; rfl
theorem zahp (s : zA) {x : zB} (hop : x.Op = 17) : ze4 s x = (match ldV s.Storage x.Pointer with | none => .error 4 | some _ => .ok (s.At + 1, s)) := by
 cases x; cases hop; rfl
theorem zag4 (N : Nat) (M : zD) {x : zB} (hop : x.Op = 17) : ze N M x = ((za2 N M x.Pointer).bind fun r7 => some r7.2.2).bind fun r => some (w6 (r.zA.At + 1), r) := by
 cases x; cases hop; rfl
theorem zaf1 (N : Nat) {x : zB} (hop : x.Op = 17) (hi : idx c.zC s.At = some x) : zd N c s = ((zeh N s.Storage x.Pointer).bind fun r10 => cond (r10.2 != 0) (some (4, s)) (some (0, s))).bind fun r => some (w6 (s.At + 1), r.1, r.2) := by
 unfold zd
 rw [hi, obs]
 clear hi
 cases x; cases hop; rfl
theorem zadc (N : Nat) (hN : 20000 < N) (hc : CodeV m c) (hs : StV m c s) {x : zB} (hx : c.zC[s.At.toNat]? = some x) (hop : x.Op = 17) : zcj N m c s x := by
 have iv := zhk hc (lmg hx) hop (U := ⟨false, false, false, false, false, false, false, false, false, false, false, false, true, false, 0, 0⟩) rfl
 have hi : idx c.zC s.At = some x := by unfold idx; rw [ifp hs.at0, hx]
 have m8 := hc.m2
 have a0 := hs.at0
 have a1 := hs.at1
 have n240 := hc.len
 have wn1 : w6 (s.At + 1) = s.At + 1 := w6e
 unfold zcj
 rw [zahp s hop, zag4 N _ hop, zaf1 N hop hi]
 have hq : ze3 s.Storage x.Pointer = true := by rw [zns hs.size]; exact iv.pt rfl
 rw [zqq N (by omega) s c hs.sto hq, zwg N (by omega) hs.sto hq]
 cases hld : ldV s.Storage x.Pointer with
 | none => exact .inl ⟨4, _, _, s, rfl, by omega, rfl, rfl⟩
 | some o =>
  refine .inr ⟨_, _, _, rfl, ?_, ?_, fun _ => ⟨rfl, by omega, by omega⟩, hs, rfl, rfl, rfl⟩
  · show some (w6 (s.At + 1), _) = _; rw [wn1]
  · show some (w6 (s.At + 1), _) = _; rw [wn1]
theorem zaho (s : zA) {x : zB} (hop : x.Op = 18) : ze4 s x = (if 6 ≤ s.Stack.length then .error 6 else .ok (x.Target, updK s (s.Stack ++ [s.At]))) := by
 cases x; cases hop; rfl
theorem zag3 (N : Nat) (M : zD) {x : zB} (hop : x.Op = 18) : ze N M x = ((zff M x.Target).bind fun r1 => some (r1.1, r1.2)).bind fun r => some (r.1, r.2) := by
 cases x; cases hop; rfl
theorem zaf0 (N : Nat) {x : zB} (hop : x.Op = 18) (hi : idx c.zC s.At = some x) : zd N c s = cond ((s.Stack.length : Int) == 6) (some (0, 6, s)) (cond (Nat.ble ((s.Stack.length + ([s.At] : List Int).length) * 8) zab) (some (x.Target, 0, updK s (s.Stack ++ [s.At]))) none) := by
 unfold zd
 rw [hi, obs]
 clear hi
 cases x; cases hop; rfl
theorem zadb (N : Nat) (hN : 20000 < N) (hc : CodeV m c) (hs : StV m c s) {x : zB} (hx : c.zC[s.At.toNat]? = some x) (hop : x.Op = 18) : zcj N m c s x := by
 have iv := zhk hc (lmg hx) hop (U := ⟨false, false, false, false, false, false, false, false, false, true, false, false, false, false, 0, 0⟩) rfl
 have hi : idx c.zC s.At = some x := by unfold idx; rw [ifp hs.at0, hx]
 have m8 := hc.m2
 have a0 := hs.at0
 have a1 := hs.at1
 have n240 := hc.len
 have wn1 : w6 (s.At + 1) = s.At + 1 := w6e
 unfold zcj
 rw [zaho s hop, zag3 N _ hop, zaf0 N hop hi]
 have ht := iv.tg rfl
 have h6 := hs.stk
 unfold zff
 simp only []
 rw [zii _ _ _ _ (by decide)]
 simp only [obs, zar]
 by_cases h : 6 ≤ s.Stack.length
 · rw [ifp h, dct (show (s.Stack.length : Int) ≥ 6 by omega), dct (show (s.Stack.length : Int) = 6 by omega)]; exact .inl ⟨6, _, _, s, rfl, by omega, rfl, rfl⟩
 · rw [ifn h, dcf (show ¬ (s.Stack.length : Int) ≥ 6 by omega), dcf (show ¬ (s.Stack.length : Int) = 6 by omega)]; have hcl : zed 8 s.Stack = some s.Stack := by unfold zed; rw [zax (by omega)]; rfl
   have hrm : Nat.ble ((s.Stack.length + ([s.At] : List Int).length) * 8) zab = true := zax (by simp only [lnc, ln0]; omega); simp only [Bool.not_false, ctr, cfa]; rw [hcl]; simp only [obs]; rw [hrm]; refine .inr ⟨_, _, _, rfl, rfl, rfl, fun _ => ⟨rfl, by omega, by omega⟩, hs.updK ?_ ?_, rfl, rfl, rfl⟩
   · rw [lna, lns]; omega
   · intro i hmem; rcases List.mem_append.1 hmem with h2 | h2
     · exact hs.calls i h2
     · rw [List.mem_singleton.1 h2]; exact ⟨⟨a0, a1⟩, x, hx, hop⟩
theorem zahn (s : zA) {x : zB} (hop : x.Op = 19) : ze4 s x = (if s.Stack.length = 0 then .ok (s.At, updT s 1) else .ok (s.Stack.getD (s.Stack.length - 1) 0 + 1, updK s (s.Stack.take (s.Stack.length - 1)))) := by
 cases x; cases hop; rfl
theorem zag2 (N : Nat) (M : zD) {x : zB} (hop : x.Op = 19) : ze N M x = ((zfg M).bind fun r2 => some (r2.1, r2.2)).bind fun r => some (r.1, r.2) := by
 cases x; cases hop; rfl
theorem zafz (N : Nat) {x : zB} (hop : x.Op = 19) (hi : idx c.zC s.At = some x) : zd N c s = cond ((s.Stack.length : Int) == 0) (some ((w6 (s.At + 1)), 0, updT s 1)) (if 0 ≤ (w6 ((s.Stack.length : Int) - 1)) then (if (w6 ((s.Stack.length : Int) - 1)) < (s.Stack.length : Int) then ((s.Stack[(w6 ((s.Stack.length : Int) - 1)).toNat]?).bind fun x6 => if 0 ≤ (w6 ((s.Stack.length : Int) - 1)) ∧ (w6 ((s.Stack.length : Int) - 1)) ≤ (s.Stack.length : Int) then (if 0 ≤ (0 : Int) ∧ (0 : Int) ≤ (w6 ((s.Stack.length : Int) - 1)) then (some ((w6 (x6 + 1)), 0, updK s ((s.Stack.drop ((0 : Int).toNat)).take ((w6 ((s.Stack.length : Int) - 1)).toNat - (0 : Int).toNat)))) else none) else none) else none) else none) := by
 unfold zd
 rw [hi, obs]
 clear hi
 cases x; cases hop; rfl
theorem zada (N : Nat) (hN : 20000 < N) (hc : CodeV m c) (hs : StV m c s) {x : zB} (hx : c.zC[s.At.toNat]? = some x) (hop : x.Op = 19) : zcj N m c s x := by
 have iv := zhk hc (lmg hx) hop (U := ⟨false, false, false, false, false, false, false, false, false, false, false, false, false, false, 0, 0⟩) rfl
 have hi : idx c.zC s.At = some x := by unfold idx; rw [ifp hs.at0, hx]
 have m8 := hc.m2
 have a0 := hs.at0
 have a1 := hs.at1
 have n240 := hc.len
 have wn1 : w6 (s.At + 1) = s.At + 1 := w6e
 unfold zcj
 rw [zahn s hop, zag2 N _ hop, zafz N hop hi]
 have h6 := hs.stk
 unfold zfg
 simp only [zar]
 by_cases h : s.Stack.length = 0
 · rw [ifp h, w6e, dct (show (s.Stack.length : Int) - 1 < 0 by omega), dct (show (s.Stack.length : Int) = 0 by omega)]; exact .inr ⟨_, _, _, rfl, rfl, rfl, (fun h => by have h' : (1 : Int) = 0 := h; omega), hs.updT (by omega) (by omega), rfl, rfl, rfl⟩
 · have hl : (s.Stack.length : Int) - 1 = ((s.Stack.length - 1 : Nat) : Int) := by omega
   have hx1 : s.Stack[s.Stack.length - 1]? = some (s.Stack.getD (s.Stack.length - 1) 0) := by rw [gdd, lge (by omega)]; rfl
   obtain ⟨hr, _⟩ := hs.calls _ (lmg hx1); have hcl : ∀ l : List Int, l.length ≤ 6 → zed 8 l = some l := fun l hl => by unfold zed; rw [zax (by omega)]; rfl
   rw [ifn h, w6e (n := (s.Stack.length : Int) - 1), dcf (show ¬ (s.Stack.length : Int) - 1 < 0 by omega), dcf (show ¬ (s.Stack.length : Int) = 0 by omega)]; simp only [cfa]; rw [hl, zan, hx1]; simp only [obs]; rw [ifp, ifp, ifp, ifp, itn, hx1]; simp only [obs]; rw [ifp, ifp, show (0 : Int).toNat = 0 from rfl, dr0, dr0, Nat.sub_zero, hcl _ (by rw [lnt]; omega), w6e]; refine .inr ⟨_, _, _, rfl, rfl, rfl, fun _ => ⟨rfl, by omega, by omega⟩, hs.updK ?_ ?_, rfl, rfl, rfl⟩
   · rw [lnt]; omega
   · intro i hi2; exact hs.calls i (List.mem_of_mem_take hi2)
theorem zahm (s : zA) {x : zB} (hop : x.Op = 20) : ze4 s x = (if inB (zgb (rg s x.R)) 100 999 = true then .error (zgb (rg s x.R)) else .error 2) := by
 cases x; cases hop; rfl
theorem zag1 (N : Nat) (M : zD) {x : zB} (hop : x.Op = 20) : ze N M x = (zer N M x).bind fun r => some (w6 (r.zA.At + 1), r) := by
 cases x; cases hop; rfl
theorem zafy (N : Nat) {x : zB} (hop : x.Op = 20) (hi : idx c.zC s.At = some x) : zd N c s = if 0 ≤ x.R then (if x.R < (s.Registers.length : Int) then ((s.Registers[x.R.toNat]?).bind fun x7 => (zge N x7).bind fun r8 => (zf r8 100 999).bind fun r9 => cond r9 (some (0, r8, s)) (some (0, 2, s))) else none) else none := by
 unfold zd
 rw [hi, obs]
 clear hi
 cases x; cases hop; rfl
theorem zac9 (N : Nat) (hN : 20000 < N) (hc : CodeV m c) (hs : StV m c s) {x : zB} (hx : c.zC[s.At.toNat]? = some x) (hop : x.Op = 20) : zcj N m c s x := by
 have iv := zhk hc (lmg hx) hop (U := ⟨true, false, false, false, false, false, false, false, false, false, false, false, false, false, 0, 0⟩) rfl
 have hi : idx c.zC s.At = some x := by unfold idx; rw [ifp hs.at0, hx]
 have m8 := hc.m2
 have a0 := hs.at0
 have a1 := hs.at1
 have n240 := hc.len
 have wn1 : w6 (s.At + 1) = s.At + 1 := w6e
 unfold zcj
 rw [zahm s hop, zag1 N _ hop, zafy N hop hi]
 obtain ⟨g1, g2, g3, g4, g5⟩ := zgc hs (iv.r rfl)
 unfold zer
 simp only []
 rw [g4, ifp g1, ifp g2, g3]
 simp only [obs]
 rw [z3f N (by omega) g5, zy7 N (by omega) g5]
 simp only [obs]
 rw [zmn, zgy]
 simp only [obs]
 cases hin : inB (zgb (rg s x.R)) 100 999 with
 | false =>
  rw [ifn (by decide)]; simp only [Bool.not_false, ctr, cfa]; rw [zii _ _ _ _ (by decide)]; exact .inl ⟨2, _, _, s, rfl, by omega, rfl, rfl⟩
 | true =>
  have hr := za6.1 hin; rw [ifp rfl]; simp only [bnt, ctr, cfa]; rw [zii _ _ _ _ (by omega)]; exact .inl ⟨_, _, _, s, rfl, by omega, rfl, rfl⟩
theorem zvj (hs : StV m c s) (l : ByteArray) (hl : l.size ≤ 256) (n240 : c.zC.length ≤ 240) :
 ∃ t, zpx s l = .ok (s.At + 1, t) ∧
  (cond ((s.Lines.length : Int) == 40) (some (⟨updT s 3, c, 0⟩ : zD)) ((zed 16 s.Lines).bind fun r6 => cond (Nat.ble ((r6.length + ([l] : List ByteArray).length) * 16) zab) (some (⟨updL s (r6 ++ [l]), c, 0⟩ : zD)) none)) = some ⟨t, c, 0⟩ ∧
  (cond ((s.Lines.length : Int) == 40) (some ((0 : Int), updT s 3)) (cond (Nat.ble ((s.Lines.length + ([l] : List ByteArray).length) * 16) zab) (some (0, updL s (s.Lines ++ [l]))) none)) = some (0, t) ∧ StV m c t ∧ t.At = s.At ∧ t.Steps = s.Steps ∧ t.Exception = s.Exception := by
 have h40 := hs.lines
 unfold zpx
 rw [zar]
 by_cases h : s.Lines.length = 40
 · rw [ifp h, dct (show (s.Lines.length : Int) = 40 by omega)]; exact ⟨_, rfl, rfl, rfl, hs.updT (by omega) (by omega), rfl, rfl, rfl⟩
 · rw [ifn h, dcf (show ¬ (s.Lines.length : Int) = 40 by omega)]; have hcl : zed 16 s.Lines = some s.Lines := by unfold zed; rw [zax (by omega)]; rfl
   have hrm : Nat.ble ((s.Lines.length + ([l] : List ByteArray).length) * 16) zab = true := zax (by simp only [lnc, ln0]; omega); simp only [cfa]; rw [hcl]; simp only [obs]; rw [hrm]; exact ⟨_, rfl, rfl, rfl, hs.updL (by omega) hl, rfl, rfl, rfl⟩
theorem zahk (s : zA) {x : zB} (hop : x.Op = 22) : ze4 s x = (zpx s (zph (rg s x.R))) := by
 cases x; cases hop; rfl
theorem zagz (N : Nat) (M : zD) {x : zB} (hop : x.Op = 22) : ze N M x = ((idx M.zA.Registers x.R).bind fun x1 => (zet x1).bind fun r2 => cond ((M.zA.Lines.length : Int) == 40) (some (⟨updT M.zA 3, M.code, M.raised⟩ : zD)) ((zed 16 M.zA.Lines).bind fun r6 => cond (Nat.ble ((r6.length + ([r2.1] : List ByteArray).length) * 16) zab) (some (⟨updL M.zA (r6 ++ [r2.1]), M.code, M.raised⟩ : zD)) none)).bind fun r => some (w6 (r.zA.At + 1), r) := by
 cases x; cases hop; rfl
theorem zafw (N : Nat) {x : zB} (hop : x.Op = 22) (hi : idx c.zC s.At = some x) : zd N c s = (if 0 ≤ x.R then (if x.R < (s.Registers.length : Int) then ((s.Registers[x.R.toNat]?).bind fun x1 => (zd4 N x1).bind fun r2 => cond ((s.Lines.length : Int) == 40) (some (0, updT s 3)) (cond (Nat.ble ((s.Lines.length + ([r2] : List ByteArray).length) * 16) zab) (some (0, updL s (s.Lines ++ [r2]))) none)) else none) else none).bind fun r => some (w6 (s.At + 1), r.1, r.2) := by
 unfold zd
 rw [hi, obs]
 clear hi
 cases x; cases hop; rfl
theorem zac7 (N : Nat) (hN : 20000 < N) (hc : CodeV m c) (hs : StV m c s) {x : zB} (hx : c.zC[s.At.toNat]? = some x) (hop : x.Op = 22) : zcj N m c s x := by
 have iv := zhk hc (lmg hx) hop (U := ⟨true, false, false, false, false, false, false, false, false, false, false, false, false, false, 0, 0⟩) rfl
 have hi : idx c.zC s.At = some x := by unfold idx; rw [ifp hs.at0, hx]
 have m8 := hc.m2
 have a0 := hs.at0
 have a1 := hs.at1
 have n240 := hc.len
 have wn1 : w6 (s.At + 1) = s.At + 1 := w6e
 unfold zcj
 rw [zahk s hop, zagz N _ hop, zafw N hop hi]
 obtain ⟨g1, g2, g3, g4, g5⟩ := zgc hs (iv.r rfl)
 simp only []
 rw [g4, ifp g1, ifp g2, g3]
 simp only [obs]
 rw [z8d g5, zab4 N (by omega) g5]
 simp only [obs]
 obtain ⟨t, p1, p2, p3, p4, p5, p6, p7⟩ := zvj hs (zph (rg s x.R)) (z5x g5) n240
 rw [p1, p2, p3]
 refine .inr ⟨_, _, _, rfl, ?_, ?_, fun _ => ⟨rfl, by omega, by omega⟩, p4, p5, p6, p7⟩
 · show some (w6 (t.At + 1), _) = _; rw [p5, wn1]
 · show some (w6 (s.At + 1), _) = _; rw [wn1]
theorem zahj (s : zA) {x : zB} (hop : x.Op = 23) : ze4 s x = (match zlt s.Storage x.Place x.zF with | .error e => .error e | .ok b => zpx s b) := by
 cases x; cases hop; rfl
theorem zagy (N : Nat) (M : zD) {x : zB} (hop : x.Op = 23) : ze N M x = ((zu N M x.Place x.zF).bind fun r4 => cond (!r4.2.1) (some r4.2.2) (cond ((r4.2.2.zA.Lines.length : Int) == 40) (some (⟨updT r4.2.2.zA 3, r4.2.2.code, r4.2.2.raised⟩ : zD)) ((zed 16 r4.2.2.zA.Lines).bind fun r6 => cond (Nat.ble ((r6.length + ([r4.1] : List ByteArray).length) * 16) zab) (some (⟨updL r4.2.2.zA (r6 ++ [r4.1]), r4.2.2.code, r4.2.2.raised⟩ : zD)) none))).bind fun r => some (w6 (r.zA.At + 1), r) := by
 cases x; cases hop; rfl
theorem zafv (N : Nat) {x : zB} (hop : x.Op = 23) (hi : idx c.zC s.At = some x) : zd N c s = ((zc3 N s x.Place x.zF).bind fun r3 => cond (r3.2 != 0) (some (r3.2, s)) (cond ((s.Lines.length : Int) == 40) (some (0, updT s 3)) (cond (Nat.ble ((s.Lines.length + ([r3.1] : List ByteArray).length) * 16) zab) (some (0, updL s (s.Lines ++ [r3.1]))) none))).bind fun r => some (w6 (s.At + 1), r.1, r.2) := by
 unfold zd
 rw [hi, obs]
 clear hi
 cases x; cases hop; rfl
theorem zac6 (N : Nat) (hN : 20000 < N) (hc : CodeV m c) (hs : StV m c s) {x : zB} (hx : c.zC[s.At.toNat]? = some x) (hop : x.Op = 23) : zcj N m c s x := by
 have iv := zhk hc (lmg hx) hop (U := ⟨false, false, false, true, false, false, false, false, false, false, false, false, false, false, 2, 0⟩) rfl
 have hi : idx c.zC s.At = some x := by unfold idx; rw [ifp hs.at0, hx]
 have m8 := hc.m2
 have a0 := hs.at0
 have a1 := hs.at1
 have n240 := hc.len
 have wn1 : w6 (s.At + 1) = s.At + 1 := w6e
 unfold zcj
 rw [zahj s hop, zagy N _ hop, zafv N hop hi]
 have hp : zcn s.Storage x.Place (szE x.zF) = true := by rw [zg5 hs.size]; have := iv.pl rfl; unfold zgw at this; rw [ifn] at this; exact this
 have hz1 := zkm (iv.ty2 rfl).1
 rcases znr N (by omega) s c hs.sto (iv.ty2 rfl).1 hp with ⟨e, b, k, he, h1, h2, h3⟩ | ⟨b, h1, h2, h3, h4⟩
 · rw [h1, h2, h3]; refine .inl ⟨e, _, w6 (s.At + 1), s, rfl, by omega, rfl, ?_⟩; rcases he with rfl | rfl <;> rfl
 rw [h1, h2, h3]
 simp only [obs, bnt, cfa, bsf]
 obtain ⟨t, p1, p2, p3, p4, p5, p6, p7⟩ := zvj hs b (by omega) n240
 rw [p1, p2, p3]
 refine .inr ⟨_, _, _, rfl, ?_, ?_, fun _ => ⟨rfl, by omega, by omega⟩, p4, p5, p6, p7⟩
 · show some (w6 (t.At + 1), _) = _; rw [p5, wn1]
 · show some (w6 (s.At + 1), _) = _; rw [wn1]
theorem zahi (s : zA) {x : zB} (hop : x.Op = 24) : ze4 s x = (zpx s x.Text) := by
 cases x; cases hop; rfl
theorem zagx (N : Nat) (M : zD) {x : zB} (hop : x.Op = 24) : ze N M x = (cond ((M.zA.Lines.length : Int) == 40) (some (⟨updT M.zA 3, M.code, M.raised⟩ : zD)) ((zed 16 M.zA.Lines).bind fun r6 => cond (Nat.ble ((r6.length + ([x.Text] : List ByteArray).length) * 16) zab) (some (⟨updL M.zA (r6 ++ [x.Text]), M.code, M.raised⟩ : zD)) none)).bind fun r => some (w6 (r.zA.At + 1), r) := by
 cases x; cases hop; rfl
theorem zafu (N : Nat) {x : zB} (hop : x.Op = 24) (hi : idx c.zC s.At = some x) : zd N c s = (cond ((s.Lines.length : Int) == 40) (some (0, updT s 3)) (cond (Nat.ble ((s.Lines.length + ([x.Text] : List ByteArray).length) * 16) zab) (some (0, updL s (s.Lines ++ [x.Text]))) none)).bind fun r => some (w6 (s.At + 1), r.1, r.2) := by
 unfold zd
 rw [hi, obs]
 clear hi
 cases x; cases hop; rfl
theorem zac5 (N : Nat) (hN : 20000 < N) (hc : CodeV m c) (hs : StV m c s) {x : zB} (hx : c.zC[s.At.toNat]? = some x) (hop : x.Op = 24) : zcj N m c s x := by
 have iv := zhk hc (lmg hx) hop (U := ⟨false, false, false, false, false, false, false, false, false, false, true, false, false, false, 0, 0⟩) rfl
 have hi : idx c.zC s.At = some x := by unfold idx; rw [ifp hs.at0, hx]
 have m8 := hc.m2
 have a0 := hs.at0
 have a1 := hs.at1
 have n240 := hc.len
 have wn1 : w6 (s.At + 1) = s.At + 1 := w6e
 unfold zcj
 rw [zahi s hop, zagx N _ hop, zafu N hop hi]
 simp only []
 obtain ⟨t, p1, p2, p3, p4, p5, p6, p7⟩ := zvj hs x.Text (iv.tx) n240
 rw [p1, p2, p3]
 refine .inr ⟨_, _, _, rfl, ?_, ?_, fun _ => ⟨rfl, by omega, by omega⟩, p4, p5, p6, p7⟩
 · show some (w6 (t.At + 1), _) = _; rw [p5, wn1]
 · show some (w6 (s.At + 1), _) = _; rw [wn1]
theorem zahh (s : zA) {x : zB} (hop : x.Op = 25) : ze4 s x = (if s.Marks = 300 then .ok (s.At + 1, updT s 3) else .ok (s.At + 1, updM s (s.Marks + 1))) := by
 cases x; cases hop; rfl
theorem zagw (N : Nat) (M : zD) {x : zB} (hop : x.Op = 25) : ze N M x = (zfe M).bind fun r => some (w6 (r.zA.At + 1), r) := by
 cases x; cases hop; rfl
theorem zaft (N : Nat) {x : zB} (hop : x.Op = 25) (hi : idx c.zC s.At = some x) : zd N c s = cond (s.Marks == 300) (some ((w6 (s.At + 1)), 0, updT s 3)) (some ((w6 (s.At + 1)), 0, updM s (w6 (s.Marks + 1)))) := by
 unfold zd
 rw [hi, obs]
 clear hi
 cases x; cases hop; rfl
theorem zac4 (N : Nat) (hN : 20000 < N) (hc : CodeV m c) (hs : StV m c s) {x : zB} (hx : c.zC[s.At.toNat]? = some x) (hop : x.Op = 25) : zcj N m c s x := by
 have iv := zhk hc (lmg hx) hop (U := ⟨false, false, false, false, false, false, false, false, false, false, false, false, false, false, 0, 0⟩) rfl
 have hi : idx c.zC s.At = some x := by unfold idx; rw [ifp hs.at0, hx]
 have m8 := hc.m2
 have a0 := hs.at0
 have a1 := hs.at1
 have n240 := hc.len
 have wn1 : w6 (s.At + 1) = s.At + 1 := w6e
 unfold zcj
 rw [zahh s hop, zagw N _ hop, zaft N hop hi]
 have k0 := hs.mk0
 have k1 := hs.mk1
 unfold zfe
 simp only [zar]
 rw [w6e (n := s.Marks + 1), wn1]
 by_cases h : s.Marks = 300
 · rw [ifp h, dct h]; refine .inr ⟨_, _, _, rfl, ?_, rfl, fun _ => ⟨rfl, by omega, by omega⟩, hs.updT (by omega) (by omega), rfl, rfl, rfl⟩; show some (w6 (s.At + 1), _) = _; rw [wn1]; rfl
 · rw [ifn h, dcf h]; refine .inr ⟨_, _, _, rfl, ?_, rfl, fun _ => ⟨rfl, by omega, by omega⟩, hs.updM (by omega) (by omega), rfl, rfl, rfl⟩; show some (w6 (s.At + 1), _) = _; rw [wn1]; rfl
theorem zahg (s : zA) {x : zB} (hop : x.Op = 26) : ze4 s x = (.ok (s.At + 1, updT s 1)) := by
 cases x; cases hop; rfl
theorem zagv (N : Nat) (M : zD) {x : zB} (hop : x.Op = 26) : ze N M x = some (w6 (M.zA.At + 1), ⟨updT M.zA 1, M.code, M.raised⟩) := by
 cases x; cases hop; rfl
theorem zafs (N : Nat) {x : zB} (hop : x.Op = 26) (hi : idx c.zC s.At = some x) : zd N c s = some (w6 (s.At + 1), 0, updT s 1) := by
 unfold zd
 rw [hi, obs]
 clear hi
 cases x; cases hop; rfl
theorem zac3 (N : Nat) (hN : 20000 < N) (hc : CodeV m c) (hs : StV m c s) {x : zB} (hx : c.zC[s.At.toNat]? = some x) (hop : x.Op = 26) : zcj N m c s x := by
 have iv := zhk hc (lmg hx) hop (U := ⟨false, false, false, false, false, false, false, false, false, false, false, false, false, false, 0, 0⟩) rfl
 have hi : idx c.zC s.At = some x := by unfold idx; rw [ifp hs.at0, hx]
 have m8 := hc.m2
 have a0 := hs.at0
 have a1 := hs.at1
 have n240 := hc.len
 have wn1 : w6 (s.At + 1) = s.At + 1 := w6e
 unfold zcj
 rw [zahg s hop, zagv N _ hop, zafs N hop hi]
 rw [wn1]
 exact .inr ⟨_, _, _, rfl, rfl, rfl, fun _ => ⟨rfl, by omega, by omega⟩, hs.updT (by omega) (by omega), rfl, rfl, rfl⟩
theorem z8v (N : Nat) (hN : 20000 < N) (hc : CodeV m c) (hs : StV m c s) {x : zB} (hx : c.zC[s.At.toNat]? = some x) : zcj N m c s x := by
 obtain ⟨⟨h0, h26⟩, _⟩ := zabe (hc.ins x (lmg hx))
 rcases (by omega : x.Op = 0 ∨ x.Op = 1 ∨ x.Op = 2 ∨ x.Op = 3 ∨ x.Op = 4 ∨ x.Op = 5 ∨ x.Op = 6 ∨ x.Op = 7 ∨ x.Op = 8 ∨ x.Op = 9 ∨ x.Op = 10 ∨ x.Op = 11 ∨ x.Op = 12 ∨ x.Op = 13 ∨ x.Op = 14 ∨ x.Op = 15 ∨ x.Op = 16 ∨ x.Op = 17 ∨ x.Op = 18 ∨ x.Op = 19 ∨ x.Op = 20 ∨ x.Op = 21 ∨ x.Op = 22 ∨ x.Op = 23 ∨ x.Op = 24 ∨ x.Op = 25 ∨ x.Op = 26) with h | h | h | h | h | h | h | h | h | h | h | h | h | h | h | h | h | h | h | h | h | h | h | h | h | h | h
 · exact zafd N hN hc hs hx h
 · exact zafc N hN hc hs hx h
 · exact zafb N hN hc hs hx h
 · exact zafa N hN hc hs hx h
 · exact zae9 N hN hc hs hx h
 · exact zae8 N hN hc hs hx h
 · exact zae7 N hN hc hs hx h
 · exact zae6 N hN hc hs hx h
 · exact zae5 N hN hc hs hx h
 · exact zae4 N hN hc hs hx h
 · exact zadj N hN hc hs hx h
 · exact zadi N hN hc hs hx h
 · exact zadh N hN hc hs hx h
 · exact zadg N hN hc hs hx h
 · exact zadf N hN hc hs hx h
 · exact zade N hN hc hs hx h
 · exact zadd N hN hc hs hx h
 · exact zadc N hN hc hs hx h
 · exact zadb N hN hc hs hx h
 · exact zada N hN hc hs hx h
 · exact zac9 N hN hc hs hx h
 · exact zac8 N hN hc hs hx h
 · exact zac7 N hN hc hs hx h
 · exact zac6 N hN hc hs hx h
 · exact zac5 N hN hc hs hx h
 · exact zac4 N hN hc hs hx h
 · exact zac3 N hN hc hs hx h
end
section
variable {m : zJ} {c : zG} {s : zA}
def zlq (t : zS) (a e : Int) : Bool := inB a t.From (t.To - 1) && (decide (t.Exception = 0) || decide (t.Exception = e))
def zyh (c : zG) (a e : Int) : Option Nat := (List.range c.zO.length).findSome? fun i => (c.zO[i]?).bind fun t => if zlq t a e = true then some i else none
def zgv (c : zG) (a e : Int) : Int := match zyh c a e with | some i => (c.zO.getD i ⟨0, 0, 0, 0⟩).Handler | none => -1
theorem z04 {a e : Int} {i : Nat} (h : zyh c a e = some i) : ∃ t, c.zO[i]? = some t ∧ zlq t a e = true := by
 obtain ⟨j, _, hj⟩ := eof h
 rw [Option.bind_eq_some_iff] at hj
 obtain ⟨t, ht, hj⟩ := hj
 split at hj
 · rename_i hh; cases hj; exact ⟨t, ht, hh⟩
 · cases hj
theorem zyt (hc : CodeV m c) {t : zS} (ht : t ∈ c.zO) : 0 ≤ t.From ∧ t.From ≤ t.To ∧ t.To ≤ (c.zC.length : Int) ∧ 0 ≤ t.Handler ∧ t.Handler < (c.zC.length : Int) := by
 have := hc.trap t ht
 unfold zqm at this
 simp only [Bool.and_eq_true, decide_eq_true_eq] at this
 obtain ⟨h1, h2, h3, h4⟩ := this
 have := za6.1 h1
 have := za6.1 h4
 omega
theorem z0f (hc : CodeV m c) (a e : Int) : zgv c a e = -1 ∨ (0 ≤ zgv c a e ∧ zgv c a e < (c.zC.length : Int)) := by
 unfold zgv
 cases h : zyh c a e with
 | none => exact .inl rfl
 | some i =>
  obtain ⟨t, ht, _⟩ := z04 h; right; simp only []; rw [gdd, ht]; have := zyt hc (lmg ht); exact this.2.2.2
theorem z6q (N : Nat) (hN : 20000 < N) (hc : CodeV m c) (a e : Int) : zhx N c a e = some (zgv c a e) := by
 have n40 := hc.traps
 have n240 := hc.len
 unfold zhx zo
 have l1 := zb1 (f := zo.r0 N) (fun i => (c.zO, (c.zO.length : Int), (i : Int), a, e)) (fun i => ((c.zO[i]?).bind fun t => if zlq t a e = true then some i else none).map fun i : Nat => (i : Int)) c.zO.length
  (fun i hi => by
   have hx := lge hi; have hf := zyt hc (List.getElem_mem hi); simp only [zo.r0, zo.b0, zan, hx, obs, dct (show (i : Int) < (c.zO.length : Int) by omega), ctr]; have e1 : zf8 c.zO[i] a e = some (zlq c.zO[i] a e) := by
    unfold zf8 zlq; rw [w6e, zmn, zar, zar]; simp only [obs]; cases inB a c.zO[i].From (c.zO[i].To - 1) <;> cases decide (c.zO[i].Exception = 0) <;> cases decide (c.zO[i].Exception = e) <;> rfl
   rw [e1, w6e]; cases zlq c.zO[i] a e <;> rfl)
  (by simp only [zo.r0, zo.b0, dcf (show ¬ (c.zO.length : Int) < (c.zO.length : Int) by omega), cfa]) (N := N) (by omega)
 simp only [nc0] at l1
 rw [l1]
 have e2 : ∀ l : List Nat, l.findSome? (fun i => ((c.zO[i]?).bind fun t => if zlq t a e = true then some i else none).map fun i : Nat => (i : Int)) = (l.findSome? (fun i => (c.zO[i]?).bind fun t => if zlq t a e = true then some i else none)).map fun i : Nat => (i : Int) := by
  intro l
  induction l with
  | nil => rfl
  | cons i l ih =>
   rw [List.findSome?_cons, List.findSome?_cons]; cases (c.zO[i]?).bind fun t => if zlq t a e = true then some i else none with
   | none => exact ih
   | some j => rfl
 rw [e2]
 have e3 : (List.range c.zO.length).findSome? (fun i => (c.zO[i]?).bind fun t => if zlq t a e = true then some i else none) = zyh c a e := rfl
 rw [e3]
 unfold zgv
 cases h : zyh c a e with
 | none => rfl
 | some i =>
  obtain ⟨t, ht, _⟩ := z04 h; simp only [Option.map_some, zb9, obs]; rw [dcf (show ¬ ((i : Nat) : Int) < 0 by omega), cfa, zan, ht, gdd, ht]; rfl
theorem z6b (N : Nat) (hN : 20000 < N) (hc : CodeV m c) (a e : Int) : zck N c a e = some (zgv c a e) := by
 have n40 := hc.traps
 unfold zck
 have l1 := zb1 (f := zck.r0 N) (fun i => (a, e, (i : Int), c)) (fun i => ((c.zO[i]?).bind fun t => if zlq t a e = true then some i else none).map fun i : Nat => (c.zO.getD i ⟨0, 0, 0, 0⟩).Handler) c.zO.length
  (fun i hi => by
   have hx := lge hi; simp only [zck.r0, zck.b0, zan, hx, obs, dct (show (i : Int) < (c.zO.length : Int) by omega), ctr]; have e1 : ((cond (decide (c.zO[i].From ≤ a)) (some (decide (a < c.zO[i].To))) (some false)).bind fun g1002 => (cond g1002 ((cond (c.zO[i].Exception == 0) (some true) (some (c.zO[i].Exception == e))).bind fun g1003 => some g1003) (some false))) = some (zlq c.zO[i] a e) := by
    unfold zlq inB; rw [zar, zar, show decide (a ≤ c.zO[i].To - 1) = decide (a < c.zO[i].To) by rw [decide_eq_decide]; omega]; cases decide (c.zO[i].From ≤ a) <;> cases decide (a < c.zO[i].To) <;> cases decide (c.zO[i].Exception = 0) <;> cases decide (c.zO[i].Exception = e) <;> rfl
   rw [← Option.bind_assoc, e1, w6e]; simp only [obs]; cases zlq c.zO[i] a e with
   | false => rfl
   | true =>
    simp only [ctr, if_true, Option.map_some]; rw [gdd, hx]; rfl)
  (by simp only [zck.r0, zck.b0, dcf (show ¬ (c.zO.length : Int) < (c.zO.length : Int) by omega), cfa]) (N := N) (by omega)
 simp only [nc0] at l1
 rw [l1]
 have e2 : ∀ l : List Nat, l.findSome? (fun i => ((c.zO[i]?).bind fun t => if zlq t a e = true then some i else none).map fun i : Nat => (c.zO.getD i ⟨0, 0, 0, 0⟩).Handler) = (l.findSome? (fun i => (c.zO[i]?).bind fun t => if zlq t a e = true then some i else none)).map fun i : Nat => (c.zO.getD i ⟨0, 0, 0, 0⟩).Handler := by
  intro l
  induction l with
  | nil => rfl
  | cons i l ih =>
   rw [List.findSome?_cons, List.findSome?_cons]; cases (c.zO[i]?).bind fun t => if zlq t a e = true then some i else none with
   | none => exact ih
   | some j => rfl
 rw [e2]
 unfold zgv
 have : (List.range c.zO.length).findSome? (fun i => (c.zO[i]?).bind fun t => if zlq t a e = true then some i else none) = zyh c a e := rfl
 rw [this]
 cases zyh c a e <;> rfl
def updA (s : zA) (k : Int) : zA := ⟨s.Registers, s.Condition, s.Storage, k, s.Stack, s.Lines, s.Status, s.Exception, s.Marks, s.Steps⟩
def updE (s : zA) (k : Int) : zA := ⟨s.Registers, s.Condition, s.Storage, s.At, s.Stack, s.Lines, s.Status, k, s.Marks, s.Steps⟩
def updP (s : zA) (k : Int) : zA := ⟨s.Registers, s.Condition, s.Storage, s.At, s.Stack, s.Lines, s.Status, s.Exception, s.Marks, k⟩
theorem StV.updA (h : StV m c s) {k : Int} (h1 : 0 ≤ k) (h2 : k < (c.zC.length : Int)) : StV m c (updA s k) := {
 regs := h.regs, nums := h.nums, cnd := h.cnd, sto := h.sto, size := h.size, at0 := h1, at1 := h2, stk := h.stk, calls := h.calls, lines := h.lines, long := h.long, st0 := h.st0, st1 := h.st1, ex0 := h.ex0, ex1 := h.ex1, mk0 := h.mk0, mk1 := h.mk1, sp0 := h.sp0, sp1 := h.sp1 }
theorem StV.updE (h : StV m c s) {k : Int} (h1 : 0 ≤ k) (h2 : k ≤ 999) : StV m c (updE s k) := {
 regs := h.regs, nums := h.nums, cnd := h.cnd, sto := h.sto, size := h.size, at0 := h.at0, at1 := h.at1, stk := h.stk, calls := h.calls, lines := h.lines, long := h.long, st0 := h.st0, st1 := h.st1, ex0 := h1, ex1 := h2, mk0 := h.mk0, mk1 := h.mk1, sp0 := h.sp0, sp1 := h.sp1 }
theorem StV.updP (h : StV m c s) {k : Int} (h1 : 0 ≤ k) (h2 : k ≤ 3000) : StV m c (updP s k) := {
 regs := h.regs, nums := h.nums, cnd := h.cnd, sto := h.sto, size := h.size, at0 := h.at0, at1 := h.at1, stk := h.stk, calls := h.calls, lines := h.lines, long := h.long, st0 := h.st0, st1 := h.st1, ex0 := h.ex0, ex1 := h.ex1, mk0 := h.mk0, mk1 := h.mk1, sp0 := h1, sp1 := h2 }
def zhy (c : zG) (e : Int) : Nat → zA → zA
 | 0, s => s
 | k + 1, s => if 0 ≤ zgv c s.At e then updA s (zgv c s.At e) else if s.Stack.length = 0 then updT s 2
  else zhy c e k (updK (updA s (s.Stack.getD (s.Stack.length - 1) 0)) (s.Stack.take (s.Stack.length - 1)))
theorem zxd (N : Nat) (hN : 20000 < N) (hc : CodeV m c) (e : Int) (he : e ≠ 0) (z : zA) : ∀ (k : Nat) (s : zA), StV m c s → s.Stack.length < k → ∀ K : Nat, k ≤ K →
 zl (zaw.r0 N) K ⟨s, c, e⟩ = some (.inl ⟨zhy c e k s, c, e⟩) ∧ zl (zd1.r0 N) K (e, c, s, z) = some (.inl (zhy c e k s)) ∧ StV m c (zhy c e k s) ∧ (zhy c e k s).Steps = s.Steps ∧ (zhy c e k s).Exception = s.Exception ∧
 (zhy c e k s).Registers = s.Registers ∧ (zhy c e k s).Storage = s.Storage ∧ (zhy c e k s).Lines = s.Lines ∧ (zhy c e k s).Condition = s.Condition ∧ (s.Status = 0 → (zhy c e k s).Status = 0 ∨ (zhy c e k s).Status = 2)
 | 0, s, _, h, _, _ => by omega
 | k + 1, s, hs, h, K, hK => by
  obtain ⟨K, rfl⟩ : ∃ J, K = J + 1 := ⟨K - 1, by omega⟩; have hh := z6q N hN hc s.At e; have hr := z6b N hN hc s.At e; have rg := z0f hc s.At e; have h6 := hs.stk; have n240 := hc.len; simp only [zl, zaw.r0, zaw.b0, zd1.r0, zd1.b0]; rw [hh, hr]; simp only [obs]; unfold zhy
  by_cases h0 : 0 ≤ zgv c s.At e
  · rw [ifp h0, dct (show zgv c s.At e ≥ 0 by omega), zb6, dct (show zgv c s.At e ≠ -1 by omega)]; exact ⟨rfl, rfl, hs.updA h0 (by omega), rfl, rfl, rfl, rfl, rfl, rfl, fun h => .inl h⟩
  · rw [ifn h0, dcf (show ¬ zgv c s.At e ≥ 0 by omega), zb6, dcf (show ¬ zgv c s.At e ≠ -1 by omega), zar, w6e (n := (s.Stack.length : Int) - 1)]
    by_cases hz : s.Stack.length = 0
    · rw [ifp hz, dct (show (s.Stack.length : Int) - 1 < 0 by omega), dct (show (s.Stack.length : Int) = 0 by omega)]; exact ⟨rfl, rfl, hs.updT (by omega) (by omega), rfl, rfl, rfl, rfl, rfl, rfl, fun _ => .inr rfl⟩
    · have hl : (s.Stack.length : Int) - 1 = ((s.Stack.length - 1 : Nat) : Int) := by omega
      have hx1 : s.Stack[s.Stack.length - 1]? = some (s.Stack.getD (s.Stack.length - 1) 0) := by rw [gdd, lge (by omega)]; rfl
      obtain ⟨hrr, _⟩ := hs.calls _ (lmg hx1); have hcl : ∀ l : List Int, l.length ≤ 6 → zed 8 l = some l := fun l hl => by unfold zed; rw [zax (by omega)]; rfl
      rw [ifn hz, dcf (show ¬ (s.Stack.length : Int) - 1 < 0 by omega), dcf (show ¬ (s.Stack.length : Int) = 0 by omega), hl, zan, hx1]; simp only [cfa, obs]; rw [ifp, ifp, ifp, ifp, itn, show (0 : Int).toNat = 0 from rfl, dr0, hcl _ (by rw [lnt]; omega)]; simp only [obs]; have hs2 : StV m c (updK (updA s (s.Stack.getD (s.Stack.length - 1) 0)) (s.Stack.take (s.Stack.length - 1))) := (hs.updA hrr.1 hrr.2).updK (by rw [lnt]; omega) fun i hi2 => hs.calls i (List.mem_of_mem_take hi2); exact zxd N hN hc e he z k _ hs2 (by show (s.Stack.take (s.Stack.length - 1)).length < k; rw [lnt]; omega) K (by omega)
def zvy (s : zA) : zA := if s.Status = 0 ∧ s.Steps = 3000 then updT s 3 else s
def zwo (c : zG) (s : zA) : zB := c.zC.getD s.At.toNat ⟨0, 0, 0, 0, 0, ⟨false, 0, 0⟩, ⟨false, 0, 0⟩, ⟨0, 0, 0⟩, ⟨0, 0, 0⟩, false, false, ⟨0, 0⟩, ⟨#[]⟩, ⟨#[]⟩, 0, 0, 0, 0⟩
def zwd (c : zG) (s : zA) : zA :=
 match ze4 (updP s (s.Steps + 1)) (zwo c s) with
 | .error e => zvy (zhy c e (s.Stack.length + 1) (updE (updP s (s.Steps + 1)) e))
 | .ok (n, t) => if t.Status ≠ 0 then t else if n = (c.zC.length : Int) then updT t 1 else zvy (updA t n)
theorem z3o (t : zA) : ((cond (t.Status == 0) (some (t.Steps == 3000)) (some false)).bind fun g => cond g (some (⟨t.Registers, t.Condition, t.Storage, t.At, t.Stack, t.Lines, 3, t.Exception, t.Marks, t.Steps⟩ : zA)) (some t)) = some (zvy t) := by
 unfold zvy
 rw [zar, zar]
 by_cases h1 : t.Status = 0
 · rw [dct h1]
   by_cases h2 : t.Steps = 3000
   · rw [dct h2, ifp ⟨h1, h2⟩]; rfl
   · rw [dcf h2, ifn (fun h => h2 h.2)]; rfl
 · rw [dcf h1, ifn (fun h => h1 h.1)]; rfl
theorem z8r {t : zA} (h : StV m c t) : StV m c (zvy t) ∧ (zvy t).Steps = t.Steps ∧ ((zvy t).Status = 0 → t.Steps ≠ 3000) := by
 unfold zvy
 split
 · exact ⟨h.updT (by omega) (by omega), rfl, fun h => by have h' : (3 : Int) = 0 := h; omega⟩
 · rename_i hn; exact ⟨h, rfl, fun h1 h2 => hn ⟨h1, h2⟩⟩
theorem z76 (hc : CodeV m c) (h : StV m c s) : zib s = some s := by
 have h1 := h.regs
 have h2 := h.stk
 have h3 := h.lines
 have h4 := h.sto.le
 have h5 := h.sto.tags
 have h6 := hc.m2
 unfold zib zjv zh2
 rw [zax (by omega), ctr, z5d (by omega), obs, zax (by omega), ctr, obs, zax (by omega)]
 rfl
theorem z7l (N : Nat) (hN : 20000 < N) (hc : CodeV m c) (hs : StV m c s) (hrun : s.Status = 0) (h3 : s.Steps < 3000) :
 zgp N c s = some (zwd c s) ∧ zmk N c s = some (zwd c s) ∧ StV m c (zwd c s) ∧ (zwd c s).Steps = s.Steps + 1 ∧ ((zwd c s).Status = 0 → s.Steps + 1 < 3000) := by
 have a0 := hs.at0
 have a1 := hs.at1
 have p0 := hs.sp0
 have hx : c.zC[s.At.toNat]? = some (zwo c s) := by
  unfold zwo; rw [gdd, lge (by omega)]; rfl
 have hi : idx c.zC s.At = some (zwo c s) := by unfold idx; rw [ifp a0, hx]
 have hs1 : StV m c (updP s (s.Steps + 1)) := hs.updP (by omega) (by omega)
 have hb := z8v N hN hc hs1 (x := zwo c s) hx
 unfold zgp zmk
 rw [hi, z76 hc hs]
 simp only [obs, eS, eC]
 rw [w6e (n := s.Steps + 1)]
 show ((ze N ⟨updP s (s.Steps + 1), c, 0⟩ (zwo c s)).bind _) = _ ∧ ((zd N c (updP s (s.Steps + 1))).bind _) = _ ∧ _
 unfold zwd
 rcases hb with ⟨e, nx, ny, t, g1, g2, g3, g4⟩ | ⟨n, k, t, g1, g3, g4, g5, g6, g7, g8, g9⟩
 · rw [g1, g3, g4]; simp only [obs]; have hse : StV m c (updE (updP s (s.Steps + 1)) e) := hs1.updE (by omega) (by omega); obtain ⟨k1, k2, k3, k4, k5, k6, k7, k8, k9, k10⟩ := zxd N hN hc e (by omega) ⟨[], 0, ⟨⟨#[]⟩, []⟩, 0, [], [], 0, 0, 0, 0⟩ (s.Stack.length + 1) _ hse (Nat.lt_succ_self _) N (by have := hs.stk; omega); rw [zb6, dct (show e ≠ 0 by omega)]; simp only [ctr]; have hf := z8r k3; have k4' : (zhy c e (s.Stack.length + 1) (updE (updP s (s.Steps + 1)) e)).Steps = s.Steps + 1 := k4; refine ⟨?_, ?_, hf.1, hf.2.1.trans k4, fun h => ?_⟩
   · unfold zaw; show ((((zl (zaw.r0 N) N ⟨updE (updP s (s.Steps + 1)) e, c, e⟩).bind _)).bind _) = _; rw [k1]; exact z3o _
   · unfold zd1; show ((((zl (zd1.r0 N) N (e, c, updE (updP s (s.Steps + 1)) e, _)).bind _)).bind _) = _; rw [k2]; exact z3o _
   · have := hf.2.2 h; omega
 · rw [g1, g3, g4]; simp only [obs, bsf, cfa]; have g8' : t.Steps = s.Steps + 1 := g8; have e0 : (t.Status != 0) = decide (t.Status ≠ 0) := zb6 _ _; have e1 : (t.Status == 0) = decide (t.Status = 0) := zar _ _; rw [e0, e1]
   by_cases hst : t.Status = 0
   · obtain ⟨j1, j2, j3⟩ := g5 hst; subst j1; rw [dct hst, dcf (show ¬ t.Status ≠ 0 by omega), ifn (show ¬ t.Status ≠ 0 by omega)]; simp only [ctr, cfa, zar]
     by_cases hl : k = (c.zC.length : Int)
     · rw [dct hl, ifp hl]; exact ⟨rfl, rfl, g6.updT (by omega) (by omega), g8', fun h => by have h' : (1 : Int) = 0 := h; omega⟩
     · rw [dcf hl, ifn hl]; have hta : StV m c (updA t k) := g6.updA (by omega) (by omega); have hf := z8r hta; have f1 := z3o (updA t k); rw [zar, zar] at f1; have e2 : (updA t k).Status = t.Status := rfl; rw [e2, dct hst] at f1; refine ⟨f1, f1, hf.1, hf.2.1.trans g8', fun h => ?_⟩; have := hf.2.2 h; have e3 : (updA t k).Steps = t.Steps := rfl; have := g6.sp1; omega
   · rw [dcf hst, dct (show t.Status ≠ 0 from hst), ifp (show t.Status ≠ 0 from hst)]; exact ⟨rfl, rfl, g6, g8', fun h => absurd h hst⟩
end
theorem zad3 {m : zJ} {c : zG} {n : Int} (h : ztp m c = (n, 0)) : (∀ x ∈ c.zC, zo9 m c x = 0) ∧ (∀ t ∈ c.zO, zqm c t = true) ∧ n = (c.zC.length : Int) := by
 unfold ztp at h
 cases hf : (List.range c.zC.length).findSome? (gI m c) with
 | some r =>
  rw [hf] at h; simp only at h; subst h; obtain ⟨j, _, hj⟩ := eof hf; unfold gI at hj; rw [Option.bind_eq_some_iff] at hj; obtain ⟨y, _, hy⟩ := hj
  by_cases h1 : zo9 m c y = 0
  · simp [h1] at hy
  · rw [ifn h1] at hy; simp only [Option.some.injEq, Prod.mk.injEq] at hy; exact absurd hy.2 h1
 | none =>
  rw [hf] at h; simp only at h; have hI : ∀ x ∈ c.zC, zo9 m c x = 0 := fun x hx => by
   refine cbc fun h0 => ?_; obtain ⟨i, hi⟩ := List.getElem?_of_mem hx; rw [List.findSome?_eq_none_iff] at hf; have := hf i (List.mem_range.2 (gei hi).1); unfold gI at this; rw [hi, obs, ifn h0] at this; cases this
  cases hg : (List.range c.zO.length).findSome? (gT c) with
  | some r =>
   rw [hg] at h; simp only at h; subst h; obtain ⟨j, _, hj⟩ := eof hg; unfold gT at hj; rw [Option.bind_eq_some_iff] at hj; obtain ⟨y, _, hy⟩ := hj; split at hy
   · cases hy
   · simp only [Option.some.injEq, Prod.mk.injEq] at hy; cases hy.2
  | none =>
   rw [hg] at h; simp only [Prod.mk.injEq] at h; refine ⟨hI, fun t ht => ?_, h.1.symm⟩; refine cbc fun h0 => ?_; obtain ⟨i, hi⟩ := List.getElem?_of_mem ht; rw [List.findSome?_eq_none_iff] at hg; have := hg i (List.mem_range.2 (gei hi).1); unfold gT at this; rw [hi, obs, ifn h0] at this; cases this
theorem zadu {s : Storage} {i : Int} (h : zjf s = (i, 0)) (hn : ¬ true ∈ s.Tags) : ziu s := by
 unfold zjf at h
 split at h
 · cases h
 · split at h
   · cases h
   · split at h
     · cases h
     · rename_i h1 h2 h3; refine ⟨by omega, by omega, by omega, fun k hk => absurd (lmg hk) hn⟩
theorem zae2 (N : Nat) (hN : 1048600 < N) {m : zJ} {c : zG} (hc : Wft En 1048576 Ty.zG c) {n : Int} (h : zt N m c = some (n, 0)) : CodeV m c ∧ n = (c.zC.length : Int) := by
 obtain ⟨e, _, he2, he3⟩ := zzi m
 obtain ⟨i1, e1, e2, _, hs2, hs⟩ := z1y N (by omega) c.Storage
 have hsp := (zk3 N (by omega) c.Storage).2
 obtain ⟨w1, w2, w3, w4, w5⟩ := znz hc
 unfold zt at h
 simp only [eS, eM, eC] at h
 rw [he2, hs2] at h
 simp only [obs] at h
 by_cases h0 : e = 0
 · subst h0; have hm := he3 rfl; simp only [bsf, cfa] at h
   by_cases h2 : e2 = 0
   · rcases hs with ⟨rfl, hs⟩ | ⟨ok, htl, _, _⟩
     · exact absurd h2 hs
     · subst h2; obtain ⟨l, hl1, hl2⟩ := z5a N c.Storage htl (by omega); rw [hl1] at h; simp only [bsf, cfa, obs, orB] at h; cases hd : decide ((l.length : Int) > 0) with
       | true => rw [hd] at h; cases h
       | false =>
        rw [hd] at h hl2; simp only [cfa] at h
        by_cases hz : (c.zC.length : Int) = 0
        · rw [hz] at h; cases h
        · rw [zar, dcf hz] at h; simp only [cfa] at h; cases hb : (decide ((c.zC.length : Int) > 240) || decide ((c.zO.length : Int) > 40)) with
          | true => rw [hb] at h; cases h
          | false =>
           rw [hb] at h; simp only [cfa] at h; have := z2l N hN hm ok hc; rw [this] at h; simp only [Bool.or_eq_false_iff, decide_eq_false_iff_not] at hb; obtain ⟨r1, r2, r3⟩ := zad3 (Option.some.inj h); have hn : ¬ true ∈ c.Storage.Tags := fun hh => by
            have := List.contains_iff_mem.2 hh; rw [← hl2] at this; cases this
           have hst : ∃ i, zjf c.Storage = (i, 0) := by
            unfold zic at hs2; simp only [eS] at hs2; rw [hsp, obs] at hs2; exact ⟨(zjf c.Storage).1, by rw [← Option.some.inj hs2]⟩
           obtain ⟨i, hi⟩ := hst; exact ⟨{ m1 := hm.1, m2 := hm.2, sto := zadu hi hn, len := by omega, pos := by omega, traps := by omega, ins := r1, trap := r2 }, r3⟩
   · rw [zb6, dct h2] at h; simp only [ctr, Option.some.injEq, Prod.mk.injEq] at h; exact absurd h.2 h2
 · rw [zb6, dct h0] at h; simp only [ctr, Option.some.injEq, Prod.mk.injEq] at h; exact absurd h.2 h0
theorem z2c (N : Nat) (l : List ByteArray) (h : l.length < N) (hl : l.length < 1000000) : zcf N l l = some true := by
 unfold zcf
 simp only [bsf, cfa]
 have l1 := zb1 (f := zcf.r0 N) (fun i => (l, l, (i : Int))) (fun _ => none) l.length
  (fun i hi => by
   have hx := lge hi; simp only [zcf.r0, zcf.b0, zan, hx, obs, dct (show (i : Int) < (l.length : Int) by omega), ctr, bst, bnt, cfa]; rw [w6e]; rfl)
  (by simp only [zcf.r0, zcf.b0, dcf (show ¬ (l.length : Int) < (l.length : Int) by omega), cfa]) h
 simp only [nc0] at l1
 rw [l1]
 have : ∀ l : List Nat, l.findSome? (fun _ => (none : Option Bool)) = none := fun l => by rw [List.findSome?_eq_none_iff]; intros; rfl
 rw [this]
 rfl
theorem z55 (N : Nat) (l : List Bool) (h : l.length < N) (hl : l.length < 1000000) : zej N l l = some true := by
 unfold zej
 simp only [bsf, cfa]
 have l1 := zb1 (f := zej.r0 N) (fun i => (l, l, (i : Int))) (fun _ => none) l.length
  (fun i hi => by
   have hx := lge hi; simp only [zej.r0, zej.b0, zan, hx, obs, dct (show (i : Int) < (l.length : Int) by omega), ctr, bst, bnt, cfa]; rw [w6e]; rfl)
  (by simp only [zej.r0, zej.b0, dcf (show ¬ (l.length : Int) < (l.length : Int) by omega), cfa]) h
 simp only [nc0] at l1
 rw [l1]
 have : ∀ l : List Nat, l.findSome? (fun _ => (none : Option Bool)) = none := fun l => by rw [List.findSome?_eq_none_iff]; intros; rfl
 rw [this]
 rfl
theorem z9s (N : Nat) (s : Storage) (h : s.Tags.length < N) (hl : s.Tags.length < 1000000) : zh1 N s s = some true := by
 unfold zh1
 rw [bst, ctr, z55 N _ h hl]
 rfl
theorem z18 (p : Nat → Bool) (n : Nat) {R : Type} (r : Nat → R) : (List.range n).any p = ((List.range n).findSome? fun i => if p i = true then some (r i) else none).isSome := by
 induction List.range n with
 | nil => rfl
 | cons a l ih =>
  rw [List.any_cons, List.findSome?_cons]; cases h : p a with
  | true => simp
  | false => simpa using ih
theorem z3j {σ : Type} {f : σ → Option (Round Int σ)} (S : Nat → σ) (p : Nat → Bool) (n : Nat) (h : ∀ i, i < n → f (S i) = some (if p i = true then .result (i : Int) else .again (S (i + 1)))) (hl : f (S n) = some (.leave (S n))) {N : Nat} (hN : n < N) :
 (((zl f N (S 0)).bind fun z2 => zb9 z2 (fun z => some z) (fun _ => some (-1))).bind fun r1 => some (decide (r1 ≥ 0))) = some ((List.range n).any p) := by
 have l1 := zb1 (f := f) S (fun i => if p i = true then some (i : Int) else none) n (fun i hi => by rw [h i hi]; cases p i <;> rfl) hl hN
 rw [l1, z18 p n (fun i => (i : Int))]
 cases h2 : (List.range n).findSome? (fun i => if p i = true then some (i : Int) else none) with
 | none => rfl
 | some r =>
  obtain ⟨i, _, hi⟩ := eof h2; split at hi
  · injection hi with hi; subst hi; simp only [obs, zb9, Option.isSome_some]; rw [dct (by omega)]
  · cases hi
theorem zvb {σ : Type} {R : Type} {f : σ → Option (Round R σ)} (S : Nat → σ) (p : Nat → Bool) (e : R) (n : Nat) (h : ∀ i, i < n → f (S i) = some (if p i = true then .result e else .again (S (i + 1)))) (hl : f (S n) = some (.leave (S n))) {N : Nat} (hN : n < N) (K : σ → Option R) :
 ((zl f N (S 0)).bind fun z => zb9 z (fun z => some z) K) = if (List.range n).any p = true then some e else K (S n) := by
 have l1 := zb1 (f := f) S (fun i => if p i = true then some e else none) n (fun i hi => by rw [h i hi]; cases p i <;> rfl) hl hN
 rw [l1, z18 p n (fun i => e)]
 cases h2 : (List.range n).findSome? (fun i => if p i = true then some e else none) with
 | none => rfl
 | some r =>
  obtain ⟨i, _, hi⟩ := eof h2; split at hi
  · injection hi with hi; subst hi; rfl
  · cases hi
def zep (t : List Bool) : Nat → List Int
 | 0 => []
 | i + 1 => if t.getD i false = true then zep t i ++ [(i : Int) * 16] else zep t i
theorem zrf (t : List Bool) : ∀ i, (zep t i).length ≤ i
 | 0 => Nat.le_refl 0
 | i + 1 => by
  have := zrf t i; unfold zep; split
  · rw [lna, lns]; omega
  · omega
theorem zyb (t : List Bool) (o : Int) : ∀ i, o ∈ zep t i ↔ ∃ k : Nat, k < i ∧ t.getD k false = true ∧ o = (k : Int) * 16
 | 0 => by simp [zep]
 | i + 1 => by
  have ih := zyb t o i; unfold zep; constructor
  · intro h; split at h
    · rename_i hi; rcases List.mem_append.1 h with h | h
      · obtain ⟨k, h1, h2⟩ := ih.1 h; exact ⟨k, by omega, h2⟩
      · rw [List.mem_singleton] at h; exact ⟨i, by omega, hi, h⟩
    · obtain ⟨k, h1, h2⟩ := ih.1 h; exact ⟨k, by omega, h2⟩
  · rintro ⟨k, h1, h2, h3⟩
    by_cases hk : k = i
    · subst hk; rw [ifp h2]; exact List.mem_append_right _ (by rw [h3]; exact List.mem_singleton_self _)
    · have := ih.2 ⟨k, by omega, h2, h3⟩; split
      · exact List.mem_append_left _ this
      · exact this
structure StoW (s : Storage) : Prop where
 le : s.Bytes.size ≤ 1024
 quad : s.Bytes.size % 16 = 0
 tags : s.Tags.length = s.Bytes.size / 16
 err : zjf s = ((s.Tags.length : Int), 0)
 ptr : ∀ i, s.Tags[i]? = some true → (zjk (zjo s i)).2 = 0
theorem zz3 {s : Storage} (h : (zjf s).2 = 0) : StoW s := by
 have h0 := h
 unfold zjf at h0
 split at h0
 · cases h0
 split at h0
 · cases h0
 split at h0
 · cases h0
 rename_i a1 a2 a3
 have ht : s.Tags.length = s.Bytes.size / 16 := cbc a3
 cases hf : (List.range s.Tags.length).findSome? (gS s) with
 | some r =>
  rw [hf] at h0; obtain ⟨i, _, hi⟩ := eof hf; unfold gS at hi; cases hx : s.Tags[i]? with
  | none => rw [hx] at hi; cases hi
  | some b =>
   rw [hx] at hi; simp only [obs] at hi; split at hi
   · injection hi with hi; subst hi; cases h0
   · cases hi
 | none =>
  refine ⟨by omega, by omega, ht, ?_, fun i hi => ?_⟩
  · unfold zjf; rw [ifn a1, ifn a2, ifn a3, hf]
  · rw [List.findSome?_eq_none_iff] at hf; have hl := (gei hi).1; have := hf i (List.mem_range.2 hl); unfold gS at this; rw [hi] at this; simp only [obs] at this; split at this
    · cases this
    · rename_i h5; exact cbc fun h6 => h5 ⟨trivial, h6⟩
def zyq (s : Storage) (o : Int) : Bool := (zjk (zjo s (o / 16).toNat)).1.Kind != 0 || (zjk (zjo s (o / 16).toNat)).1.Address.zY != 1
theorem z0j (s : Storage) (k : Nat) : ((zjk (zjo s k)).1.Kind != 0 || (zjk (zjo s k)).1.Address.zY != 1) = zyq s ((k : Int) * 16) := by
 unfold zyq
 rw [show ((k : Int) * 16 / 16).toNat = k by omega]
theorem z4t (N : Nat) (s : Storage) (h : s.Tags.length ≤ 64) (hN : 2000 < N) : zap N s = some (zep s.Tags s.Tags.length) := by
 unfold zap
 have l1 := zbm (f := zap.r0 N) (fun i => (zep s.Tags i, (i : Int), s)) s.Tags.length
  (fun i hi => by
   have hx := lge hi; have hg : s.Tags.getD i false = s.Tags[i] := by rw [gdd, hx]; rfl
   have := zrf s.Tags i; have rm : Nat.ble (((zep s.Tags i).length + ([(w6 ((i : Int) * 16))] : List Int).length) * 8) zab = true := Nat.ble_eq_true_of_le (by unfold zab; simp; omega); simp only [zap.r0, zap.b0, zan, hx, obs, dct (show (i : Int) < (s.Tags.length : Int) by omega), ctr, rm]; rw [w6e (n := (i : Int) + 1), w6e (n := (i : Int) * 16), zep, hg]; cases s.Tags[i] <;> rfl)
  (by simp only [zap.r0, zap.b0, dcf (show ¬ (s.Tags.length : Int) < (s.Tags.length : Int) by omega), cfa]) (N := N) (by omega)
 simp only [nc0] at l1
 exact congrArg (fun z => z.bind fun y1 => some y1.1) l1
theorem z4i (N : Nat) (s : Storage) (h : StoW s) (hN : 2000 < N) : zbh N s = some (zep s.Tags s.Tags.length, 0) := by
 have hle := h.le
 have htg := h.tags
 unfold zbh
 rw [(zk3 N hN s).1, h.err]
 simp only [obs, bsf, cfa]
 have l1 := zbm (f := zbh.r0 N) (fun i => (zep s.Tags i, s.Tags, (s.Tags.length : Int), (i : Int))) s.Tags.length
  (fun i hi => by
   have hx := lge hi; have hg : s.Tags.getD i false = s.Tags[i] := by rw [gdd, hx]; rfl
   have := zrf s.Tags i; have rm : Nat.ble (((zep s.Tags i).length + ([(w6 ((i : Int) * 16))] : List Int).length) * 8) zab = true := Nat.ble_eq_true_of_le (by unfold zab; simp; omega); simp only [zbh.r0, zbh.b0, zan, hx, obs, dct (show (i : Int) < (s.Tags.length : Int) by omega), ctr, rm]; rw [w6e (n := (i : Int) + 1), w6e (n := (i : Int) * 16), zep, hg]; cases s.Tags[i] <;> rfl)
  (by simp only [zbh.r0, zbh.b0, dcf (show ¬ (s.Tags.length : Int) < (s.Tags.length : Int) by omega), cfa]) (N := N) (by omega)
 simp only [nc0] at l1
 exact congrArg (fun z => z.bind fun y1 => some (y1.1, (0 : Int))) l1
theorem z9n (N : Nat) (hN : 2000 < N) {s : Storage} (h : StoW s) {k : Nat} (hk : s.Tags[k]? = some true) : zc8 N s ((k : Int) * 16) = some (zjk (zjo s k)) := by
 have hl := h.le
 have hq := h.quad
 have ht := h.tags
 have hi := (gei hk).1
 unfold zc8 zg2
 rw [(zk3 N hN s).1, h.err]
 simp only [obs, bsf, cfa]
 rw [dcf (show ¬ (k : Int) * 16 < 0 by omega), dcf (show ¬ (k : Int) * 16 ≥ (s.Bytes.size : Int) by omega), tme, show ((k : Int) * 16) % 16 = 0 by omega]
 simp only [bsf, cfa, obs]
 rw [tde, show ((k : Int) * 16) / 16 = (k : Int) by omega, w6e (n := (k : Int)), zan, hk]
 simp only [obs, bnt, cfa]
 rw [w6e, ifp, ifp, show ((k : Int) * 16).toNat = 16 * k by omega, show ((k : Int) * 16 + 16).toNat = 16 * k + 16 by omega, z1w N (by omega) _ (by rw [zcp _ _ _ (by omega) (by omega)]; omega), zkq]
 rfl
theorem z90 (N : Nat) (hN : 2000 < N) {s : Storage} (h : StoW s) {k : Nat} (hk : s.Tags[k]? = some true) : zeh N s ((k : Int) * 16) = some ((zjk (zjo s k)).1, 0) := by
 have hl := h.le
 have hq := h.quad
 have ht := h.tags
 have hi := (gei hk).1
 unfold zeh zd3
 rw [zgy, w6e, tme, show ((k : Int) * 16) % 16 = 0 by omega, show inB ((k : Int) * 16) 0 ((s.Bytes.size : Int) - 16) = true by unfold inB; rw [dct (by omega), dct (by omega)]; rfl]
 simp only [obs, bst, ctr, bnt, cfa]
 rw [tde, show ((k : Int) * 16) / 16 = (k : Int) by omega, w6e (n := (k : Int)), zan, hk]
 simp only [obs, bnt, cfa]
 unfold ziw
 rw [w6e (n := (k : Int) * 16), w6e, ifp, ifp, show ((k : Int) * 16).toNat = 16 * k by omega, show ((k : Int) * 16 + 16).toNat = 16 * k + 16 by omega]
 simp only [obs]
 rw [z2k N (by omega) _ (by rw [zcp _ _ _ (by omega) (by omega)]; omega), zkq]
 rfl
theorem z20 {s : Storage} {i : Nat} (h : i < (zep s.Tags s.Tags.length).length) : ∃ k : Nat, s.Tags[k]? = some true ∧ (zep s.Tags s.Tags.length)[i] = (k : Int) * 16 := by
 obtain ⟨k, h1, h2, h3⟩ := (zyb s.Tags _ _).1 (List.getElem_mem h)
 refine ⟨k, ?_, h3⟩
 rw [gdd, lge h1] at h2
 rw [lge h1]
 exact congrArg some h2
def z4c (s : Storage) : Bool := (List.range (zep s.Tags s.Tags.length).length).any fun i => zyq s ((zep s.Tags s.Tags.length).getD i 0)
def zq5 (c : zG) (s : Storage) : Int := if (s.Bytes.size : Int) ≠ (c.Storage.Bytes.size : Int) then 18 else if (zjf s).2 ≠ 0 then (zjf s).2 else cond (z4c s) 22 0
theorem zaeq (N : Nat) (hN : 2000 < N) (c : zG) (s : Storage) : zf6 N c s = some (zq5 c s) := by
 unfold zf6 zq5
 by_cases h1 : (s.Bytes.size : Int) = (c.Storage.Bytes.size : Int)
 · rw [h1, ifn]; simp only [bsf, cfa]; rw [(zk3 N hN s).1]; simp only [obs]
   by_cases h2 : (zjf s).2 = 0
   · have hw := zz3 h2; have hle := hw.le; have htg := hw.tags; have hol := zrf s.Tags s.Tags.length; rw [h2, ifn]; simp only [bsf, cfa]; rw [z4i N s hw hN]; simp only [obs]; unfold zek zaj; have l1 := z3j (f := zaj.r0 N) (fun i => (zep s.Tags s.Tags.length, ((zep s.Tags s.Tags.length).length : Int), (i : Int), s)) (fun i => zyq s ((zep s.Tags s.Tags.length).getD i 0)) (zep s.Tags s.Tags.length).length
      (fun i hi => by
       obtain ⟨k, k1, k2⟩ := z20 hi; have hx := lge hi; have hg : (zep s.Tags s.Tags.length).getD i 0 = (k : Int) * 16 := by rw [gdd, hx, k2]; rfl
       simp only [zaj.r0, zaj.b0, zan, hx, obs, dct (show (i : Int) < ((zep s.Tags s.Tags.length).length : Int) by omega), ctr, k2, hg, zgk]; rw [z9n N hN hw k1, w6e]; simp only [obs, orB]; rw [z0j]; cases zyq s ((k : Int) * 16) <;> rfl)
      (by simp only [zaj.r0, zaj.b0, dcf (show ¬ ((zep s.Tags s.Tags.length).length : Int) < ((zep s.Tags s.Tags.length).length : Int) by omega), cfa]) (N := N) (by omega)
     simp only [nc0] at l1; rw [l1]; simp only [obs, zlj]; rfl
   · rw [ifp h2, zb6, dct h2]; rfl
 · rw [ifp h1, zb6, dct h1]; rfl
theorem zab5 (N : Nat) (hN : 2000 < N) {R : Type} (c : zG) (s : zA) (hw : StoW s.Storage) (K : (List Int) × Int × zG × zA → Option Int) :
 ((zl (zw.r2 N) N (zep s.Storage.Tags s.Storage.Tags.length, 0, c, s)).bind fun z10 => zb9 z10 (fun z => some z) K) = if z4c s.Storage = true then some 22 else K (zep s.Storage.Tags s.Storage.Tags.length, ((zep s.Storage.Tags s.Storage.Tags.length).length : Int), c, s) := by
 have hle := hw.le
 have htg := hw.tags
 have hol := zrf s.Storage.Tags s.Storage.Tags.length
 have l1 := zvb (f := zw.r2 N) (fun i => (zep s.Storage.Tags s.Storage.Tags.length, (i : Int), c, s)) (fun i => zyq s.Storage ((zep s.Storage.Tags s.Storage.Tags.length).getD i 0)) 22 (zep s.Storage.Tags s.Storage.Tags.length).length
  (fun i hi => by
   obtain ⟨k, k1, k2⟩ := z20 hi; have hx := lge hi; have hg : (zep s.Storage.Tags s.Storage.Tags.length).getD i 0 = (k : Int) * 16 := by rw [gdd, hx, k2]; rfl
   simp only [zw.r2, zw.b2, zan, hx, obs, dct (show (i : Int) < ((zep s.Storage.Tags s.Storage.Tags.length).length : Int) by omega), ctr, k2, hg]; rw [z90 N hN hw k1, w6e]; simp only [obs, orB]; rw [z0j]; cases zyq s.Storage ((k : Int) * 16) <;> rfl)
  (by simp only [zw.r2, zw.b2, dcf (show ¬ ((zep s.Storage.Tags s.Storage.Tags.length).length : Int) < ((zep s.Storage.Tags s.Storage.Tags.length).length : Int) by omega), cfa]) (N := N) (by omega) K
 simp only [nc0] at l1
 exact l1
end
end Go.Proofs.YtppbpnknfigboaaGreatDoor.M
