/- The plain law of InterpretRuns: part 1. -/
import Derived.Test.YtppbpnknfigboaaGreatDoorPInterpretRunsx0
namespace Go.Proofs.YtppbpnknfigboaaGreatDoor.M
open Go Go.Amx
set_option linter.unusedVariables false
set_option linter.unusedSimpArgs false
set_option maxRecDepth 100000
set_option exponentiation.threshold 3000
noncomputable section
theorem zaaw (N : Nat) (hN : 4000 < N) (A : List Int) (b r0 : Nat) (hb : 0 < b) (hb2 : b < 10 ^ 500) (Q : List Int) (hQ : dok Q) (i : Nat) (hi : i < Q.length) (hz : Q[i]? = some 0) (hr : r0 < 10 * b) :
 zh (za1.r2 N) N (A, dg b, Q, dg r0, (i : Int)) = some (A, dg b, Q.set i ((r0 / b : Nat) : Int), dg (r0 % b), (i : Int)) := by
 have h56 : (10 : Nat) ^ 500 * 10 ≤ 10 ^ 900 := by decide
 obtain ⟨s', h1, h2⟩ := zkg (f := za1.r2 N)
  (fun t => ∃ (r c : Nat), t = (A, dg b, Q.set i (c : Int), dg r, (i : Int)) ∧ r + c * b = r0)
  (fun t => 10 - (zax t.2.2.1 i).toNat) (fun t => t = (A, dg b, Q.set i ((r0 / b : Nat) : Int), dg (r0 % b), (i : Int)))
  (fun t ht => by
   obtain ⟨r, c, rfl, s1⟩ := ht; have hc : c < 10 := by
    refine cbc fun h => ?_; have := Nat.mul_le_mul_right b (show 10 ≤ c by omega); omega
   have hl : (Q.set i (c : Int)).length = Q.length := List.length_set; have hx : (Q.set i (c : Int))[i]? = some (c : Int) := by rw [List.getElem?_set, ifp rfl, ifp hi]
   have hr0 : r ≤ r0 := by omega
   simp only [za1.r2, za1.b2]; rw [zya N hN r b (by omega) (by omega), obs, zsr]
   by_cases h : b ≤ r
   · left; rw [dct h, ctr, zyb N hN r b (by omega) h, obs, hl, ifp, ifp, itn, hx]; simp only [obs]; rw [ifp, ifp, w6e, List.set_set]; refine ⟨_, rfl, ⟨r - b, c + 1, rfl, ?_⟩, ?_⟩
     · rw [Nat.add_mul, Nat.one_mul]; omega
     · have g : ∀ v : Int, zax (Q.set i v) i = v := by
        intro v; clear hx hl hz
        induction Q generalizing i with
        | nil => simp at hi
        | cons q Q ih =>
         cases i with
         | zero => rfl
         | succ i =>
          rw [List.set_cons_succ]; show (if i + 1 = 0 then q else zax (Q.set i v) (i + 1 - 1)) = v; rw [ifn, Nat.add_sub_cancel]; exact ih (fun d hd => hQ d (List.mem_cons_of_mem _ hd)) i (by simpa using hi)
       show 10 - (zax (Q.set i ((c : Int) + 1)) i).toNat < 10 - (zax (Q.set i (c : Int)) i).toNat; rw [g, g]; omega
   · right; rw [dcf h, cfa]; refine ⟨_, rfl, ?_⟩; have e1 : r0 / b = c := by rw [← s1, Nat.add_mul_div_right _ _ hb, Nat.div_eq_of_lt (by omega), Nat.zero_add]
     have e2 : r0 % b = r := by rw [← s1, Nat.add_mul_mod_self_right, mel (by omega)]
     rw [e1, e2])
  (N := N) (s := (A, dg b, Q, dg r0, (i : Int))) ⟨r0, 0, by
   have : Q.set i ((0 : Nat) : Int) = Q := by
    refine List.ext_getElem? fun k => ?_; rw [List.getElem?_set]; split
    · rename_i hk; rw [← hk, hz]; rfl
    · rfl
   rw [this], by omega⟩ (by show 10 - (zax Q i).toNat < N; omega)
 rw [h1, h2]
theorem zzf (N : Nat) (hN : 4000 < N) (a b : Nat) (ha : a < 10 ^ 400) (hb : 0 < b) (hb2 : b < 10 ^ 400) : za1 N (dg a) (dg b) = some (dg (a / b), dg (a % b)) := by
 have la : (dg a).length ≤ 400 := (zhe a 400).2 ha
 have h45 : (10 : Nat) ^ 400 < 10 ^ 500 := by decide
 have hA := zjl a
 have vA := zj0 a
 unfold za1
 generalize dg a = A at *
 rw [ifp, ifp, zao (by omega), ctr, itn, w6e]
 obtain ⟨s', h1, h2⟩ := zkg (f := za1.r0 N)
  (fun t => ∃ (Q : List Int) (i : Nat), t = (A, dg b, Q, dg (dv (A.drop i) % b), (i : Int) - 1) ∧ i ≤ A.length ∧ Q.length = A.length ∧ dok Q ∧ dv (Q.drop i) = dv (A.drop i) / b ∧ (∀ k, k < i → Q[k]? = some 0))
  (fun t => (t.2.2.2.2 + 1).toNat) (fun t => dok t.2.2.1 ∧ t.2.2.1.length = A.length ∧ dv t.2.2.1 = a / b ∧ t.2.2.2.1 = dg (a % b))
  (fun t ht => by
   obtain ⟨Q, i, rfl, s1, s2, s3, s4, s5⟩ := ht; simp only [za1.r0, za1.b0]; cases i with
   | zero =>
    right; rw [dr0, dr0, vA] at s4; refine ⟨_, rfl, s3, s2, s4, ?_⟩; rw [dr0, vA]
   | succ i =>
    left; obtain ⟨x, hx⟩ : ∃ x, A[i]? = some x := zep (by omega); obtain ⟨x0, x1⟩ := zp2 hA hx; obtain ⟨u, rfl⟩ : ∃ u : Nat, x = (u : Int) := ⟨x.toNat, by omega⟩; have hd := zox A i hx; rw [itn] at hd; have hrb : dv (A.drop (i + 1)) % b < b := Nat.mod_lt _ hb; have hdm := Nat.div_add_mod (dv (A.drop (i + 1))) b; rw [show ((i + 1 : Nat) : Int) - 1 = (i : Int) by omega, dct (show (i : Int) ≥ 0 by omega), ctr, zal, hx]; simp only [obs]; generalize dv (A.drop (i + 1)) = p at *; have lr : (dg (p % b)).length ≤ 500 := (zhe _ 500).2 (by omega); rw [zao (by simp only [lnc, ln0]; omega), ctr]; have hrest : dok ([(u : Int)] ++ dg (p % b)) := zun (fun d hd => by
     rcases List.mem_cons.1 hd with rfl | hd
     · omega
     · cases hd) (zjl _)
    rw [zqs N _ hrest (by rw [lna, lns]; omega) (by rw [lna, lns]; omega)]; have hv : dv ([(u : Int)] ++ dg (p % b)) = u + 10 * (p % b) := by
     show (u : Int).toNat + 10 * dv (dg (p % b)) = _; rw [zj0, itn]
    rw [hv]; simp only [obs]; rw [zaaw N hN A b (u + 10 * (p % b)) hb (by omega) Q s3 i (by omega) (s5 i (by omega)) (by omega)]; simp only [obs]; rw [w6e]; have eq1 : u + 10 * p = b * (10 * (p / b)) + (u + 10 * (p % b)) := by
     rw [Nat.mul_left_comm]; omega
    have ed : (u + 10 * p) / b = 10 * (p / b) + (u + 10 * (p % b)) / b := by rw [eq1, Nat.mul_add_div hb]
    have em : (u + 10 * p) % b = (u + 10 * (p % b)) % b := by rw [eq1, Nat.mul_add_mod]
    have hdig : (u + 10 * (p % b)) / b < 10 := Nat.div_lt_of_lt_mul (by rw [Nat.mul_comm]; omega); generalize (u + 10 * (p % b)) / b = G at *; refine ⟨_, rfl, ⟨Q.set i (G : Int), i, ?_, by omega, by rw [List.length_set]; exact s2, ?_, ?_, ?_⟩, ?_⟩
    · rw [hd, em]
    · intro d hd; rcases List.mem_or_eq_of_mem_set hd with h | h
      · exact s3 d h
      · rw [h]; omega
    · have hxs : (Q.set i (G : Int))[i]? = some (G : Int) := by rw [List.getElem?_set, ifp rfl, ifp]
      rw [zox _ i hxs, itn, List.drop_set_of_lt (by omega), s4, hd, ed]; omega
    · intro k hk; rw [List.getElem?_set, ifn]; exact s5 k (by omega)
    · show ((i : Int) - 1 + 1).toNat < ((i : Int) + 1).toNat; omega)
  (N := N) (s := (A, dg b, List.replicate A.length 0, [], (A.length : Int) - 1)) ⟨List.replicate A.length 0, A.length, by rw [zia (Nat.le_refl _), Nat.zero_mod, zj9], by omega, lnr, zp1 _, by rw [zia (Nat.le_refl _), Nat.zero_div, zia (by rw [lnr]; omega)], fun k hk => by rw [List.getElem?_replicate, ifp hk]⟩ (by show ((A.length : Int) - 1 + 1).toNat < N; omega)
 obtain ⟨o1, o2, o3, o4⟩ := h2
 rw [h1]
 simp only [obs]
 rw [zqs N _ o1 (by omega) (by omega), o3, o4]
 rfl
theorem zvk (k : Nat) (hk : k ≤ 100) : zf9 (k : Int) = some (dg (10 ^ k)) := by
 unfold zf9
 rw [ifp, ifp, zao (by omega), ctr, itn, lnr, zao (by simp only [lnc, ln0]; omega), ctr]
 congr 1
 have h1 : dok (List.replicate k (0 : Int) ++ [1]) := zoy (zp1 k) (by decide) (by decide)
 have h2 : dv (List.replicate k (0 : Int) ++ [1]) = 10 ^ k := by rw [znl, zrf, lnr]; simp
 rw [← h2]
 refine (zz5 h1 ?_).symm
 unfold zm3
 rw [List.getLast?_append]
 simp
def zyh (p q : Nat) (half : Bool) : Nat := p / q + cond (half && decide (q ≤ p % q + p % q)) 1 0
theorem zaap (N : Nat) (hN : 4000 < N) (s : Bool) (p q : Nat) (hp : p ≤ 10 ^ 100) (hq : 0 < q) (hq2 : q ≤ 10 ^ 100) (k : Nat) (hk : k ≤ 15) (half : Bool) :
 ∃ v, zjr N ⟨⟨s, dg p⟩, dg q⟩ (k : Int) half = some ⟨v, dg (zyh (p * 10 ^ k) q half)⟩ ∧ (zyh (p * 10 ^ k) q half ≠ 0 → v = s) := by
 have hs : p * 10 ^ k ≤ 10 ^ 100 * 10 ^ 15 := Nat.mul_le_mul hp (zb8 hk)
 have h115 : (10 : Nat) ^ 100 * 10 ^ 15 < 10 ^ 400 := by decide
 have h4 : (10 : Nat) ^ 400 < 10 ^ 900 := by decide
 have h14 : (10 : Nat) ^ 100 < 10 ^ 400 := by decide
 have hr := Nat.mod_lt (p * 10 ^ k) hq
 have hdl := Nat.div_le_self (p * 10 ^ k) q
 have lp : (dg p).length ≤ 101 := (zhe p 101).2 (by have : (10 : Nat) ^ 100 < 10 ^ 101 := (by decide); omega)
 unfold zjr
 rw [ifp, ifp, zao (by omega), ctr, itn, lnr, zao (by show (k + (dg p).length) * 8 ≤ 1000000; omega), ctr]
 have hd : dok (List.replicate k (0 : Int) ++ dg p) := zun (zp1 k) (zjl p)
 have hv : dv (List.replicate k (0 : Int) ++ dg p) = p * 10 ^ k := by rw [zr4, zrf, zj0, lnr, Nat.zero_add, Nat.mul_comm]
 show ∃ v, ((zb1 N (List.replicate k (0 : Int) ++ dg p)).bind _) = _ ∧ _
 rw [zqs N _ hd (by rw [lna, lnr]; omega) (by rw [lna, lnr]; omega), hv]
 simp only [obs]
 rw [zzf N hN _ q (by omega) hq (by omega)]
 simp only [obs]
 rw [zx9 N hN _ _ (by omega) (by omega)]
 simp only [obs]
 rw [zya N hN _ q (by omega) (by omega)]
 simp only [obs, zsr]
 have kk : (cond half (some (decide (q ≤ p * 10 ^ k % q + p * 10 ^ k % q))) (some false)) = some (half && decide (q ≤ p * 10 ^ k % q + p * 10 ^ k % q)) := by cases half <;> rfl
 rw [kk, obs]
 unfold zyh
 cases (half && decide (q ≤ p * 10 ^ k % q + p * 10 ^ k % q)) with
 | true =>
  rw [ctr, ctr, show ([1] : List Int) = dg 1 by rw [zn7 (by decide), show 1 / 10 = 0 from rfl, zj9]; rfl, zx9 N hN _ 1 (by omega) (by omega)]; simp only [obs, zqv]; refine ⟨s && decide (p * 10 ^ k / q + 1 ≠ 0), by cases s <;> rfl, fun h => ?_⟩; rw [dct h, Bool.and_true]
 | false =>
  rw [cfa, cfa]; simp only [obs, zqv, Nat.add_zero]; refine ⟨s && decide (p * 10 ^ k / q ≠ 0), by cases s <;> rfl, fun h => ?_⟩; rw [dct h, Bool.and_true]
theorem zaas (N : Nat) (hN : 4000 < N) (v : Bool) (m : Nat) (hm : m < 10 ^ 16) : zc5 N ⟨v, dg m⟩ = some (sgn v m) := by
 have lm : (dg m).length ≤ 16 := (zhe m 16).2 hm
 have hA := zjl m
 have vA := zj0 m
 unfold zc5
 generalize dg m = A at *
 have lp := zas (f := zc5.r0 N) (fun i => (((dv (A.drop (A.length - i)) : Nat) : Int), (A.length : Int) - 1 - (i : Int), (⟨v, A⟩ : zK))) A.length
  (fun i hi => by
   obtain ⟨x, hx⟩ : ∃ x, A[A.length - 1 - i]? = some x := zep (by omega); obtain ⟨x0, x1⟩ := zp2 hA hx; have hd := zox A _ hx; rw [show A.length - 1 - i + 1 = A.length - i by omega] at hd; have hb := zz3 (zabm hA (A.length - i)); have hb2 : 10 ^ (A.drop (A.length - i)).length ≤ 10 ^ 16 := zb8 (by rw [List.length_drop]; omega); simp only [zc5.r0, zc5.b0, dct (show (A.length : Int) - 1 - (i : Int) ≥ 0 by omega), ctr]; rw [show (A.length : Int) - 1 - (i : Int) = ((A.length - 1 - i : Nat) : Int) by omega, zal, hx]; simp only [obs]; rw [w6e (n := 10 * ((dv (A.drop (A.length - i)) : Nat) : Int)), w6e (n := 10 * ((dv (A.drop (A.length - i)) : Nat) : Int) + x), w6e, show A.length - (i + 1) = A.length - 1 - i by omega, hd]
   congr 3
   · omega
   · congr 1
     omega)
  (by simp only [zc5.r0, zc5.b0, dcf (show ¬ (A.length : Int) - 1 - (A.length : Int) ≥ 0 by omega), cfa]) (N := N) (by omega)
 simp only [Nat.sub_zero, nc0, Int.sub_zero, Nat.sub_self, dr0, zia (Nat.le_refl A.length), vA] at lp
 show ((zh (zc5.r0 N) N (0, w6 ((A.length : Int) - 1), (⟨v, A⟩ : zK))).bind _) = _
 rw [w6e, lp]
 simp only [obs]
 unfold sgn
 cases v
 · rfl
 · rw [ctr, ctr, w6e, Int.zero_sub]
theorem z8t (N : Nat) (hN : 4000 < N) (s : Bool) (p q : Nat) (hp : p ≤ 10 ^ 100) (hq : 0 < q) (hq2 : q ≤ 10 ^ 100) {t : DataType} (ht : zh6 t) (half : Bool) :
 ∃ n e, zih N ⟨⟨s, dg p⟩, dg q⟩ t half = some (n, e) ∧ ((⟨n, ⟨#[]⟩⟩ : Value), e) = zhj s p q t half := by
 obtain ⟨⟨l1, l2⟩, l3, l4⟩ := ze6 ht
 obtain ⟨v, h1, h2⟩ := zaap N hN s p q hp hq hq2 t.Scale.toNat (by omega) half
 rw [Int.toNat_of_nonneg l3] at h1
 unfold zih
 show ∃ n e, ((zjr N ⟨⟨s, dg p⟩, dg q⟩ t.Scale half).bind _) = _ ∧ _
 rw [h1]
 simp only [obs]
 have hl := zhe (zyh (p * 10 ^ t.Scale.toNat) q half) t.Length.toNat
 have e : zhj s p q t half = if 10 ^ t.Length.toNat ≤ zyh (p * 10 ^ t.Scale.toNat) q half then (⟨0, ⟨#[]⟩⟩, 19) else (⟨sgn s (zyh (p * 10 ^ t.Scale.toNat) q half), ⟨#[]⟩⟩, 0) := rfl
 rw [e]
 generalize zyh (p * 10 ^ t.Scale.toNat) q half = Q at *
 by_cases h : 10 ^ t.Length.toNat ≤ Q
 · rw [ifp h]; have : ¬ (dg Q).length ≤ t.Length.toNat := fun h3 => by have := hl.1 h3; omega
   rw [dct (by omega)]; exact ⟨_, _, rfl, rfl⟩
 · rw [ifn h]; have : (dg Q).length ≤ t.Length.toNat := hl.2 (by omega); have hQ : Q < 10 ^ 16 := Nat.lt_of_lt_of_le (by omega : Q < 10 ^ t.Length.toNat) (zb8 (by omega)); rw [dcf (by omega), cfa, zaas N hN v Q hQ]; refine ⟨_, _, rfl, ?_⟩
   congr 2
   unfold sgn
   by_cases h0 : Q = 0
   · rw [h0]; cases v <;> cases s <;> rfl
   · rw [h2 h0]
theorem zux {t : DataType} (ht : zh6 t) : zff t = some 0 := by
 obtain ⟨h0, h1, h2⟩ := ht
 unfold zff
 rw [zwq, h0]
 simp only [obs, bsf, cfa]
 rw [zqe, zbg.2 ⟨h1, h2⟩]
 simp only [obs, zgx]
 decide
theorem zacr (N : Nat) (hN : 4000 < N) {x : Number} (hx : zdb x) {t : DataType} (ht : zh6 t) (half : Bool) : zh4 N x t half = some (zkp x t half) := by
 have hx' := hx
 obtain ⟨⟨h1, h2⟩, h3, h4⟩ := hx'
 unfold zh4 ziy
 rw [zvm, zl0.2 hx]
 simp only [obs, bsf, cfa, eN]
 rw [zux ht]
 simp only [obs, bsf, cfa]
 have e1 := zvn N (by omega) x.N ⟨by omega, by omega⟩ 0 (by omega)
 rw [Nat.pow_zero, Nat.mul_one, nc0] at e1
 have e2 := zvk x.Scale.toNat (by omega)
 rw [Int.toNat_of_nonneg h3] at e2
 rw [e1, obs, e2, obs]
 simp only [obs]
 have hp : x.N.natAbs ≤ 10 ^ 100 := Nat.le_trans (show x.N.natAbs ≤ 10 ^ 15 by omega) (by decide)
 obtain ⟨n, e, g1, g2⟩ := z8t N hN (decide (x.N < 0)) x.N.natAbs (10 ^ x.Scale.toNat) hp (zcb _) (zb8 (by omega)) ht half
 show ((zih N ⟨⟨decide (x.N < 0), dg x.N.natAbs⟩, dg (10 ^ x.Scale.toNat)⟩ t half).bind _) = _
 rw [g1]
 simp only [obs]
 rw [g2]
 rfl
theorem z3k {n : Nat} (h : n ≤ 10 ^ 31) : n ≤ 10 ^ 100 := Nat.le_trans h (by decide)
theorem z3b (s : Bool) (p q : Nat) (hq : 0 < q) (t : DataType) (half : Bool) : zhj s p q t half = zvv (sgn s p) q t half := z3d s p q hq t half
theorem zacs (N : Nat) (hN : 4000 < N) {op : Int} (hop : 0 ≤ op ∧ op ≤ 4) {a b : Number} (ha : zdb a) (hb : zdb b) {t : DataType} (ht : zh6 t) (half : Bool) : zfg N ⟨op, t, half⟩ a b = some (zi7 op a b t half) := by
 obtain ⟨s1, s2, s3, s4⟩ := zlw ha hb
 have la := zif ha s4
 have lb := zif hb s4
 have ha' := ha
 have hb' := hb
 obtain ⟨⟨a1, a2⟩, a3, a4⟩ := ha'
 obtain ⟨⟨b1, b2⟩, b3, b4⟩ := hb'
 have zb := zxd b (zf a b)
 have ga := zqd a (zf a b)
 have gb := zqd b (zf a b)
 have q1 : 10 ^ (zf a b).toNat ≤ 10 ^ 100 := zb8 (by omega)
 unfold zfg
 try simp only [eD]
 rw [zhb, zbg.2 hop]
 simp only [obs, bnt, cfa]
 rw [zvm, zvm, zl0.2 ha, zl0.2 hb]
 simp only [obs, bsf, cfa]
 rw [zux ht]
 simp only [obs, bsf, cfa, eN]
 have fin : ∀ (s : Bool) (p q : Nat), p ≤ 10 ^ 100 → 0 < q → q ≤ 10 ^ 100 → ((zih N ⟨⟨s, dg p⟩, dg q⟩ t half).bind fun r6 => some ((⟨r6.1, (⟨#[]⟩ : ByteArray)⟩ : Value), r6.2)) = some (zhj s p q t half) := fun s p q hp hq hq2 => by
  obtain ⟨n, e, g1, g2⟩ := z8t N hN s p q hp hq hq2 ht half; rw [g1, obs, g2]
 unfold zlh
 rw [zxj N (by omega) ha hb]
 simp only [obs, z30]
 have ep := zvk (zf a b).toNat (by omega)
 rw [Int.toNat_of_nonneg s3] at ep
 have g : (cond (op == 3) (some true) (some (op == 4))) = some (decide (op = 3 ∨ op = 4)) := by
  rw [zaa, zaa]
  by_cases h : op = 3
  · rw [dct h, dct (show op = 3 ∨ op = 4 by omega)]; rfl
  · rw [dcf h]
    by_cases h2 : op = 4
    · rw [dct h2, dct (show op = 3 ∨ op = 4 by omega)]; rfl
    · rw [dcf h2, dcf (show ¬ (op = 3 ∨ op = 4) by omega)]; rfl
 rw [g]
 simp only [obs]
 have hbz : (zai b (zf a b)).natAbs = 0 ↔ b.N = 0 := by
  rw [Int.natAbs_eq_zero]; exact zb
 rw [show (cond (decide (op = 3 ∨ op = 4)) (some (decide ((zai b (zf a b)).natAbs = 0))) (some false)) = some (decide ((op = 3 ∨ op = 4) ∧ b.N = 0)) by
  by_cases h : op = 3 ∨ op = 4
  · rw [dct h, ctr]; congr 1; rw [decide_eq_decide]; constructor
    · intro h2; exact ⟨h, hbz.1 h2⟩
    · intro h2; exact hbz.2 h2.2
  · rw [dcf h, cfa, dcf (fun h2 => h h2.1)]]
 simp only [obs]
 unfold zi7
 by_cases hz : (op = 3 ∨ op = 4) ∧ b.N = 0
 · rw [dct hz, ifp hz]; rfl
 · rw [dcf hz, ifn hz, cfa]
   by_cases o0 : op = 0
   · obtain ⟨v, m, h1, h2, h3⟩ := z20 N hN (decide (a.N < 0)) (decide (b.N < 0)) _ _ (p30 la) (p30 lb); rw [ga, gb] at h2; rw [ifp o0, o0]; simp only [show ((0 : Int) == 1) = false from rfl, show ((0 : Int) == 2) = false from rfl, show ((0 : Int) == 3) = false from rfl, show ((0 : Int) == 4) = false from rfl, cfa]; rw [h1]; simp only [obs]; rw [ep]; simp only [obs, bsf, cfa]; rw [fin v m _ (z3k (by omega)) (zcb _) q1, z3b _ _ _ (zcb _), h2]
   · rw [ifn o0]
     by_cases o1 : op = 1
     · rw [ifp o1, zaa, dct o1, ctr]; have hneg : (cond (!decide (b.N < 0)) (some (decide ((((dg (zai b (zf a b)).natAbs).length : Nat) : Int) > 0))) (some false)) = some (!decide (b.N < 0) && decide ((zai b (zf a b)).natAbs ≠ 0)) := by
        rw [zqv]; cases decide (b.N < 0) <;> rfl
       rw [hneg]; simp only [obs]; obtain ⟨v, m, h1, h2, h3⟩ := z20 N hN (decide (a.N < 0)) (!decide (b.N < 0) && decide ((zai b (zf a b)).natAbs ≠ 0)) _ _ (p30 la) (p30 lb); have gb2 : sgn (!decide (b.N < 0) && decide ((zai b (zf a b)).natAbs ≠ 0)) (zai b (zf a b)).natAbs = -zai b (zf a b) := by
        by_cases h0 : (zai b (zf a b)).natAbs = 0
        · have h00 := Int.natAbs_eq_zero.1 h0; rw [h0, dcf (show ¬ (0 : Nat) ≠ 0 by omega), Bool.and_false, h00]; rfl
        · rw [dct h0, Bool.and_true, z5r, gb]
       rw [ga, gb2] at h2; rw [h1]; simp only [obs]; rw [ep]; simp only [obs, bsf, cfa]; rw [fin v m _ (z3k (by omega)) (zcb _) q1, z3b _ _ _ (zcb _), h2, Int.sub_eq_add_neg]
     · rw [ifn o1, zaa, dcf o1, cfa]
       by_cases o2 : op = 2
       · rw [ifp o2, zaa, dct o2, ctr]; have p90 : ∀ n : Nat, n ≤ 10 ^ 30 → n < 10 ^ 90 := fun n h => Nat.lt_of_le_of_lt h (by decide); rw [z64 N hN _ _ _ _ (p90 _ la) (p90 _ lb)]; simp only [obs]; have e2 := zvk (2 * zf a b).toNat (by omega); rw [Int.toNat_of_nonneg (by omega)] at e2; rw [w6e, e2]; simp only [obs, bsf, cfa]; have hm : (zai a (zf a b)).natAbs * (zai b (zf a b)).natAbs ≤ 10 ^ 100 := Nat.le_trans (Nat.mul_le_mul la lb) (by decide); rw [fin _ _ _ hm (zcb _) (zb8 (by omega))]; have e3 : (zai a (zf a b)).natAbs * (zai b (zf a b)).natAbs = a.N.natAbs * b.N.natAbs * 10 ^ ((zf a b - a.Scale).toNat + (zf a b - b.Scale).toNat) := by
          rw [zib, zib, Nat.mul_mul_mul_comm, ← Nat.pow_add]
         have e4 : 10 ^ (2 * zf a b).toNat = 10 ^ (a.Scale + b.Scale).toNat * 10 ^ ((zf a b - a.Scale).toNat + (zf a b - b.Scale).toNat) := by
          rw [← Nat.pow_add]; congr 1; omega
         rw [z1e _ (decide (a.N < 0) != decide (b.N < 0)) _ _ (zcb _) _ _ (fun h => by rw [dct h, Bool.and_true]), e3, e4, zzi _ _ _ _ (zcb _) (zcb _)]
       · rw [ifn o2, zaa, dcf o2, cfa]
         by_cases o3 : op = 3
         · have hb0 : b.N ≠ 0 := fun h => hz ⟨.inl o3, h⟩; have hbp : 0 < (zai b (zf a b)).natAbs := by
            have : ¬ (zai b (zf a b)).natAbs = 0 := fun h => hb0 (hbz.1 h); omega
           rw [ifp o3, zaa, dct o3, ctr]; simp only [obs, bsf, cfa]; rw [fin _ _ _ (z3k (by omega)) hbp (z3k (by omega))]; have hmin : 0 ≤ a.Scale + b.Scale - zf a b := by unfold zf; split <;> omega
           have e3 : a.N.natAbs * 10 ^ b.Scale.toNat = (zai a (zf a b)).natAbs * 10 ^ (a.Scale + b.Scale - zf a b).toNat := by
            rw [zib, Nat.mul_assoc, ← Nat.pow_add]; congr 2; omega
           have e4 : b.N.natAbs * 10 ^ a.Scale.toNat = (zai b (zf a b)).natAbs * 10 ^ (a.Scale + b.Scale - zf a b).toNat := by
            rw [zib, Nat.mul_assoc, ← Nat.pow_add]; congr 2; omega
           rw [e3, e4, zzi _ _ _ _ (zcb _) hbp]; rfl
         · have hb0 : b.N ≠ 0 := fun h => hz ⟨by omega, h⟩; have hbp : 0 < (zai b (zf a b)).natAbs := by
            have : ¬ (zai b (zf a b)).natAbs = 0 := fun h => hb0 (hbz.1 h); omega
           have p400 : ∀ n : Nat, n ≤ 10 ^ 30 → n < 10 ^ 400 := fun n h => Nat.lt_of_le_of_lt h (by decide); have hm := Nat.mod_lt (zai a (zf a b)).natAbs hbp; rw [ifn o3, zaa, dcf o3, cfa, zaa, dct (show op = 4 by omega), ctr, zzf N hN _ _ (p400 _ la) hbp (p400 _ lb)]; simp only [obs]; rw [ep]; simp only [obs, bsf, cfa]; rw [fin _ _ _ (z3k (by omega)) (zcb _) q1]
theorem z0h (N : Nat) (hN : 2000 < N) {s : Storage} (h : zk8 s) {a : Int} (ha : zpa s a = true) :
 zgy N s a = some (match ldV s a with | some o => (zhw o, 0) | none => (zyx, 22)) := by
 obtain ⟨a1, a2, a3⟩ := zo9 ha
 have hl := h.le
 have hq := h.quad
 have ht := h.tags
 unfold zgy
 rw [zacp h.ok, ha]
 simp only [obs, bnt, cfa]
 have ed : w6 (a.tdiv 16) = (((a / 16).toNat : Nat) : Int) := by
  rw [tde a1, w6e]; omega
 have hi : (a / 16).toNat < s.Tags.length := by omega
 rw [ed, zal, lge hi]
 simp only [obs]
 unfold ldV
 rw [lge hi]
 cases hb : s.Tags[(a / 16).toNat] with
 | false => rfl
 | true =>
  simp only [bnt, cfa, if_true]; unfold zkm; rw [w6e (n := (((a / 16).toNat : Nat) : Int) * 16), w6e, ifp, ifp]; simp only [obs]; have e : s.Bytes.extract ((((a / 16).toNat : Nat) : Int) * 16).toNat ((((a / 16).toNat : Nat) : Int) * 16 + 16).toNat = s.Bytes.extract (16 * (a / 16).toNat) (16 * (a / 16).toNat + 16) := by
   rw [show ((((a / 16).toNat : Nat) : Int) * 16).toNat = 16 * (a / 16).toNat by omega, show ((((a / 16).toNat : Nat) : Int) * 16 + 16).toNat = 16 * (a / 16).toNat + 16 by omega]
  rw [e, z8u N (by omega) _ (by rw [zcl _ _ _ (by omega) (by omega)]; omega), znu]; obtain ⟨off, _, h2⟩ := h.ptr (a / 16).toNat (by rw [lge hi, hb]); rw [h2]; rfl
theorem z5z {s : Storage} (h : s.Tags.length ≤ 100000) : zf3 s = some s := by
 unfold zf3 zkc
 rw [zao (by omega)]
 rfl
theorem z2z (N : Nat) (hN : 2000 < N) {s : Storage} (h : zk8 s) {a : Nat} {d : ByteArray} (hd : a + d.size ≤ s.Bytes.size) (hd0 : 0 < d.size) : zbp N s (a : Int) d = some (wrV s a d) := by
 have hl := h.le
 have hq := h.quad
 have ht := h.tags
 have hmax : IntKind.i64.max = 9223372036854775807 := by decide
 unfold zbp zg2
 rw [z5z (by omega), hmax]
 simp only [obs]
 have z1 : (s.Bytes.extract (0 : Int).toNat (a : Int).toNat).size = a := by rw [zcl _ _ _ (by omega) (by omega)]; omega
 rw [ifp, ifp, ifn (by rw [z1]; omega), w6e (n := (a : Int) + (d.size : Int)), ifp]
 have z2 : (s.Bytes.extract ((a : Int) + (d.size : Int)).toNat s.Bytes.size).size = s.Bytes.size - (a + d.size) := by rw [zcl _ _ _ (by omega) (by omega)]; omega
 rw [ifn (by rw [z2, bsa, z1]; omega)]
 simp only [obs]
 have f1 : ((s.Bytes.extract (0 : Int).toNat (a : Int).toNat) ++ d) ++ (s.Bytes.extract ((a : Int) + (d.size : Int)).toNat s.Bytes.size) = (wrV s a d).Bytes := by
  refine zgs ?_; rw [zcm, zcm, zd0, zd0, show (0 : Int).toNat = 0 from rfl, dr0, show ((a : Int) + (d.size : Int)).toNat = a + d.size by omega, ← zam s.Bytes, List.take_length, itn]; rfl
 rw [f1]
 have lp := zas (f := zbp.r0 N) (fun i => ((a : Int), d, (i : Int), (⟨⟨#[]⟩, []⟩ : Storage), (⟨(wrV s a d).Bytes, if i = 0 then s.Tags else clr s.Tags a i⟩ : Storage))) d.size
  (fun i hi => by
   have hlen : (if i = 0 then s.Tags else clr s.Tags a i).length = s.Tags.length := by split <;> simp [zw3]
   have ei : w6 ((w6 ((a : Int) + (i : Int))).tdiv 16) = (((a + i) / 16 : Nat) : Int) := by
    rw [w6e (n := (a : Int) + (i : Int)), tde, w6e]; omega
   simp only [zbp.r0, zbp.b0, dct (show (i : Int) < (d.size : Int) by omega), ctr, ei, hlen]; rw [ifp, ifp, itn]; obtain ⟨x, hx⟩ : ∃ x, (if i = 0 then s.Tags else clr s.Tags a i)[(a + i) / 16]? = some x := zep (by omega); rw [hx]; simp only [obs]; rw [w6e]; have e2 : (if i = 0 then s.Tags else clr s.Tags a i).set ((a + i) / 16) false = clr s.Tags a (i + 1) := by
    refine List.ext_getElem? fun k => ?_; rw [zs3, List.getElem?_set, hlen]; have hc : (if i = 0 then s.Tags else clr s.Tags a i)[k]? = if i ≠ 0 ∧ 16 * k < a + i ∧ a < 16 * k + 16 then (if k < s.Tags.length then some false else none) else s.Tags[k]? := by
     by_cases h0 : i = 0
     · rw [ifp h0, ifn]
     · rw [ifn h0, zs3]
       by_cases h1 : 16 * k < a + i ∧ a < 16 * k + 16
       · rw [ifp h1, ifp (show i ≠ 0 ∧ 16 * k < a + i ∧ a < 16 * k + 16 from ⟨h0, h1⟩)]
       · rw [ifn h1, ifn (fun h => h1 h.2)]
    rw [hc]
    by_cases hk : (a + i) / 16 = k
    · rw [ifp hk, ifp (show (a + i) / 16 < s.Tags.length by omega), ifp (show 16 * k < a + (i + 1) ∧ a < 16 * k + 16 by omega), ifp]
    · rw [ifn hk]
      by_cases h1 : i ≠ 0 ∧ 16 * k < a + i ∧ a < 16 * k + 16
      · rw [ifp h1, ifp (show 16 * k < a + (i + 1) ∧ a < 16 * k + 16 by omega)]
      · rw [ifn h1, ifn (show ¬ (16 * k < a + (i + 1) ∧ a < 16 * k + 16) by omega)]
   rw [e2, ifn (show ¬ i + 1 = 0 by omega)]; rfl)
  (by simp only [zbp.r0, zbp.b0, dcf (show ¬ (d.size : Int) < (d.size : Int) by omega), cfa]) (N := N) (by omega)
 simp only [if_true, nc0] at lp
 rw [lp, ifn (show ¬ d.size = 0 by omega)]
 rfl
theorem z5e (N : Nat) (hN : 200 < N) (off : Nat) (h : off ≤ 16777215) : zkz N (zhw off) = some (pbV off) := by
 unfold zkz zhw
 have b := fun v k hv hk => zsd N (by omega) v k hv hk
 have hmax : IntKind.i64.max = 9223372036854775807 := by decide
 have sz : ∀ v k, (zda (zbf v k)).size = k := fun v k => by
  show (bl (zda (zbf v k))).length = k; rw [zgh, lnm, zyt]
 rw [show zat N 0 1 = _ from b 0 1 (by decide) (by decide), show zat N 0 2 = _ from b 0 2 (by decide) (by decide), show zat N 1 6 = _ from b 1 6 (by decide) (by decide), show zat N (off : Int) 6 = _ from b off 6 (by omega) (by decide), hmax]
 simp only [obs]
 have z0 : (⟨#[0]⟩ : ByteArray).size = 1 := rfl
 rw [ifn (by rw [sz, z0]; decide), ifn (by rw [bsa, sz, z0, sz]; decide), ifn (by rw [bsa, bsa, sz, z0, sz, sz]; decide), ifn (by rw [bsa, bsa, bsa, sz, z0, sz, sz, sz]; decide)]
 refine congrArg some (zgs ?_)
 unfold pbV
 rw [zcm, zcm, zcm, zcm, zgh, zgh, zgh, zgh, zgh]
 simp only [List.map_append]
 rfl
theorem zaar (N : Nat) (hN : 2000 < N) {s : Storage} (h : zk8 s) {a : Int} (ha : zpa s a = true) (off : Nat) (ho : off ≤ 16777215) : zfm N s a (zhw off) = some (stV s a.toNat off) := by
 obtain ⟨a1, a2, a3⟩ := zo9 ha
 have hl := h.le
 have hq := h.quad
 have ht := h.tags
 have hA : a = ((a.toNat : Nat) : Int) := by omega
 have hw : a.toNat + (pbV off).size ≤ s.Bytes.size := by rw [zkn]; omega
 unfold zfm
 try simp only [eS]
 rw [z5e N (by omega) off ho]
 simp only [obs]
 have hp := z2z N hN h hw (by rw [zkn]; omega)
 rw [← hA] at hp
 rw [hp]
 simp only [obs]
 have ed : w6 (a.tdiv 16) = ((a.toNat / 16 : Nat) : Int) := by
  rw [tde a1, w6e]; omega
 have hlen : (wrV s a.toNat (pbV off)).Tags.length = s.Tags.length := zw3 _ _ _
 rw [ed, ifp, ifp (by rw [hlen]; omega), itn, lge (by rw [hlen]; omega)]
 rfl
def znx (b : ByteArray) (n : Nat) : ByteArray := ⟨((bl b).take n ++ List.replicate (n - b.size) 32).toArray⟩
theorem zv0 (b : ByteArray) (n : Nat) : (znx b n).size = n := by
 show ((bl b).take n ++ List.replicate (n - b.size) 32).length = n
 rw [lna, lnt, lnr, zam]; omega
theorem z1a (N : Nat) (c : Nat) (hc : c < 256) (n : Nat) (hn : n < N) (hn2 : n ≤ 100000) : zct N (c : Int) (n : Int) = some ⟨(List.replicate n (UInt8.ofNat c)).toArray⟩ := by
 unfold zct
 have := zas (f := zct.r0 N) (fun i => ((c : Int), (n : Int), List.replicate i (c : Int), (i : Int))) n
  (fun i hi => by
   simp only [zct.r0, zct.b0, dct (show (i : Int) < (n : Int) by omega), ctr]; rw [zao (by simp only [lnr, lnc, ln0]; omega), ctr, w6e, ← List.replicate_succ']; rfl)
  (by simp only [zct.r0, zct.b0, dcf (show ¬ (n : Int) < (n : Int) by omega), cfa]) hn
 simp only [nc0, List.replicate_zero] at this
 rw [this, obs]
 congr 1
 refine zgs ?_
 rw [zgh, List.map_replicate]
 rfl
theorem zvl (N : Nat) (hN : 10000 < N) (b : ByteArray) (hb : b.size ≤ 5000) (n : Nat) (hn : n ≤ 5000) : zez N b (n : Int) = some (znx b n) := by
 have hmax : IntKind.i64.max = 9223372036854775807 := by decide
 unfold zez
 by_cases h : n ≤ b.size
 · rw [dct (by omega), ctr, ifp, ifp]
   congr 1
   refine zgs ?_; rw [zd0, show (0 : Int).toNat = 0 from rfl, dr0, itn]; show _ = (bl b).take n ++ List.replicate (n - b.size) 32; rw [show n - b.size = 0 by omega, List.replicate_zero, List.append_nil]
 · rw [dcf (by omega), cfa, w6e, show (n : Int) - (b.size : Int) = ((n - b.size : Nat) : Int) by omega, show (32 : Int) = ((32 : Nat) : Int) from rfl, z1a N 32 (by decide) _ (by omega) (by omega), obs, hmax]; have hs : (⟨(List.replicate (n - b.size) (UInt8.ofNat 32)).toArray⟩ : ByteArray).size = n - b.size := by
    show (List.replicate (n - b.size) (UInt8.ofNat 32)).length = _; rw [lnr]
   rw [ifn (by rw [hs]; omega)]
   congr 1
   refine zgs ?_; rw [zcm]; show bl b ++ List.replicate (n - b.size) 32 = (bl b).take n ++ List.replicate (n - b.size) 32; rw [List.take_of_length_le (by rw [zam]; omega)]
theorem zo7 (c : UInt8) : ∀ n, Lib.repeatL [c] n = List.replicate n c
 | 0 => rfl
 | n + 1 => by show c :: Lib.repeatL [c] n = _; rw [zo7 c n, List.replicate_succ]
theorem z9m (b : ByteArray) (n : Nat) : (⟨(bl b ++ List.replicate (n - b.size) 32).toArray⟩ : ByteArray).extract 0 n = znx b n := by
 refine zgs ?_
 rw [zd0, dr0]
 show (bl b ++ List.replicate (n - b.size) 32).take n = (bl b).take n ++ List.replicate (n - b.size) 32
 rw [List.take_append, zam, List.take_replicate, Nat.min_self]
theorem z1r (b : ByteArray) (n : Nat) : (⟨(bl b ++ List.replicate (n - b.size) 32).toArray⟩ : ByteArray) = znx b (max b.size n) := by
 refine zgs ?_
 show bl b ++ List.replicate (n - b.size) 32 = (bl b).take (max b.size n) ++ List.replicate (max b.size n - b.size) 32
 rw [List.take_of_length_le (by rw [zam]; omega), show max b.size n - b.size = n - b.size by omega]
def zwe (x y : List UInt8) : Int := if Op.bytesLess x y = true then -1 else if x = y then 0 else 1
theorem z4t : ∀ (x y : List UInt8), x.length = y.length → (match (List.range x.length).find? (fun i => x.getD i 0 != y.getD i 0) with | some i => if x.getD i 0 < y.getD i 0 then (-1 : Int) else 1 | none => 0) = zwe x y
 | [], [], _ => rfl
 | [], _ :: _, h => by cases h
 | _ :: _, [], h => by cases h
 | a :: x, b :: y, h => by
  have ih := z4t x y (by simpa using h); rw [lnc, List.range_succ_eq_map, List.find?_cons]; rw [List.getD_cons_zero, List.getD_cons_zero]
  by_cases hab : a = b
  · subst hab; simp only [bsf]; rw [List.find?_map]; have e : ((fun i => (a :: x).getD i 0 != (a :: y).getD i 0) ∘ Nat.succ) = fun i => x.getD i 0 != y.getD i 0 := by
     funext i
     rfl
    rw [e]; have e2 : zwe (a :: x) (a :: y) = zwe x y := by
     unfold zwe; have e3 : Op.bytesLess (a :: x) (a :: y) = Op.bytesLess x y := by
      show (decide (a < a) || (a == a && Op.bytesLess x y)) = _; rw [dcf (UInt8.lt_irrefl a)]; simp
     rw [e3]; simp
    rw [e2, ← ih]; cases (List.range x.length).find? (fun i => x.getD i 0 != y.getD i 0) <;> rfl
  · have hne : (a != b) = true := by simpa using hab
    rw [hne]; simp only [List.getD_cons_zero]; unfold zwe; have e3 : Op.bytesLess (a :: x) (b :: y) = decide (a < b) := by
     show (decide (a < b) || (a == b && Op.bytesLess x y)) = _; rw [show (a == b) = false from beq_eq_false_iff_ne.2 hab, Bool.false_and, Bool.or_false]
    rw [e3]
    by_cases hlt : a < b
    · rw [ifp hlt, ifp (dct hlt)]
    · rw [ifn hlt, ifn (by rw [dcf hlt]; decide), ifn (by intro h; exact hab (List.cons.inj h).1)]
theorem zafb {a b : ByteArray} (h : a.size = b.size) : Extern.BytealgCompare.cmp a b = zwe (bl a) (bl b) := by
 unfold Extern.BytealgCompare.cmp
 rw [← z4t (bl a) (bl b) (by rw [zam, zam, h]), zam, show min a.size b.size = a.size by omega]
 have g : ∀ (c : ByteArray) (i : Nat), i < c.size → c[i]! = (bl c).getD i 0 := fun c i hi => by
  rw [getElem!_pos c i hi, gdd, lge (by rw [zam]; exact hi)]; rfl
 have e : (List.range a.size).find? (fun i => a[i]! != b[i]!) = (List.range a.size).find? (fun i => (bl a).getD i 0 != (bl b).getD i 0) := by
  have key : ∀ l : List Nat, (∀ i ∈ l, i < a.size) → l.find? (fun i => a[i]! != b[i]!) = l.find? (fun i => (bl a).getD i 0 != (bl b).getD i 0) := by
   intro l
   induction l with
   | nil => intro _; rfl
   | cons i l ih =>
    intro hl; have hi := hl i List.mem_cons_self; rw [List.find?_cons, List.find?_cons, g a i hi, g b i (by omega), ih fun j hj => hl j (List.mem_cons_of_mem _ hj)]
  exact key _ fun i hi => List.mem_range.1 hi
 rw [e]
 cases hf : (List.range a.size).find? (fun i => (bl a).getD i 0 != (bl b).getD i 0) with
 | none => simp only []; rw [ifn, ifn]
 | some i =>
  have hi := List.mem_range.1 (List.mem_of_find?_eq_some hf); simp only []; rw [g a i hi, g b i (by omega)]
theorem zad3 (x : Int) (i : Nat) : (x.tdiv (10 ^ i)).tdiv 10 = x.tdiv (10 ^ (i + 1)) := by
 have key : ∀ m : Nat, ((m : Int).tdiv (10 ^ i)).tdiv 10 = (m : Int).tdiv (10 ^ (i + 1)) := fun m => by
  rw [show (10 : Int) ^ i = ((10 ^ i : Nat) : Int) by rw [Int.natCast_pow]; rfl, show (10 : Int) ^ (i + 1) = ((10 ^ (i + 1) : Nat) : Int) by rw [Int.natCast_pow]; rfl, ← Int.ofNat_tdiv, ← Int.ofNat_tdiv, show (10 : Int) = ((10 : Nat) : Int) from rfl, ← Int.ofNat_tdiv, Nat.div_div_eq_div_mul, Nat.pow_succ]
 obtain ⟨m, rfl | rfl⟩ := Int.eq_nat_or_neg x
 · exact key m
 · rw [Int.neg_tdiv, Int.neg_tdiv, key m, Int.neg_tdiv]
def ze9 (x : Number) : Int := x.N.tdiv (10 ^ x.Scale.toNat)
theorem zqy {x : Number} (hx : zdb x) : -999999999999999 ≤ ze9 x ∧ ze9 x ≤ 999999999999999 := by
 obtain ⟨⟨h1, h2⟩, _⟩ := hx
 have h := Int.natAbs_tdiv_le_natAbs x.N (10 ^ x.Scale.toNat)
 unfold ze9
 omega
def zl9 (m scale : Nat) : List UInt8 := List.replicate (scale + 1 - (Lib.decDigits m).length) 48 ++ Lib.decDigits m
def ptT (l : List UInt8) (scale : Nat) : List UInt8 := if 0 < scale then l.take (l.length - scale) ++ [46] ++ l.drop (l.length - scale) else l
def sgT (n : Int) (l : List UInt8) : ByteArray := ⟨(if n < 0 then [45] ++ l else l).toArray⟩
def zro (x : Number) : ByteArray := sgT x.N (ptT (zl9 x.N.natAbs x.Scale.toNat) x.Scale.toNat)
theorem z4b {x : Number} (h0 : 0 ≤ x.Scale) (B : ByteArray) (h1 : x.Scale < (B.size : Int)) (h2 : B.size ≤ 100) :
 ((cond (decide (x.Scale > 0))
 (if 0 ≤ (w6 ((B.size : Int) - x.Scale)) ∧ (w6 ((B.size : Int) - x.Scale)) ≤ (B.size : Int) then (if 0 ≤ (0 : Int) ∧ (0 : Int) ≤ (w6 ((B.size : Int) - x.Scale)) then (if (((B.extract (0 : Int).toNat (w6 ((B.size : Int) - x.Scale)).toNat).size + (⟨#[46]⟩ : ByteArray).size : Nat) : Int) > IntKind.i64.max then none else if 0 ≤ (w6 ((B.size : Int) - x.Scale)) ∧ (w6 ((B.size : Int) - x.Scale)) ≤ (B.size : Int) then (if ((((B.extract (0 : Int).toNat (w6 ((B.size : Int) - x.Scale)).toNat) ++ (⟨#[46]⟩ : ByteArray)).size + (B.extract (w6 ((B.size : Int) - x.Scale)).toNat B.size).size : Nat) : Int) > IntKind.i64.max then none else cond (decide (x.N < 0))
 (if (((⟨#[45]⟩ : ByteArray).size + (((B.extract (0 : Int).toNat (w6 ((B.size : Int) - x.Scale)).toNat) ++ (⟨#[46]⟩ : ByteArray)) ++ (B.extract (w6 ((B.size : Int) - x.Scale)).toNat B.size)).size : Nat) : Int) > IntKind.i64.max then none else some (((⟨#[45]⟩ : ByteArray) ++ (((B.extract (0 : Int).toNat (w6 ((B.size : Int) - x.Scale)).toNat) ++ (⟨#[46]⟩ : ByteArray)) ++ (B.extract (w6 ((B.size : Int) - x.Scale)).toNat B.size))), 0))
 (some ((((B.extract (0 : Int).toNat (w6 ((B.size : Int) - x.Scale)).toNat) ++ (⟨#[46]⟩ : ByteArray)) ++ (B.extract (w6 ((B.size : Int) - x.Scale)).toNat B.size)), 0))) else none) else none) else none)
 (cond (decide (x.N < 0)) (if (((⟨#[45]⟩ : ByteArray).size + B.size : Nat) : Int) > IntKind.i64.max then none else some (((⟨#[45]⟩ : ByteArray) ++ B), 0)) (some (B, 0)))) : Option (ByteArray × Int)) = some (sgT x.N (ptT (bl B) x.Scale.toNat), 0) := by
 have hmax : IntKind.i64.max = 9223372036854775807 := by decide
 have z1 : (⟨#[46]⟩ : ByteArray).size = 1 := rfl
 have z2 : (⟨#[45]⟩ : ByteArray).size = 1 := rfl
 rw [hmax, w6e]
 obtain ⟨k, hk⟩ : ∃ k : Nat, (B.size : Int) - x.Scale = (k : Int) := ⟨((B.size : Int) - x.Scale).toNat, by omega⟩
 have hk2 : k = B.size - x.Scale.toNat := by omega
 rw [hk, itn, show (0 : Int).toNat = 0 from rfl]
 have s1 : (B.extract 0 k).size = k := by rw [zcl _ _ _ (by omega) (by omega)]; omega
 have s2 : (B.extract k B.size).size = B.size - k := by rw [zcl _ _ _ (by omega) (by omega)]
 by_cases hs : x.Scale > 0
 · rw [dct hs, ctr, ifp, ifp, ifn (by rw [s1, z1]; omega), ifp, ifn (by rw [bsa, s1, z1, s2]; omega)]; have e : bl ((B.extract 0 k ++ (⟨#[46]⟩ : ByteArray)) ++ B.extract k B.size) = ptT (bl B) x.Scale.toNat := by
    unfold ptT; rw [zcm, zcm, zd0, zd0, dr0, ifp, ← zam B, List.take_length, zam, hk2]; rfl
   by_cases hn : x.N < 0
   · rw [dct hn, ctr, ifn (by rw [bsa, bsa, s1, z1, s2, z2]; omega)]
     congr 2
     refine zgs ?_; rw [zcm, e]; unfold sgT; rw [ifp hn]; rfl
   · rw [dcf hn, cfa]
     congr 2
     refine zgs ?_; rw [e]; unfold sgT; rw [ifn hn]; rfl
 · rw [dcf hs, cfa]; have e : ptT (bl B) x.Scale.toNat = bl B := by unfold ptT; rw [ifn]
   rw [e]
   by_cases hn : x.N < 0
   · rw [dct hn, ctr, ifn (by rw [z2]; omega)]
     congr 2
     refine zgs ?_; rw [zcm]; unfold sgT; rw [ifp hn]; rfl
   · rw [dcf hn, cfa]
     congr 2
     unfold sgT; rw [ifn hn]; rfl
theorem zaah {x : Number} (h0 : 0 ≤ x.Scale) (B : ByteArray) (h1 : x.Scale < (B.size : Int)) (h2 : B.size ≤ 100) :
 (cond (decide (x.Scale > 0))
 (if 0 ≤ (w6 ((B.size : Int) - x.Scale)) ∧ (w6 ((B.size : Int) - x.Scale)) ≤ (B.size : Int) then (if 0 ≤ (0 : Int) ∧ (0 : Int) ≤ (w6 ((B.size : Int) - x.Scale)) then (if (((B.extract (0 : Int).toNat (w6 ((B.size : Int) - x.Scale)).toNat).size + (⟨#[46]⟩ : ByteArray).size : Nat) : Int) > IntKind.i64.max then none else if 0 ≤ (w6 ((B.size : Int) - x.Scale)) ∧ (w6 ((B.size : Int) - x.Scale)) ≤ (B.size : Int) then (if ((((B.extract (0 : Int).toNat (w6 ((B.size : Int) - x.Scale)).toNat) ++ (⟨#[46]⟩ : ByteArray)).size + (B.extract (w6 ((B.size : Int) - x.Scale)).toNat B.size).size : Nat) : Int) > IntKind.i64.max then none else cond (decide (x.N < 0))
 (if (((⟨#[45]⟩ : ByteArray).size + (((B.extract (0 : Int).toNat (w6 ((B.size : Int) - x.Scale)).toNat) ++ (⟨#[46]⟩ : ByteArray)) ++ (B.extract (w6 ((B.size : Int) - x.Scale)).toNat B.size)).size : Nat) : Int) > IntKind.i64.max then none else some ((⟨#[45]⟩ : ByteArray) ++ (((B.extract (0 : Int).toNat (w6 ((B.size : Int) - x.Scale)).toNat) ++ (⟨#[46]⟩ : ByteArray)) ++ (B.extract (w6 ((B.size : Int) - x.Scale)).toNat B.size))))
 (some (((B.extract (0 : Int).toNat (w6 ((B.size : Int) - x.Scale)).toNat) ++ (⟨#[46]⟩ : ByteArray)) ++ (B.extract (w6 ((B.size : Int) - x.Scale)).toNat B.size)))) else none) else none) else none)
 (cond (decide (x.N < 0)) (if (((⟨#[45]⟩ : ByteArray).size + B.size : Nat) : Int) > IntKind.i64.max then none else some ((⟨#[45]⟩ : ByteArray) ++ B)) (some B))) = some (sgT x.N (ptT (bl B) x.Scale.toNat)) := by
 have hmax : IntKind.i64.max = 9223372036854775807 := by decide
 have z1 : (⟨#[46]⟩ : ByteArray).size = 1 := rfl
 have z2 : (⟨#[45]⟩ : ByteArray).size = 1 := rfl
 rw [hmax, w6e]
 obtain ⟨k, hk⟩ : ∃ k : Nat, (B.size : Int) - x.Scale = (k : Int) := ⟨((B.size : Int) - x.Scale).toNat, by omega⟩
 have hk2 : k = B.size - x.Scale.toNat := by omega
 rw [hk, itn, show (0 : Int).toNat = 0 from rfl]
 have s1 : (B.extract 0 k).size = k := by rw [zcl _ _ _ (by omega) (by omega)]; omega
 have s2 : (B.extract k B.size).size = B.size - k := by rw [zcl _ _ _ (by omega) (by omega)]
 by_cases hs : x.Scale > 0
 · rw [dct hs, ctr, ifp, ifp, ifn (by rw [s1, z1]; omega), ifp, ifn (by rw [bsa, s1, z1, s2]; omega)]; have e : bl ((B.extract 0 k ++ (⟨#[46]⟩ : ByteArray)) ++ B.extract k B.size) = ptT (bl B) x.Scale.toNat := by
    unfold ptT; rw [zcm, zcm, zd0, zd0, dr0, ifp, ← zam B, List.take_length, zam, hk2]; rfl
   by_cases hn : x.N < 0
   · rw [dct hn, ctr, ifn (by rw [bsa, bsa, s1, z1, s2, z2]; omega)]; refine congrArg some (zgs ?_); rw [zcm, e]; unfold sgT; rw [ifp hn]; rfl
   · rw [dcf hn, cfa]; refine congrArg some (zgs ?_); rw [e]; unfold sgT; rw [ifn hn]; rfl
 · rw [dcf hs, cfa]; have e : ptT (bl B) x.Scale.toNat = bl B := by unfold ptT; rw [ifn]
   rw [e]
   by_cases hn : x.N < 0
   · rw [dct hn, ctr, ifn (by rw [z2]; omega)]; refine congrArg some (zgs ?_); rw [zcm]; unfold sgT; rw [ifp hn]; rfl
   · rw [dcf hn, cfa]; unfold sgT; rw [ifn hn]; rfl
theorem zw2 (m : Nat) : ∀ k, 0 < k → m < 10 ^ k → (Lib.decDigits m).length ≤ k ∧ 0 < (Lib.decDigits m).length := by
 induction m using Nat.strongRecOn with
 | _ m ih =>
  intro k hk hm; rw [Lib.decDigits]
  by_cases h : m < 10
  · rw [dif_pos h, lns]; omega
  · rw [dif_neg h, lna, lns]; obtain ⟨j, rfl⟩ : ∃ j, k = j + 1 := ⟨k - 1, by omega⟩; rw [Nat.pow_succ] at hm; have hj : 0 < j := by
     refine cbc fun h0 => ?_; rw [show j = 0 by omega] at hm; omega
    have := ih (m / 10) (by omega) j hj (by omega); omega
theorem zyq (m scale : Nat) (hm : m < 10 ^ 15) (hs : scale ≤ 15) : scale < (zl9 m scale).length ∧ (zl9 m scale).length ≤ 16 := by
 have := zw2 m 15 (by decide) hm
 unfold zl9
 rw [lna, lnr]
 omega
theorem z1k {x : Number} (hx : zdb x) : zfr x = some (zro x, 0) := by
 have hx' := hx
 obtain ⟨⟨h1, h2⟩, h3, h4⟩ := hx'
 have hmax : IntKind.i64.max = 9223372036854775807 := by decide
 have hlen := zw2 x.N.natAbs 15 (by decide) (by omega)
 have hdl := zyq x.N.natAbs x.Scale.toNat (by omega) (by omega)
 unfold zfr
 rw [zng, zl0.2 hx]
 simp only [obs, bsf, cfa]
 rw [zoa (by omega) (by omega)]
 have hi : zy0 (((x.N.natAbs : Nat) : Int)) = some ⟨(Lib.decDigits x.N.natAbs).toArray⟩ := by
  unfold zy0 Lib.itoa; rw [ifp ⟨by omega, by omega⟩, ifn, itn]
 rw [hi]
 simp only [obs]
 have hsz : (⟨(Lib.decDigits x.N.natAbs).toArray⟩ : ByteArray).size = (Lib.decDigits x.N.natAbs).length := rfl
 by_cases hle : ((Lib.decDigits x.N.natAbs).length : Int) ≤ x.Scale
 · rw [hsz, dct hle, ctr, w6e (n := x.Scale + 1), w6e]; have hr : zlt (⟨#[48]⟩ : ByteArray) (x.Scale + 1 - ((Lib.decDigits x.N.natAbs).length : Int)) = some ⟨(List.replicate (x.Scale.toNat + 1 - (Lib.decDigits x.N.natAbs).length) 48).toArray⟩ := by
    unfold zlt; have hs1 : (⟨#[48]⟩ : ByteArray).size = 1 := rfl; rw [ifp ⟨by omega, by omega, by rw [hs1]; omega⟩, zo7, show (x.Scale + 1 - ((Lib.decDigits x.N.natAbs).length : Int)).toNat = x.Scale.toNat + 1 - (Lib.decDigits x.N.natAbs).length by omega]
   rw [hr]; simp only [obs]; have hs2 : (⟨(List.replicate (x.Scale.toNat + 1 - (Lib.decDigits x.N.natAbs).length) (48 : UInt8)).toArray⟩ : ByteArray).size = x.Scale.toNat + 1 - (Lib.decDigits x.N.natAbs).length := by
    show (List.replicate (x.Scale.toNat + 1 - (Lib.decDigits x.N.natAbs).length) (48 : UInt8)).length = _; rw [lnr]
   rw [hmax, ifn (by rw [hs2]; omega)]; have hb : (⟨(List.replicate (x.Scale.toNat + 1 - (Lib.decDigits x.N.natAbs).length) (48 : UInt8)).toArray⟩ : ByteArray) ++ ⟨(Lib.decDigits x.N.natAbs).toArray⟩ = ⟨(zl9 x.N.natAbs x.Scale.toNat).toArray⟩ := by
    refine zgs ?_; rw [zcm]; rfl
   rw [hb]; have := z4b h3 ⟨(zl9 x.N.natAbs x.Scale.toNat).toArray⟩ (by show x.Scale < ((zl9 x.N.natAbs x.Scale.toNat).length : Int); omega) (by show (zl9 x.N.natAbs x.Scale.toNat).length ≤ 100; omega); rw [hmax, zab4] at this; unfold zro; exact this
 · rw [hsz, dcf hle, cfa, ← hsz]; have hb : bl (⟨(Lib.decDigits x.N.natAbs).toArray⟩ : ByteArray) = zl9 x.N.natAbs x.Scale.toNat := by
    unfold zl9; rw [show x.Scale.toNat + 1 - (Lib.decDigits x.N.natAbs).length = 0 by omega]; rfl
   have := z4b h3 ⟨(Lib.decDigits x.N.natAbs).toArray⟩ (by rw [hsz]; omega) (by rw [hsz]; omega); rw [hb] at this; unfold zro; exact this
theorem zvo : ∀ (N m : Nat), 0 < N → m < 10 ^ N → N ≤ 18 → ∀ K, zcu (N + K) (m : Int) = some ⟨(Lib.decDigits m).toArray⟩
 | 0, m, h, _, _ => by omega
 | N + 1, m, _, hm, hN => fun K => by
  have hmax : IntKind.i64.max = 9223372036854775807 := by decide
  have h18 : 10 ^ (N + 1) ≤ 10 ^ 18 := zb8 hN; rw [show N + 1 + K = (N + K) + 1 by omega]; show (cond (decide ((m : Int) < (-9))) _ (cond (decide ((m : Int) < 0)) _ (cond (decide ((m : Int) < 10)) _ _))) = _; rw [dcf (by omega), dcf (by omega), cfa, cfa, Lib.decDigits]
  by_cases h : m < 10
  · rw [dct (by omega), ctr, dif_pos h, w6e, zkq (by omega) (by omega)]; refine congrArg some (zgs ?_); rw [zgh]; show [UInt8.ofNat (48 + (m : Int)).toNat] = [UInt8.ofNat (48 + m)]; rw [show (48 + (m : Int)).toNat = 48 + m by omega]
  · rw [Nat.pow_succ] at hm; have hN0 : 0 < N := by
     refine cbc fun h0 => ?_; rw [show N = 0 by omega] at hm; omega
    have ih := zvo N (m / 10) hN0 (by omega) (by omega) K; rw [dcf (by omega), cfa, dif_neg h, tde, tme, w6e (n := (m : Int) / 10), show (m : Int) / 10 = ((m / 10 : Nat) : Int) by omega, ih, obs, w6e, zkq (by omega) (by omega), hmax]; have hl := zw2 (m / 10) N hN0 (by omega); have hs : (⟨(Lib.decDigits (m / 10)).toArray⟩ : ByteArray).size = (Lib.decDigits (m / 10)).length := rfl; have hs2 : (zda ([48 + (m : Int) % 10] : List Int)).size = 1 := rfl; rw [ifn (by rw [hs, hs2]; omega)]; refine congrArg some (zgs ?_); rw [zcm, zgh]; show Lib.decDigits (m / 10) ++ [UInt8.ofNat (48 + (m : Int) % 10).toNat] = Lib.decDigits (m / 10) ++ [UInt8.ofNat (48 + m % 10)]; rw [show (48 + (m : Int) % 10).toNat = 48 + m % 10 by omega]
theorem zaco (N : Nat) (hN : 100 < N) {x : Number} (hx : zdb x) : zea N x = some (zro x) := by
 have hx' := hx
 obtain ⟨⟨h1, h2⟩, h3, h4⟩ := hx'
 have hmax : IntKind.i64.max = 9223372036854775807 := by decide
 have hlen := zw2 x.N.natAbs 15 (by decide) (by omega)
 have hdl := zyq x.N.natAbs x.Scale.toNat (by omega) (by omega)
 unfold zea zfh
 rw [zoa (by omega) (by omega)]
 simp only [obs, eN]
 have hd := zvo 15 x.N.natAbs (by decide) (by omega) (by decide) (N - 15)
 rw [show 15 + (N - 15) = N by omega] at hd
 rw [hd]
 simp only [obs]
 have z1 : (⟨#[48]⟩ : ByteArray).size = 1 := rfl
 have lp := zas (f := zea.r0 N) (fun i => ((⟨(List.replicate i (48 : UInt8) ++ Lib.decDigits x.N.natAbs).toArray⟩ : ByteArray), x)) (x.Scale.toNat + 1 - (Lib.decDigits x.N.natAbs).length)
  (fun i hi => by
   have hs : (⟨(List.replicate i (48 : UInt8) ++ Lib.decDigits x.N.natAbs).toArray⟩ : ByteArray).size = i + (Lib.decDigits x.N.natAbs).length := by
    show (List.replicate i (48 : UInt8) ++ Lib.decDigits x.N.natAbs).length = _; rw [lna, lnr]
   simp only [zea.r0, zea.b0]; rw [dct (by rw [hs]; omega), ctr, hmax, ifn (by rw [hs, z1]; omega)]; refine congrArg some (congrArg Stp.again (Prod.ext (zgs ?_) rfl)); show bl ((⟨#[48]⟩ : ByteArray) ++ ⟨(List.replicate i (48 : UInt8) ++ Lib.decDigits x.N.natAbs).toArray⟩) = List.replicate (i + 1) (48 : UInt8) ++ Lib.decDigits x.N.natAbs; rw [zcm, List.replicate_succ]; rfl)
  (by
   have hs : (⟨(List.replicate (x.Scale.toNat + 1 - (Lib.decDigits x.N.natAbs).length) (48 : UInt8) ++ Lib.decDigits x.N.natAbs).toArray⟩ : ByteArray).size = x.Scale.toNat + 1 - (Lib.decDigits x.N.natAbs).length + (Lib.decDigits x.N.natAbs).length := by
    show (List.replicate (x.Scale.toNat + 1 - (Lib.decDigits x.N.natAbs).length) (48 : UInt8) ++ Lib.decDigits x.N.natAbs).length = _; rw [lna, lnr]
   simp only [zea.r0, zea.b0]; rw [dcf (by rw [hs]; omega), cfa]) (N := N) (by omega)
 rw [List.replicate_zero, List.nil_append] at lp
 rw [lp]
 have := zaah h3 ⟨(zl9 x.N.natAbs x.Scale.toNat).toArray⟩ (by show x.Scale < ((zl9 x.N.natAbs x.Scale.toNat).length : Int); omega) (by show (zl9 x.N.natAbs x.Scale.toNat).length ≤ 100; omega)
 rw [zab4] at this
 unfold zro
 exact this
theorem z6q {x : Number} (hx : zdb x) : (zro x).size ≤ 256 := by
 obtain ⟨⟨h1, h2⟩, h3, h4⟩ := hx
 have hdl := zyq x.N.natAbs x.Scale.toNat (by omega) (by omega)
 have hp : (ptT (zl9 x.N.natAbs x.Scale.toNat) x.Scale.toNat).length ≤ 17 := by
  unfold ptT; split
  · rw [lna, lna, lnt, List.length_drop, lns]; omega
  · omega
 unfold zro sgT
 show (if x.N < 0 then [45] ++ ptT (zl9 x.N.natAbs x.Scale.toNat) x.Scale.toNat else ptT (zl9 x.N.natAbs x.Scale.toNat) x.Scale.toNat).length ≤ 256
 split
 · rw [lna, lns]; omega
 · omega
theorem zqh {R α : Type} {f : α → Option (Round R α)} (S : Nat → α) (g : Nat → Option R) (n : Nat) (h : ∀ i, i < n → (∀ j, j < i → g j = none) → f (S i) = some (match g i with | some r => .result r | none => .again (S (i + 1)))) (hl : (∀ j, j < n → g j = none) → f (S n) = some (.leave (S n))) {N : Nat} (hN : n < N) :
 zt f N (S 0) = some (match (List.range n).findSome? g with | some r => .inl r | none => .inr (S n)) := by
 have key : ∀ k i N, i + k = n → k < N → (∀ j, j < i → g j = none) → zt f N (S i) = some (match (List.range' i k).findSome? g with | some r => .inl r | none => .inr (S n)) := by
  intro k
  induction k with
  | zero =>
   intro i N hi hN hp; obtain ⟨m, rfl⟩ : ∃ m, N = m + 1 := ⟨N - 1, by omega⟩; obtain rfl : i = n := by omega
   simp only [zt, hl hp, obs]; rfl
  | succ k ih =>
   intro i N hi hN hp; obtain ⟨m, rfl⟩ : ∃ m, N = m + 1 := ⟨N - 1, by omega⟩; simp only [zt, h i (by omega) hp, obs, List.range'_succ, List.findSome?_cons]; cases hg : g i with
   | some r => rfl
   | none =>
    refine ih (i + 1) m (by omega) (by omega) fun j hj => ?_; rcases Nat.lt_or_ge j i with h1 | h1
    · exact hp j h1
    · obtain rfl : j = i := by omega
      exact hg
 rw [List.range_eq_range']
 exact key n 0 N (by omega) hN (fun j hj => absurd hj (by omega))
theorem zjh {R : Type} {g : Nat → Option R} {n : Nat} : (List.range n).findSome? g = none ↔ ∀ i, i < n → g i = none := by
 rw [List.findSome?_eq_none_iff]
 exact ⟨fun h i hi => h i (List.mem_range.2 hi), fun h i hi => h i (List.mem_range.1 hi)⟩
theorem zjg {R : Type} {g : Nat → Option R} {r : R} : ∀ {n : Nat}, (List.range n).findSome? g = some r → ∃ i, i < n ∧ g i = some r ∧ ∀ j, j < i → g j = none
 | 0, h => by simp at h
 | n + 1, h => by
  rw [List.range_succ, List.findSome?_append] at h; cases hn : (List.range n).findSome? g with
  | some r' =>
   rw [hn] at h; obtain ⟨i, h1, h2, h3⟩ := zjg hn; exact ⟨i, by omega, by rw [h2]; exact h, h3⟩
  | none =>
   rw [hn] at h; simp only [List.findSome?_cons, List.findSome?_nil] at h; refine ⟨n, by omega, ?_, zjh.1 hn⟩; cases hg : g n with
   | some x => rw [hg] at h; exact h
   | none => rw [hg] at h; cases h
theorem zwx (b : Bool) (e : Int) : zby b e = some (cond b e 0) := by cases b <;> rfl
theorem zww (n lo hi : Int) : zdx n lo hi = some (inB n lo hi) := by
 unfold zdx inB
 cases decide (lo ≤ n) <;> rfl
theorem ztw (N : Nat) (l : List Int) (h : l.length < N) (hl : l.length < 1000000000) : zbh N l = some (zi2 l) := by
 unfold zbh
 have := zcc (f := zbh.r0 N) (fun i => (l, (l.length : Int), (i : Int))) (fun i => (l[i]?).bind fun x => if x = 0 then none else some x) l.length
  (fun i hi => by
   have hx := lge hi; simp only [zbh.r0, zbh.b0, zal, hx, obs, dct (show (i : Int) < (l.length : Int) by omega), ctr]
   by_cases h0 : l[i] = 0
   · simp only [h0, bsf, cfa, if_true]; rw [w6e]; rfl
   · simp only [h0, if_false]; rw [show (l[i] != 0) = true by simpa using h0]; rfl)
  (by simp only [zbh.r0, zbh.b0, dcf (show ¬ (l.length : Int) < (l.length : Int) by omega), cfa]) h
 simp only [nc0] at this
 rw [this, zsw, ← zv9]
 simp only [obs]
 cases l.findSome? (fun x => if x = 0 then none else some x) <;> rfl
def letB (c : Int) : Bool := (decide (65 ≤ c) && decide (c ≤ 90)) || (decide (c = 35) || (decide (c = 36) || decide (c = 64)))
def othB (c : Int) : Bool := (decide (48 ≤ c) && decide (c ≤ 57)) || (decide (c = 95) || decide (c = 46))
def zyu (c i : Int) : Bool := !letB c && (decide (i = 0) || !othB c)
def zqj (s : ByteArray) (i : Nat) : Option Bool := ((bl s)[i]?).bind fun c => if zyu ((c.toNat : Nat) : Int) (i : Int) = true then some false else none
def zt3 (s : ByteArray) : Bool := decide (1 ≤ s.size ∧ s.size ≤ 10) && ((List.range s.size).findSome? (zqj s)).isNone
theorem z5q (s : ByteArray) : s.size = (bl s).length := rfl
theorem zac7 (s : ByteArray) (i : Nat) : zgd s (i : Int) = (bl s)[i]? := by
 unfold zgd
 rw [ifp]
 show s.data[i]? = s.data.toList[i]?
 simp
theorem zacx (N : Nat) (hN : 20 < N) (s : ByteArray) : zca N s = some (zt3 s) := by
 unfold zca zt3
 rw [zkf, zkf, show bl (⟨#[]⟩ : ByteArray) = [] from rfl]
 by_cases h0 : s.size = 0
 · have : bl s = [] := List.eq_nil_of_length_eq_zero (by rw [← z5q]; exact h0); rw [this, dcf (show ¬ (1 ≤ s.size ∧ s.size ≤ 10) by omega)]; rfl
 by_cases h1 : s.size > 10
 · rw [dcf (show ¬ (1 ≤ s.size ∧ s.size ≤ 10) by omega), dct (show (s.size : Int) > 10 by omega)]; cases (bl s == ([] : List UInt8)) <;> rfl
 have hne : (bl s == ([] : List UInt8)) = false := by
  cases hb : (bl s == ([] : List UInt8)) with
  | false => rfl
  | true =>
   have := congrArg List.length (eq_of_beq hb); rw [← z5q] at this; exact absurd this h0
 rw [hne, dcf (show ¬ (s.size : Int) > 10 by omega), dct (show 1 ≤ s.size ∧ s.size ≤ 10 by omega)]
 simp only [cfa, obs, Bool.true_and]
 have hlen : (ze8 s).length = s.size := by unfold ze8; rw [lnm]; rfl
 have l1 := zcc (f := zca.r0 N) (fun i => (ze8 s, ((ze8 s).length : Int), (i : Int))) (zqj s) s.size
  (fun i hi => by
   have hi' : i < (bl s).length := hi; have hx : (ze8 s)[i]? = some (((bl s)[i].toNat : Nat) : Int) := by
    unfold ze8; rw [List.getElem?_map]; show ((bl s)[i]?).map _ = _; rw [lge hi']; rfl
   simp only [zca.r0, zca.b0, hlen, dct (show (i : Int) < (s.size : Int) by omega), ctr, ifp (show (0 : Int) ≤ (i : Int) by omega), ifp (show (i : Int) < (s.size : Int) by omega), itn, hx, obs, zyv, orB, zaa, zqj, lge hi']; rw [w6e]; generalize (((bl s)[i].toNat : Nat) : Int) = c; have e : (!(((decide (65 ≤ c) && decide (c ≤ 90)) || decide (c = 35) || decide (c = 36)) || decide (c = 64)) && (decide ((i : Int) = 0) || !(((decide (48 ≤ c) && decide (c ≤ 57)) || decide (c = 95)) || decide (c = 46)))) = zyu c (i : Int) := by
    unfold zyu letB othB; simp only [Bool.or_assoc]
   rw [e]; cases zyu c (i : Int) <;> rfl)
  (by simp only [zca.r0, zca.b0, hlen, dcf (show ¬ (s.size : Int) < (s.size : Int) by omega), cfa]) (N := N) (by omega)
 simp only [nc0] at l1
 rw [l1]
 cases hg : (List.range s.size).findSome? (zqj s) with
 | none => rfl
 | some r =>
  obtain ⟨i, _, hi, _⟩ := zjg hg; unfold zqj at hi; rw [Option.bind_eq_some_iff] at hi; obtain ⟨c, _, hc⟩ := hi; split at hc
  · cases hc; rfl
  · cases hc
theorem zacq (N : Nat) (hN : 20 < N) (s : ByteArray) : zdn N s = some (zt3 s) := by
 unfold zdn zt3
 rw [zhb, obs]
 by_cases h1 : 1 ≤ s.size ∧ s.size ≤ 10
 · rw [show inB (s.size : Int) 1 10 = true from zbg.2 (by omega), dct h1]; simp only [bnt, cfa, Bool.true_and]; have l1 := zcc (f := zdn.r0 N) (fun i => (s, (i : Int))) (zqj s) s.size
    (fun i hi => by
     have hi' : i < (bl s).length := hi; simp only [zdn.r0, zdn.b0, zlq, zlr, dct (show (i : Int) < (s.size : Int) by omega), ctr, zac7, lge hi', obs, zyv, orB, zaa, zb5, zqj]; rw [w6e]; generalize (((bl s)[i].toNat : Nat) : Int) = c; have e : (!((((decide (65 ≤ c) && decide (c ≤ 90)) || decide (c = 36)) || decide (c = 35)) || decide (c = 64)) && (decide ((i : Int) = 0) || ((!(decide (48 ≤ c) && decide (c ≤ 57)) && decide (c ≠ 95)) && decide (c ≠ 46)))) = zyu c (i : Int) := by
      unfold zyu letB othB; simp only [decide_not, Bool.not_or, Bool.not_and, Bool.or_assoc, Bool.and_assoc]; cases decide (65 ≤ c) <;> cases decide (c ≤ 90) <;> cases decide (c = 36) <;> cases decide (c = 35) <;> simp
     rw [e]; cases zyu c (i : Int) <;> rfl)
    (by simp only [zdn.r0, zdn.b0, dcf (show ¬ (s.size : Int) < (s.size : Int) by omega), cfa]) (N := N) (by omega)
   simp only [nc0] at l1; rw [l1]; cases hg : (List.range s.size).findSome? (zqj s) with
   | none => rfl
   | some r =>
    obtain ⟨i, _, hi, _⟩ := zjg hg; unfold zqj at hi; rw [Option.bind_eq_some_iff] at hi; obtain ⟨c, _, hc⟩ := hi; split at hc
    · cases hc; rfl
    · cases hc
 · rw [show inB (s.size : Int) 1 10 = false by
    cases hb : inB (s.size : Int) 1 10 with
    | false => rfl
    | true => have := zbg.1 hb; omega, dcf h1]
   rfl
def gNm (l : List zF) (s : ByteArray) (i : Nat) : Option Int := (l[i]?).bind fun o => if (o.Name.toList == s.toList) = true then some (i : Int) else none
def nmI (l : List zF) (s : ByteArray) : Int := match (List.range l.length).findSome? (gNm l s) with | some i => i | none => -1
theorem zyi (N : Nat) (l : List zF) (h : l.length < N) (hl : l.length < 1000000000) (s : ByteArray) : zfn N l s = some (nmI l s) := by
 unfold zfn zm nmI
 have l1 := zcc (f := zm.r0 N) (fun i => (l, (l.length : Int), (i : Int), s)) (gNm l s) l.length
  (fun i hi => by
   have hx := lge hi; simp only [zm.r0, zm.b0, ziz, zal, hx, obs, dct (show (i : Int) < (l.length : Int) by omega), ctr, gNm]; rw [w6e]; cases (l[i].Name.toList == s.toList) <;> rfl)
  (by simp only [zm.r0, zm.b0, dcf (show ¬ (l.length : Int) < (l.length : Int) by omega), cfa]) h
 simp only [nc0] at l1
 rw [l1]
 cases (List.range l.length).findSome? (gNm l s) <;> rfl
theorem z2d (N : Nat) (p : zB) (h : p.zA.length < N) (hl : p.zA.length < 1000000000) (s : ByteArray) : zdr N p s = some (nmI p.zA s) := by
 unfold zdr nmI
 have l1 := zcc (f := zdr.r0 N) (fun i => (s, (i : Int), p)) (gNm p.zA s) p.zA.length
  (fun i hi => by
   have hx := lge hi; simp only [zdr.r0, zdr.b0, zal, hx, obs, dct (show (i : Int) < (p.zA.length : Int) by omega), ctr, gNm]; rw [w6e]; cases (p.zA[i].Name.toList == s.toList) <;> rfl)
  (by simp only [zdr.r0, zdr.b0, dcf (show ¬ (p.zA.length : Int) < (p.zA.length : Int) by omega), cfa]) h
 simp only [nc0] at l1
 rw [l1]
 cases (List.range p.zA.length).findSome? (gNm p.zA s) <;> rfl
theorem zabg {l : List zF} {s : ByteArray} {i : Nat} {r : Int} (h : gNm l s i = some r) : r = (i : Int) ∧ ∃ o, l[i]? = some o ∧ (o.Name.toList == s.toList) = true := by
 unfold gNm at h
 rw [Option.bind_eq_some_iff] at h
 obtain ⟨o, h1, h2⟩ := h
 split at h2
 · rename_i h3; cases h2; exact ⟨rfl, o, h1, h3⟩
 · cases h2
theorem zqu (l : List zF) (s : ByteArray) : (nmI l s = -1 ∧ ∀ i, i < l.length → gNm l s i = none) ∨ ∃ i : Nat, nmI l s = (i : Int) ∧ i < l.length ∧ gNm l s i = some (i : Int) ∧ ∀ j, j < i → gNm l s j = none := by
 unfold nmI
 cases hf : (List.range l.length).findSome? (gNm l s) with
 | none => exact .inl ⟨rfl, zjh.1 hf⟩
 | some r =>
  obtain ⟨i, h1, h2, h3⟩ := zjg hf; have := (zabg h2).1; subst this; exact .inr ⟨i, rfl, h1, h2, h3⟩
theorem zaf9 {l : List zF} {s : ByteArray} {i : Nat} (h1 : i < l.length) (h2 : gNm l s i = some (i : Int)) (h3 : ∀ j, j < i → gNm l s j = none) : nmI l s = (i : Int) := by
 rcases zqu l s with ⟨_, g2⟩ | ⟨k, g1, g2, g3, g4⟩
 · rw [g2 i h1] at h2; cases h2
 · rcases Nat.lt_trichotomy i k with h | h | h
   · rw [g4 i h] at h2; cases h2
   · rw [g1, h]
   · rw [h3 k h] at g3; cases g3
theorem zug {l : List zF} {s : ByteArray} {n i : Nat} (h : i < n) : gNm (l.take n) s i = gNm l s i := by
 unfold gNm
 rw [List.getElem?_take, ifp h]
theorem z51 (l : List zF) (s : ByteArray) (n : Nat) : nmI (l.take n) s = if nmI l s < (n : Int) then nmI l s else -1 := by
 rcases zqu l s with ⟨g1, g2⟩ | ⟨k, g1, g2, g3, g4⟩
 · rw [g1, ifp]; rcases zqu (l.take n) s with ⟨e1, _⟩ | ⟨k, _, e2, e3, _⟩
   · exact e1
   · rw [lnt] at e2; rw [zug (by omega), g2 k (by omega)] at e3; cases e3
 · by_cases hk : k < n
   · rw [g1, ifp]; exact zaf9 (by rw [lnt]; omega) (by rw [zug hk]; exact g3) (fun j hj => by rw [zug (by omega)]; exact g4 j hj)
   · rw [g1, ifn]; rcases zqu (l.take n) s with ⟨e1, _⟩ | ⟨k', _, e2, e3, _⟩
     · exact e1
     · rw [lnt] at e2; rw [zug (by omega), g4 k' (by omega)] at e3; cases e3
theorem z3q {l : List zF} {i : Nat} {o : zF} (h : l[i]? = some o) : 0 ≤ nmI l o.Name ∧ nmI l o.Name ≤ (i : Int) := by
 have hi := (gei h).1
 have hg : gNm l o.Name i = some (i : Int) := by
  unfold gNm; rw [h, obs, ifp (bst _)]
 rcases zqu l o.Name with ⟨_, g2⟩ | ⟨k, g1, g2, g3, g4⟩
 · rw [g2 i hi] at hg; cases hg
 · have : ¬ i < k := fun hlt => by rw [g4 i hlt] at hg; cases hg
   omega
def isS (k : Int) : Bool := (decide (k = 0) || decide (k = 1)) || decide (k = 2)
def isD (k : Int) : Bool := isS k || decide (k = 4)
theorem zvy (o : zF) : zeu o = some (isD o.Kind) := by
 unfold zeu isD isS
 simp only [orB, zaa, obs]
theorem zxi (k : Int) : zfq k = some (isS k) := by
 unfold zfq isS
 simp only [orB, zaa, obs]
theorem z1b (k : Int) : zf7 k = some (isD k) := by
 unfold zf7 isD
 rw [zxi]
 simp only [orB, zaa, obs]
theorem z6r (a b : ByteArray) : (a.toList == b.toList) = decide (a = b) := by
 rw [zkf, zkf]
 by_cases h : a = b
 · subst h; rw [dct rfl]; exact bst _
 · rw [dcf h]; refine beq_eq_false_iff_ne.2 fun hh => h ?_; obtain ⟨⟨a⟩⟩ := a; obtain ⟨⟨b⟩⟩ := b; have : a = b := hh; rw [this]
def e0 : ByteArray := ⟨#[]⟩
def noV (o : zF) : Bool := decide (o.Value.N = 0) && decide (o.Value.S = e0)
def noB (o : zF) : Bool := decide (o.Base = e0) && decide (o.Offset = 0)
def noT (o : zF) : Bool := decide (o.zJ.Kind = 0) && (decide (o.zJ.Length = 0) && decide (o.zJ.Scale = 0))
def zrd (o : zF) : Bool :=
 if o.Kind = 0 ∨ o.Kind = 4 then !noB o || !decide (o.Target = 0)
 else if o.Kind = 1 ∨ o.Kind = 2 then !noV o || !decide (o.Target = 0)
 else if o.Kind = 3 then !noT o || (!noV o || (!noB o || !decide (o.Target = 0)))
 else !noT o || (!noV o || !noB o)
theorem zzt {k : Int} (h : inB k 0 5 = true) : k = 0 ∨ k = 1 ∨ k = 2 ∨ k = 3 ∨ k = 4 ∨ k = 5 := by
 have := zbg.1 h
 omega
theorem zdec (a : Int) : decide (0 = a) = decide (a = 0) := by
 by_cases h : a = 0
 · rw [dct h, dct h.symm]
 · rw [dcf h, dcf fun e => h e.symm]
theorem sdec (a : ByteArray) : decide ((⟨#[]⟩ : ByteArray) = a) = decide (a = e0) := by
 by_cases h : a = e0
 · rw [dct h, dct (show (⟨#[]⟩ : ByteArray) = a from h.symm)]
 · rw [dcf h, dcf fun e => h e.symm]
theorem zacy {o : zF} (h : inB o.Kind 0 5 = true) : ∃ k, zi0 o = some k ∧ (!(zgu [(k.Name == o.Name), (k.Kind == o.Kind), (k.zJ.Kind == o.zJ.Kind), (k.zJ.Length == o.zJ.Length), (k.zJ.Scale == o.zJ.Scale), (k.Value.N == o.Value.N), (k.Value.S == o.Value.S), (k.Base == o.Base), (k.Offset == o.Offset), (k.Target == o.Target)])) = zrd o := by
 obtain ⟨nm, kd, ty, v, bs, off, tg⟩ := o
 have hk := zzt h
 simp only at hk
 rcases hk with rfl | rfl | rfl | rfl | rfl | rfl
 all_goals
  refine ⟨_, rfl, ?_⟩; simp only [zgu, zrd, noV, noB, noT, zaa, bbeq, zdec, sdec]; simp [Bool.and_assoc, Bool.or_assoc]
  try congr
theorem z8w {o : zF} (h : inB o.Kind 0 5 = true) : zim o = some (zrd o) := by
 obtain ⟨nm, kd, ty, v, bs, off, tg⟩ := o
 have hk := zzt h
 simp only at hk
 unfold zim
 simp only [z6r]
 rcases hk with rfl | rfl | rfl | rfl | rfl | rfl
 all_goals
  simp only [zgu, zrd, noV, noB, noT, zaa, zb5, bbeq, z6r, orB, zyv, obs]; simp [e0, Bool.and_assoc, Bool.or_assoc]
  try congr
def zmp (t : DataType) : Int := ((10 ^ t.Length.toNat : Nat) : Int) - 1
def zjo (t : DataType) (v : Value) : Int :=
 if t.Kind = 0 then (if v.N ≠ 0 then 5 else if (v.S.size : Int) ≠ t.Length then 18 else 0)
 else (if v.S ≠ e0 then 5 else if inB v.N (-zmp t) (zmp t) = true then 0 else 19)
theorem zzn {t : DataType} (h : zeh t = 0) (h0 : t.Kind ≠ 0) (h4 : t.Kind ≠ 4) : zh6 t := by
 rcases zlv h with ⟨k, _⟩ | ⟨k | k, _⟩ | ⟨k, _⟩ | ⟨k, _⟩
 · exact absurd k h0
 · exact ⟨h, by omega, by omega⟩
 · exact ⟨h, by omega, by omega⟩
 · exact ⟨h, by omega, by omega⟩
 · exact absurd k h4
theorem z1m {t : DataType} (h : zh6 t) : w6 (((10 ^ t.Length.toNat : Nat) : Int) - 1) = zmp t ∧ w6 (0 - zmp t) = -zmp t ∧ 0 ≤ zmp t := by
 obtain ⟨⟨l1, l2⟩, _⟩ := ze6 h
 have hp : 10 ^ t.Length.toNat ≤ 10 ^ 15 := zb8 (by omega)
 have hp2 := zcb t.Length.toNat
 unfold zmp
 exact ⟨w6e, by rw [w6e]; omega, by omega⟩
theorem z3n (N : Nat) (hN : 100 < N) {t : DataType} (ht : zeh t = 0) (h4 : t.Kind ≠ 4) (v : Value) : zbs N t v = some (zjo t v) := by
 have f2 : ∀ a b : Int, zq N [a, b] = some (zi2 [a, b]) := fun a b => zm2 N _ (by simp; omega) (by simp)
 unfold zbs zjo
 rw [znf N (by omega), ht]
 simp only [obs, znh, f2, zaa, dcf h4, cfa]
 rw [show zi2 [0, 0] = 0 from rfl]
 simp only [bsf, cfa]
 by_cases h0 : t.Kind = 0
 · rw [ifp h0, dct h0]; simp only [ctr, zb5]; rw [zwa _ _ _ _ (by decide) (by decide)]
   by_cases h1 : v.N ≠ 0
   · rw [ifp h1, dct h1]; rfl
   · rw [ifn h1, dcf h1]
     by_cases h2 : (v.S.size : Int) ≠ t.Length
     · rw [ifp h2, dct h2]; rfl
     · rw [ifn h2, dcf h2]; rfl
 · have hn := zzn ht h0 h4; obtain ⟨⟨l1, l2⟩, _⟩ := ze6 hn; obtain ⟨m1, m2, m3⟩ := z1m hn; rw [ifn h0, dcf h0]; simp only [cfa]; have := z3p N (by omega) t.Length.toNat (by omega); rw [show ((t.Length.toNat : Nat) : Int) = t.Length by omega] at this; rw [this]; simp only [obs, zzo, m1, m2, z6r]; rw [zwa _ _ _ _ (by decide) (by decide)]
   by_cases h1 : v.S = e0
   · rw [ifn (fun h => h h1), dct (show v.S = (⟨#[]⟩ : ByteArray) from h1)]; cases hb : inB v.N (-zmp t) (zmp t) <;> rfl
   · rw [ifp h1, dcf (show ¬ v.S = (⟨#[]⟩ : ByteArray) from h1)]; rfl
theorem zaaq (N : Nat) (hN : 100 < N) {t : DataType} (ht : zeh t = 0) (h4 : t.Kind ≠ 4) (v : Value) : zhi N t v = some (zjo t v) := by
 unfold zhi zjo
 rw [zwq, ht]
 simp only [obs, zaa, zb5, dcf h4, cfa, bsf, z6r]
 by_cases h0 : t.Kind = 0
 · rw [ifp h0, dct h0]; simp only [ctr, obs, dcf (show ¬ t.Kind ≠ 0 from fun h => h h0), cfa]
   by_cases h1 : v.N ≠ 0
   · rw [ifp h1, dct h1]; rfl
   · rw [ifn h1, dcf h1]; simp only [cfa, obs, zgx]
     by_cases h2 : (v.S.size : Int) ≠ t.Length
     · rw [ifp h2, dct h2]; rfl
     · rw [ifn h2, dcf h2]; rfl
 · have hn := zzn ht h0 h4; obtain ⟨⟨l1, l2⟩, _⟩ := ze6 hn; obtain ⟨m1, m2, m3⟩ := z1m hn; rw [ifn h0, dcf h0]; simp only [ctr, cfa, obs, dct (show t.Kind ≠ 0 from h0)]; have := zx8 N (by omega) t.Length.toNat (by omega); rw [show ((t.Length.toNat : Nat) : Int) = t.Length by omega] at this; unfold zgf; rw [this]; simp only [obs, zhb, zgx, m1, m2]
   by_cases h1 : v.S = e0
   · rw [ifn (fun h => h h1), dct (show v.S = (⟨#[]⟩ : ByteArray) from h1)]; cases hb : inB v.N (-zmp t) (zmp t) <;> rfl
   · rw [ifp h1, dcf (show ¬ v.S = (⟨#[]⟩ : ByteArray) from h1)]; rfl
def zr7 (ops : List zF) (i : Int) (o : zF) : Int :=
 if nmI ops o.Base < 0 ∨ i ≤ nmI ops o.Base then 11
 else match ops[(nmI ops o.Base).toNat]? with
  | none => 0
  | some b => if o.Kind = 2 then (if b.Kind ≠ 3 then 17 else if inB o.Offset 0 256 = true then 0 else 3)
   else if b.Kind ≠ 0 then 17 else if inB o.Offset 0 (szE b.zJ - szE o.zJ) = true then 0 else 3
def zrs (p : zB) (i : Int) (o : zF) : Int :=
 if o.Kind = 0 ∨ o.Kind = 4 then zjo o.zJ o.Value
 else if o.Kind = 1 ∨ o.Kind = 2 then zr7 p.zA i o
 else if o.Kind = 5 then (if inB o.Target 0 ((p.zG.length : Int) - 1) = true then 0 else 3)
 else 0
def opE (p : zB) (i : Nat) : Int :=
 match p.zA[i]? with
 | none => 0
 | some o => if zt3 o.Name = false then 7 else if nmI p.zA o.Name < (i : Int) then 13 else if inB o.Kind 0 5 = false then 4 else if zrd o = true then 5
  else if isD o.Kind = true ∧ zeh o.zJ ≠ 0 then zeh o.zJ else if isD o.Kind = true ∧ o.zJ.Kind = 4 then 17 else zrs p i o
structure OpV (p : zB) (i : Nat) (o : zF) : Prop where
 kind : 0 ≤ o.Kind ∧ o.Kind ≤ 5
 own : nmI p.zA o.Name = (i : Int)
 ty : isD o.Kind = true → zeh o.zJ = 0 ∧ o.zJ.Kind ≠ 4
 val : o.Kind = 0 ∨ o.Kind = 4 → zjo o.zJ o.Value = 0
 base : o.Kind = 1 ∨ o.Kind = 2 → zr7 p.zA i o = 0
 tg : o.Kind = 5 → 0 ≤ o.Target ∧ o.Target < (p.zG.length : Int)
theorem op_v {p : zB} {i : Nat} {o : zF} (ho : p.zA[i]? = some o) (h : opE p i = 0) : OpV p i o := by
 unfold opE at h
 rw [ho] at h
 simp only at h
 obtain ⟨n1, n2⟩ := z3q ho
 split at h
 · cases h
 split at h
 · cases h
 split at h
 · cases h
 split at h
 · cases h
 rename_i h1 h2 h3 h4
 have hk := zzt (show inB o.Kind 0 5 = true by simpa using h3)
 split at h
 · rename_i h5; exact absurd h h5.2
 split at h
 · cases h
 rename_i h5 h6
 refine { kind := by omega, own := by omega, ty := fun hd => ⟨cbc fun hh => h5 ⟨hd, hh⟩, fun hh => h6 ⟨hd, hh⟩⟩, val := fun hv => ?_, base := fun hv => ?_, tg := fun hv => ?_ }
 · unfold zrs at h; rw [ifp hv] at h; exact h
 · unfold zrs at h; rw [ifn, ifp hv] at h; exact h
 · unfold zrs at h; rw [ifn, ifn, ifp hv] at h; split at h
   · rename_i hh; have := zbg.1 hh; omega
   · cases h
theorem z0j (N : Nat) (hN : 10 < N) {o : zF} (h : zeh o.zJ = 0) : zgz N o = some (szE o.zJ) := by
 unfold zgz zgr
 rw [znf N hN, h]
 simp [zwz h]
theorem zae6 (a : Int) (b : Bool) : zi2 [a, cond b 17 0] = if a = 0 then cond b 17 0 else a := by
 show (if a = 0 then zi2 [cond b 17 0] else a) = _
 cases b <;> rfl
theorem zabd (o : zF) : ∃ k, zi0 o = some k := by
 unfold zi0
 rw [zvy]
 simp only [obs]
 cases isD o.Kind <;> cases (o.Kind == 0) <;> cases (o.Kind == 4) <;> cases (o.Kind == 1) <;> cases (o.Kind == 2) <;> cases (o.Kind == 5) <;> exact ⟨_, rfl⟩
structure Upto (p : zB) (i : Nat) : Prop where
 ops : p.zA.length ≤ 1000
 ins : p.zG.length ≤ 1000000
 ok : ∀ j, j < i → opE p j = 0
theorem z3r (l : List zF) (s : ByteArray) : nmI l s = -1 ∨ (0 ≤ nmI l s ∧ nmI l s < (l.length : Int) ∧ ∃ o, l[(nmI l s).toNat]? = some o) := by
 rcases zqu l s with ⟨h, _⟩ | ⟨k, h1, h2, _⟩
 · exact .inl h
 · rw [h1]; exact .inr ⟨by omega, by omega, _, lge h2⟩
theorem z6g {p : zB} {i : Nat} (hu : Upto p i) {n : Int} (h0 : 0 ≤ n) (h1 : n < (i : Int)) {b : zF} (hb : p.zA[n.toNat]? = some b) (hk : b.Kind = 0) : zeh b.zJ = 0 := by
 have := op_v hb (hu.ok n.toNat (by omega))
 exact (this.ty (by rw [hk]; rfl)).1
theorem z2m {a b : DataType} (ha : zeh a = 0) (hb : zeh b = 0) : w6 (szE a - szE b) = szE a - szE b := by
 have h1 := zd3 ha
 have h2 := zd3 hb
 exact w6e
theorem zafn (l : List zF) (i : Nat) : (l.take ((i : Int)).toNat).drop (0 : Int).toNat = l.take i := rfl
theorem z5y (N : Nat) (hN : 1100 < N) {p : zB} {i : Nat} (hu : Upto p i) {o : zF} (ht : zeh o.zJ = 0) (hk : o.Kind = 1 ∨ o.Kind = 2) : zg0 N o (p.zA.take i) = some (zr7 p.zA i o) := by
 have hl := hu.ops
 unfold zg0 zr7
 rw [zyi N _ (by rw [lnt]; omega) (by rw [lnt]; omega), z51]
 simp only [obs]
 by_cases hc : nmI p.zA o.Base < 0 ∨ (i : Int) ≤ nmI p.zA o.Base
 · rw [ifp hc]; rw [dct (by split <;> omega)]; rfl
 · rw [ifn hc, ifp, dcf (by omega)]; obtain ⟨b, hb⟩ : ∃ b, p.zA[(nmI p.zA o.Base).toNat]? = some b := by
    rcases z3r p.zA o.Base with h | ⟨_, _, h⟩
    · omega
    · exact h
   have hx : idx (p.zA.take i) (nmI p.zA o.Base) = some b := by
    unfold idx; rw [ifp, List.getElem?_take, ifp, hb]
   rw [hx, hb]; simp only [cfa, obs, zwx, zww, zaa, zb5]
   by_cases h2 : o.Kind = 2
   · rw [ifp h2, dct h2]; simp only [ctr]; rw [ztw N _ (by simp; omega) (by simp), zwa _ _ _ _ (by decide) (by decide)]
     by_cases h3 : b.Kind ≠ 3
     · rw [ifp h3, dct h3]; rfl
     · rw [ifn h3, dcf h3]; cases inB o.Offset 0 256 <;> rfl
   · rw [ifn h2, dcf h2]; simp only [cfa]
     by_cases h3 : b.Kind ≠ 0
     · rw [ifp h3, dct h3]; rfl
     · rw [ifn h3, dcf h3]; have hbt := z6g hu (by omega) (by omega) hb (by omega); simp only [cfa]; rw [z0j N (by omega) hbt, z0j N (by omega) ht]; simp only [obs]; rw [z2m hbt ht]; cases inB o.Offset 0 (szE b.zJ - szE o.zJ) <;> rfl
theorem z5v (N : Nat) (hN : 1100 < N) {p : zB} {i : Nat} (hu : Upto p i) {o : zF} (ht : zeh o.zJ = 0) (hk : o.Kind = 1 ∨ o.Kind = 2) :
 ((cond (nmI p.zA o.Base == (-1)) (some true) (some (decide (nmI p.zA o.Base ≥ (i : Int))))).bind fun g12 => cond g12 (some (11 : Int)) ((idx p.zA (nmI p.zA o.Base)).bind fun x13 =>
 (cond (o.Kind == 1) (some (x13.Kind != 0)) (some false)).bind fun g14 => (cond g14 (some true) ((cond (o.Kind == 2) (some (x13.Kind != 3)) (some false)).bind fun g15 =>
 some g15)).bind fun g16 => cond g16 (some 17) (cond (o.Kind == 1) ((zcn x13.zJ).bind fun r17 => (zcn o.zJ).bind fun r18 =>
 (zg o.Offset 0 (w6 (r17 - r18))).bind fun r19 => cond (!r19) (some 3) (some 0)) ((zg o.Offset 0 256).bind fun r20 => cond (!r20) (some 3)
 (some 0))))) = some (zr7 p.zA i o) := by
 have hl := hu.ops
 unfold zr7
 rcases z3r p.zA o.Base with h | ⟨n0, n1, b, hb⟩
 · rw [h, ifp]; rfl
 · rw [zaa, dcf (by omega)]; simp only [cfa, obs]
   by_cases hc : (i : Int) ≤ nmI p.zA o.Base
   · rw [ifp (.inr hc), dct (show nmI p.zA o.Base ≥ (i : Int) from hc)]; rfl
   · rw [ifn, dcf (show ¬ nmI p.zA o.Base ≥ (i : Int) from hc)]; have hx : idx p.zA (nmI p.zA o.Base) = some b := by
      unfold idx; rw [ifp n0, hb]
     rw [hx, hb]; simp only [cfa, obs, zhb, zaa, zb5, orB, zyv]
     by_cases h2 : o.Kind = 2
     · rw [ifp h2, dct h2, dcf (show ¬ o.Kind = 1 by omega)]; simp only [Bool.false_and, Bool.false_or, Bool.true_and, cfa]
       by_cases h3 : b.Kind ≠ 3
       · rw [ifp h3, dct h3]; rfl
       · rw [ifn h3, dcf h3]; cases inB o.Offset 0 256 <;> rfl
     · rw [ifn h2, dcf h2, dct (show o.Kind = 1 by omega)]; simp only [Bool.false_and, Bool.or_false, Bool.true_and, ctr]
       by_cases h3 : b.Kind ≠ 0
       · rw [ifp h3, dct h3]; rfl
       · rw [ifn h3, dcf h3]; have hbt := z6g hu n0 (by omega) hb (by omega); simp only [cfa]; rw [zoj hbt, zoj ht]; simp only [obs, zhb]; rw [z2m hbt ht]; cases inB o.Offset 0 (szE b.zJ - szE o.zJ) <;> rfl
theorem z7l {p : zB} {i : Nat} (hu : Upto p i) : w6 ((p.zG.length : Int) - 1) = (p.zG.length : Int) - 1 := by
 have := hu.ins
 exact w6e
theorem zaf7 (N : Nat) (hN : 1100 < N) {p : zB} {i : Nat} (hu : Upto p i) (hi : i < p.zA.length) : zgp N p (i : Int) = some (opE p i) := by
 have hl := hu.ops
 have hx := lge hi
 unfold zgp opE
 rw [zal, hx]
 generalize p.zA[i] = o at hx ⊢
 obtain ⟨n0, n1⟩ := z3q hx
 simp only [obs]
 rw [ifp, ifp]
 simp only [zafn]
 rw [zacx N (by omega), zyi N _ (by rw [lnt]; omega) (by rw [lnt]; omega), z51]
 simp only [obs, zwx, zww]
 obtain ⟨k, hk⟩ := zabd o
 rw [hk]
 simp only [obs]
 rw [ztw N _ (by simp; omega) (by simp)]
 simp only [obs]
 cases hnm : zt3 o.Name with
 | false => rfl
 | true =>
  by_cases hd : nmI p.zA o.Name < (i : Int)
  · rw [ifp hd, dct (show nmI p.zA o.Name ≥ 0 from n0)]; simp only [Bool.true_eq_false, if_false, ifp hd]; rfl
  · rw [ifn hd, dcf (show ¬ (-1 : Int) ≥ 0 by decide)]; simp only [Bool.true_eq_false, if_false, ifn hd]; cases hkd : inB o.Kind 0 5 with
    | false => rfl
    | true =>
     obtain ⟨k', hk1, hk2⟩ := zacy hkd; rw [hk] at hk1; cases hk1; rw [hk2]; cases hex : zrd o with
     | true => rfl
     | false =>
      rw [show zi2 [cond (!true) 7 0, cond false 13 0, cond (!true) 4 0, cond false 5 0] = 0 from rfl]; simp only [bsf, cfa, Bool.true_eq_false, Bool.false_eq_true, if_false, zvy, obs]; have hks := zzt hkd; cases hdt : isD o.Kind with
      | true =>
       simp only [ctr]; rw [znf N (by omega)]; simp only [obs, true_and]; rw [ztw N _ (by simp; omega) (by simp)]; simp only [obs, zae6]
       by_cases ht : zeh o.zJ = 0
       · rw [ifp ht, ifn (fun h => h ht)]
         by_cases h4 : o.zJ.Kind = 4
         · rw [ifp h4, zaa, dct h4]; rfl
         · rw [ifn h4, zaa, dcf h4]; simp only [cfa, bsf]; rw [z3n N (by omega) ht h4]; unfold zrs; rcases hks with h | h | h | h | h | h
           · rw [h]; rfl
           · rw [z5y N hN hu ht (.inl h), ifn, ifp (.inl h), h]; rfl
           · rw [z5y N hN hu ht (.inr h), ifn, ifp (.inr h), h]; rfl
           · rw [h] at hdt; cases hdt
           · rw [h]; rfl
           · rw [h] at hdt; cases hdt
       · rw [ifn ht, ifp ht, zb5, dct ht]; rfl
      | false =>
       simp only [cfa, Bool.false_eq_true, false_and, if_false]; unfold zrs; rcases hks with h | h | h | h | h | h
       · rw [h] at hdt; cases hdt
       · rw [h] at hdt; cases hdt
       · rw [h] at hdt; cases hdt
       · rw [h]; rfl
       · rw [h] at hdt; cases hdt
       · rw [h, z7l hu]; cases inB o.Target 0 ((p.zG.length : Int) - 1) <;> rfl
theorem zafu (N : Nat) (hN : 1100 < N) {p : zB} {i : Nat} (hu : Upto p i) (hi : i < p.zA.length) : zhg N p (i : Int) = some (opE p i) := by
 have hl := hu.ops
 have hx := lge hi
 unfold zhg opE
 rw [zal, hx]
 generalize p.zA[i] = o at hx ⊢
 obtain ⟨n0, n1⟩ := z3q hx
 simp only [obs]
 rw [zacq N (by omega)]
 simp only [obs]
 cases hnm : zt3 o.Name with
 | false => rfl
 | true =>
  simp only [bnt, cfa, Bool.true_eq_false, if_false]; rw [z2d N p (by omega) (by omega)]; simp only [obs]
  by_cases hd : nmI p.zA o.Name < (i : Int)
  · rw [dct hd, ifp hd]; rfl
  · rw [dcf hd, ifn hd]; simp only [cfa, zhb, obs]; cases hkd : inB o.Kind 0 5 with
    | false => rfl
    | true =>
     rw [z8w hkd]; simp only [bnt, cfa, obs, Bool.true_eq_false, if_false]; cases hex : zrd o with
     | true => rfl
     | false =>
      simp only [cfa, Bool.false_eq_true, if_false, z1b, obs]; have hks := zzt hkd; rw [z2d N p (by omega) (by omega)]; cases hdt : isD o.Kind with
      | true =>
       simp only [ctr, true_and, zwq, obs]
       by_cases ht : zeh o.zJ = 0
       · rw [ifn (fun h => h ht), zb5, dcf (fun h => h ht)]; simp only [cfa]
         by_cases h4 : o.zJ.Kind = 4
         · rw [ifp h4, zaa, dct h4]; rfl
         · rw [ifn h4, zaa, dcf h4]; simp only [cfa]; rw [zaaq N (by omega) ht h4]; unfold zrs; rcases hks with h | h | h | h | h | h
           · rw [h]; rfl
           · have hb := z5v N hN hu ht (.inl h); simp only [zhb, obs] at hb; rw [ifn, ifp (.inl h), ← hb, h]; rfl
           · have hb := z5v N hN hu ht (.inr h); simp only [zhb, obs] at hb; rw [ifn, ifp (.inr h), ← hb, h]; rfl
           · rw [h] at hdt; cases hdt
           · rw [h]; rfl
           · rw [h] at hdt; cases hdt
       · rw [ifp ht, zb5, dct ht]; rfl
      | false =>
       simp only [cfa, Bool.false_eq_true, false_and, if_false, obs]; unfold zrs; rcases hks with h | h | h | h | h | h
       · rw [h] at hdt; cases hdt
       · rw [h] at hdt; cases hdt
       · rw [h] at hdt; cases hdt
       · rw [h]; rfl
       · rw [h] at hdt; cases hdt
       · rw [h, z7l hu]; cases inB o.Target 0 ((p.zG.length : Int) - 1) <;> rfl
def zcy (o : zF) : Bool := decide (o.zJ.Kind ≠ 0)
def zo0 (o b : zF) (c : Int) : Bool :=
 if c = 0 then isS o.Kind else if c = 1 then isD o.Kind else if c = 2 then isS o.Kind && zcy o else if c = 3 then isD o.Kind && zcy o
 else if c = 4 then isD o.Kind && (zcy o == zcy b) else if c = 5 then decide (o.Kind = 3) else decide (o.Kind = 5)
theorem zabe (k : Int) : (isD k && !decide (k = 4)) = isS k := by
 unfold isD
 by_cases h : k = 4
 · subst h; rfl
 · rw [dcf h]; simp
theorem zacz (o b : zF) {c : Int} (hc : 0 ≤ c ∧ c ≤ 6) : zj6 o b c = some (zo0 o b c) := by
 have h : c = 0 ∨ c = 1 ∨ c = 2 ∨ c = 3 ∨ c = 4 ∨ c = 5 ∨ c = 6 := by omega
 unfold zj6
 rw [zvy]
 simp only [zfy, zaa, zb5, obs]
 have hs := zabe o.Kind
 unfold zo0 zcy
 rcases h with rfl | rfl | rfl | rfl | rfl | rfl | rfl
 · rw [← hs]; simp only [if_true]; cases isD o.Kind <;> cases decide (o.Kind = 4) <;> rfl
 · rw [ifn (by decide), ifp rfl]; cases isD o.Kind <;> rfl
 · rw [← hs, ifn (by decide), ifn (by decide), ifp rfl]; cases isD o.Kind <;> cases decide (o.Kind = 4) <;> cases decide (o.zJ.Kind ≠ 0) <;> rfl
 · rw [ifn (by decide), ifn (by decide), ifn (by decide), ifp rfl]; cases isD o.Kind <;> cases decide (o.zJ.Kind ≠ 0) <;> rfl
 · rw [ifn (by decide), ifn (by decide), ifn (by decide), ifn (by decide), ifp rfl]; cases isD o.Kind <;> cases decide (o.zJ.Kind ≠ 0) <;> cases decide (b.zJ.Kind ≠ 0) <;> rfl
 · rw [ifn (by decide), ifn (by decide), ifn (by decide), ifn (by decide), ifn (by decide), ifp rfl]; rfl
 · rw [ifn (by decide), ifn (by decide), ifn (by decide), ifn (by decide), ifn (by decide), ifn (by decide)]; rfl
def zyy : zF := ⟨⟨#[]⟩, 0, ⟨0, 0, 0⟩, ⟨0, ⟨#[]⟩⟩, ⟨#[]⟩, 0, 0⟩
def zm4 (p : zB) (x : zI) : Nat → zF
 | 0 => zyy
 | k + 1 => p.zA.getD ((x.Args.getD k 0).toNat) zyy
def zho (op : Int) : List Int := zrx.getD op.toNat []
def gA (p : zB) (x : zI) (i : Nat) : Option Int :=
 (x.Args[i]?).bind fun a => if inB a 0 ((p.zA.length : Int) - 1) = true then (match p.zA[a.toNat]?, (zho x.Op)[i]? with | some o, some c => if zo0 o (zm4 p x i) c = true then none else some 17 | _, _ => none) else some 3
def zra (p : zB) (x : zI) : Int :=
 if inB x.Op 0 18 = false then 4 else if (x.Args.length : Int) ≠ ((zho x.Op).length : Int) then 37
 else match (List.range x.Args.length).findSome? (gA p x) with | some e => e | none => 0
theorem z87 {k : Int} (h : inB k 0 18 = true) : ∃ n : Nat, k = (n : Int) ∧ n < 19 := by
 have := zbg.1 h
 exact ⟨k.toNat, by omega, by omega⟩
theorem zad4 : ((List.range 19).all fun n => (match zrx[n]? with | some l => l.all (fun c => decide (0 ≤ c) && decide (c ≤ 6)) && (decide (l.length ≤ 3) && ((List.range l.length).all fun i => !(l.getD i 0 == 4) || (i == 1 && (l.getD 0 9 == 0 || l.getD 0 9 == 1)))) | none => false)) = true := by kernel_rfl
def z0g (c : Int) : Int := if c = 1 then 2 else if c = 2 then 1 else c
theorem zacn : ((List.range 19).all fun n => match zjq (n : Int) with | some l => l == (zho (n : Int)).map z0g | none => false) = true := by kernel_rfl
theorem z11 {k : Int} (h : inB k 0 18 = true) : idx zrx k = some (zho k) ∧ (zho k).length ≤ 3 ∧ (∀ (i : Nat) (c : Int), (zho k)[i]? = some c → (0 ≤ c ∧ c ≤ 6) ∧ (c = 4 → i = 1 ∧ ∃ d, (zho k)[0]? = some d ∧ (d = 0 ∨ d = 1))) ∧ zjq k = some ((zho k).map z0g) := by
 obtain ⟨n, rfl, hn⟩ := z87 h
 have h1 := List.all_eq_true.1 zad4 n (List.mem_range.2 hn)
 have h2 := List.all_eq_true.1 zacn n (List.mem_range.2 hn)
 have hlt : n < zrx.length := hn
 have hg : zrx[n]? = some (zho (n : Int)) := by
  unfold zho; rw [itn, gdd, lge hlt]; rfl
 rw [hg] at h1
 simp only [Bool.and_eq_true, List.all_eq_true, decide_eq_true_eq, List.mem_range, Bool.or_eq_true, Bool.not_eq_true', beq_iff_eq, beq_eq_false_iff_ne] at h1
 obtain ⟨a1, a2, a3⟩ := h1
 refine ⟨by rw [zal, hg], a2, fun i c hc => ⟨a1 c (lmg hc), fun h4 => ?_⟩, ?_⟩
 · have hi := (gei hc).1; have e : (zho (n : Int)).getD i 0 = c := by rw [gdd, hc]; rfl
   rcases a3 i hi with h | ⟨h5, h6⟩
   · rw [e] at h; exact absurd h4 h
   · refine ⟨h5, ?_⟩; have h0 : 0 < (zho (n : Int)).length := by omega
     refine ⟨_, lge h0, ?_⟩; rw [gdd, lge h0] at h6; exact h6
 · cases hr : zjq (n : Int) with
   | none => rw [hr] at h2; cases h2
   | some l =>
    rw [hr] at h2; rw [eq_of_beq h2]
theorem opsL {p : zB} {i : Nat} (hu : Upto p i) : w6 ((p.zA.length : Int) - 1) = (p.zA.length : Int) - 1 := by
 have := hu.ops
 exact w6e
theorem z4y {p : zB} {a : Int} (h : inB a 0 ((p.zA.length : Int) - 1) = true) : ∃ o, p.zA[a.toNat]? = some o ∧ idx p.zA a = some o := by
 have := zbg.1 h
 refine ⟨_, lge (by omega), ?_⟩
 unfold idx
 rw [ifp, lge]
theorem zaeo (N : Nat) (hN : 1100 < N) {p : zB} {i : Nat} (hu : Upto p i) (x : zI) : zan N p x = some (zra p x) := by
 unfold zan zra
 rw [zww]
 simp only [obs]
 cases hop : inB x.Op 0 18 with
 | false => rfl
 | true =>
  obtain ⟨t1, t2, t3, _⟩ := z11 hop; rw [t1]; simp only [bnt, cfa, obs, zb5, Bool.true_eq_false, if_false]
  by_cases hl : (x.Args.length : Int) ≠ ((zho x.Op).length : Int)
  · rw [ifp hl, dct hl]; rfl
  · rw [ifn hl, dcf hl]; simp only [cfa]; have l1 := zqh (f := zan.r0 N) (fun i => (x.Args, (x.Args.length : Int), (i : Int), p, x, zm4 p x i)) (gA p x) x.Args.length
     (fun i hi hp => by
      have hx := lge hi; have hi2 : i < (zho x.Op).length := by omega
      have hc := lge hi2; simp only [zan.r0, zan.b0, zal, hx, obs, dct (show (i : Int) < (x.Args.length : Int) by omega), ctr, opsL hu, zww, gA, t1, hc]; cases hin : inB x.Args[i] 0 ((p.zA.length : Int) - 1) with
      | false => rfl
      | true =>
       obtain ⟨o, ho, ho2⟩ := z4y hin; simp only [bnt, cfa, ho, ho2, obs, if_true]; rw [zacz _ _ (t3 i _ hc).1]; simp only [obs]; cases zo0 o (zm4 p x i) (zho x.Op)[i] with
       | false => rfl
       | true =>
        simp only [bnt, cfa, if_true]; rw [w6e]; rw [show zm4 p x (i + 1) = o by
         show p.zA.getD ((x.Args.getD i 0).toNat) zyy = o; rw [gdd (l := x.Args), hx, Option.getD_some, gdd, ho]; rfl]
        rfl)
     (fun _ => by simp only [zan.r0, zan.b0, dcf (show ¬ (x.Args.length : Int) < (x.Args.length : Int) by omega), cfa]) (N := N) (by omega)
    simp only [nc0] at l1; rw [show (⟨(⟨#[]⟩ : ByteArray), 0, (⟨0, 0, 0⟩ : DataType), (⟨0, (⟨#[]⟩ : ByteArray)⟩ : Value), (⟨#[]⟩ : ByteArray), 0, 0⟩ : zF) = zm4 p x 0 from rfl, l1]; cases (List.range x.Args.length).findSome? (gA p x) <;> rfl
theorem z3m {p : zB} {j : Nat} {o : zF} (ho : p.zA[j]? = some o) (h : opE p j = 0) (hd : isD o.Kind = true) : inB o.zJ.Kind 1 3 = zcy o := by
 obtain ⟨h1, h2⟩ := (op_v ho h).ty hd
 unfold zcy
 rcases zlv h1 with ⟨k, _⟩ | ⟨k | k, _⟩ | ⟨k, _⟩ | ⟨k, _⟩
 · rw [k]; rfl
 · rw [k]; rfl
 · rw [k]; rfl
 · rw [k]; rfl
 · exact absurd k h2
theorem zaav (N : Nat) (hN : 1100 < N) {p : zB} (hu : Upto p p.zA.length) (x : zI) : zaz N p x = some (zra p x) := by
 have hol := hu.ops
 unfold zaz zra
 rw [zhb]
 simp only [obs]
 cases hop : inB x.Op 0 18 with
 | false => rfl
 | true =>
  obtain ⟨t1, t2, t3, t4⟩ := z11 hop; rw [t4]; simp only [bnt, cfa, obs, zb5, Bool.true_eq_false, if_false, lnm]
  by_cases hl : (x.Args.length : Int) ≠ ((zho x.Op).length : Int)
  · rw [ifp hl, dct hl]; rfl
  · rw [ifn hl, dcf hl]; simp only [cfa]; have l1 := zqh (f := zaz.r0 N) (fun i => ((zho x.Op).map z0g, (i : Int), p, x)) (gA p x) x.Args.length
     (fun i hi hp => by
      have hx := lge hi; have hi2 : i < (zho x.Op).length := by omega
      have hc := lge hi2; simp only [zaz.r0, zaz.b0, zal, hx, obs, lnm, dct (show (i : Int) < ((zho x.Op).length : Int) by omega), ctr, opsL hu, zhb, gA, List.getElem?_map, hc, Option.map_some]; cases hin : inB x.Args[i] 0 ((p.zA.length : Int) - 1) with
      | false => rfl
      | true =>
       obtain ⟨o, ho, ho2⟩ := z4y hin; have hlt := (gei ho).1; obtain ⟨c1, c2⟩ := t3 i _ hc; have hbf : (zho x.Op)[i] = 4 → ∃ a b, i = 1 ∧ x.Args[0]? = some a ∧ idx p.zA a = some b ∧ zm4 p x i = b ∧ inB b.zJ.Kind 1 3 = zcy b := fun h4 => by
        obtain ⟨rfl, d, hd, hd2⟩ := c2 h4; have h0 := hp 0 (by omega); have hx0 := lge (show 0 < x.Args.length by omega); unfold gA at h0; rw [hx0, obs] at h0; split at h0
        · rename_i hin0; obtain ⟨b, hb, hb2⟩ := z4y hin0; rw [hb, hd] at h0; simp only at h0; split at h0
          · rename_i hcl; have hlt0 := (gei hb).1; refine ⟨_, b, rfl, hx0, hb2, ?_, z3m hb (hu.ok _ hlt0) ?_⟩
            · show p.zA.getD ((x.Args.getD 0 0).toNat) zyy = b; rw [gdd (l := x.Args), hx0, Option.getD_some, gdd, hb]; rfl
            · unfold zo0 at hcl; rcases hd2 with rfl | rfl
              · rw [ifp rfl] at hcl; unfold isD; rw [hcl]; rfl
              · rw [ifn (by decide), ifp rfl] at hcl; exact hcl
          · cases h0
        · cases h0
       have hnum : isD o.Kind = true → inB o.zJ.Kind 1 3 = zcy o := z3m ho (hu.ok _ hlt); have hSD : isS o.Kind = true → isD o.Kind = true := fun h => by unfold isD; rw [h]; rfl
       simp only [bnt, cfa, ho, ho2, obs, if_true, zxi, z1b, zf0, zqe, zaa]; generalize (zho x.Op)[i] = c at c1 hbf ⊢; have fin : ∀ b : Bool, (cond (!b) (some (Round.result (17 : Int))) (some (Round.again ((zho x.Op).map z0g, w6 ((i : Int) + 1), p, x)))) = some (cond b (Round.again ((zho x.Op).map z0g, ((i + 1 : Nat) : Int), p, x)) (.result 17)) := fun b => by
        rw [w6e]; cases b <;> rfl
       have hcs : c = 0 ∨ c = 1 ∨ c = 2 ∨ c = 3 ∨ c = 4 ∨ c = 5 ∨ c = 6 := by omega
       rcases hcs with rfl | rfl | rfl | rfl | rfl | rfl | rfl <;> simp only [z0g, Int.reduceEq, reduceIte, decide_true, decide_false, ctr, cfa]
       · rw [show zo0 o (zm4 p x i) 0 = isS o.Kind from rfl]; rw [fin]; cases (isS o.Kind) <;> rfl
       · rw [show zo0 o (zm4 p x i) 1 = isD o.Kind from rfl]; rw [fin]; cases (isD o.Kind) <;> rfl
       · rw [show zo0 o (zm4 p x i) 2 = (isS o.Kind && inB o.zJ.Kind 1 3) by
          show (isS o.Kind && zcy o) = _; cases hs : isS o.Kind with
          | false => rfl
          | true => rw [hnum (hSD hs)]]
         cases isS o.Kind
         · simp only [ctr, cfa, obs, Bool.true_and, Bool.false_and]; rfl
         · simp only [ctr, cfa, obs, Bool.true_and, Bool.false_and]; rw [fin]; cases (inB o.zJ.Kind 1 3) <;> rfl
       · rw [show zo0 o (zm4 p x i) 3 = (isD o.Kind && inB o.zJ.Kind 1 3) by
          show (isD o.Kind && zcy o) = _; cases hs : isD o.Kind with
          | false => rfl
          | true => rw [hnum hs]]
         cases isD o.Kind
         · simp only [ctr, cfa, obs, Bool.true_and, Bool.false_and]; rfl
         · simp only [ctr, cfa, obs, Bool.true_and, Bool.false_and]; rw [fin]; cases (inB o.zJ.Kind 1 3) <;> rfl
       · obtain ⟨a, b, rfl, ha, hb, hbb, hbn⟩ := hbf rfl; rw [show zo0 o (zm4 p x 1) 4 = (isD o.Kind && (inB o.zJ.Kind 1 3 == inB b.zJ.Kind 1 3)) by
          show (isD o.Kind && (zcy o == zcy (zm4 p x 1))) = _; rw [hbb, hbn]; cases hs : isD o.Kind with
          | false => rfl
          | true => rw [hnum hs]]
         rw [show w6 (((1 : Nat) : Int) - 1) = ((0 : Nat) : Int) from rfl, zal, ha]; simp only [obs]; rw [hb]; cases isD o.Kind
         · simp only [ctr, cfa, obs, Bool.true_and, Bool.false_and]; rfl
         · simp only [ctr, cfa, obs, Bool.true_and, Bool.false_and]; rw [fin]; cases (inB o.zJ.Kind 1 3 == inB b.zJ.Kind 1 3) <;> rfl
       · rw [show zo0 o (zm4 p x i) 5 = decide (o.Kind = 3) from rfl]; rw [fin]; cases (decide (o.Kind = 3)) <;> rfl
       · rw [show zo0 o (zm4 p x i) 6 = decide (o.Kind = 5) from rfl]; rw [fin]; cases (decide (o.Kind = 5)) <;> rfl)
     (fun _ => by simp only [zaz.r0, zaz.b0, lnm, dcf (show ¬ (x.Args.length : Int) < ((zho x.Op).length : Int) by omega), cfa]) (N := N) (by omega)
    simp only [nc0] at l1; rw [l1]; cases (List.range x.Args.length).findSome? (gA p x) <;> rfl
def zt4 (p : zB) (m : zN) : Bool := decide (0 ≤ m.From) && (decide (m.From < m.To) && (decide (m.To ≤ (p.zG.length : Int)) && (inB m.Exception 0 999 && inB m.Handler 0 ((p.zG.length : Int) - 1))))
theorem zaen {p : zB} {i : Nat} (hu : Upto p i) (m : zN) : zgq p m = some (cond (zt4 p m) 0 3) := by
 unfold zgq zt4
 rw [z7l hu, zww, zww]
 simp only [obs, zyv, zwx, ge_iff_le]
 cases decide (0 ≤ m.From) <;> cases decide (m.From < m.To) <;> cases decide (m.To ≤ (p.zG.length : Int)) <;> cases inB m.Exception 0 999 <;> cases inB m.Handler 0 ((p.zG.length : Int) - 1) <;> rfl
theorem zaet (p : zB) (m : zN) : ((((decide (m.From < 0) || decide (m.From ≥ m.To)) || decide (m.To > (p.zG.length : Int))) || !inB m.Exception 0 999) || !inB m.Handler 0 ((p.zG.length : Int) - 1)) = !zt4 p m := by
 unfold zt4
 rw [show decide (m.From < 0) = !decide (0 ≤ m.From) by rw [← decide_not]; congr 1; simp, show decide (m.From ≥ m.To) = !decide (m.From < m.To) by rw [← decide_not]; congr 1; simp, show decide (m.To > (p.zG.length : Int)) = !decide (m.To ≤ (p.zG.length : Int)) by rw [← decide_not]; congr 1; simp]
 simp only [Bool.not_and, Bool.or_assoc]
theorem z27 (N0 : Nat) (n : Nat) (hn : n ≤ 1000000) (v : Int) : ∀ (N k : Nat), 1 ≤ k → k ≤ n → n - k < N → zh (zbx.r0 N0) N (List.replicate k v ++ List.replicate (n - k) 0, (k : Int)) = some (List.replicate n v, (n : Int))
 | 0, k, _, _, h => by omega
 | N + 1, k, h1, h2, h3 => by
  have hlen : (List.replicate k v ++ List.replicate (n - k) (0 : Int)).length = n := by rw [lna, lnr, lnr]; omega
  simp only [zh, zbx.r0, zbx.b0, hlen]
  by_cases hk : k < n
  · rw [dct (by omega), ctr, ifp, ifp, ifp]; simp only [obs]; have t1 : (List.replicate k v ++ List.replicate (n - k) (0 : Int)).take ((k : Int)).toNat = List.replicate k v := by
     rw [itn, List.take_append_of_le_length (by rw [lnr]; omega), List.take_replicate, Nat.min_self]
    have t2 : (((List.replicate k v ++ List.replicate (n - k) (0 : Int)).drop (0 : Int).toNat).take (((k : Int)).toNat - (0 : Int).toNat)) = List.replicate k v := t1; rw [t1, t2, lnr]; have e : ((k : Int)).toNat = k := itn k; rw [e, List.take_replicate, show min (min k (n - k)) k = min k (n - k) by omega, List.drop_append, List.drop_eq_nil_of_le (by rw [lnr]; omega), lnr, List.drop_replicate, List.nil_append]; rw [w6e]; have := z27 N0 n hn v N (k + min k (n - k)) (by omega) (by omega) (by omega); rw [← this, List.replicate_append_replicate, show n - k - (k + min k (n - k) - k) = n - (k + min k (n - k)) by omega]; rfl
  · obtain rfl : k = n := by omega
    rw [dcf (by omega), cfa, Nat.sub_self]; simp
theorem z8j (N : Nat) (n : Nat) (hn : n ≤ 100000) (hN : n < N) (v : Int) : zbx N [v] (n : Int) = some (List.replicate n v) := by
 have wu : ∀ m : Nat, m ≤ 1000000 → IntKind.wrap .u64 (m : Int) = (m : Int) := fun m hm => by
  unfold IntKind.wrap; rw [show (2 : Int) ^ IntKind.u64.bits = 18446744073709551616 from rfl, show IntKind.u64.signed = false from rfl]; simp only [Bool.false_and, Bool.false_eq_true, if_false]; omega
 unfold zbx zku
 rw [show (([v] : List Int).length : Int) = ((1 : Nat) : Int) from rfl, wu 1 (by decide), wu n (by omega), zzr 1 n (by decide) (by omega)]
 rw [show (1 * n) / 18446744073709551616 = 0 by omega, show (1 * n) % 18446744073709551616 = n by omega]
 simp only [obs]
 rw [dcf (by omega), dcf (by omega), dcf (by omega), w6e, ifp, ifp, itn, zao (by omega)]
 simp only [cfa, ctr, obs, lnr]
 by_cases h0 : n = 0
 · subst h0; obtain ⟨M, rfl⟩ : ∃ M, N = M + 1 := ⟨N - 1, by omega⟩; rfl
 · have := z27 N n (by omega) v N 1 (by omega) (by omega) (by omega); rw [show min ([v] : List Int).length n = 1 by simp; omega]; rw [show ([v] : List Int).take 1 ++ (List.replicate n (0 : Int)).drop 1 = List.replicate 1 v ++ List.replicate (n - 1) 0 by rw [List.drop_replicate]; rfl, this]; rfl
def og (ops : List zF) (k : Nat) : zF := ops.getD k zyy
def pAt (ops : List zF) : Nat → Int
 | 0 => 0
 | k + 1 => pAt ops k + (if (og ops k).Kind = 3 then 16 else 0)
def zi9 (ops : List zF) : Nat → Int
 | 0 => 0
 | k + 1 => zi9 ops k + (if (og ops k).Kind = 0 then szE (og ops k).zJ else 0)
def sAt (ops : List zF) (k : Nat) : Int := pAt ops ops.length + zi9 ops k
def zck (ops : List zF) (i : Nat) : Int :=
 if (og ops i).Kind = 3 then pAt ops i else if (og ops i).Kind = 0 then sAt ops i else if (og ops i).Kind = 1 then sAt ops (nmI ops (og ops i).Base).toNat + (og ops i).Offset else -1
def zko (ops : List zF) : List Int := (List.range ops.length).map (zck ops)
def zh7 (ops : List zF) : Int := (sAt ops ops.length + 15) / 16
theorem zmo {ops : List zF} {k : Nat} (h : k < ops.length) : ops[k]? = some (og ops k) := by
 unfold og
 rw [gdd, lge h]
 rfl
theorem znc (ops : List zF) : ∀ k, 0 ≤ pAt ops k ∧ pAt ops k ≤ 16 * (k : Int) ∧ pAt ops k % 16 = 0
 | 0 => ⟨Int.le_refl _, by show (0 : Int) ≤ 16 * ((0 : Nat) : Int); omega, rfl⟩
 | k + 1 => by
  obtain ⟨h1, h2, h3⟩ := znc ops k; unfold pAt; split <;> omega
theorem z3j (ops : List zF) {j : Nat} : ∀ {k : Nat}, j ≤ k → pAt ops j ≤ pAt ops k
 | 0, h => by
  obtain rfl : j = 0 := by omega
  exact Int.le_refl _
 | k + 1, h => by
  by_cases e : j = k + 1
  · subst e; exact Int.le_refl _
  · have := z3j ops (show j ≤ k by omega); have e2 : pAt ops (k + 1) = pAt ops k + (if (og ops k).Kind = 3 then 16 else 0) := rfl; rw [e2]; split <;> omega
def zmv (p : zB) : Prop := Upto p p.zA.length
theorem zhr {p : zB} (h : zmv p) {k : Nat} (hk : k < p.zA.length) : OpV p k (og p.zA k) := op_v (zmo hk) (h.ok k hk)
theorem zru {p : zB} (h : zmv p) {k : Nat} (hk : k < p.zA.length) (h0 : (og p.zA k).Kind = 0) : zeh (og p.zA k).zJ = 0 := ((zhr h hk).ty (by rw [h0]; rfl)).1
theorem zlx {p : zB} (h : zmv p) : ∀ k, k ≤ p.zA.length → 0 ≤ zi9 p.zA k ∧ zi9 p.zA k ≤ 256 * (k : Int)
 | 0, _ => ⟨Int.le_refl _, by show (0 : Int) ≤ 256 * ((0 : Nat) : Int); omega⟩
 | k + 1, hk => by
  obtain ⟨h1, h2⟩ := zlx h k (by omega); unfold zi9; split
  · rename_i h0; have := zd3 (zru h (by omega) h0); omega
  · omega
theorem z07 {p : zB} (h : zmv p) {j : Nat} : ∀ {k : Nat}, k ≤ p.zA.length → j ≤ k → zi9 p.zA j ≤ zi9 p.zA k
 | 0, _, hj => by
  obtain rfl : j = 0 := by omega
  exact Int.le_refl _
 | k + 1, hk, hj => by
  by_cases e : j = k + 1
  · subst e; exact Int.le_refl _
  · have := z07 h (show k ≤ p.zA.length by omega) (show j ≤ k by omega); have e2 : zi9 p.zA (k + 1) = zi9 p.zA k + (if (og p.zA k).Kind = 0 then szE (og p.zA k).zJ else 0) := rfl; rw [e2]; split
    · rename_i h0; have := zd3 (zru h (by omega) h0); omega
    · omega
theorem zot {n : Nat} (f : Nat → Int) {k : Nat} (v : Int) : ((List.range n).map f).set k v = (List.range n).map fun i => if i = k then v else f i := by
 apply List.ext_getElem?
 intro i
 rw [List.getElem?_set, List.getElem?_map, List.getElem?_map, lnm, List.length_range]
 by_cases hi : i < n
 · rw [List.getElem?_range hi]
   by_cases e : k = i
   · subst e; simp [hi]
   · simp [e, Ne.symm e]
 · rw [List.getElem?_eq_none (by simpa using hi)]
   by_cases e : k = i
   · subst e; simp [hi]
   · simp [e]
theorem zmf {n : Nat} (f : Nat → Int) {k : Nat} (h : k < n) : ((List.range n).map f)[k]? = some (f k) := by
 rw [List.getElem?_map, List.getElem?_range h]
 rfl
theorem zfk {n : Nat} {f g : Nat → Int} (h : ∀ i, i < n → f i = g i) : (List.range n).map f = (List.range n).map g := List.map_congr_left fun i hi => h i (List.mem_range.1 hi)
theorem z52 (n : Nat) (v : Int) : List.replicate n v = (List.range n).map fun _ => v := by
 apply List.ext_getElem?
 intro i
 rw [List.getElem?_replicate, List.getElem?_map]
 by_cases hi : i < n
 · rw [ifp hi, List.getElem?_range hi]; rfl
 · rw [ifn hi, List.getElem?_eq_none (by simpa using hi)]; rfl
def A1 (ops : List zF) (k i : Nat) : Int := if i < k ∧ (og ops i).Kind = 3 then pAt ops i else -1
def B1 (ops : List zF) (k i : Nat) : Int := if i < k then (if (og ops i).Kind = 3 then pAt ops i else -1) else 0
def A2 (ops : List zF) (k i : Nat) : Int := if i < k ∧ (og ops i).Kind = 0 then sAt ops i else if (og ops i).Kind = 3 then pAt ops i else -1
def A3 (ops : List zF) (k i : Nat) : Int := if i < k ∧ (og ops i).Kind = 1 then sAt ops (nmI ops (og ops i).Base).toNat + (og ops i).Offset else A2 ops ops.length i
theorem zu9 {p : zB} (h : zmv p) {i : Nat} (hi : i < p.zA.length) (hk : (og p.zA i).Kind = 1) : ∃ b : Nat, nmI p.zA (og p.zA i).Base = (b : Int) ∧ b < i ∧ (og p.zA b).Kind = 0 ∧ 0 ≤ (og p.zA i).Offset ∧ (og p.zA i).Offset ≤ szE (og p.zA b).zJ - szE (og p.zA i).zJ := by
 have hb := (zhr h hi).base (.inl hk)
 unfold zr7 at hb
 by_cases hc : nmI p.zA (og p.zA i).Base < 0 ∨ (i : Int) ≤ nmI p.zA (og p.zA i).Base
 · rw [ifp hc] at hb; cases hb
 · rw [ifn hc] at hb; refine ⟨(nmI p.zA (og p.zA i).Base).toNat, by omega, by omega, ?_⟩; rw [zmo (by omega)] at hb; simp only at hb; rw [ifn] at hb; split at hb
   · cases hb
   · rename_i h0; split at hb
     · rename_i h1; have := zbg.1 h1; exact ⟨by omega, by omega, by omega⟩
     · cases hb
theorem z0b {p : zB} (h : zmv p) {i : Nat} (hi : i < p.zA.length) (hk : (og p.zA i).Kind = 2) : ∃ b : Nat, nmI p.zA (og p.zA i).Base = (b : Int) ∧ b < i ∧ (og p.zA b).Kind = 3 ∧ 0 ≤ (og p.zA i).Offset ∧ (og p.zA i).Offset ≤ 256 := by
 have hb := (zhr h hi).base (.inr hk)
 unfold zr7 at hb
 by_cases hc : nmI p.zA (og p.zA i).Base < 0 ∨ (i : Int) ≤ nmI p.zA (og p.zA i).Base
 · rw [ifp hc] at hb; cases hb
 · rw [ifn hc] at hb; refine ⟨(nmI p.zA (og p.zA i).Base).toNat, by omega, by omega, ?_⟩; rw [zmo (by omega)] at hb; simp only at hb; rw [ifp hk] at hb; split at hb
   · cases hb
   · rename_i h0; split at hb
     · rename_i h1; have := zbg.1 h1; exact ⟨by omega, by omega, by omega⟩
     · cases hb
theorem z18 {p : zB} (h : zmv p) (k : Nat) {b : Nat} (hb : b < p.zA.length) (h0 : (og p.zA b).Kind = 0) : A3 p.zA k b = sAt p.zA b := by
 unfold A3 A2
 rw [ifn, ifp ⟨hb, h0⟩]
theorem zaad (ops : List zF) : (List.range ops.length).map (A3 ops ops.length) = zko ops := by
 refine zfk fun i hi => ?_
 unfold A3 A2 zck
 by_cases h1 : (og ops i).Kind = 1
 · rw [ifp ⟨hi, h1⟩, ifn, ifn, ifp h1]
 · rw [ifn]
   by_cases h0 : (og ops i).Kind = 0
   · rw [ifp ⟨hi, h0⟩, ifn, ifp h0]
   · rw [ifn]
     by_cases h3 : (og ops i).Kind = 3
     · rw [ifp h3, ifp h3]
     · rw [ifn h3, ifn h3, ifn h0, ifn h1]
section
variable {ops : List zF} {k : Nat}
theorem zadt : (List.range ops.length).map (A1 ops (k + 1)) = if (og ops k).Kind = 3 then ((List.range ops.length).map (A1 ops k)).set k (pAt ops k) else (List.range ops.length).map (A1 ops k) := by
 split
 · rename_i h; rw [zot]; refine zfk fun i _ => ?_; unfold A1
   by_cases e : i = k
   · subst e; rw [ifp ⟨by omega, h⟩, ifp rfl]
   · rw [ifn e]
     by_cases h2 : i < k ∧ (og ops i).Kind = 3
     · rw [ifp h2, ifp ⟨by omega, h2.2⟩]
     · rw [ifn h2, ifn]
 · rename_i h; refine zfk fun i _ => ?_; unfold A1
   by_cases e : i = k
   · subst e; rw [ifn, ifn]
   · by_cases h2 : i < k ∧ (og ops i).Kind = 3
     · rw [ifp h2, ifp ⟨by omega, h2.2⟩]
     · rw [ifn h2, ifn]
theorem zads : (List.range ops.length).map (B1 ops (k + 1)) = if (og ops k).Kind = 3 then (((List.range ops.length).map (B1 ops k)).set k (-1)).set k (pAt ops k) else ((List.range ops.length).map (B1 ops k)).set k (-1) := by
 split
 · rename_i h; rw [zot, zot]; refine zfk fun i _ => ?_; unfold B1
   by_cases e : i = k
   · subst e; rw [ifp, ifp h, ifp rfl]
   · rw [ifn e, ifn e]
     by_cases h2 : i < k
     · rw [ifp h2, ifp]
     · rw [ifn h2, ifn]
 · rename_i h; rw [zot]; refine zfk fun i _ => ?_; unfold B1
   by_cases e : i = k
   · subst e; rw [ifp, ifn h, ifp rfl]
   · rw [ifn e]
     by_cases h2 : i < k
     · rw [ifp h2, ifp]
     · rw [ifn h2, ifn]
theorem z6l : (List.range ops.length).map (A2 ops (k + 1)) = if (og ops k).Kind = 0 then ((List.range ops.length).map (A2 ops k)).set k (sAt ops k) else (List.range ops.length).map (A2 ops k) := by
 split
 · rename_i h; rw [zot]; refine zfk fun i _ => ?_; unfold A2
   by_cases e : i = k
   · subst e; rw [ifp ⟨by omega, h⟩, ifp rfl]
   · rw [ifn e]
     by_cases h2 : i < k ∧ (og ops i).Kind = 0
     · rw [ifp h2, ifp ⟨by omega, h2.2⟩]
     · rw [ifn h2, ifn (show ¬ (i < k + 1 ∧ (og ops i).Kind = 0) by omega)]
 · rename_i h; refine zfk fun i _ => ?_; unfold A2
   by_cases e : i = k
   · subst e; rw [ifn (show ¬ (i < i + 1 ∧ (og ops i).Kind = 0) by omega), ifn (show ¬ (i < i ∧ (og ops i).Kind = 0) by omega)]
   · by_cases h2 : i < k ∧ (og ops i).Kind = 0
     · rw [ifp h2, ifp ⟨by omega, h2.2⟩]
     · rw [ifn h2, ifn (show ¬ (i < k + 1 ∧ (og ops i).Kind = 0) by omega)]
theorem z6k : (List.range ops.length).map (A3 ops (k + 1)) = if (og ops k).Kind = 1 then ((List.range ops.length).map (A3 ops k)).set k (sAt ops (nmI ops (og ops k).Base).toNat + (og ops k).Offset) else (List.range ops.length).map (A3 ops k) := by
 split
 · rename_i h; rw [zot]; refine zfk fun i _ => ?_; unfold A3
   by_cases e : i = k
   · subst e; rw [ifp ⟨by omega, h⟩, ifp rfl]
   · rw [ifn e]
     by_cases h2 : i < k ∧ (og ops i).Kind = 1
     · rw [ifp h2, ifp ⟨by omega, h2.2⟩]
     · rw [ifn h2, ifn]
 · rename_i h; refine zfk fun i _ => ?_; unfold A3
   by_cases e : i = k
   · subst e; rw [ifn, ifn]
   · by_cases h2 : i < k ∧ (og ops i).Kind = 1
     · rw [ifp h2, ifp ⟨by omega, h2.2⟩]
     · rw [ifn h2, ifn]
end
theorem z3a {a : Int} (h0 : 0 ≤ a) (h1 : a ≤ 1000000) : w6 ((w6 ((w6 (a + 16)) - 1)).tdiv 16) = (a + 15) / 16 := by
 rw [w6e (n := a + 16), w6e (n := a + 16 - 1), tde, show a + 16 - 1 = a + 15 by omega, w6e]
theorem z0l (n : Nat) (f : Nat → Int) : ((List.range n).map f).length = n := by rw [lnm, List.length_range]
theorem zvx (N : Nat) (hN : 1100 < N) {p : zB} (h : zmv p) : zl N p.zA = some (zko p.zA, zh7 p.zA) := by
 have hl := h.ops
 have hp := fun k => znc p.zA k
 have hs := fun k hk => zlx h k hk
 unfold zl
 rw [z8j N _ (by omega) (by omega), z52]
 simp only [obs]
 have l1 := zas (f := zl.r0 N) (fun k => (p.zA, (List.range p.zA.length).map (A1 p.zA k), pAt p.zA k, p.zA, (p.zA.length : Int), (k : Int))) p.zA.length
  (fun k hk => by
   have h1 := hp k; simp only [zl.r0, zl.b0, zal, zmo hk, obs, dct (show (k : Int) < (p.zA.length : Int) by omega), ctr, z0l, ifp (show (0 : Int) ≤ (k : Int) by omega), ifp (show (k : Int) < (p.zA.length : Int) by omega), itn, zmf _ hk, zadt, zaa]; rw [w6e (n := (k : Int) + 1), w6e (n := pAt p.zA k + 16)]; rw [show pAt p.zA (k + 1) = pAt p.zA k + (if (og p.zA k).Kind = 3 then 16 else 0) from rfl]
   by_cases h3 : (og p.zA k).Kind = 3
   · rw [dct h3, ifp h3, ifp h3]; rfl
   · rw [dcf h3, ifn h3, ifn h3, Int.add_zero]; rfl)
  (by simp only [zl.r0, zl.b0, dcf (show ¬ (p.zA.length : Int) < (p.zA.length : Int) by omega), cfa]) (N := N) (by omega)
 simp only [nc0] at l1
 rw [show ((List.range p.zA.length).map fun _ => (-1 : Int)) = (List.range p.zA.length).map (A1 p.zA 0) from zfk fun i _ => by unfold A1; rw [ifn], show (0 : Int) = pAt p.zA 0 from rfl]
 rw [show pAt p.zA 0 = 0 from rfl] at l1 ⊢
 rw [l1]
 simp only [obs]
 have l2 := zas (f := zl.r2 N) (fun k => (p.zA, (List.range p.zA.length).map (A2 p.zA k), sAt p.zA k, p.zA, (p.zA.length : Int), (k : Int))) p.zA.length
  (fun k hk => by
   have h1 := hp p.zA.length; have h2 := hs k (by omega); simp only [zl.r2, zl.b2, zal, zmo hk, obs, dct (show (k : Int) < (p.zA.length : Int) by omega), ctr, z0l, ifp (show (0 : Int) ≤ (k : Int) by omega), ifp (show (k : Int) < (p.zA.length : Int) by omega), itn, zmf _ hk, z6l, zaa]; rw [w6e (n := (k : Int) + 1)]; have e : sAt p.zA (k + 1) = sAt p.zA k + (if (og p.zA k).Kind = 0 then szE (og p.zA k).zJ else 0) := by
    unfold sAt; rw [show zi9 p.zA (k + 1) = zi9 p.zA k + (if (og p.zA k).Kind = 0 then szE (og p.zA k).zJ else 0) from rfl]; omega
   rw [e]
   by_cases h3 : (og p.zA k).Kind = 0
   · have hz := zd3 (zru h hk h3); rw [dct h3, ifp h3, ifp h3, ctr, z0j N (by omega) (zru h hk h3)]; simp only [obs]; rw [w6e (n := sAt p.zA k + szE (og p.zA k).zJ) (by unfold sAt; omega) (by unfold sAt; omega)]; rfl
   · rw [dcf h3, ifn h3, ifn h3, Int.add_zero]; rfl)
  (by simp only [zl.r2, zl.b2, dcf (show ¬ (p.zA.length : Int) < (p.zA.length : Int) by omega), cfa]) (N := N) (by omega)
 simp only [nc0] at l2
 rw [show ((List.range p.zA.length).map (A1 p.zA p.zA.length)) = (List.range p.zA.length).map (A2 p.zA 0) from zfk fun i hi => by
  unfold A1 A2; rw [ifn (show ¬ (i < 0 ∧ (og p.zA i).Kind = 0) by omega)]
  by_cases h3 : (og p.zA i).Kind = 3
  · rw [ifp ⟨hi, h3⟩, ifp h3]
  · rw [ifn, ifn h3], show pAt p.zA p.zA.length = sAt p.zA 0 by unfold sAt; rw [show zi9 p.zA 0 = 0 from rfl, Int.add_zero], l2]
 simp only [obs]
 have l3 := zas (f := zl.r4 N) (fun k => (p.zA, (List.range p.zA.length).map (A3 p.zA k), sAt p.zA p.zA.length, p.zA, (p.zA.length : Int), (k : Int))) p.zA.length
  (fun k hk => by
   have h1 := hp p.zA.length; simp only [zl.r4, zl.b4, zal, zmo hk, obs, dct (show (k : Int) < (p.zA.length : Int) by omega), ctr, z0l, ifp (show (0 : Int) ≤ (k : Int) by omega), ifp (show (k : Int) < (p.zA.length : Int) by omega), itn, zmf _ hk, z6k, zaa]; rw [w6e (n := (k : Int) + 1)]
   by_cases h3 : (og p.zA k).Kind = 1
   · obtain ⟨b, e1, e2, e3, e4, e5⟩ := zu9 h hk h3; have hz := zd3 (zru h (show b < p.zA.length by omega) e3); have hz2 := zd3 ((zhr h hk).ty (by rw [h3]; rfl)).1; have h2 := hs b (by omega); rw [dct h3, ifp h3, ctr, zyi N _ (by omega) (by omega), e1]; simp only [obs]; rw [ifp, ifp, itn, zmf _ (by omega), z18 h k (by omega) e3]; simp only [obs]; rw [w6e (n := sAt p.zA b + (og p.zA k).Offset) (by unfold sAt; omega) (by unfold sAt; omega)]; rfl
   · rw [dcf h3, ifn h3]; rfl)
  (by simp only [zl.r4, zl.b4, dcf (show ¬ (p.zA.length : Int) < (p.zA.length : Int) by omega), cfa]) (N := N) (by omega)
 simp only [nc0] at l3
 rw [show ((List.range p.zA.length).map (A2 p.zA p.zA.length)) = (List.range p.zA.length).map (A3 p.zA 0) from zfk fun i hi => by
  unfold A3; rw [ifn (show ¬ (i < 0 ∧ (og p.zA i).Kind = 1) by omega)], l3]
 simp only [obs, zaad]
 have h1 := hp p.zA.length
 have h2 := hs p.zA.length (by omega)
 rw [z3a (by unfold sAt; omega) (by unfold sAt; omega)]
 rfl
theorem zd9 (N : Nat) (hN : 1100 < N) {p : zB} (h : zmv p) : zp N p = some (zko p.zA, zh7 p.zA) := by
 have hl := h.ops
 have hp := fun k => znc p.zA k
 have hs := fun k hk => zlx h k hk
 unfold zp
 rw [ifp, ifp, itn, zao (by omega), ctr, z52]
 have l1 := zas (f := zp.r0 N) (fun k => ((List.range p.zA.length).map (B1 p.zA k), pAt p.zA k, (k : Int), p)) p.zA.length
  (fun k hk => by
   have h1 := hp k; simp only [zp.r0, zp.b0, zal, zmo hk, obs, dct (show (k : Int) < (p.zA.length : Int) by omega), ctr, List.length_set, z0l, ifp (show (0 : Int) ≤ (k : Int) by omega), ifp (show (k : Int) < (p.zA.length : Int) by omega), itn, zmf _ hk, zads, zaa]; rw [w6e (n := (k : Int) + 1), w6e (n := pAt p.zA k + 16)]; rw [show pAt p.zA (k + 1) = pAt p.zA k + (if (og p.zA k).Kind = 3 then 16 else 0) from rfl]
   by_cases h3 : (og p.zA k).Kind = 3
   · rw [dct h3, ifp h3, ifp h3, ctr, zot, zmf _ hk]; rfl
   · rw [dcf h3, ifn h3, ifn h3, Int.add_zero]; rfl)
  (by simp only [zp.r0, zp.b0, dcf (show ¬ (p.zA.length : Int) < (p.zA.length : Int) by omega), cfa]) (N := N) (by omega)
 simp only [nc0] at l1
 rw [show ((List.range p.zA.length).map fun _ => (0 : Int)) = (List.range p.zA.length).map (B1 p.zA 0) from zfk fun i _ => by unfold B1; rw [ifn]]
 rw [show pAt p.zA 0 = 0 from rfl] at l1
 rw [l1]
 simp only [obs]
 have l2 := zas (f := zp.r2 N) (fun k => ((List.range p.zA.length).map (A2 p.zA k), sAt p.zA k, (k : Int), p)) p.zA.length
  (fun k hk => by
   have h1 := hp p.zA.length; have h2 := hs k (by omega); simp only [zp.r2, zp.b2, zal, zmo hk, obs, dct (show (k : Int) < (p.zA.length : Int) by omega), ctr, z0l, ifp (show (0 : Int) ≤ (k : Int) by omega), ifp (show (k : Int) < (p.zA.length : Int) by omega), itn, zmf _ hk, z6l, zaa]; rw [w6e (n := (k : Int) + 1)]; have e : sAt p.zA (k + 1) = sAt p.zA k + (if (og p.zA k).Kind = 0 then szE (og p.zA k).zJ else 0) := by
    unfold sAt; rw [show zi9 p.zA (k + 1) = zi9 p.zA k + (if (og p.zA k).Kind = 0 then szE (og p.zA k).zJ else 0) from rfl]; omega
   rw [e]
   by_cases h3 : (og p.zA k).Kind = 0
   · have hz := zd3 (zru h hk h3); rw [dct h3, ifp h3, ifp h3, ctr, zoj (zru h hk h3)]; simp only [obs]; rw [w6e (n := sAt p.zA k + szE (og p.zA k).zJ) (by unfold sAt; omega) (by unfold sAt; omega)]; rfl
   · rw [dcf h3, ifn h3, ifn h3, Int.add_zero]; rfl)
  (by simp only [zp.r2, zp.b2, dcf (show ¬ (p.zA.length : Int) < (p.zA.length : Int) by omega), cfa]) (N := N) (by omega)
 simp only [nc0] at l2
 rw [show ((List.range p.zA.length).map (B1 p.zA p.zA.length)) = (List.range p.zA.length).map (A2 p.zA 0) from zfk fun i hi => by
  unfold B1 A2; rw [ifn (show ¬ (i < 0 ∧ (og p.zA i).Kind = 0) by omega), ifp hi], show pAt p.zA p.zA.length = sAt p.zA 0 by unfold sAt; rw [show zi9 p.zA 0 = 0 from rfl, Int.add_zero], l2]
 simp only [obs]
 have l3 := zas (f := zp.r4 N) (fun k => ((List.range p.zA.length).map (A3 p.zA k), sAt p.zA p.zA.length, (k : Int), p)) p.zA.length
  (fun k hk => by
   have h1 := hp p.zA.length; simp only [zp.r4, zp.b4, zal, zmo hk, obs, dct (show (k : Int) < (p.zA.length : Int) by omega), ctr, z0l, ifp (show (0 : Int) ≤ (k : Int) by omega), ifp (show (k : Int) < (p.zA.length : Int) by omega), itn, zmf _ hk, z6k, zaa]; rw [w6e (n := (k : Int) + 1)]
   by_cases h3 : (og p.zA k).Kind = 1
   · obtain ⟨b, e1, e2, e3, e4, e5⟩ := zu9 h hk h3; have hz := zd3 (zru h (show b < p.zA.length by omega) e3); have hz2 := zd3 ((zhr h hk).ty (by rw [h3]; rfl)).1; have h2 := hs b (by omega); rw [dct h3, ifp h3, ctr, z2d N p (by omega) (by omega), e1]; simp only [obs]; rw [ifp, ifp, itn, zmf _ (by omega), z18 h k (by omega) e3]; simp only [obs]; rw [w6e (n := sAt p.zA b + (og p.zA k).Offset) (by unfold sAt; omega) (by unfold sAt; omega)]; rfl
   · rw [dcf h3, ifn h3]; rfl)
  (by simp only [zp.r4, zp.b4, dcf (show ¬ (p.zA.length : Int) < (p.zA.length : Int) by omega), cfa]) (N := N) (by omega)
 simp only [nc0] at l3
 rw [show ((List.range p.zA.length).map (A2 p.zA p.zA.length)) = (List.range p.zA.length).map (A3 p.zA 0) from zfk fun i hi => by
  unfold A3; rw [ifn (show ¬ (i < 0 ∧ (og p.zA i).Kind = 1) by omega)], l3]
 simp only [obs, zaad]
 have h1 := hp p.zA.length
 have h2 := hs p.zA.length (by omega)
 rw [z3a (by unfold sAt; omega) (by unfold sAt; omega)]
 rfl
def gO (p : zB) (i : Nat) : Option (zM × Int) := if opE p i = 0 then none else some (⟨1, i⟩, opE p i)
def gX (p : zB) (i : Nat) : Option (zM × Int) := (p.zG[i]?).bind fun x => if zra p x = 0 then none else some (⟨2, i⟩, zra p x)
def gMo (p : zB) (i : Nat) : Option (zM × Int) := (p.zL[i]?).bind fun m => if zt4 p m = true then none else some (⟨3, i⟩, 3)
def zkb (p : zB) : zM × Int :=
 if p.zA.length > 24 ∨ p.zG.length > 40 ∨ p.zL.length > 6 then (⟨0, 0⟩, 2)
 else if p.zG.length = 0 then (⟨0, 0⟩, 1)
 else match (List.range p.zA.length).findSome? (gO p) with
  | some r => r
  | none => if zh7 p.zA > 24 then (⟨0, 0⟩, 30) else match (List.range p.zG.length).findSome? (gX p) with
   | some r => r
   | none => match (List.range p.zL.length).findSome? (gMo p) with
    | some r => r
    | none => (⟨0, 0⟩, 0)
theorem z0r {p : zB} {i : Nat} (h : gO p i = none) : opE p i = 0 := by
 unfold gO at h
 split at h
 · assumption
 · cases h
theorem z31 (p : zB) : ((decide ((p.zA.length : Int) > 24) || decide ((p.zG.length : Int) > 40)) || decide ((p.zL.length : Int) > 6)) = decide (p.zA.length > 24 ∨ p.zG.length > 40 ∨ p.zL.length > 6) := by
 rw [← Bool.decide_or, ← Bool.decide_or]
 congr 1
 apply propext
 omega
theorem zaa5 (N : Nat) (hN : 1100 < N) (p : zB) : ze N p = some (zkb p) := by
 unfold ze zkb
 simp only [orB, obs, z31, zwx]
 rw [ztw N _ (by simp; omega) (by simp)]
 simp only [obs]
 rw [zwa _ _ _ _ (by decide) (by decide)]
 by_cases hb : p.zA.length > 24 ∨ p.zG.length > 40 ∨ p.zL.length > 6
 · rw [ifp hb, dct hb]; rfl
 rw [ifn hb, dcf hb]
 by_cases h0 : p.zG.length = 0
 · rw [ifp h0, zaa, dct (by omega)]; rfl
 rw [ifn h0, zaa, dcf (by omega)]
 simp only [cfa, bsf]
 have mk : ∀ i, (∀ j, j < i → gO p j = none) → Upto p i := fun i h => { ops := by omega, ins := by omega, ok := fun j hj => z0r (h j hj) }
 have l1 := zqh (f := ze.r0 N) (fun i => ((p.zA.length : Int), (i : Int), p, (⟨0, 0⟩ : zM))) (gO p) p.zA.length
  (fun i hi hp => by
   simp only [ze.r0, ze.b0, dct (show (i : Int) < (p.zA.length : Int) by omega), ctr]; rw [zaf7 N hN (mk i hp) hi, w6e]; unfold gO; simp only [obs, zb5]
   by_cases h : opE p i = 0
   · rw [ifp h, dcf (fun hh => hh h)]; rfl
   · rw [ifn h, dct h]; rfl)
  (fun _ => by simp only [ze.r0, ze.b0, dcf (show ¬ (p.zA.length : Int) < (p.zA.length : Int) by omega), cfa]) (N := N) (by omega)
 simp only [nc0] at l1
 rw [l1]
 cases hf : (List.range p.zA.length).findSome? (gO p) with
 | some r => rfl
 | none =>
  have hu : zmv p := mk _ (zjh.1 hf); simp only [obs, zee]; rw [zvx N hN hu]; simp only [obs]
  by_cases hq : zh7 p.zA > 24
  · rw [ifp hq, dct hq]; rfl
  rw [ifn hq, dcf hq]; simp only [cfa]; have l2 := zcc (f := ze.r2 N) (fun i => (p.zG, (p.zG.length : Int), (i : Int), p, (⟨0, 0⟩ : zM))) (gX p) p.zG.length
   (fun i hi => by
    have hx := lge hi; simp only [ze.r2, ze.b2, dct (show (i : Int) < (p.zG.length : Int) by omega), ctr, zal, hx, obs, gX]; rw [zaeo N hN hu, w6e]; simp only [obs, zb5]
    by_cases h : zra p p.zG[i] = 0
    · rw [ifp h, dcf (fun hh => hh h)]; rfl
    · rw [ifn h, dct h]; rfl)
   (by simp only [ze.r2, ze.b2, dcf (show ¬ (p.zG.length : Int) < (p.zG.length : Int) by omega), cfa]) (N := N) (by omega)
  simp only [nc0] at l2; rw [l2]; cases (List.range p.zG.length).findSome? (gX p) with
  | some r => rfl
  | none =>
   simp only [obs, zee]; have l3 := zcc (f := ze.r4 N) (fun i => (p.zL, (p.zL.length : Int), (i : Int), p, (⟨0, 0⟩ : zM))) (gMo p) p.zL.length
    (fun i hi => by
     have hx := lge hi; simp only [ze.r4, ze.b4, dct (show (i : Int) < (p.zL.length : Int) by omega), ctr, zal, hx, obs, gMo]; rw [zaen hu, w6e]; simp only [obs]; cases zt4 p p.zL[i] <;> rfl)
    (by simp only [ze.r4, ze.b4, dcf (show ¬ (p.zL.length : Int) < (p.zL.length : Int) by omega), cfa]) (N := N) (by omega)
   simp only [nc0] at l3; rw [l3]; cases (List.range p.zL.length).findSome? (gMo p) <;> rfl
theorem z66 (N : Nat) (hN : 1100 < N) (p : zB) : zae N p = some (zkb p) := by
 unfold zae zkb
 simp only [orB, obs, z31]
 by_cases hb : p.zA.length > 24 ∨ p.zG.length > 40 ∨ p.zL.length > 6
 · rw [ifp hb, dct hb]; rfl
 rw [ifn hb, dcf hb]
 by_cases h0 : p.zG.length = 0
 · rw [ifp h0, zaa, dct (by omega)]; rfl
 rw [ifn h0, zaa, dcf (by omega)]
 simp only [cfa]
 have mk : ∀ i, (∀ j, j < i → gO p j = none) → Upto p i := fun i h => { ops := by omega, ins := by omega, ok := fun j hj => z0r (h j hj) }
 have l1 := zqh (f := zae.r0 N) (fun i => ((i : Int), p, (⟨0, 0⟩ : zM))) (gO p) p.zA.length
  (fun i hi hp => by
   simp only [zae.r0, zae.b0, dct (show (i : Int) < (p.zA.length : Int) by omega), ctr]; rw [zafu N hN (mk i hp) hi, w6e]; unfold gO; simp only [obs, zb5]
   by_cases h : opE p i = 0
   · rw [ifp h, dcf (fun hh => hh h)]; rfl
   · rw [ifn h, dct h]; rfl)
  (fun _ => by simp only [zae.r0, zae.b0, dcf (show ¬ (p.zA.length : Int) < (p.zA.length : Int) by omega), cfa]) (N := N) (by omega)
 simp only [nc0] at l1
 rw [l1]
 cases hf : (List.range p.zA.length).findSome? (gO p) with
 | some r => rfl
 | none =>
  have hu : zmv p := mk _ (zjh.1 hf); simp only [obs, zee]; rw [zd9 N hN hu]; simp only [obs]
  by_cases hq : zh7 p.zA > 24
  · rw [ifp hq, dct hq]; rfl
  rw [ifn hq, dcf hq]; simp only [cfa]; have l2 := zcc (f := zae.r2 N) (fun i => ((i : Int), p, (⟨0, 0⟩ : zM))) (gX p) p.zG.length
   (fun i hi => by
    have hx := lge hi; simp only [zae.r2, zae.b2, dct (show (i : Int) < (p.zG.length : Int) by omega), ctr, zal, hx, obs, gX]; rw [zaav N hN hu, w6e]; simp only [obs, zb5]
    by_cases h : zra p p.zG[i] = 0
    · rw [ifp h, dcf (fun hh => hh h)]; rfl
    · rw [ifn h, dct h]; rfl)
   (by simp only [zae.r2, zae.b2, dcf (show ¬ (p.zG.length : Int) < (p.zG.length : Int) by omega), cfa]) (N := N) (by omega)
  simp only [nc0] at l2; rw [l2]; cases (List.range p.zG.length).findSome? (gX p) with
  | some r => rfl
  | none =>
   simp only [obs, zee]; have l3 := zcc (f := zae.r4 N) (fun i => ((i : Int), p, (⟨0, 0⟩ : zM))) (gMo p) p.zL.length
    (fun i hi => by
     have hx := lge hi; simp only [zae.r4, zae.b4, dct (show (i : Int) < (p.zL.length : Int) by omega), ctr, zal, hx, obs, gMo, zhb, orB, z7l hu]; rw [zaet, w6e]; cases zt4 p p.zL[i] <;> rfl)
    (by simp only [zae.r4, zae.b4, dcf (show ¬ (p.zL.length : Int) < (p.zL.length : Int) by omega), cfa]) (N := N) (by omega)
   simp only [nc0] at l3; rw [l3]; cases (List.range p.zL.length).findSome? (gMo p) <;> rfl
theorem z3g (N : Nat) (hN : 1100 < N) (p : zB) : zel N p = some (zkb p).2 := by
 unfold zel
 rw [zaa5 N hN]; rfl
theorem zaax (N : Nat) (hN : 1100 < N) (p : zB) : zm9 N p = some (zkb p).2 := by
 unfold zm9
 rw [z66 N hN]; rfl
structure ProgV (p : zB) : Prop where
 ok : zmv p
 n24 : p.zA.length ≤ 24
 i40 : p.zG.length ≤ 40
 i0 : 0 < p.zG.length
 m6 : p.zL.length ≤ 6
 quads : zh7 p.zA ≤ 24
 ins : ∀ x ∈ p.zG, zra p x = 0
 mon : ∀ m ∈ p.zL, zt4 p m = true
theorem zael {p : zB} (h : (zkb p).2 = 0) : ProgV p := by
 unfold zkb at h
 split at h
 · cases h
 split at h
 · cases h
 rename_i hb h0
 split at h
 · rename_i r hr
   exfalso
   obtain ⟨i, _, hi, _⟩ := zjg hr; unfold gO at hi; split at hi
   · cases hi
   · rename_i hne; cases hi; exact hne h
 · rename_i hf; split at h
   · cases h
   rename_i hq; split at h
   · rename_i r hr
     exfalso
     obtain ⟨i, _, hi, _⟩ := zjg hr; unfold gX at hi; rw [Option.bind_eq_some_iff] at hi; obtain ⟨x, _, hi⟩ := hi; split at hi
     · cases hi
     · rename_i hne; cases hi; exact hne h
   · rename_i hf2; split at h
     · rename_i r hr
       exfalso
       obtain ⟨i, _, hi, _⟩ := zjg hr; unfold gMo at hi; rw [Option.bind_eq_some_iff] at hi; obtain ⟨x, _, hi⟩ := hi; split at hi
       · cases hi
       · cases hi; cases h
     · rename_i hf3; refine { ok := { ops := by omega, ins := by omega, ok := fun j hj => z0r (zjh.1 hf j hj) }, n24 := by omega, i40 := by omega, i0 := by omega, m6 := by omega, quads := by omega, ins := fun x hx => ?_, mon := fun m hm => ?_ }
       · obtain ⟨i, hi⟩ := List.getElem?_of_mem hx; have := zjh.1 hf2 i (gei hi).1; unfold gX at this; rw [hi, obs] at this; split at this
         · assumption
         · cases this
       · obtain ⟨i, hi⟩ := List.getElem?_of_mem hm; have := zjh.1 hf3 i (gei hi).1; unfold gMo at this; rw [hi, obs] at this; split at this
         · assumption
         · cases this
theorem zlz {b : Bool} {p q : Nat} {t : DataType} {half : Bool} (h : (zhj b p q t half).2 = 0) : -((10 ^ t.Length.toNat : Nat) : Int) < (zhj b p q t half).1.N ∧ (zhj b p q t half).1.N < ((10 ^ t.Length.toNat : Nat) : Int) := by
 unfold zhj at h ⊢
 have := zcb t.Length.toNat
 generalize (p * 10 ^ t.Scale.toNat / q + cond (half && decide (q ≤ p * 10 ^ t.Scale.toNat % q + p * 10 ^ t.Scale.toNat % q)) 1 0) = Q at *
 generalize 10 ^ t.Length.toNat = T at *
 split at h
 · cases h
 · rename_i hn; rw [ifn hn]; cases b
   · show -(T : Int) < (Q : Int) ∧ (Q : Int) < T; omega
   · show -(T : Int) < -(Q : Int) ∧ -(Q : Int) < T; omega
theorem z83 (b : Bool) (p q : Nat) (t : DataType) (half : Bool) : (zhj b p q t half).1 = ⟨(zhj b p q t half).1.N, ⟨#[]⟩⟩ := by
 unfold zhj
 split <;> rfl
theorem z3c (b : Bool) (p q : Nat) (t : DataType) (half : Bool) : (zhj b p q t half).2 = 0 ∨ (zhj b p q t half).2 = 19 := by
 unfold zhj
 split
 · exact .inr rfl
 · exact .inl rfl
theorem zafa (x : Number) (t : DataType) (half : Bool) : (zkp x t half).1 = ⟨(zkp x t half).1.N, ⟨#[]⟩⟩ := z83 _ _ _ _ _
theorem z4s (x : Number) (t : DataType) (half : Bool) : (zkp x t half).2 = 0 ∨ (zkp x t half).2 = 19 := z3c _ _ _ _ _
theorem z7w {x : Number} {t : DataType} {half : Bool} (h : (zkp x t half).2 = 0) : -((10 ^ t.Length.toNat : Nat) : Int) < (zkp x t half).1.N ∧ (zkp x t half).1.N < ((10 ^ t.Length.toNat : Nat) : Int) := zlz h
theorem z5k {op : Int} {a b : Number} {t : DataType} {half : Bool} (h : (zi7 op a b t half).2 = 0) : -((10 ^ t.Length.toNat : Nat) : Int) < (zi7 op a b t half).1.N ∧ (zi7 op a b t half).1.N < ((10 ^ t.Length.toNat : Nat) : Int) := by
 unfold zi7 at h ⊢
 by_cases h1 : (op = 3 ∨ op = 4) ∧ b.N = 0
 · rw [ifp h1] at h; cases h
 · rw [ifn h1] at h ⊢
   by_cases h2 : op = 0
   · rw [ifp h2] at h ⊢; exact zlz h
   · rw [ifn h2] at h ⊢
     by_cases h3 : op = 1
     · rw [ifp h3] at h ⊢; exact zlz h
     · rw [ifn h3] at h ⊢
       by_cases h4 : op = 2
       · rw [ifp h4] at h ⊢; exact zlz h
       · rw [ifn h4] at h ⊢
         by_cases h5 : op = 3
         · rw [ifp h5] at h ⊢; exact zlz h
         · rw [ifn h5] at h ⊢; exact zlz h
theorem zadg (op : Int) (a b : Number) (t : DataType) (half : Bool) : (zi7 op a b t half).1 = ⟨(zi7 op a b t half).1.N, ⟨#[]⟩⟩ := by
 unfold zi7 zvv
 repeat' split
 all_goals first | rfl | exact z83 _ _ _ _ _
theorem z9z (op : Int) (a b : Number) (t : DataType) (half : Bool) : (zi7 op a b t half).2 = 0 ∨ (zi7 op a b t half).2 = 19 ∨ (zi7 op a b t half).2 = 20 := by
 have := fun b' p q => z3c b' p q t half
 unfold zi7 zvv
 repeat' split
 all_goals first | exact .inr (.inr rfl) | exact (this _ _ _).elim (fun h => .inl h) (fun h => .inr (.inl h))
theorem z9u {t : DataType} (ht : zh6 t) {b : ByteArray} (h4 : (b.size : Int) = szE t) : ∀ n, zlo t b = some n → -((10 ^ t.Length.toNat : Nat) : Int) < n ∧ n < ((10 ^ t.Length.toNat : Nat) : Int) := by
 intro n hn
 obtain ⟨⟨l1, l2⟩, l3, l4⟩ := ze6 ht
 unfold zlo at hn
 split at hn
 · split at hn
   · rename_i hh; cases hn; exact hh
   · cases hn
 · rename_i hk3; have key : ∀ l : List Int, (∀ d ∈ l, 0 ≤ d ∧ d ≤ 15) → (List.range (l.length - 1)).any (zid l t.Length) = false → (l.length : Int) - 1 - t.Length ≤ 1 → 0 ≤ ze7 (l.take (l.length - 1)) ∧ ze7 (l.take (l.length - 1)) < ((10 ^ t.Length.toNat : Nat) : Int) := by
    intro l hr hg hle; rw [List.any_eq_false] at hg; have g9 : ∀ i, i < l.length - 1 → 0 ≤ l.getD i 0 ∧ l.getD i 0 ≤ 9 := fun i hi => by
     have h1 := hg i (List.mem_range.2 hi); unfold zid at h1; have hx : l[i]? = some (l.getD i 0) := by rw [gdd, lge (by omega)]; rfl
     have h2 := hr _ (lmg hx); rw [Bool.or_eq_true, decide_eq_true_eq] at h1; omega
    have step : ∀ i, i ≤ l.length - 1 → 0 ≤ ze7 (l.take i) ∧ (ze7 (l.take i) < ((10 ^ (i - ((l.length : Int) - 1 - t.Length).toNat) : Nat) : Int)) := by
     intro i
     induction i with
     | zero => intro _; rw [List.take_zero]; exact ⟨by decide, by simp [ze7]⟩
     | succ i ih =>
      intro hi; have hx : l[i]? = some (l.getD i 0) := by rw [gdd, lge (by omega)]; rfl
      obtain ⟨i1, i2⟩ := ih (by omega); have hd := g9 i (by omega); rw [zd7 l i hx, zn3]; refine ⟨by omega, ?_⟩
      by_cases hlead : (i : Int) < (l.length : Int) - 1 - t.Length
      · have h1 := hg i (List.mem_range.2 (by omega)); unfold zid at h1; rw [Bool.or_eq_true, Bool.and_eq_true, decide_eq_true_eq, decide_eq_true_eq, decide_eq_true_eq] at h1; have h0 : l.getD i 0 = 0 := by
         refine cbc fun h2 => h1 (.inr ⟨by omega, hlead⟩)
        rw [show i - ((l.length : Int) - 1 - t.Length).toNat = 0 by omega, Nat.pow_zero] at i2; rw [h0, show i + 1 - ((l.length : Int) - 1 - t.Length).toNat = 0 by omega, Nat.pow_zero]; omega
      · rw [show i + 1 - ((l.length : Int) - 1 - t.Length).toNat = (i - ((l.length : Int) - 1 - t.Length).toNat) + 1 by omega, Nat.pow_succ]; omega
    obtain ⟨s1, s2⟩ := step (l.length - 1) (Nat.le_refl _); refine ⟨s1, ?_⟩; have hpw : 10 ^ (l.length - 1 - ((l.length : Int) - 1 - t.Length).toNat) ≤ 10 ^ t.Length.toNat := zb8 (by omega); omega
   have hbs := h4; rw [zqr ht] at hbs; obtain ⟨_, k1, k2⟩ := ht; have hlen : ((if t.Kind = 1 then zh0 (bl b) else zd6 (bl b)).length : Int) - 1 - t.Length ≤ 1 := by
    by_cases hk1 : t.Kind = 1
    · rw [ifp hk1] at hbs; rw [ifp hk1, zor, zam]; omega
    · rw [ifn hk1, ifn hk3] at hbs; rw [ifn hk1]; unfold zd6 zfj; rw [lna, lnm, zam, lns]; omega
   have hrange : ∀ d ∈ (if t.Kind = 1 then zh0 (bl b) else zd6 (bl b)), 0 ≤ d ∧ d ≤ 15 := by
    split
    · exact zpv.1
    · exact zpv.2
   generalize (if t.Kind = 1 then zh0 (bl b) else zd6 (bl b)) = l at *; unfold zwd at hn
   by_cases hbad : (List.range (l.length - 1)).any (zid l t.Length) = true ∨ zj2 l < 10
   · rw [ifp hbad] at hn; cases hn
   · rw [ifn hbad] at hn; rw [not_or] at hbad; obtain ⟨q1, q2⟩ := key l hrange (by simpa using hbad.1) hlen; have hn2 := Option.some.inj hn; split at hn2 <;> omega
def mI (p : zB) (s : zC) (e : Int) : zD := ⟨p, s, zko p.zA, e⟩
def mS (s : zC) (t : Storage) : zC := ⟨t, s.At, s.Stack, s.Lines, s.Status, s.Exception, s.Steps⟩
def mK (s : zC) (l : List Int) : zC := ⟨s.Storage, s.At, l, s.Lines, s.Status, s.Exception, s.Steps⟩
def mL (s : zC) (l : List ByteArray) : zC := ⟨s.Storage, s.At, s.Stack, l, s.Status, s.Exception, s.Steps⟩
def mT (s : zC) (k : Int) : zC := ⟨s.Storage, s.At, s.Stack, s.Lines, k, s.Exception, s.Steps⟩
def mA (s : zC) (k : Int) : zC := ⟨s.Storage, k, s.Stack, s.Lines, s.Status, s.Exception, s.Steps⟩
def mE (s : zC) (k : Int) : zC := ⟨s.Storage, s.At, s.Stack, s.Lines, s.Status, k, s.Steps⟩
def mP (s : zC) (k : Int) : zC := ⟨s.Storage, s.At, s.Stack, s.Lines, s.Status, s.Exception, k⟩
theorem z1p (p : zB) (s : zC) (n : Int) : zr (mI p s 0) n = some (mI p s n) := rfl
theorem zpy (p : zB) (s : zC) {e : Int} (he : e ≠ 0) (n : Int) : zr (mI p s e) n = some (mI p s e) := by
 unfold zr
 rw [show (mI p s e).raised = e from rfl, zaa, dcf he]
 rfl
structure StoP (p : zB) (t : Storage) : Prop where
 sto : zk8 t
 size : (t.Bytes.size : Int) = 16 * zh7 p.zA
section
variable {p : zB}
theorem zxx (h : ProgV p) : 0 ≤ sAt p.zA p.zA.length ∧ sAt p.zA p.zA.length ≤ 16 * zh7 p.zA := by
 have h1 := znc p.zA p.zA.length
 have h2 := zlx h.ok p.zA.length (Nat.le_refl _)
 unfold zh7
 have : sAt p.zA p.zA.length = pAt p.zA p.zA.length + zi9 p.zA p.zA.length := rfl
 omega
theorem zja {i : Nat} (hi : i < p.zA.length) : idx (zko p.zA) (i : Int) = some (zck p.zA i) := by
 rw [zal]
 exact zmf _ hi
theorem zsv (h : ProgV p) {i : Nat} (hi : i < p.zA.length) (h3 : (og p.zA i).Kind = 3) {t : Storage} (hs : StoP p t) : zpa t (zck p.zA i) = true ∧ 0 ≤ zck p.zA i ∧ zck p.zA i % 16 = 0 ∧ zck p.zA i + 16 ≤ (t.Bytes.size : Int) := by
 have e : zck p.zA i = pAt p.zA i := by unfold zck; rw [ifp h3]
 have b1 := znc p.zA i
 have b2 := z3j p.zA (show i + 1 ≤ p.zA.length by omega)
 have e2 : pAt p.zA (i + 1) = pAt p.zA i + 16 := by
  show pAt p.zA i + (if (og p.zA i).Kind = 3 then 16 else 0) = _; rw [ifp h3]
 have b3 := zlx h.ok p.zA.length (Nat.le_refl _)
 have b4 := zxx h
 have e4 : sAt p.zA p.zA.length = pAt p.zA p.zA.length + zi9 p.zA p.zA.length := rfl
 have hz := hs.size
 rw [e]
 refine ⟨?_, b1.1, b1.2.2, by omega⟩
 unfold zpa
 rw [dct b1.1, dct b1.2.2, dct (by omega)]
 rfl
theorem zt6 (h : ProgV p) {i : Nat} (hi : i < p.zA.length) (hk : (og p.zA i).Kind = 0 ∨ (og p.zA i).Kind = 1) {t : Storage} (hs : StoP p t) : 0 ≤ zck p.zA i ∧ zck p.zA i + szE (og p.zA i).zJ ≤ (t.Bytes.size : Int) := by
 have b1 := znc p.zA p.zA.length
 have b4 := zxx h
 have hz := hs.size
 have key : ∀ j, j < p.zA.length → (og p.zA j).Kind = 0 → 0 ≤ sAt p.zA j ∧ sAt p.zA j + szE (og p.zA j).zJ ≤ (t.Bytes.size : Int) := by
  intro j hj h0; have b2 := zlx h.ok j (by omega); have b3 := z07 h.ok (Nat.le_refl p.zA.length) (show j + 1 ≤ p.zA.length by omega); have e2 : zi9 p.zA (j + 1) = zi9 p.zA j + szE (og p.zA j).zJ := by
   show zi9 p.zA j + (if (og p.zA j).Kind = 0 then szE (og p.zA j).zJ else 0) = _; rw [ifp h0]
  have e4 : sAt p.zA p.zA.length = pAt p.zA p.zA.length + zi9 p.zA p.zA.length := rfl; have e5 : sAt p.zA j = pAt p.zA p.zA.length + zi9 p.zA j := rfl; omega
 unfold zck
 rcases hk with h0 | h1
 · rw [ifn, ifp h0]; exact key i hi h0
 · obtain ⟨b, e1, e2, e3, e4, e5⟩ := zu9 h.ok hi h1; have := key b (by omega) e3; rw [ifn, ifn, ifp h1, e1, itn]; have hz := zd3 ((zhr h.ok hi).ty (by rw [h1]; rfl)).1; omega
theorem z36 (N : Nat) (l : List zF) (h : l.length < N) (hl : l.length < 1000000000) (o : zF) : zj N l o = some (nmI l o.Base) := by
 unfold zj nmI
 have l1 := zcc (f := zj.r0 N) (fun i => (l, (l.length : Int), (i : Int), o)) (gNm l o.Base) l.length
  (fun i hi => by
   have hx := lge hi; simp only [zj.r0, zj.b0, zeg, zal, hx, obs, dct (show (i : Int) < (l.length : Int) by omega), ctr, gNm]; rw [w6e]; cases (l[i].Name.toList == o.Base.toList) <;> rfl)
  (by simp only [zj.r0, zj.b0, dcf (show ¬ (l.length : Int) < (l.length : Int) by omega), cfa]) h
 simp only [nc0] at l1
 rw [l1]
 cases (List.range l.length).findSome? (gNm l o.Base) <;> rfl
theorem z0o (N : Nat) (hN : 10 < N) {o : zF} (h : zeh o.zJ = 0) : zc9 N o = some (szE o.zJ) := by
 unfold zc9 zgr
 rw [znf N hN, h]
 simp [zwz h]
theorem zqi (N : Nat) (hN : 2000 < N) (h : ProgV p) {s : zC} (hs : StoP p s.Storage) {i : Nat} (hi : i < p.zA.length) (h3 : (og p.zA i).Kind = 3) (e : Int) :
 zbq N (mI p s e) (i : Int) = some (match ldV s.Storage (zck p.zA i) with | some o => (zhw o, zck p.zA i, mI p s e) | none => (zyx, zck p.zA i, mI p s (if e = 0 then 4 else e))) := by
 unfold zbq
 rw [show (mI p s e).layout = zko p.zA from rfl, zja hi, show (mI p s e).zC.Storage = s.Storage from rfl]
 simp only [obs]
 rw [zacd N hN hs.sto (zsv h hi h3 hs).1]
 cases ldV s.Storage (zck p.zA i) with
 | some o => rfl
 | none =>
  simp only [obs]
  by_cases he : e = 0
  · subst he; rfl
  · rw [zpy p s he, ifn he]; rfl
def adI (p : zB) (t : Storage) (i : Nat) : Except Int Int :=
 if (og p.zA i).Kind = 2 then (match ldV t (zck p.zA (nmI p.zA (og p.zA i).Base).toNat) with
  | none => .error 4
  | some o => if o + (og p.zA i).Offset > (t.Bytes.size : Int) - szE (og p.zA i).zJ then .error 5 else .ok (o + (og p.zA i).Offset))
 else .ok (zck p.zA i)
theorem zfx {i : Nat} (hi : i < p.zA.length) : idx p.zA (i : Int) = some (og p.zA i) := by
 rw [zal, zmo hi]
theorem z9l {k : Int} (h : isS k = true) : k = 0 ∨ k = 1 ∨ k = 2 := by
 unfold isS at h
 simp only [Bool.or_eq_true, decide_eq_true_eq] at h
 omega
theorem zpc {k : Int} (h : isS k = true) : isD k = true := by unfold isD; rw [h]; rfl
theorem z0z (N : Nat) (hN : 2000 < N) (h : ProgV p) {s : zC} (hs : StoP p s.Storage) {i : Nat} (hi : i < p.zA.length) (hk : isS (og p.zA i).Kind = true) :
 (∃ e j k, (e = 4 ∨ e = 5) ∧ adI p s.Storage i = .error e ∧ zav N (mI p s 0) (i : Int) = some (j, mI p s e) ∧ zbu N p s (i : Int) = some (k, e)) ∨
 ∃ a, adI p s.Storage i = .ok a ∧ zav N (mI p s 0) (i : Int) = some (a, mI p s 0) ∧ zbu N p s (i : Int) = some (a, 0) ∧ 0 ≤ a ∧ a + szE (og p.zA i).zJ ≤ (s.Storage.Bytes.size : Int) := by
 have hl := hs.sto.le
 have n24 := h.n24
 have hty := ((zhr h.ok hi).ty (zpc hk)).1
 have hsz := zd3 hty
 unfold zav zbu adI
 rw [show (mI p s 0).zB = p from rfl, zfx hi, zd9 N (by omega) h.ok]
 simp only [obs, zb5]
 by_cases h2 : (og p.zA i).Kind = 2
 · rw [ifp h2, dcf (fun hh => hh h2)]; obtain ⟨b, e1, e2, e3, e4, e5⟩ := z0b h.ok hi h2; have hb : b < p.zA.length := by omega
   simp only [cfa]; rw [z36 N _ (by omega) (by omega), z2d N p (by omega) (by omega), e1]; simp only [obs, itn]; rw [zqi N hN h hs hb e3, zja hb]; simp only [obs]; rw [z0h N hN hs.sto (zsv h hb e3 hs).1]; cases hld : ldV s.Storage (zck p.zA b) with
   | none => exact .inl ⟨4, _, _, .inl rfl, rfl, rfl, rfl⟩
   | some o =>
    have ho := zv5 hs.sto hld; simp only [obs, show (zhw o).Address.Offset = o from rfl, show (mI p s 0).raised = 0 from rfl, show (mI p s 0).zC = s from rfl, bsf, bst, ctr, cfa]; rw [z0o N (by omega) hty, zoj hty]; simp only [obs]; rw [w6e (n := o + (og p.zA i).Offset), w6e (n := (s.Storage.Bytes.size : Int) - szE (og p.zA i).zJ)]; unfold zkt; rw [zhb, zhb, w6e (n := (s.Storage.Bytes.size : Int) - (o + (og p.zA i).Offset))]; simp only [obs]
    by_cases hgt : o + (og p.zA i).Offset > (s.Storage.Bytes.size : Int) - szE (og p.zA i).zJ
    · left; rw [dct hgt, ifp hgt]; refine ⟨5, _, 0, .inr rfl, rfl, rfl, ?_⟩
      by_cases h1 : inB (o + (og p.zA i).Offset) 0 (s.Storage.Bytes.size : Int) = true
      · rw [h1, ctr]; rw [show inB (szE (og p.zA i).zJ) 0 ((s.Storage.Bytes.size : Int) - (o + (og p.zA i).Offset)) = false by
         cases hh : inB (szE (og p.zA i).zJ) 0 ((s.Storage.Bytes.size : Int) - (o + (og p.zA i).Offset)) with
         | false => rfl
         | true => have := zbg.1 hh; omega]
        rfl
      · rw [show inB (o + (og p.zA i).Offset) 0 (s.Storage.Bytes.size : Int) = false by simpa using h1]; rfl
    · right; rw [dcf hgt, ifn hgt]; refine ⟨_, rfl, rfl, ?_, by omega, by omega⟩; rw [show inB (o + (og p.zA i).Offset) 0 (s.Storage.Bytes.size : Int) = true from zbg.2 ⟨by omega, by omega⟩, ctr, show inB (szE (og p.zA i).zJ) 0 ((s.Storage.Bytes.size : Int) - (o + (og p.zA i).Offset)) = true from zbg.2 ⟨by omega, by omega⟩]; rfl
 · have hk2 := z9l hk; have hd := zt6 h hi (by omega) hs; rw [ifn h2, dct h2, show (mI p s 0).layout = zko p.zA from rfl, zja hi]; exact .inr ⟨_, rfl, rfl, rfl, hd.1, hd.2⟩
theorem z17 (N : Nat) (hN : 2000 < N) (h : ProgV p) {s : zC} (hs : StoP p s.Storage) {i : Nat} (hi : i < p.zA.length) (hk : isS (og p.zA i).Kind = true) {e : Int} (he : e ≠ 0) :
 ∃ j, zav N (mI p s e) (i : Int) = some (j, mI p s e) := by
 have n24 := h.n24
 unfold zav
 rw [show (mI p s e).zB = p from rfl, zfx hi]
 simp only [obs, zb5]
 by_cases h2 : (og p.zA i).Kind = 2
 · rw [dcf (fun hh => hh h2)]; obtain ⟨b, e1, e2, e3, e4, e5⟩ := z0b h.ok hi h2; have hb : b < p.zA.length := by omega
   simp only [cfa]; rw [z36 N _ (by omega) (by omega), e1]; simp only [obs]; rw [zqi N hN h hs hb e3]; cases hld : ldV s.Storage (zck p.zA b) with
   | none =>
    simp only [obs, ifn he]; rw [show (mI p s e).raised = e from rfl, zaa, dcf he]; exact ⟨_, rfl⟩
   | some o =>
    simp only [obs]; rw [show (mI p s e).raised = e from rfl, zaa, dcf he]; exact ⟨_, rfl⟩
 · rw [dct h2, show (mI p s e).layout = zko p.zA from rfl, zja hi]; exact ⟨_, rfl⟩
end
def zn5 (o : zF) : ByteArray := if o.zJ.Kind = 0 then o.Value.S else zul o.zJ o.Value.N
theorem z7t (N : Nat) (n len : Nat) (hn : n ≤ 1000000000000000000) (hl : len ≤ 300) (hN : len < N) : ∃ l, za2 N (n : Int) (len : Int) = some l := by
 unfold za2
 rw [ifp, ifp, itn, zao (by omega), ctr, w6e]
 obtain ⟨s', h1, _⟩ := z5i (f := za2.r0 N) (fun i s => ∃ q P, s = (((q : Nat) : Int), P, (len : Int) - 1 - (i : Int)) ∧ q ≤ n ∧ P.length = len) len
  (fun i s hi hs => by
   obtain ⟨q, P, rfl, h1, h2⟩ := hs; obtain ⟨x, hx⟩ : ∃ x, P[((len : Int) - 1 - (i : Int)).toNat]? = some x := ⟨_, lge (by omega)⟩; simp only [za2.r0, za2.b0, dct (show (len : Int) - 1 - (i : Int) ≥ 0 by omega), ctr, h2]; rw [ifp, ifp, hx]; simp only [obs]; rw [tde, w6e (n := (q : Int) / 10), w6e (n := (len : Int) - 1 - (i : Int) - 1)]; exact ⟨_, rfl, q / 10, _, by rw [show (q : Int) / 10 = ((q / 10 : Nat) : Int) by omega, show (len : Int) - 1 - (i : Int) - 1 = (len : Int) - 1 - ((i + 1 : Nat) : Int) by omega], by omega, by rw [List.length_set]; exact h2⟩)
  (fun s hs => by
   obtain ⟨q, P, rfl, h1, h2⟩ := hs; exact ⟨_, by simp only [za2.r0, za2.b0, dcf (show ¬ (len : Int) - 1 - (len : Int) ≥ 0 by omega), cfa], q, P, rfl, h1, h2⟩) (N := N) hN (s := ((n : Int), List.replicate len 0, (len : Int) - 1)) ⟨n, _, by rw [show (len : Int) - 1 - ((0 : Nat) : Int) = (len : Int) - 1 by omega], Nat.le_refl _, by rw [lnr]⟩
 rw [h1]
 exact ⟨_, rfl⟩
theorem zacc {t : DataType} {v : Value} (ht : zh6 t) (hv : zjo t v = 0) : v = ⟨v.N, ⟨#[]⟩⟩ ∧ -((10 ^ t.Length.toNat : Nat) : Int) < v.N ∧ v.N < ((10 ^ t.Length.toNat : Nat) : Int) := by
 obtain ⟨_, k1, k2⟩ := ht
 unfold zjo at hv
 rw [ifn] at hv
 split at hv
 · cases hv
 · rename_i h1; split at hv
   · rename_i h2; have := zbg.1 h2; unfold zmp at this; have h3 : v.S = e0 := cbc h1; obtain ⟨n, s⟩ := v; simp only at h3; subst h3; exact ⟨rfl, by omega, by omega⟩
   · cases hv
theorem zst (N : Nat) (hN : 400 < N) {o : zF} (ht : zeh o.zJ = 0) (h4 : o.zJ.Kind ≠ 4) (hv : zjo o.zJ o.Value = 0) : zcq N o.zJ o.Value = some (zn5 o, 0) ∧ zab N o.zJ o.Value = some (zn5 o) ∧ ((zn5 o).size : Int) = szE o.zJ := by
 by_cases h0 : o.zJ.Kind = 0
 · unfold zn5; rw [ifp h0]; have hv' := hv; unfold zjo at hv'; rw [ifp h0] at hv'; have hn : o.Value.N = 0 := by
    refine cbc fun h => ?_; rw [ifp h] at hv'; cases hv'
   rw [ifn (fun h => h hn)] at hv'; have hsz : (o.Value.S.size : Int) = o.zJ.Length := by
    refine cbc fun h => ?_; rw [ifp h] at hv'; cases hv'
   have hlen : 1 ≤ o.zJ.Length ∧ o.zJ.Length ≤ 256 := by
    rcases zlv ht with ⟨_, h⟩ | ⟨h | h, _⟩ | ⟨h, _⟩ | ⟨h, _⟩
    · exact h
    all_goals omega
   refine ⟨?_, ?_, ?_⟩
   · unfold zcq; rw [z3n N (by omega) ht h4, hv]; simp only [obs, bsf, cfa]; unfold z8; obtain ⟨l, hl⟩ := z7t N 0 o.zJ.Length.toNat (by decide) (by omega) (by omega); rw [hn, show (if w6 (0 - 0) > 0 then w6 (0 - 0) else 0) = ((0 : Nat) : Int) from rfl, show o.zJ.Length = ((o.zJ.Length.toNat : Nat) : Int) by omega, hl, h0]; rfl
   · unfold zab; rw [h0]; rfl
   · unfold szE; rw [ifn, ifn, ifn]; exact hsz
 · have hn := zzn ht h0 h4; obtain ⟨e1, e2, e3⟩ := zacc hn hv; unfold zn5; rw [ifn h0]; rw [e1]; exact ⟨z1l N (by omega) hn _ ⟨e2, e3⟩, z22 N (by omega) hn _ ⟨e2, e3⟩, z1t hn _⟩
section
variable {p : zB}
theorem z1o {k : Int} (h : isD k = true) : isS k = true ∨ k = 4 := by
 unfold isD at h
 rw [Bool.or_eq_true, decide_eq_true_eq] at h
 exact h
def byI (p : zB) (t : Storage) (i : Nat) : Except Int ByteArray :=
 if (og p.zA i).Kind = 4 then .ok (zn5 (og p.zA i)) else match adI p t i with
  | .error e => .error e
  | .ok a => .ok (t.Bytes.extract a.toNat (a + szE (og p.zA i).zJ).toNat)
theorem zs5 (N : Nat) (hN : 2000 < N) (h : ProgV p) {s : zC} (hs : StoP p s.Storage) {i : Nat} (hi : i < p.zA.length) (hk : isD (og p.zA i).Kind = true) :
 (∃ e k, (e = 4 ∨ e = 5) ∧ byI p s.Storage i = .error e ∧ zag N (mI p s 0) (i : Int) = some (⟨#[]⟩, mI p s e) ∧ zd1 N p s (i : Int) = some (k, e)) ∨
 ∃ b, byI p s.Storage i = .ok b ∧ zag N (mI p s 0) (i : Int) = some (b, mI p s 0) ∧ zd1 N p s (i : Int) = some (b, 0) ∧ (b.size : Int) = szE (og p.zA i).zJ := by
 have ho := zhr h.ok hi
 obtain ⟨hty, hk4⟩ := ho.ty hk
 have hsz := zd3 hty
 have hl := hs.sto.le
 unfold byI zag zd1
 rw [show (mI p s 0).zB = p from rfl, zfx hi]
 simp only [obs, zaa]
 by_cases h4 : (og p.zA i).Kind = 4
 · obtain ⟨e1, e2, e3⟩ := zst N (by omega) hty hk4 (ho.val (.inr h4)); rw [ifp h4, dct h4, ctr, ctr, e1, e2]; exact .inr ⟨_, rfl, rfl, rfl, e3⟩
 · rw [ifn h4, dcf h4, cfa, cfa]; have hS := (z1o hk).resolve_right h4; rcases z0z N hN h hs hi hS with ⟨e, j, k, he, h1, h2, h3⟩ | ⟨a, h1, h2, h3, h4, h5⟩
   · left; rw [h1, h2, h3]; refine ⟨e, ⟨#[]⟩, he, rfl, ?_, ?_⟩
     · rcases he with rfl | rfl <;> rfl
     · rcases he with rfl | rfl <;> rfl
   · right; rw [h1, h2, h3]; simp only [obs, show (mI p s 0).raised = 0 from rfl, bsf, cfa]; rw [z0o N (by omega) hty, zoj hty]; simp only [obs, show (mI p s 0).zC = s from rfl]; have c1 : 0 ≤ a + szE (og p.zA i).zJ ∧ a + szE (og p.zA i).zJ ≤ (s.Storage.Bytes.size : Int) := by omega
     have c2 : 0 ≤ a ∧ a ≤ a + szE (og p.zA i).zJ := by omega
     rw [w6e]; simp only [ifp c1, ifp c2]; refine ⟨_, rfl, rfl, rfl, ?_⟩; rw [zcl _ _ _ (by omega) (by omega)]; omega
theorem z15 (N : Nat) (hN : 2000 < N) (h : ProgV p) {s : zC} (hs : StoP p s.Storage) {i : Nat} (hi : i < p.zA.length) (hk : isD (og p.zA i).Kind = true) {e : Int} (he : e ≠ 0) :
 ∃ b, zag N (mI p s e) (i : Int) = some (b, mI p s e) ∧ b.size ≤ 256 := by
 have ho := zhr h.ok hi
 obtain ⟨hty, hk4⟩ := ho.ty hk
 have hsz := zd3 hty
 unfold zag
 rw [show (mI p s e).zB = p from rfl, zfx hi]
 simp only [obs, zaa]
 by_cases h4 : (og p.zA i).Kind = 4
 · obtain ⟨e1, e2, e3⟩ := zst N (by omega) hty hk4 (ho.val (.inr h4)); rw [dct h4, ctr, e1]; exact ⟨_, rfl, by show (zn5 (og p.zA i)).size ≤ 256; omega⟩
 · rw [dcf h4, cfa]; obtain ⟨j, hj⟩ := z17 N hN h hs hi ((z1o hk).resolve_right h4) he; rw [hj]; simp only [obs, show (mI p s e).raised = e from rfl, zb5, dct he, ctr]; exact ⟨_, rfl, by decide⟩
def nuI (p : zB) (t : Storage) (i : Nat) : Except Int Number :=
 match byI p t i with | .error e => .error e | .ok b => match zlo (og p.zA i).zJ b with | none => .error 1 | some n => .ok ⟨n, (og p.zA i).zJ.Scale⟩
theorem zv1 (h : ProgV p) {i : Nat} (hi : i < p.zA.length) (hk : isD (og p.zA i).Kind = true) (hn : zcy (og p.zA i) = true) : zh6 (og p.zA i).zJ := by
 obtain ⟨hty, hk4⟩ := (zhr h.ok hi).ty hk
 unfold zcy at hn
 exact zzn hty (of_decide_eq_true hn) hk4
theorem zaes {t : DataType} (ht : zh6 t) {n : Int} (h : -((10 ^ t.Length.toNat : Nat) : Int) < n ∧ n < ((10 ^ t.Length.toNat : Nat) : Int)) : zdb ⟨n, t.Scale⟩ := by
 obtain ⟨⟨l1, l2⟩, l3, l4⟩ := ze6 ht
 have hpw : 10 ^ t.Length.toNat ≤ 10 ^ 15 := zb8 (by omega)
 refine ⟨⟨?_, ?_⟩, l3, ?_⟩
 · show -999999999999999 ≤ n; omega
 · show n ≤ 999999999999999; omega
 · show t.Scale ≤ 15; omega
theorem zni (N : Nat) (hN : 2000 < N) (h : ProgV p) {s : zC} (hs : StoP p s.Storage) {i : Nat} (hi : i < p.zA.length) (hk : isD (og p.zA i).Kind = true) (hn : zcy (og p.zA i) = true) :
 (∃ e k, (e = 4 ∨ e = 5 ∨ e = 1) ∧ nuI p s.Storage i = .error e ∧ zo N (mI p s 0) (i : Int) = some (⟨0, 0⟩, mI p s e) ∧ zbt N p s (i : Int) = some (k, e)) ∨
 ∃ n, nuI p s.Storage i = .ok n ∧ zo N (mI p s 0) (i : Int) = some (n, mI p s 0) ∧ zbt N p s (i : Int) = some (n, 0) ∧ zdb n := by
 have ht := zv1 h hi hk hn
 unfold nuI zo zbt
 rcases zs5 N hN h hs hi hk with ⟨e, k, he, h1, h2, h3⟩ | ⟨b, h1, h2, h3, h4⟩
 · left; rw [h1, h2, h3]; refine ⟨e, ⟨0, 0⟩, by omega, rfl, ?_, ?_⟩
   · rcases he with rfl | rfl <;> rfl
   · rcases he with rfl | rfl <;> rfl
 · obtain ⟨v1, a1, e1, g1, g2⟩ := z9d N hN ht h4; obtain ⟨v2, a2, e2, g3, g4⟩ := z8y N hN ht h4; rw [h1, h2, h3]; simp only [obs, show (mI p s 0).raised = 0 from rfl, show (mI p s 0).zB = p from rfl, bsf, cfa]; rw [zfx hi]; simp only [obs]; rw [g1, g3]; simp only [obs, z1p]; have hb := z9u ht h4; cases hdv : zlo (og p.zA i).zJ b with
   | none =>
    rw [hdv] at g2 g4; simp only [] at g2 g4; left; refine ⟨1, ⟨0, 0⟩, by omega, rfl, ?_, ?_⟩
    · rw [zb5, dct g2]; rfl
    · rw [zb5, dct g4]; rfl
   | some n =>
    rw [hdv] at g2 g4; simp only [] at g2 g4; right; refine ⟨⟨n, (og p.zA i).zJ.Scale⟩, rfl, ?_, ?_, zaes ht (hb n hdv)⟩
    · rw [g2.2, g2.1]; rfl
    · rw [g4.2, g4.1]; rfl
theorem z1j (N : Nat) (hN : 2000 < N) (h : ProgV p) {s : zC} (hs : StoP p s.Storage) {i : Nat} (hi : i < p.zA.length) (hk : isD (og p.zA i).Kind = true) {e : Int} (he : e ≠ 0) :
 zo N (mI p s e) (i : Int) = some (⟨0, 0⟩, mI p s e) := by
 unfold zo
 obtain ⟨b, hb, _⟩ := z15 N hN h hs hi hk he
 rw [hb]
 simp only [obs, show (mI p s e).raised = e from rfl, zb5, dct he, ctr]
def wrI (p : zB) (s : zC) (i : Nat) (d : ByteArray) : Except Int zC :=
 match adI p s.Storage i with | .error e => .error e | .ok a => .ok (mS s (wrV s.Storage a.toNat d))
theorem z5o (N : Nat) (hN : 2000 < N) (h : ProgV p) {s : zC} (hs : StoP p s.Storage) {i : Nat} (hi : i < p.zA.length) (hk : isS (og p.zA i).Kind = true) {d : ByteArray} (hd : (d.size : Int) = szE (og p.zA i).zJ) :
 (∃ e k, (e = 4 ∨ e = 5) ∧ wrI p s i d = .error e ∧ zap N (mI p s 0) (i : Int) d = some (mI p s e) ∧ zbu N p s (i : Int) = some (k, e)) ∨
 ∃ a : Nat, wrI p s i d = .ok (mS s (wrV s.Storage a d)) ∧ zap N (mI p s 0) (i : Int) d = some (mI p (mS s (wrV s.Storage a d)) 0) ∧ zbu N p s (i : Int) = some ((a : Int), 0) ∧ zbp N s.Storage (a : Int) d = some (wrV s.Storage a d) ∧ StoP p (wrV s.Storage a d) := by
 have hty := ((zhr h.ok hi).ty (zpc hk)).1
 have hsz := zd3 hty
 unfold wrI zap
 rcases z0z N hN h hs hi hk with ⟨e, j, k, he, h1, h2, h3⟩ | ⟨a, h1, h2, h3, h4, h5⟩
 · left; rw [h1, h2, h3]; refine ⟨e, k, he, rfl, ?_, rfl⟩; rcases he with rfl | rfl <;> rfl
 · right; obtain ⟨a, rfl⟩ : ∃ k : Nat, a = (k : Int) := ⟨a.toNat, by omega⟩; rw [h1, h2, h3]; have hw : a + d.size ≤ s.Storage.Bytes.size := by omega
   have hw0 : 0 < d.size := by omega
   refine ⟨a, rfl, ?_, rfl, z2z N hN hs.sto hw hw0, ⟨z2i hs.sto hw hw0, by rw [ztb hw]; exact hs.size⟩⟩; simp only [obs, show (mI p s 0).raised = 0 from rfl, show (mI p s 0).zC = s from rfl, bst, ctr]; rw [z2k N hN hs.sto hw hw0]; rfl
end
theorem z35 (b : ByteArray) (hb : b.size ≤ 5000) (n : Nat) (hn : n ≤ 5000) : zed b (n : Int) = some ⟨(bl b ++ List.replicate (n - b.size) 32).toArray⟩ := by
 have hmax : IntKind.i64.max = 9223372036854775807 := by decide
 unfold zed zlt
 rw [w6e]
 have e : (if (0 : Int) > (n : Int) - (b.size : Int) then 0 else (n : Int) - (b.size : Int)) = ((n - b.size : Nat) : Int) := by split <;> omega
 have hs1 : (⟨#[32]⟩ : ByteArray).size = 1 := rfl
 rw [e, ifp ⟨by omega, by omega, by rw [hs1]; omega⟩, obs, itn, zo7, hmax]
 have hs : (⟨(List.replicate (n - b.size) (32 : UInt8)).toArray⟩ : ByteArray).size = n - b.size := by
  show (List.replicate (n - b.size) (32 : UInt8)).length = _; rw [lnr]
 rw [ifn (by rw [hs]; omega)]
 refine congrArg some (zgs ?_)
 rw [zcm]
 rfl
def z7x (a b : ByteArray) : Int := zwe (bl (znx a (max a.size b.size))) (bl (znx b (max a.size b.size)))
theorem z37 {R : Type} (a b : ByteArray) (ha : a.size ≤ 5000) (hb : b.size ≤ 5000) (k : Int → Option R) : ((zed a (b.size : Int)).bind fun r8 => (zed b (a.size : Int)).bind fun r9 => (zh3 r8 r9).bind k) = k (z7x a b) := by
 unfold zh3 zdz
 rw [z35 a ha b.size hb, z35 b hb a.size ha]
 simp only [obs]
 rw [z1r, z1r, Nat.max_comm b.size a.size, zafb (by rw [zv0, zv0])]
 rfl
theorem zaee {R : Type} (N : Nat) (hN : 10000 < N) (a b : ByteArray) (ha : a.size ≤ 5000) (hb : b.size ≤ 5000) (k : Int → Option R) :
 ((zez N a (if (b.size : Int) > (a.size : Int) then (b.size : Int) else (a.size : Int))).bind fun r12 => (zez N b (if (b.size : Int) > (a.size : Int) then (b.size : Int) else (a.size : Int))).bind fun r13 =>
 (zah (!((Op.bytesLess r12.toList r13.toList) || (r12.toList == r13.toList)))).bind fun r14 => (zah (Op.bytesLess r12.toList r13.toList)).bind fun r15 => k (w6 (r14 - r15))) = k (z7x a b) := by
 have e : (if (b.size : Int) > (a.size : Int) then (b.size : Int) else (a.size : Int)) = ((max a.size b.size : Nat) : Int) := by split <;> omega
 rw [e, zvl N hN a ha _ (by omega), zvl N hN b hb _ (by omega)]
 simp only [obs]
 rw [zkf, zkf, zgx, zgx]
 simp only [obs]
 unfold z7x zwe
 generalize bl (znx a (max a.size b.size)) = x
 generalize bl (znx b (max a.size b.size)) = y
 cases hx : Op.bytesLess x y with
 | true => rfl
 | false =>
  rw [ifn (by decide)]; simp only [Bool.false_or, cfa]
  by_cases hxy : x = y
  · rw [hxy, ifp rfl]; simp only [bst, bnt, cfa]; rfl
  · rw [ifn hxy, show (x == y) = false from beq_eq_false_iff_ne.2 hxy]; rfl
theorem zua (N : Nat) (hN : 100 < N) {x : Number} (hx : zdb x) : zbj N x = some (ze9 x) := by
 have hx' := hx
 obtain ⟨⟨h1, h2⟩, h3, h4⟩ := hx'
 unfold zbj
 obtain ⟨k, hk⟩ : ∃ k : Nat, x.Scale = (k : Int) := ⟨x.Scale.toNat, by omega⟩
 have := zas (f := zbj.r0 N) (fun i => (x.Scale, (i : Int), (⟨x.N.tdiv (10 ^ i), x.Scale⟩ : Number))) k
  (fun i hi => by
   have hb := Int.natAbs_tdiv_le_natAbs x.N (10 ^ i); have hb2 := Int.natAbs_tdiv_le_natAbs (x.N.tdiv (10 ^ i)) 10; simp only [zbj.r0, zbj.b0, hk, dct (show (i : Int) < (k : Int) by omega), ctr]; rw [w6e (n := (i : Int) + 1), w6e, zad3]; rfl)
  (by simp only [zbj.r0, zbj.b0, hk, dcf (show ¬ (k : Int) < (k : Int) by omega), cfa]) (N := N) (by omega)
 simp only [nc0, Int.pow_zero, Int.tdiv_one, eN] at this
 rw [this]
 show some (x.N.tdiv (10 ^ k)) = some (ze9 x)
 unfold ze9
 rw [hk, itn]
theorem zze (N : Nat) (hN : 100 < N) {x : Number} (hx : zdb x) : zhp N x = some (ze9 x) := by
 have hw := zqy hx
 obtain ⟨⟨h1, h2⟩, h3, h4⟩ := hx
 unfold zhp
 have hp := zx8 N hN x.Scale.toNat (by omega)
 rw [Int.toNat_of_nonneg h3] at hp
 have hpos := zcb x.Scale.toNat
 rw [hp, obs, ifn, show ((10 ^ x.Scale.toNat : Nat) : Int) = 10 ^ x.Scale.toNat by rw [Int.natCast_pow]; rfl]
 show some (w6 (ze9 x)) = _
 rw [w6e]
theorem z2e (n lo hi : Int) : zgc n lo hi = some (inB n lo hi) := by
 unfold zgc inB
 cases decide (lo ≤ n) <;> rfl
section
variable {p : zB}
def zmm (p : zB) (s : zC) (i : Nat) (r : Value × Int) : Except Int zC :=
 if r.2 = 20 then .error 3 else if r.2 = 19 then .error 2 else wrI p s i (zul (og p.zA i).zJ r.1.N)
def zpn (N : Nat) (p : zB) (s : zC) (i : Nat) (r : Value × Int) : Option (Int × zC) :=
 cond (r.2 == 20) (some (3, s)) (cond (r.2 != 0) (some (2, s)) ((zbu N p s (i : Int)).bind fun r19 => cond (r19.2 != 0) (some (r19.2, s)) ((zab N (og p.zA i).zJ r.1).bind fun r20 =>
  (zbp N s.Storage r19.1 r20).bind fun r21 => some (0, mS s r21))))
theorem zaa3 (N : Nat) (hN : 2000 < N) (h : ProgV p) {s : zC} (hs : StoP p s.Storage) {i : Nat} (hi : i < p.zA.length) (hk : isS (og p.zA i).Kind = true) (hn : zcy (og p.zA i) = true)
 {r : Value × Int} (hr : r.2 = 0 ∨ r.2 = 19 ∨ r.2 = 20) (hS : r.1 = ⟨r.1.N, ⟨#[]⟩⟩) (hb : r.2 = 0 → -((10 ^ (og p.zA i).zJ.Length.toNat : Nat) : Int) < r.1.N ∧ r.1.N < ((10 ^ (og p.zA i).zJ.Length.toNat : Nat) : Int)) :
 (∃ e, (2 ≤ e ∧ e ≤ 5) ∧ zmm p s i r = .error e ∧ zaj N (mI p s 0) (i : Int) r.1 r.2 = some (mI p s e) ∧ zpn N p s i r = some (e, s)) ∨
 ∃ t, zmm p s i r = .ok (mS s t) ∧ zaj N (mI p s 0) (i : Int) r.1 r.2 = some (mI p (mS s t) 0) ∧ zpn N p s i r = some (0, mS s t) ∧ StoP p t := by
 have ht := zv1 h hi (zpc hk) hn
 unfold zmm zaj zpn
 rcases hr with h0 | h0 | h0
 · obtain ⟨b1, b2⟩ := hb h0; have hz := z1t ht r.1.N; rw [h0, ifn (by decide), ifn (by decide)]; simp only [show ((0 : Int) == 20) = false from rfl, show ((0 : Int) == 19) = false from rfl, bsf, cfa, show (mI p s 0).raised = 0 from rfl, bst, ctr, show (mI p s 0).zB = p from rfl]; rw [zfx hi, hS]; simp only [obs]; rw [z1l N (by omega) ht _ ⟨b1, b2⟩, z22 N (by omega) ht _ ⟨b1, b2⟩]; simp only [obs]; rcases z5o N hN h hs hi hk hz with ⟨e, k, he, h1, h2, h3⟩ | ⟨a, h1, h2, h3, h4, h5⟩
   · left; rw [h1, h2, h3]; refine ⟨e, by omega, rfl, rfl, ?_⟩; rcases he with rfl | rfl <;> rfl
   · right; rw [h1, h2, h3]; refine ⟨_, rfl, rfl, ?_, h5⟩; simp only [obs, bsf, cfa]; rw [h4]; rfl
 · left; rw [h0]; exact ⟨2, by decide, rfl, rfl, rfl⟩
 · left; rw [h0]; exact ⟨3, by decide, rfl, rfl, rfl⟩
theorem z69 (N : Nat) (s : zC) (i : Int) (v : Value) (c : Int) {e : Int} (he : e ≠ 0) : zaj N (mI p s e) i v c = some (mI p s e) := by
 have hf : ((mI p s e).raised == 0) = false := by rw [show (mI p s e).raised = e from rfl, zaa]; exact dcf he
 unfold zaj
 rw [zpy p s he, zpy p s he]
 simp only [obs, hf, cfa]
 cases (c == 20) <;> cases (c == 19) <;> rfl
structure StI (p : zB) (s : zC) : Prop where
 sto : StoP p s.Storage
 at0 : 0 ≤ s.At
 at1 : s.At < (p.zG.length : Int)
 stk : s.Stack.length ≤ 6
 calls : ∀ i ∈ s.Stack, (0 ≤ i ∧ i < (p.zG.length : Int)) ∧ ∃ x, p.zG[i.toNat]? = some x ∧ x.Op = 13
 lines : s.Lines.length ≤ 40
 long : ∀ l ∈ s.Lines, l.size ≤ 256
 st0 : 0 ≤ s.Status
 st1 : s.Status ≤ 3
 ex0 : 0 ≤ s.Exception
 ex1 : s.Exception ≤ 999
 sp0 : 0 ≤ s.Steps
 sp1 : s.Steps ≤ 300
theorem StI.S {s : zC} (h : StI p s) {t : Storage} (ht : StoP p t) : StI p (mS s t) := { sto := ht, at0 := h.at0, at1 := h.at1, stk := h.stk, calls := h.calls, lines := h.lines, long := h.long, st0 := h.st0, st1 := h.st1, ex0 := h.ex0, ex1 := h.ex1, sp0 := h.sp0, sp1 := h.sp1 }
theorem StI.K {s : zC} (h : StI p s) {l : List Int} (h1 : l.length ≤ 6) (h2 : ∀ i ∈ l, (0 ≤ i ∧ i < (p.zG.length : Int)) ∧ ∃ x, p.zG[i.toNat]? = some x ∧ x.Op = 13) : StI p (mK s l) := { sto := h.sto, at0 := h.at0, at1 := h.at1, stk := h1, calls := h2, lines := h.lines, long := h.long, st0 := h.st0, st1 := h.st1, ex0 := h.ex0, ex1 := h.ex1, sp0 := h.sp0, sp1 := h.sp1 }
theorem StI.T {s : zC} (h : StI p s) {k : Int} (h1 : 0 ≤ k) (h2 : k ≤ 3) : StI p (mT s k) := { sto := h.sto, at0 := h.at0, at1 := h.at1, stk := h.stk, calls := h.calls, lines := h.lines, long := h.long, st0 := h1, st1 := h2, ex0 := h.ex0, ex1 := h.ex1, sp0 := h.sp0, sp1 := h.sp1 }
theorem StI.A {s : zC} (h : StI p s) {k : Int} (h1 : 0 ≤ k) (h2 : k < (p.zG.length : Int)) : StI p (mA s k) := { sto := h.sto, at0 := h1, at1 := h2, stk := h.stk, calls := h.calls, lines := h.lines, long := h.long, st0 := h.st0, st1 := h.st1, ex0 := h.ex0, ex1 := h.ex1, sp0 := h.sp0, sp1 := h.sp1 }
theorem StI.E {s : zC} (h : StI p s) {k : Int} (h1 : 0 ≤ k) (h2 : k ≤ 999) : StI p (mE s k) := { sto := h.sto, at0 := h.at0, at1 := h.at1, stk := h.stk, calls := h.calls, lines := h.lines, long := h.long, st0 := h.st0, st1 := h.st1, ex0 := h1, ex1 := h2, sp0 := h.sp0, sp1 := h.sp1 }
theorem StI.P {s : zC} (h : StI p s) {k : Int} (h1 : 0 ≤ k) (h2 : k ≤ 300) : StI p (mP s k) := { sto := h.sto, at0 := h.at0, at1 := h.at1, stk := h.stk, calls := h.calls, lines := h.lines, long := h.long, st0 := h.st0, st1 := h.st1, ex0 := h.ex0, ex1 := h.ex1, sp0 := h1, sp1 := h2 }
theorem StI.L {s : zC} (h : StI p s) {l : ByteArray} (h1 : s.Lines.length < 40) (h2 : l.size ≤ 256) : StI p (mL s (s.Lines ++ [l])) := {
 sto := h.sto, at0 := h.at0, at1 := h.at1, stk := h.stk, calls := h.calls
 lines := by show (s.Lines ++ [l]).length ≤ 40; rw [lna, lns]; omega
 long := fun y hy => by
  rcases List.mem_append.1 (show y ∈ s.Lines ++ [l] from hy) with h3 | h3
  · exact h.long y h3
  · rw [List.mem_singleton.1 h3]; exact h2
 st0 := h.st0, st1 := h.st1, ex0 := h.ex0, ex1 := h.ex1, sp0 := h.sp0, sp1 := h.sp1 }
def ai (x : zI) (k : Nat) : Nat := (x.Args.getD k 0).toNat
def oa (p : zB) (x : zI) (k : Nat) : zF := og p.zA (ai x k)
def zl8 (s : zC) (r : Except Int zC) : Except Int (Int × zC) := match r with | .error e => .error e | .ok t => .ok (s.At + 1, t)
def z7e (p : zB) (s : zC) (x : zI) (half : Bool) : Except Int zC := match nuI p s.Storage (ai x 1) with | .error e => .error e | .ok n => zmm p s (ai x 0) (zkp n (oa p x 0).zJ half)
def zabz (p : zB) (s : zC) (x : zI) : Except Int zC := match byI p s.Storage (ai x 1) with | .error e => .error e | .ok b => wrI p s (ai x 0) (znx b (oa p x 0).zJ.Length.toNat)
def zur (p : zB) (s : zC) (x : zI) : Except Int zC := match nuI p s.Storage (ai x 1) with | .error e => .error e | .ok a => match nuI p s.Storage (ai x 2) with | .error e => .error e | .ok b => zmm p s (ai x 0) (zi7 (x.Op - 2) a b (oa p x 0).zJ false)
def zwy (p : zB) (s : zC) (x : zI) : Except Int Int :=
 if zcy (oa p x 0) = true then (match nuI p s.Storage (ai x 0) with | .error e => .error e | .ok a => match nuI p s.Storage (ai x 1) with | .error e => .error e | .ok b => .ok (z3l (zai a (zf a b)) (zai b (zf a b))))
 else match byI p s.Storage (ai x 0) with | .error e => .error e | .ok a => match byI p s.Storage (ai x 1) with | .error e => .error e | .ok b => .ok (z7x a b)
def zph (op o : Int) : Bool := if op = 7 then decide (o = 0) else decide (o < 0)
def zy1 (p : zB) (s : zC) (i : Nat) : Except Int ByteArray :=
 if zcy (og p.zA i) = true then (match nuI p s.Storage i with | .error e => .error e | .ok n => .ok (zro n)) else byI p s.Storage i
def zft (p : zB) (s : zC) (x : zI) : Except Int (Int × zC) :=
 match x.Op.toNat with
 | 0 => zl8 s (if zcy (oa p x 0) = true then z7e p s x false else zabz p s x)
 | 1 => zl8 s (z7e p s x true)
 | 2 => zl8 s (zur p s x)
 | 3 => zl8 s (zur p s x)
 | 4 => zl8 s (zur p s x)
 | 5 => zl8 s (zur p s x)
 | 6 => zl8 s (zur p s x)
 | 7 => (match zwy p s x with | .error e => .error e | .ok o => .ok (cond (zph 7 o) (oa p x 2).Target (s.At + 1), s))
 | 8 => (match zwy p s x with | .error e => .error e | .ok o => .ok (cond (zph 8 o) (oa p x 2).Target (s.At + 1), s))
 | 9 => .ok ((oa p x 0).Target, s)
 | 10 => zl8 s (match adI p s.Storage (ai x 1) with | .error e => .error e | .ok a => .ok (mS s (stV s.Storage (zck p.zA (ai x 0)).toNat a.toNat)))
 | 11 => zl8 s (match ldV s.Storage (zck p.zA (ai x 1)) with | none => .error 4 | some o => .ok (mS s (stV s.Storage (zck p.zA (ai x 0)).toNat o.toNat)))
 | 12 => zl8 s (match ldV s.Storage (zck p.zA (ai x 0)) with
  | none => .error 4
  | some o => match nuI p s.Storage (ai x 1) with
   | .error e => .error e
   | .ok n => if inB (o + ze9 n) 0 16777215 = true then .ok (mS s (stV s.Storage (zck p.zA (ai x 0)).toNat (o + ze9 n).toNat)) else .error 5)
 | 13 => if 6 ≤ s.Stack.length then .error 6 else .ok ((oa p x 0).Target, mK s (s.Stack ++ [s.At]))
 | 14 => if s.Stack.length = 0 then .ok (s.At, mT s 1) else .ok (s.Stack.getD (s.Stack.length - 1) 0 + 1, mK s (s.Stack.take (s.Stack.length - 1)))
 | 15 => (match nuI p s.Storage (ai x 0) with | .error e => .error e | .ok n => if inB (ze9 n) 100 999 = true then .error (ze9 n) else .error 2)
 | 16 => zl8 s (zmm p s (ai x 0) (zkp ⟨s.Exception, 0⟩ (oa p x 0).zJ false))
 | 17 => (match zy1 p s (ai x 0) with | .error e => .error e | .ok l => if s.Lines.length = 40 then .ok (s.At + 1, mT s 3) else .ok (s.At + 1, mL s (s.Lines ++ [l])))
 | _ => .ok (s.At + 1, mT s 1)
def zgi (N : Nat) (p : zB) (s : zC) (x : zI) : Prop :=
 (∃ e nx ny t, zft p s x = .error e ∧ (1 ≤ e ∧ e ≤ 999) ∧ zd N (mI p s 0) x = some (nx, mI p s e) ∧ zx N p s = some (ny, e, t)) ∨
 ∃ n k t, zft p s x = .ok (n, t) ∧ zd N (mI p s 0) x = some (n, mI p t 0) ∧ zx N p s = some (k, 0, t) ∧ (t.Status = 0 → k = n ∧ 0 ≤ n ∧ n ≤ (p.zG.length : Int)) ∧ StI p t ∧ t.At = s.At ∧ t.Steps = s.Steps ∧ t.Exception = s.Exception
theorem zey (h : ProgV p) {x : zI} (hx : x ∈ p.zG) {k : Nat} {c : Int} (hc : (zho x.Op)[k]? = some c) :
 idx x.Args (k : Int) = some ((ai x k : Nat) : Int) ∧ ai x k < p.zA.length ∧ zo0 (oa p x k) (zm4 p x k) c = true := by
 have hi := h.ins x hx
 unfold zra at hi
 split at hi
 · cases hi
 split at hi
 · cases hi
 rename_i h1 h2
 have hk := (gei hc).1
 have hkl : k < x.Args.length := by omega
 have hx := lge hkl
 have he : gA p x k = none := by
  cases hf : (List.range x.Args.length).findSome? (gA p x) with
  | none => exact zjh.1 hf k hkl
  | some r =>
   exfalso
   rw [hf] at hi; simp only at hi; subst hi; obtain ⟨i, _, hi, _⟩ := zjg hf; unfold gA at hi; rw [Option.bind_eq_some_iff] at hi; obtain ⟨a, _, ha⟩ := hi; split at ha
   · split at ha
     · split at ha <;> cases ha
     · cases ha
   · cases ha
 unfold gA at he
 rw [hx, obs] at he
 split at he
 · rename_i hin; have := zbg.1 hin; have hai : ai x k = (x.Args[k]).toNat := by
    unfold ai; rw [gdd, hx]; rfl
   have hlt : ai x k < p.zA.length := by omega
   have ho := zmo hlt; rw [← hai, ho, hc] at he; simp only at he; refine ⟨by rw [zal, hx, hai]; congr 1; omega, hlt, ?_⟩; split at he
   · assumption
   · cases he
 · cases he
theorem zae2 (h : ProgV p) {x : zI} (hx : x ∈ p.zG) : 0 ≤ x.Op ∧ x.Op ≤ 18 := by
 have hi := h.ins x hx
 unfold zra at hi
 split at hi
 · cases hi
 · rename_i h1; have := zbg.1 (show inB x.Op 0 18 = true by simpa using h1); exact this
end
section
variable {p : zB} {s : zC}
theorem zuc (o : zF) : zcs o = some (zcy o) := by
 unfold zcs zcy
 rw [zb5]
theorem zqf (h : ProgV p) {i : Nat} (hi : i < p.zA.length) (hk : isD (og p.zA i).Kind = true) : zei p (i : Int) = some (zcy (og p.zA i)) := by
 unfold zei
 rw [zfx hi]
 simp only [obs, zqe]
 rw [z3m (zmo hi) (h.ok.ok i hi) hk]
theorem z80 (N : Nat) (hN : 4000 < N) (h : ProgV p) {i : Nat} (hi : i < p.zA.length) (ht : zh6 (og p.zA i).zJ) {x : Number} (hx : zdb x) (half : Bool) : zig N p s (i : Int) x half = zpn N p s i (zkp x (og p.zA i).zJ half) := by
 unfold zig zpn
 rw [zfx hi]
 simp only [obs]
 rw [zacr N hN hx ht]
 simp only [obs]
 rcases z4s x (og p.zA i).zJ half with h0 | h0 <;> rw [h0] <;> rfl
theorem zod : zdb ⟨0, 0⟩ := ⟨⟨by decide, by decide⟩, by decide, by decide⟩
def zpj (N : Nat) (p : zB) (s : zC) (m : Except Int zC) (prog : Option zD) (rf : Option (Int × zC)) : Prop :=
 (∃ e u, (1 ≤ e ∧ e ≤ 5) ∧ m = .error e ∧ prog = some (mI p s e) ∧ rf = some (e, u)) ∨ ∃ t, m = .ok (mS s t) ∧ prog = some (mI p (mS s t) 0) ∧ rf = some (0, mS s t) ∧ StoP p t
theorem zpj.mk (N : Nat) {m : Except Int zC} {r : Value × Int} {i : Nat} (hN : 2000 < N) (h : ProgV p) (hs : StoP p s.Storage) (hi : i < p.zA.length) (hk : isS (og p.zA i).Kind = true) (hn : zcy (og p.zA i) = true)
 (hr : r.2 = 0 ∨ r.2 = 19 ∨ r.2 = 20) (hS : r.1 = ⟨r.1.N, ⟨#[]⟩⟩) (hb : r.2 = 0 → -((10 ^ (og p.zA i).zJ.Length.toNat : Nat) : Int) < r.1.N ∧ r.1.N < ((10 ^ (og p.zA i).zJ.Length.toNat : Nat) : Int)) (hm : m = zmm p s i r) :
 zpj N p s m (zaj N (mI p s 0) (i : Int) r.1 r.2) (zpn N p s i r) := by
 subst hm
 rcases zaa3 N hN h hs hi hk hn hr hS hb with ⟨e, he, h1, h2, h3⟩ | ⟨t, h1, h2, h3, h4⟩
 · exact .inl ⟨e, s, by omega, h1, h2, h3⟩
 · exact .inr ⟨t, h1, h2, h3, h4⟩
theorem z1z (N : Nat) (hN : 4000 < N) (h : ProgV p) (hs : StoP p s.Storage) {i : Nat} (hi : i < p.zA.length) (hk : isS (og p.zA i).Kind = true) (hn : zcy (og p.zA i) = true) {x : Number} (hx : zdb x) (half : Bool) :
 zpj N p s (zmm p s i (zkp x (og p.zA i).zJ half)) ((zdm N x (og p.zA i).zJ half).bind fun r4 => (zaj N (mI p s 0) (i : Int) r4.1 r4.2).bind fun r5 => some r5) (zig N p s (i : Int) x half) := by
 have ht := zv1 h hi (zpc hk) hn
 rw [z50 N (by omega) hx ht, z80 N hN h hi ht hx]
 have := zpj.mk (m := zmm p s i (zkp x (og p.zA i).zJ half)) N (by omega) h hs hi hk hn (by rcases z4s x (og p.zA i).zJ half with h | h; exact .inl h; exact .inr (.inl h)) (zafa x _ half) (fun h0 => z7w h0) rfl
 simp only [obs]
 rcases this with ⟨e, u, he, h1, h2, h3⟩ | ⟨t, h1, h2, h3, h4⟩
 · exact .inl ⟨e, u, he, h1, by rw [h2]; rfl, h3⟩
 · exact .inr ⟨t, h1, by rw [h2]; rfl, h3, h4⟩
theorem z3u (N : Nat) (hN : 4000 < N) (h : ProgV p) (hs : StoP p s.Storage) {i j : Nat} (hi : i < p.zA.length) (hk : isS (og p.zA i).Kind = true) (hn : zcy (og p.zA i) = true) (hj : j < p.zA.length) (hkj : isD (og p.zA j).Kind = true) (hnj : zcy (og p.zA j) = true) (half : Bool) :
 zpj N p s (match nuI p s.Storage j with | .error e => .error e | .ok n => zmm p s i (zkp n (og p.zA i).zJ half)) (zc7 N (mI p s 0) (i : Int) (j : Int) half)
  ((zbt N p s (j : Int)).bind fun r11 => cond (r11.2 != 0) (some (r11.2, s)) ((zig N p s (i : Int) r11.1 half).bind fun r13 => some (r13.1, r13.2))) := by
 have ht := zv1 h hi (zpc hk) hn
 unfold zc7
 rw [show (mI p s 0).zB = p from rfl, zfx hi]
 simp only [obs, zuc, hn, ctr]
 rcases zni N (by omega) h hs hj hkj hnj with ⟨e, k, he, h1, h2, h3⟩ | ⟨n, h1, h2, h3, h4⟩
 · left; rw [h1, h2, h3]; simp only [obs]; rw [z50 N (by omega) zod ht]; simp only [obs]; rw [z69 N s (i : Int) _ _ (show e ≠ 0 by omega), zb5, dct (show e ≠ 0 by omega)]; exact ⟨e, s, by omega, rfl, rfl, rfl⟩
 · rw [h1, h2, h3]; simp only [obs, bsf, cfa]; have := z1z N hN h hs hi hk hn h4 half; rcases this with ⟨e, u, he, g1, g2, g3⟩ | ⟨t, g1, g2, g3, g4⟩
   · exact .inl ⟨e, u, he, g1, g2, by rw [g3]; rfl⟩
   · exact .inr ⟨t, g1, g2, by rw [g3]; rfl, g4⟩
theorem z9f (N : Nat) (hN : 20000 < N) (h : ProgV p) (hs : StoP p s.Storage) {i j : Nat} (hi : i < p.zA.length) (hk : isS (og p.zA i).Kind = true) (hn : zcy (og p.zA i) = false) (hj : j < p.zA.length) (hkj : isD (og p.zA j).Kind = true) :
 zpj N p s (match byI p s.Storage j with | .error e => .error e | .ok b => wrI p s i (znx b (og p.zA i).zJ.Length.toNat)) (zc7 N (mI p s 0) (i : Int) (j : Int) false)
  ((zd1 N p s (j : Int)).bind fun r5 => cond (r5.2 != 0) (some (r5.2, s)) ((zbu N p s (i : Int)).bind fun r6 => cond (r6.2 != 0) (some (r6.2, s))
   ((zez N r5.1 (og p.zA i).zJ.Length).bind fun r8 => (zbp N s.Storage r6.1 r8).bind fun r9 => some (0, mS s r9)))) := by
 have hty := ((zhr h.ok hi).ty (zpc hk)).1
 have hsz := zd3 hty
 have h0 : (og p.zA i).zJ.Kind = 0 := by
  unfold zcy at hn; have := of_decide_eq_false hn; omega
 have hle : szE (og p.zA i).zJ = (og p.zA i).zJ.Length := by unfold szE; rw [ifn, ifn, ifn]
 have hL : (og p.zA i).zJ.Length = (((og p.zA i).zJ.Length.toNat : Nat) : Int) := by omega
 have tail : ∀ b : ByteArray, b.size ≤ 5000 → ∀ M : zD, ((zc9 N (og p.zA i)).bind fun r7 => (zed b r7).bind fun r8 => (zc9 N (og p.zA i)).bind fun r9 =>
  if 0 ≤ r9 ∧ r9 ≤ (r8.size : Int) then (if 0 ≤ (0 : Int) ∧ (0 : Int) ≤ r9 then ((zap N M (i : Int) (r8.extract (0 : Int).toNat r9.toNat)).bind fun r10 => some r10) else none) else none) = zap N M (i : Int) (znx b (og p.zA i).zJ.Length.toNat) := by
  intro b hb M; rw [z0o N (by omega) hty, hle]; simp only [obs]; have hpad := z35 b hb (og p.zA i).zJ.Length.toNat (by omega); rw [← hL] at hpad; rw [hpad, obs]; have hps : (⟨(bl b ++ List.replicate ((og p.zA i).zJ.Length.toNat - b.size) 32).toArray⟩ : ByteArray).size = b.size + ((og p.zA i).zJ.Length.toNat - b.size) := by
   show (bl b ++ List.replicate ((og p.zA i).zJ.Length.toNat - b.size) 32).length = _; rw [lna, lnr, zam]
  rw [ifp ⟨by omega, by rw [hps]; omega⟩, ifp, show (0 : Int).toNat = 0 from rfl, z9m]; cases zap N M (i : Int) (znx b (og p.zA i).zJ.Length.toNat) <;> rfl
 unfold zc7
 rw [show (mI p s 0).zB = p from rfl, zfx hi]
 simp only [obs, zuc, hn, cfa]
 rcases zs5 N (by omega) h hs hj hkj with ⟨e, k, he, h1, h2, h3⟩ | ⟨b, h1, h2, h3, h4⟩
 · left; rw [h1, h2, h3]; simp only [obs]; rw [tail _ (by decide), zb5, dct (show e ≠ 0 by omega)]; unfold zap; obtain ⟨j', hj'⟩ := z17 N (by omega) h hs hi hk (show e ≠ 0 by omega); rw [hj']; simp only [obs, show (mI p s e).raised = e from rfl, zaa, dcf (show e ≠ 0 by omega), cfa]; exact ⟨e, s, by omega, rfl, rfl, rfl⟩
 · have hzb := zd3 ((zhr h.ok hj).ty hkj).1; have hrp : zez N b (og p.zA i).zJ.Length = some (znx b (og p.zA i).zJ.Length.toNat) := by
    have h := zvl N (by omega) b (by omega) (og p.zA i).zJ.Length.toNat (by omega); rw [← hL] at h; exact h
   rw [h1, h2, h3]; simp only [obs, bsf, cfa]; rw [tail b (by omega), hrp]; simp only [obs]; rcases z5o N (by omega) h hs hi hk (d := znx b (og p.zA i).zJ.Length.toNat) (by rw [zv0]; omega) with ⟨e, k, he, g1, g2, g3⟩ | ⟨a, g1, g2, g3, g4, g5⟩
   · left; rw [g2, g3]; simp only [obs, zb5, dct (show e ≠ 0 by omega), ctr]; exact ⟨e, s, by omega, g1, rfl, rfl⟩
   · right; rw [g2, g3]; simp only [obs, bsf, cfa]; rw [g4]; exact ⟨_, g1, rfl, rfl, g5⟩
theorem z9y (N : Nat) (hN : 4000 < N) (h : ProgV p) (hs : StoP p s.Storage) {op : Int} (hop : 0 ≤ op ∧ op ≤ 4) {i : Nat} (hi : i < p.zA.length) (hk : isS (og p.zA i).Kind = true) (hn : zcy (og p.zA i) = true) {a b : Number} (ha : zdb a) (hb : zdb b) :
 zpj N p s (zmm p s i (zi7 op a b (og p.zA i).zJ false)) ((zfi N op a b (og p.zA i).zJ false).bind fun r7 => (zaj N (mI p s 0) (i : Int) r7.1 r7.2).bind fun r9 => some r9)
  ((zfg N (⟨op, (og p.zA i).zJ, false⟩ : zU) a b).bind fun r18 => zpn N p s i r18) := by
 have ht := zv1 h hi (zpc hk) hn
 rw [zac4 N (by omega) hop ha hb ht, zacs N hN hop ha hb ht]
 have := zpj.mk (m := zmm p s i (zi7 op a b (og p.zA i).zJ false)) N (by omega) h hs hi hk hn (z9z _ _ _ _ _) (zadg _ _ _ _ _) (fun h0 => z5k h0) rfl
 simp only [obs]
 rcases this with ⟨e, u, he, h1, h2, h3⟩ | ⟨t, h1, h2, h3, h4⟩
 · exact .inl ⟨e, u, he, h1, by rw [h2]; rfl, h3⟩
 · exact .inr ⟨t, h1, by rw [h2]; rfl, h3, h4⟩
theorem zp3 (N : Nat) (h : ProgV p) (hs : StI p s) {x : zI} {m : Except Int zC} {prog : Option zD} {rf : Option (Int × zC)} (hp : zpj N p s m prog rf) (hx : zft p s x = zl8 s m)
 (h1 : zd N (mI p s 0) x = prog.bind fun r => some (w6 (s.At + 1), r)) (h2 : zx N p s = rf.bind fun r => some (w6 (s.At + 1), r.1, r.2)) : zgi N p s x := by
 have a0 := hs.at0
 have a1 := hs.at1
 have i40 := h.i40
 have wn1 : w6 (s.At + 1) = s.At + 1 := w6e
 unfold zgi
 rw [hx, h1, h2, wn1]
 rcases hp with ⟨e, u, he, g1, g2, g3⟩ | ⟨t, g1, g2, g3, g4⟩
 · rw [g1, g2, g3]; exact .inl ⟨e, _, _, u, rfl, by omega, rfl, rfl⟩
 · rw [g1, g2, g3]; exact .inr ⟨_, _, _, rfl, rfl, rfl, fun _ => ⟨rfl, by omega, by omega⟩, hs.S g4, rfl, rfl, rfl⟩
theorem zjm (hs : StI p s) {x : zI} (hx : p.zG[s.At.toNat]? = some x) : idx p.zG s.At = some x := by
 unfold idx
 rw [ifp hs.at0, hx]
theorem zafe (N : Nat) (hN : 20000 < N) (h : ProgV p) (hs : StI p s) {x : zI} (hx : p.zG[s.At.toNat]? = some x) (hop : x.Op = 0) : zgi N p s x := by
 have hm := lmg hx
 have hi := zjm hs hx
 obtain ⟨a0, b0, c0⟩ := zey h hm (k := 0) (c := 0) (by rw [hop]; rfl)
 obtain ⟨a1, b1, c1⟩ := zey h hm (k := 1) (c := 4) (by rw [hop]; rfl)
 have c0 : isS (og p.zA (ai x 0)).Kind = true := c0
 have c1 : (isD (og p.zA (ai x 1)).Kind && (zcy (og p.zA (ai x 1)) == zcy (og p.zA (ai x 0)))) = true := c1
 rw [Bool.and_eq_true] at c1
 have cn := eq_of_beq c1.2
 have a0 : idx x.Args 0 = some ((ai x 0 : Nat) : Int) := a0
 have a1 : idx x.Args 1 = some ((ai x 1 : Nat) : Int) := a1
 have hex : zft p s x = zl8 s (if zcy (og p.zA (ai x 0)) = true then z7e p s x false else zabz p s x) := by unfold zft; rw [hop]; rfl
 cases hn : zcy (og p.zA (ai x 0)) with
 | true =>
  rw [hn] at hex cn; refine zp3 N h hs (z3u N (by omega) h hs.sto b0 c0 hn b1 c1.1 cn false) hex ?_ ?_
  · unfold zd; simp only [hop, Int.reduceBEq, ctr, cfa, obs, a0, a1]; rfl
  · unfold zx zgn; rw [hi, zd9 N (by omega) h.ok]; simp only [hop, Int.reduceBEq, ctr, cfa, obs, a0, a1, zqf h b0 (zpc c0), hn, bnt]
 | false =>
  rw [hn] at hex; refine zp3 N h hs (z9f N (by omega) h hs.sto b0 c0 hn b1 c1.1) hex ?_ ?_
  · unfold zd; simp only [hop, Int.reduceBEq, ctr, cfa, obs, a0, a1]; rfl
  · unfold zx zgn; rw [hi, zd9 N (by omega) h.ok]; simp only [hop, Int.reduceBEq, ctr, cfa, obs, a0, a1, zqf h b0 (zpc c0), hn, Bool.not_false, zfx b0]; rfl
theorem zafd (N : Nat) (hN : 20000 < N) (h : ProgV p) (hs : StI p s) {x : zI} (hx : p.zG[s.At.toNat]? = some x) (hop : x.Op = 1) : zgi N p s x := by
 have hm := lmg hx
 have hi := zjm hs hx
 obtain ⟨a0, b0, c0⟩ := zey h hm (k := 0) (c := 2) (by rw [hop]; rfl)
 obtain ⟨a1, b1, c1⟩ := zey h hm (k := 1) (c := 3) (by rw [hop]; rfl)
 have c0 : (isS (og p.zA (ai x 0)).Kind && zcy (og p.zA (ai x 0))) = true := c0
 have c1 : (isD (og p.zA (ai x 1)).Kind && zcy (og p.zA (ai x 1))) = true := c1
 rw [Bool.and_eq_true] at c0 c1
 have a0 : idx x.Args 0 = some ((ai x 0 : Nat) : Int) := a0
 have a1 : idx x.Args 1 = some ((ai x 1 : Nat) : Int) := a1
 refine zp3 N h hs (z3u N (by omega) h hs.sto b0 c0.1 c0.2 b1 c1.1 c1.2 true) (by unfold zft; rw [hop]; rfl) ?_ ?_
 · unfold zd; simp only [hop, Int.reduceBEq, ctr, cfa, obs, a0, a1]; rfl
 · unfold zx zgn; rw [hi, zd9 N (by omega) h.ok]; simp only [hop, Int.reduceBEq, ctr, cfa, obs, a0, a1]
theorem z90 (N : Nat) (hN : 20000 < N) (h : ProgV p) (hs : StI p s) {x : zI} (hx : p.zG[s.At.toNat]? = some x) (hop : 2 ≤ x.Op ∧ x.Op ≤ 6) : zgi N p s x := by
 have hm := lmg hx
 have hi := zjm hs hx
 have hcls : zho x.Op = [2, 3, 3] := by
  rcases (by omega : x.Op = 2 ∨ x.Op = 3 ∨ x.Op = 4 ∨ x.Op = 5 ∨ x.Op = 6) with e | e | e | e | e <;> rw [e] <;> rfl
 obtain ⟨a0, b0, c0⟩ := zey h hm (k := 0) (c := 2) (by rw [hcls]; rfl)
 obtain ⟨a1, b1, c1⟩ := zey h hm (k := 1) (c := 3) (by rw [hcls]; rfl)
 obtain ⟨a2, b2, c2⟩ := zey h hm (k := 2) (c := 3) (by rw [hcls]; rfl)
 have c0 : (isS (og p.zA (ai x 0)).Kind && zcy (og p.zA (ai x 0))) = true := c0
 have c1 : (isD (og p.zA (ai x 1)).Kind && zcy (og p.zA (ai x 1))) = true := c1
 have c2 : (isD (og p.zA (ai x 2)).Kind && zcy (og p.zA (ai x 2))) = true := c2
 rw [Bool.and_eq_true] at c0 c1 c2
 have a0 : idx x.Args 0 = some ((ai x 0 : Nat) : Int) := a0
 have a1 : idx x.Args 1 = some ((ai x 1 : Nat) : Int) := a1
 have a2 : idx x.Args 2 = some ((ai x 2 : Nat) : Int) := a2
 have w1 : w6 (x.Op - 2) = x.Op - 2 := w6e
 have w2 : w6 (x.Op - 2 + 0) = x.Op - 2 := by rw [Int.add_zero]; exact w1
 have hel : (([0, 1, 2, 3, 4] : List Int)[(x.Op - 2).toNat]?) = some (x.Op - 2) := by
  rcases (by omega : x.Op = 2 ∨ x.Op = 3 ∨ x.Op = 4 ∨ x.Op = 5 ∨ x.Op = 6) with e | e | e | e | e <;> rw [e] <;> rfl
 have hpart : zpj N p s (zur p s x) (zdk N (mI p s 0) (x.Op - 2) x.Args)
  ((zbt N p s ((ai x 1 : Nat) : Int)).bind fun r11 => cond (r11.2 != 0) (some (r11.2, s)) ((zbt N p s ((ai x 2 : Nat) : Int)).bind fun r15 => cond (r15.2 != 0) (some (r15.2, s))
   ((zfg N (⟨x.Op - 2, (og p.zA (ai x 0)).zJ, false⟩ : zU) r11.1 r15.1).bind fun r18 => zpn N p s (ai x 0) r18))) := by
  unfold zur zdk; rw [a0, a1, a2]; simp only [obs]; rcases zni N (by omega) h hs.sto b1 c1.1 c1.2 with ⟨e, k, he, h1, h2, h3⟩ | ⟨n, h1, h2, h3, h4⟩
  · left; rw [h1, h2, h3]; simp only [obs]; rw [z1j N (by omega) h hs.sto b2 c2.1 (show e ≠ 0 by omega)]; simp only [obs, show (mI p s e).raised = e from rfl, zb5, dct (show e ≠ 0 by omega), ctr]; exact ⟨e, s, by omega, rfl, rfl, rfl⟩
  · rw [h1, h2, h3]; simp only [obs, bsf, cfa]; rcases zni N (by omega) h hs.sto b2 c2.1 c2.2 with ⟨e, k, he, g1, g2, g3⟩ | ⟨n2, g1, g2, g3, g4⟩
    · left; rw [g1, g2, g3]; simp only [obs, show (mI p s e).raised = e from rfl, zb5, dct (show e ≠ 0 by omega), ctr]; exact ⟨e, s, by omega, rfl, rfl, rfl⟩
    · rw [g1, g2, g3]; simp only [obs, show (mI p s 0).raised = 0 from rfl, show (mI p s 0).zB = p from rfl, bsf, cfa]; rw [zfx b0]; simp only [obs]; exact z9y N (by omega) h hs.sto (by omega) b0 c0.1 c0.2 h4 g4
 refine zp3 N h hs hpart ?_ ?_ ?_
 · unfold zft; rcases (by omega : x.Op = 2 ∨ x.Op = 3 ∨ x.Op = 4 ∨ x.Op = 5 ∨ x.Op = 6) with e | e | e | e | e <;> rw [e] <;> rfl
 · unfold zd; rw [w1, w2]; rcases (by omega : x.Op = 2 ∨ x.Op = 3 ∨ x.Op = 4 ∨ x.Op = 5 ∨ x.Op = 6) with e | e | e | e | e <;> simp only [e, Int.reduceBEq, ctr, cfa, obs] <;> rfl
 · unfold zx zgn; rw [hi, zd9 N (by omega) h.ok]; simp only [obs, a0, a1, a2, w1, hel, ifp (show 0 ≤ x.Op - 2 by omega), ifp (show x.Op - 2 < (([0, 1, 2, 3, 4] : List Int).length : Int) by show x.Op - 2 < 5; omega), zfx b0]; rcases (by omega : x.Op = 2 ∨ x.Op = 3 ∨ x.Op = 4 ∨ x.Op = 5 ∨ x.Op = 6) with e | e | e | e | e <;> simp only [e, Int.reduceBEq, ctr, cfa, obs] <;> rfl
end
section
variable {p : zB} {s : zC}
theorem zaba (N : Nat) (hN : 20000 < N) (h : ProgV p) (hs : StoP p s.Storage) {x : zI} (hop : x.Op = 7 ∨ x.Op = 8) (a0 : idx x.Args 0 = some ((ai x 0 : Nat) : Int)) (a1 : idx x.Args 1 = some ((ai x 1 : Nat) : Int))
 (b0 : ai x 0 < p.zA.length) (b1 : ai x 1 < p.zA.length) (c0 : isD (og p.zA (ai x 0)).Kind = true) (c1 : isD (og p.zA (ai x 1)).Kind = true) (cn : zcy (og p.zA (ai x 1)) = zcy (og p.zA (ai x 0))) :
 (∃ e o k, (1 ≤ e ∧ e ≤ 5) ∧ zwy p s x = .error e ∧ zcv N (mI p s 0) ((ai x 0 : Nat) : Int) ((ai x 1 : Nat) : Int) = some (o, mI p s e) ∧ zgo N p s x = some (k, e)) ∨
 ∃ o, zwy p s x = .ok o ∧ zcv N (mI p s 0) ((ai x 0 : Nat) : Int) ((ai x 1 : Nat) : Int) = some (o, mI p s 0) ∧ zgo N p s x = some (zph x.Op o, 0) := by
 have hcond : ∀ o : Int, (cond (x.Op == 7) (some ((o == 0), (0 : Int))) (some (decide (o < 0), 0))) = some (zph x.Op o, 0) := fun o => by
  unfold zph; rcases hop with e | e <;> rw [e]
  · rw [ifp rfl, zaa o]; rfl
  · rw [ifn (by decide)]; rfl
 unfold zwy zcv zgo
 rw [show (mI p s 0).zB = p from rfl, zfx b0, a0, a1]
 simp only [obs, zuc]
 rw [zqf h b0 c0]
 simp only [obs]
 show (∃ e o k, _ ∧ (if zcy (og p.zA (ai x 0)) = true then _ else _) = _ ∧ _ ∧ _) ∨ ∃ o, (if zcy (og p.zA (ai x 0)) = true then _ else _) = _ ∧ _ ∧ _
 cases hn : zcy (og p.zA (ai x 0)) with
 | true =>
  rw [hn] at cn; simp only [if_true, ctr]; rcases zni N (by omega) h hs b0 c0 hn with ⟨e, k, he, h1, h2, h3⟩ | ⟨n, h1, h2, h3, h4⟩
  · left; rw [h1, h2, h3]; simp only [obs]; rw [z1j N (by omega) h hs b1 c1 (show e ≠ 0 by omega)]; simp only [obs]; rw [zsi N (by omega) zod zod, zb5, dct (show e ≠ 0 by omega)]; exact ⟨e, _, false, by omega, rfl, rfl, rfl⟩
  · rw [h1, h2, h3]; simp only [obs, bsf, cfa]; rcases zni N (by omega) h hs b1 c1 cn with ⟨e, k, he, g1, g2, g3⟩ | ⟨n2, g1, g2, g3, g4⟩
    · left; rw [g1, g2, g3]; simp only [obs]; rw [zsi N (by omega) h4 zod, zb5, dct (show e ≠ 0 by omega)]; exact ⟨e, _, false, by omega, rfl, rfl, rfl⟩
    · right; rw [g1, g2, g3]; simp only [obs, bsf, cfa]; rw [zsi N (by omega) h4 g4, zaay N (by omega) h4 g4]; simp only [obs, hcond]; exact ⟨_, rfl, rfl, rfl⟩
 | false =>
  simp only [Bool.false_eq_true, if_false, cfa]; have z0 := zd3 ((zhr h.ok b0).ty c0).1; have z1 := zd3 ((zhr h.ok b1).ty c1).1; rcases zs5 N (by omega) h hs b0 c0 with ⟨e, k, he, h1, h2, h3⟩ | ⟨b, h1, h2, h3, h4⟩
  · left; obtain ⟨b', g1, g2⟩ := z15 N (by omega) h hs b1 c1 (show e ≠ 0 by omega); rw [h1, h2, h3]; simp only [obs]; rw [g1]; simp only [obs]; rw [z37 _ _ (by decide) (by omega), zb5, dct (show e ≠ 0 by omega)]; exact ⟨e, _, false, by omega, rfl, rfl, rfl⟩
  · rw [h1, h2, h3]; simp only [obs, bsf, cfa]; rcases zs5 N (by omega) h hs b1 c1 with ⟨e, k, he, g1, g2, g3⟩ | ⟨b2, g1, g2, g3, g4⟩
    · left; rw [g1, g2, g3]; simp only [obs]; rw [z37 _ _ (by omega) (by decide), zb5, dct (show e ≠ 0 by omega)]; exact ⟨e, _, false, by omega, rfl, rfl, rfl⟩
    · right; rw [g1, g2, g3]; simp only [obs, bsf, cfa]; rw [z37 _ _ (by omega) (by omega), zaee N (by omega) b b2 (by omega) (by omega) (fun o => cond (x.Op == 7) (some ((o == 0), (0 : Int))) (some (decide (o < 0), 0))), hcond]; exact ⟨_, rfl, rfl, rfl⟩
theorem z32 (h : ProgV p) {i : Nat} (hi : i < p.zA.length) (hk : (og p.zA i).Kind = 5) : 0 ≤ (og p.zA i).Target ∧ (og p.zA i).Target < (p.zG.length : Int) := (zhr h.ok hi).tg hk
theorem zub (i : Nat) (hi : i < p.zA.length) (e : Int) : zcd (mI p s e) (i : Int) = some (og p.zA i).Target := by
 unfold zcd
 rw [show (mI p s e).zB = p from rfl, zfx hi]
 rfl
theorem zadi (N : Nat) (hN : 20000 < N) (h : ProgV p) (hs : StI p s) {x : zI} (hx : p.zG[s.At.toNat]? = some x) (hop : x.Op = 7 ∨ x.Op = 8) : zgi N p s x := by
 have hm := lmg hx
 have hi := zjm hs hx
 have q0 := hs.at0
 have q1 := hs.at1
 have i40 := h.i40
 have wn1 : w6 (s.At + 1) = s.At + 1 := w6e
 have hcls : zho x.Op = [1, 4, 6] := by rcases hop with e | e <;> rw [e] <;> rfl
 obtain ⟨a0, b0, c0⟩ := zey h hm (k := 0) (c := 1) (by rw [hcls]; rfl)
 obtain ⟨a1, b1, c1⟩ := zey h hm (k := 1) (c := 4) (by rw [hcls]; rfl)
 obtain ⟨a2, b2, c2⟩ := zey h hm (k := 2) (c := 6) (by rw [hcls]; rfl)
 have c0 : isD (og p.zA (ai x 0)).Kind = true := c0
 have c1 : (isD (og p.zA (ai x 1)).Kind && (zcy (og p.zA (ai x 1)) == zcy (og p.zA (ai x 0)))) = true := c1
 have c2 : decide ((og p.zA (ai x 2)).Kind = 5) = true := c2
 rw [Bool.and_eq_true] at c1
 have cn := eq_of_beq c1.2
 have lt := z32 h b2 (of_decide_eq_true c2)
 have a0 : idx x.Args 0 = some ((ai x 0 : Nat) : Int) := a0
 have a1 : idx x.Args 1 = some ((ai x 1 : Nat) : Int) := a1
 have a2 : idx x.Args 2 = some ((ai x 2 : Nat) : Int) := a2
 have hex : zft p s x = (match zwy p s x with | .error e => .error e | .ok o => .ok (cond (zph x.Op o) (oa p x 2).Target (s.At + 1), s)) := by
  unfold zft; rcases hop with e | e <;> rw [e] <;> rfl
 have hpr : zd N (mI p s 0) x = (zcv N (mI p s 0) ((ai x 0 : Nat) : Int) ((ai x 1 : Nat) : Int)).bind fun r10 => cond (zph x.Op r10.1) ((zcd r10.2 ((ai x 2 : Nat) : Int)).bind fun r15 => some (r15, r10.2)) (some (s.At + 1, r10.2)) := by
  unfold zd zph; rcases hop with e | e <;> simp only [e, Int.reduceBEq, ctr, cfa, obs, a0, a1, a2, show (mI p s 0).zC = s from rfl, wn1]
  · congr 1
    funext r
    rw [ifp trivial, zaa]; cases decide (r.1 = 0) <;> rfl
  · congr 1
 have hrf : zx N p s = (zgo N p s x).bind fun r6 => cond (r6.2 != 0) (some (0, r6.2, s)) (cond r6.1 (some ((og p.zA (ai x 2)).Target, 0, s)) (some (s.At + 1, 0, s))) := by
  unfold zx; rw [hi, zd9 N (by omega) h.ok]; rcases hop with e | e <;> simp only [e, Int.reduceBEq, ctr, cfa, obs, a2, zfx b2, wn1]
 unfold zgi
 rw [hex, hpr, hrf]
 rcases zaba N hN h hs.sto hop a0 a1 b0 b1 c0 c1.1 cn with ⟨e, o, k, he, h1, h2, h3⟩ | ⟨o, h1, h2, h3⟩
 · left; rw [h1, h2, h3]; simp only [obs, zb5, dct (show e ≠ 0 by omega), ctr]; rw [zub _ b2]; cases zph x.Op o
   · exact ⟨e, _, _, _, rfl, by omega, rfl, rfl⟩
   · exact ⟨e, _, _, _, rfl, by omega, rfl, rfl⟩
 · right; rw [h1, h2, h3]; simp only [obs, bsf, cfa]; rw [zub _ b2]; cases zph x.Op o
   · exact ⟨_, _, _, rfl, rfl, rfl, fun _ => ⟨rfl, by show 0 ≤ s.At + 1; omega, by show s.At + 1 ≤ _; omega⟩, hs, rfl, rfl, rfl⟩
   · exact ⟨_, _, _, rfl, rfl, rfl, fun _ => ⟨rfl, by show 0 ≤ (og p.zA (ai x 2)).Target; omega, by show (og p.zA (ai x 2)).Target ≤ _; omega⟩, hs, rfl, rfl, rfl⟩
theorem zafc (N : Nat) (hN : 20000 < N) (h : ProgV p) (hs : StI p s) {x : zI} (hx : p.zG[s.At.toNat]? = some x) (hop : x.Op = 9) : zgi N p s x := by
 have hm := lmg hx
 have hi := zjm hs hx
 obtain ⟨a0, b0, c0⟩ := zey h hm (k := 0) (c := 6) (by rw [hop]; rfl)
 have c0 : decide ((og p.zA (ai x 0)).Kind = 5) = true := c0
 have lt := z32 h b0 (of_decide_eq_true c0)
 have a0 : idx x.Args 0 = some ((ai x 0 : Nat) : Int) := a0
 right
 refine ⟨(og p.zA (ai x 0)).Target, (og p.zA (ai x 0)).Target, s, by unfold zft; rw [hop]; rfl, ?_, ?_, fun _ => ⟨rfl, by omega, by omega⟩, hs, rfl, rfl, rfl⟩
 · unfold zd; simp only [hop, Int.reduceBEq, ctr, cfa, obs, a0]; rw [zub _ b0]; rfl
 · unfold zx; rw [hi, zd9 N (by omega) h.ok]; simp only [hop, Int.reduceBEq, ctr, cfa, obs, a0, zfx b0]
theorem zte (N : Nat) (hN : 2000 < N) (h : ProgV p) (hs : StoP p s.Storage) {i : Nat} (hi : i < p.zA.length) (h3 : (og p.zA i).Kind = 3) (o : Nat) (ho : o ≤ 16777215) :
 zce N s.Storage (zck p.zA i) (zhw o) = some (stV s.Storage (zck p.zA i).toNat o, 0) ∧ zfm N s.Storage (zck p.zA i) (zhw o) = some (stV s.Storage (zck p.zA i).toNat o) ∧ StoP p (stV s.Storage (zck p.zA i).toNat o) := by
 obtain ⟨q, l0, l1, l2⟩ := zsv h hi h3 hs
 refine ⟨zaai N hN hs.sto q o ho, zaar N hN hs.sto q o ho, ⟨zad6 hs.sto (by omega) (by omega) ho, by rw [zaaj (by omega)]; exact hs.size⟩⟩
theorem zadr (N : Nat) (hN : 20000 < N) (h : ProgV p) (hs : StI p s) {x : zI} (hx : p.zG[s.At.toNat]? = some x) (hop : x.Op = 10) : zgi N p s x := by
 have hm := lmg hx
 have hi := zjm hs hx
 have q0 := hs.at0
 have q1 := hs.at1
 have i40 := h.i40
 have wn1 : w6 (s.At + 1) = s.At + 1 := w6e
 have hl := hs.sto.sto.le
 obtain ⟨a0, b0, c0⟩ := zey h hm (k := 0) (c := 5) (by rw [hop]; rfl)
 obtain ⟨a1, b1, c1⟩ := zey h hm (k := 1) (c := 0) (by rw [hop]; rfl)
 have c0 : decide ((og p.zA (ai x 0)).Kind = 3) = true := c0
 have c0 := of_decide_eq_true c0
 have c1 : isS (og p.zA (ai x 1)).Kind = true := c1
 have a0 : idx x.Args 0 = some ((ai x 0 : Nat) : Int) := a0
 have a1 : idx x.Args 1 = some ((ai x 1 : Nat) : Int) := a1
 have hz := zd3 ((zhr h.ok b1).ty (zpc c1)).1
 have hex : zft p s x = zl8 s (match adI p s.Storage (ai x 1) with | .error e => .error e | .ok a => .ok (mS s (stV s.Storage (zck p.zA (ai x 0)).toNat a.toNat))) := by unfold zft; rw [hop]; rfl
 have hpr : zd N (mI p s 0) x = (zds N (mI p s 0) x.Args).bind fun r => some (s.At + 1, r) := by
  unfold zd; simp only [hop, Int.reduceBEq, ctr, cfa, obs, show (mI p s 0).zC = s from rfl, wn1]
 have hrf : zx N p s = (zbu N p s ((ai x 1 : Nat) : Int)).bind fun r12 => cond (r12.2 != 0) (some (0, r12.2, s)) ((zfm N s.Storage (zck p.zA (ai x 0)) (⟨0, (⟨1, r12.1⟩ : Address), 0⟩ : Pointer)).bind fun r15 => some (s.At + 1, 0, mS s r15)) := by
  unfold zx; rw [hi, zd9 N (by omega) h.ok]; simp only [hop, Int.reduceBEq, ctr, cfa, obs, a0, a1, zja b0, wn1]; rfl
 unfold zgi
 rw [hex, hpr, hrf]
 unfold zds
 rw [a0, a1]
 simp only [obs]
 rcases z0z N (by omega) h hs.sto b1 c1 with ⟨e, j, k, he, h1, h2, h3⟩ | ⟨a, h1, h2, h3, h4, h5⟩
 · left; rw [h1, h2, h3]; simp only [obs, show (mI p s e).raised = e from rfl, zaa, zb5, dct (show e ≠ 0 by omega), dcf (show ¬ e = 0 by omega), ctr, cfa]; exact ⟨e, _, _, _, rfl, by omega, rfl, rfl⟩
 · right; obtain ⟨a, rfl⟩ : ∃ k : Nat, a = (k : Int) := ⟨a.toNat, by omega⟩; obtain ⟨g1, g2, g3⟩ := zte N (by omega) h hs.sto b0 c0 a (by omega); rw [h1, h2, h3]; simp only [obs, show (mI p s 0).raised = 0 from rfl, show (mI p s 0).layout = zko p.zA from rfl, show (mI p s 0).zC = s from rfl, bst, bsf, ctr, cfa]; rw [zja b0]; simp only [obs]; rw [show (⟨0, (⟨1, (a : Int)⟩ : Address), 0⟩ : Pointer) = zhw a from rfl, g1, g2]; exact ⟨_, _, _, rfl, rfl, rfl, fun _ => ⟨rfl, by omega, by omega⟩, hs.S g3, rfl, rfl, rfl⟩
theorem zadq (N : Nat) (hN : 20000 < N) (h : ProgV p) (hs : StI p s) {x : zI} (hx : p.zG[s.At.toNat]? = some x) (hop : x.Op = 11) : zgi N p s x := by
 have hm := lmg hx
 have hi := zjm hs hx
 have q0 := hs.at0
 have q1 := hs.at1
 have i40 := h.i40
 have wn1 : w6 (s.At + 1) = s.At + 1 := w6e
 obtain ⟨a0, b0, c0⟩ := zey h hm (k := 0) (c := 5) (by rw [hop]; rfl)
 obtain ⟨a1, b1, c1⟩ := zey h hm (k := 1) (c := 5) (by rw [hop]; rfl)
 have c0 : decide ((og p.zA (ai x 0)).Kind = 3) = true := c0
 have c0 := of_decide_eq_true c0
 have c1 : decide ((og p.zA (ai x 1)).Kind = 3) = true := c1
 have c1 := of_decide_eq_true c1
 have a0 : idx x.Args 0 = some ((ai x 0 : Nat) : Int) := a0
 have a1 : idx x.Args 1 = some ((ai x 1 : Nat) : Int) := a1
 have hex : zft p s x = zl8 s (match ldV s.Storage (zck p.zA (ai x 1)) with | none => .error 4 | some o => .ok (mS s (stV s.Storage (zck p.zA (ai x 0)).toNat o.toNat))) := by unfold zft; rw [hop]; rfl
 have hpr : zd N (mI p s 0) x = (zc0 N (mI p s 0) x.Args).bind fun r => some (s.At + 1, r) := by
  unfold zd; simp only [hop, Int.reduceBEq, ctr, cfa, obs, show (mI p s 0).zC = s from rfl, wn1]
 have hrf : zx N p s = (zgy N s.Storage (zck p.zA (ai x 1))).bind fun r18 => cond (r18.2 != 0) (some (0, 4, s)) ((zfm N s.Storage (zck p.zA (ai x 0)) r18.1).bind fun r21 => some (s.At + 1, 0, mS s r21)) := by
  unfold zx; rw [hi, zd9 N (by omega) h.ok]; simp only [hop, Int.reduceBEq, ctr, cfa, obs, a0, a1, zja b0, zja b1, wn1]; rfl
 unfold zgi
 rw [hex, hpr, hrf]
 unfold zc0
 rw [a0, a1]
 simp only [obs]
 rw [zqi N (by omega) h hs.sto b1 c1, z0h N (by omega) hs.sto.sto (zsv h b1 c1 hs.sto).1]
 cases hld : ldV s.Storage (zck p.zA (ai x 1)) with
 | none => exact .inl ⟨4, _, _, _, rfl, by decide, rfl, rfl⟩
 | some o =>
  right; have ho := zv5 hs.sto.sto hld; obtain ⟨o, rfl⟩ : ∃ k : Nat, o = (k : Int) := ⟨o.toNat, by omega⟩; obtain ⟨g1, g2, g3⟩ := zte N (by omega) h hs.sto b0 c0 o (by omega); simp only [obs, show (mI p s 0).raised = 0 from rfl, show (mI p s 0).layout = zko p.zA from rfl, show (mI p s 0).zC = s from rfl, bst, bsf, ctr, cfa]; rw [zja b0]; simp only [obs]; rw [g1, g2]; exact ⟨_, _, _, rfl, rfl, rfl, fun _ => ⟨rfl, by omega, by omega⟩, hs.S g3, rfl, rfl, rfl⟩
theorem zadp (N : Nat) (hN : 20000 < N) (h : ProgV p) (hs : StI p s) {x : zI} (hx : p.zG[s.At.toNat]? = some x) (hop : x.Op = 12) : zgi N p s x := by
 have hm := lmg hx
 have hi := zjm hs hx
 have q0 := hs.at0
 have q1 := hs.at1
 have i40 := h.i40
 have wn1 : w6 (s.At + 1) = s.At + 1 := w6e
 obtain ⟨a0, b0, c0⟩ := zey h hm (k := 0) (c := 5) (by rw [hop]; rfl)
 obtain ⟨a1, b1, c1⟩ := zey h hm (k := 1) (c := 3) (by rw [hop]; rfl)
 have c0 : decide ((og p.zA (ai x 0)).Kind = 3) = true := c0
 have c0 := of_decide_eq_true c0
 have c1 : (isD (og p.zA (ai x 1)).Kind && zcy (og p.zA (ai x 1))) = true := c1
 rw [Bool.and_eq_true] at c1
 have a0 : idx x.Args 0 = some ((ai x 0 : Nat) : Int) := a0
 have a1 : idx x.Args 1 = some ((ai x 1 : Nat) : Int) := a1
 have hex : zft p s x = zl8 s (match ldV s.Storage (zck p.zA (ai x 0)) with
  | none => .error 4
  | some o => match nuI p s.Storage (ai x 1) with
   | .error e => .error e
   | .ok n => if inB (o + ze9 n) 0 16777215 = true then .ok (mS s (stV s.Storage (zck p.zA (ai x 0)).toNat (o + ze9 n).toNat)) else .error 5) := by unfold zft; rw [hop]; rfl
 have hpr : zd N (mI p s 0) x = (zd5 N (mI p s 0) x.Args).bind fun r => some (s.At + 1, r) := by
  unfold zd; simp only [hop, Int.reduceBEq, ctr, cfa, obs, show (mI p s 0).zC = s from rfl, wn1]
 have hrf : zx N p s = (zgy N s.Storage (zck p.zA (ai x 0))).bind fun r24 => cond (r24.2 != 0) (some (0, 4, s)) ((zbt N p s ((ai x 1 : Nat) : Int)).bind fun r26 => cond (r26.2 != 0) (some (0, r26.2, s)) ((zhp N r26.1).bind fun r27 =>
  cond (!inB (w6 (r24.1.Address.Offset + r27)) 0 16777215) (some (0, 5, s)) ((zfm N s.Storage (zck p.zA (ai x 0)) (⟨r24.1.Kind, (⟨r24.1.Address.zX, (w6 (r24.1.Address.Offset + r27))⟩ : Address), r24.1.Authority⟩ : Pointer)).bind fun r31 => some (s.At + 1, 0, mS s r31)))) := by
  unfold zx; rw [hi, zd9 N (by omega) h.ok]; simp only [hop, Int.reduceBEq, ctr, cfa, obs, a0, a1, zja b0, wn1, zhb]; rfl
 unfold zgi
 rw [hex, hpr, hrf]
 unfold zd5
 rw [a0, a1]
 simp only [obs]
 rw [zqi N (by omega) h hs.sto b0 c0, z0h N (by omega) hs.sto.sto (zsv h b0 c0 hs.sto).1]
 cases hld : ldV s.Storage (zck p.zA (ai x 0)) with
 | none => exact .inl ⟨4, _, _, _, rfl, by decide, rfl, rfl⟩
 | some o =>
  have ho := zv5 hs.sto.sto hld; simp only [obs, show (mI p s 0).raised = 0 from rfl, bsf, cfa]; rcases zni N (by omega) h hs.sto b1 c1.1 c1.2 with ⟨e, k, he, h1, h2, h3⟩ | ⟨n, h1, h2, h3, h4⟩
  · left; rw [h1, h2, h3]; simp only [obs]; rw [zua N (by omega) zod]; simp only [obs, show (mI p s e).raised = e from rfl, zb5, dct (show e ≠ 0 by omega), ctr]; exact ⟨e, _, _, _, rfl, by omega, rfl, rfl⟩
  · have hw := zqy h4; rw [h1, h2, h3]; simp only [obs, show (mI p s 0).raised = 0 from rfl, bsf, cfa]; rw [zua N (by omega) h4, zze N (by omega) h4]; simp only [obs, z2e, show (zhw o).Address.Offset = o from rfl]; rw [w6e (n := o + ze9 n)]; cases hin : inB (o + ze9 n) 0 16777215 with
    | false => exact .inl ⟨5, _, _, _, rfl, by decide, rfl, rfl⟩
    | true =>
     right; have hr := zbg.1 hin; obtain ⟨q, hq⟩ : ∃ k : Nat, o + ze9 n = (k : Int) := ⟨(o + ze9 n).toNat, by omega⟩; obtain ⟨g1, g2, g3⟩ := zte N (by omega) h hs.sto b0 c0 q (by omega); simp only [bnt, cfa, if_true, show (mI p s 0).zC = s from rfl]; rw [hq, show (⟨(zhw o).Kind, (⟨(zhw o).Address.zX, (q : Int)⟩ : Address), (zhw o).Authority⟩ : Pointer) = zhw q from rfl, g1, g2]; exact ⟨_, _, _, rfl, rfl, rfl, fun _ => ⟨rfl, by omega, by omega⟩, hs.S g3, rfl, rfl, rfl⟩
end
section
variable {p : zB} {s : zC}
theorem zado (N : Nat) (hN : 20000 < N) (h : ProgV p) (hs : StI p s) {x : zI} (hx : p.zG[s.At.toNat]? = some x) (hop : x.Op = 13) : zgi N p s x := by
 have hm := lmg hx
 have hi := zjm hs hx
 have q0 := hs.at0
 have q1 := hs.at1
 have st := hs.stk
 obtain ⟨a0, b0, c0⟩ := zey h hm (k := 0) (c := 6) (by rw [hop]; rfl)
 have c0 : decide ((og p.zA (ai x 0)).Kind = 5) = true := c0
 have lt := z32 h b0 (of_decide_eq_true c0)
 have a0 : idx x.Args 0 = some ((ai x 0 : Nat) : Int) := a0
 have hex : zft p s x = if 6 ≤ s.Stack.length then .error 6 else .ok ((og p.zA (ai x 0)).Target, mK s (s.Stack ++ [s.At])) := by unfold zft; rw [hop]; rfl
 have hpr : zd N (mI p s 0) x = (zew (mI p s 0) (og p.zA (ai x 0)).Target).bind fun r => some (r.1, r.2) := by
  unfold zd; simp only [hop, Int.reduceBEq, ctr, cfa, obs, a0, zub _ b0]
 have hrf : zx N p s = cond ((s.Stack.length : Int) == 6) (some (0, 6, s)) (cond (Nat.ble ((s.Stack.length + ([s.At] : List Int).length) * 8) za7) (some ((og p.zA (ai x 0)).Target, 0, mK s (s.Stack ++ [s.At]))) none) := by
  unfold zx; rw [hi, zd9 N (by omega) h.ok]; simp only [hop, Int.reduceBEq, ctr, cfa, obs, a0, zfx b0]; rfl
 unfold zgi
 rw [hex, hpr, hrf]
 unfold zew zjc
 simp only [show (mI p s 0).zC = s from rfl, lns, zaa]
 by_cases h6 : 6 ≤ s.Stack.length
 · left; rw [ifp h6, dct (show (s.Stack.length : Int) ≥ 6 by omega), dct (show (s.Stack.length : Int) = 6 by omega)]; exact ⟨6, _, _, _, rfl, by decide, rfl, rfl⟩
 · right; rw [ifn h6, dcf (show ¬ (s.Stack.length : Int) ≥ 6 by omega), dcf (show ¬ (s.Stack.length : Int) = 6 by omega), zao (by omega), zao (by omega)]; simp only [cfa, ctr, obs]; rw [zao (by omega)]; refine ⟨_, _, _, rfl, rfl, rfl, fun _ => ⟨rfl, by omega, by omega⟩, hs.K (by rw [lna, lns]; omega) (fun i hi => ?_), rfl, rfl, rfl⟩; rcases List.mem_append.1 hi with g | g
   · exact hs.calls i g
   · rw [List.mem_singleton.1 g]; exact ⟨⟨q0, q1⟩, x, hx, hop⟩
theorem zadn (N : Nat) (hN : 20000 < N) (h : ProgV p) (hs : StI p s) {x : zI} (hx : p.zG[s.At.toNat]? = some x) (hop : x.Op = 14) : zgi N p s x := by
 have hi := zjm hs hx
 have q0 := hs.at0
 have q1 := hs.at1
 have st := hs.stk
 have i40 := h.i40
 have hex : zft p s x = if s.Stack.length = 0 then .ok (s.At, mT s 1) else .ok (s.Stack.getD (s.Stack.length - 1) 0 + 1, mK s (s.Stack.take (s.Stack.length - 1))) := by unfold zft; rw [hop]; rfl
 have hpr : zd N (mI p s 0) x = (zex (mI p s 0)).bind fun r => some (r.1, r.2) := by
  unfold zd; simp only [hop, Int.reduceBEq, ctr, cfa, obs]
 unfold zgi zx
 rw [hex, hpr, hi, zd9 N (by omega) h.ok]
 simp only [hop, Int.reduceBEq, ctr, cfa, obs]
 unfold zex
 simp only [show (mI p s 0).zC = s from rfl, zaa]
 right
 by_cases h0 : s.Stack.length = 0
 · rw [ifp h0, dct (show (s.Stack.length : Int) = 0 by omega)]; exact ⟨_, _, _, rfl, rfl, rfl, fun h => (by cases h), hs.T (by decide) (by decide), rfl, rfl, rfl⟩
 · rw [ifn h0, dcf (show ¬ (s.Stack.length : Int) = 0 by omega)]; simp only [cfa]; have wl : w6 ((s.Stack.length : Int) - 1) = ((s.Stack.length - 1 : Nat) : Int) := by rw [w6e]; omega
   have hg : s.Stack[s.Stack.length - 1]? = some (s.Stack.getD (s.Stack.length - 1) 0) := by
    rw [gdd, lge (by omega)]; rfl
   have hc := hs.calls _ (lmg hg); have wn : w6 (s.Stack.getD (s.Stack.length - 1) 0 + 1) = s.Stack.getD (s.Stack.length - 1) 0 + 1 := w6e; have k1 : 0 ≤ ((s.Stack.length - 1 : Nat) : Int) ∧ ((s.Stack.length - 1 : Nat) : Int) ≤ (s.Stack.length : Int) := by omega
   have k2 : 0 ≤ (0 : Int) ∧ (0 : Int) ≤ ((s.Stack.length - 1 : Nat) : Int) := by omega
   have k3 : 0 ≤ ((s.Stack.length - 1 : Nat) : Int) := by omega
   have k4 : ((s.Stack.length - 1 : Nat) : Int) < (s.Stack.length : Int) := by omega
   simp only [wl, zal, itn, hg, obs, ifp k1, ifp k2, ifp k3, ifp k4, wn]; unfold zjc; rw [show (s.Stack.take (s.Stack.length - 1)).drop (0 : Int).toNat = s.Stack.take (s.Stack.length - 1) from rfl, zao (by rw [lnt]; omega)]; refine ⟨_, _, _, rfl, rfl, rfl, fun _ => ⟨rfl, by omega, by omega⟩, hs.K (by rw [lnt]; omega) (fun i hi => hs.calls i (List.mem_of_mem_take hi)), rfl, rfl, rfl⟩
theorem zadm (N : Nat) (hN : 20000 < N) (h : ProgV p) (hs : StI p s) {x : zI} (hx : p.zG[s.At.toNat]? = some x) (hop : x.Op = 15) : zgi N p s x := by
 have hm := lmg hx
 have hi := zjm hs hx
 obtain ⟨a0, b0, c0⟩ := zey h hm (k := 0) (c := 3) (by rw [hop]; rfl)
 have c0 : (isD (og p.zA (ai x 0)).Kind && zcy (og p.zA (ai x 0))) = true := c0
 rw [Bool.and_eq_true] at c0
 have a0 : idx x.Args 0 = some ((ai x 0 : Nat) : Int) := a0
 have hex : zft p s x = (match nuI p s.Storage (ai x 0) with | .error e => .error e | .ok n => if inB (ze9 n) 100 999 = true then .error (ze9 n) else .error 2) := by unfold zft; rw [hop]; rfl
 have hpr : zd N (mI p s 0) x = (zef N (mI p s 0) ((ai x 0 : Nat) : Int)).bind fun r => some (w6 (s.At + 1), r) := by
  unfold zd; simp only [hop, Int.reduceBEq, ctr, cfa, obs, a0]; rfl
 have hrf : zx N p s = (zbt N p s ((ai x 0 : Nat) : Int)).bind fun r36 => cond (r36.2 != 0) (some (0, r36.2, s)) ((zhp N r36.1).bind fun r37 => cond (inB r37 100 999) (some (0, r37, s)) (some (0, 2, s))) := by
  unfold zx; rw [hi, zd9 N (by omega) h.ok]; simp only [hop, Int.reduceBEq, ctr, cfa, obs, a0, zhb]
 unfold zgi
 rw [hex, hpr, hrf]
 unfold zef
 left
 rcases zni N (by omega) h hs.sto b0 c0.1 c0.2 with ⟨e, k, he, h1, h2, h3⟩ | ⟨n, h1, h2, h3, h4⟩
 · rw [h1, h2, h3]; simp only [obs]; rw [zua N (by omega) zod]; simp only [obs, z2e]; rw [zpy p s (show e ≠ 0 by omega), zpy p s (show e ≠ 0 by omega), zb5, dct (show e ≠ 0 by omega)]; exact ⟨e, _, _, _, rfl, by omega, by cases inB (ze9 ⟨0, 0⟩) 100 999 <;> rfl, rfl⟩
 · have hw := zqy h4; rw [h1, h2, h3]; simp only [obs, bsf, cfa]; rw [zua N (by omega) h4, zze N (by omega) h4]; simp only [obs, z2e, z1p]; cases hin : inB (ze9 n) 100 999 with
   | true =>
    have := zbg.1 hin; exact ⟨ze9 n, _, _, _, rfl, by omega, rfl, rfl⟩
   | false => exact ⟨2, _, _, _, rfl, by omega, rfl, rfl⟩
theorem zadl (N : Nat) (hN : 20000 < N) (h : ProgV p) (hs : StI p s) {x : zI} (hx : p.zG[s.At.toNat]? = some x) (hop : x.Op = 16) : zgi N p s x := by
 have hm := lmg hx
 have hi := zjm hs hx
 have e0 := hs.ex0
 have e1 := hs.ex1
 obtain ⟨a0, b0, c0⟩ := zey h hm (k := 0) (c := 2) (by rw [hop]; rfl)
 have c0 : (isS (og p.zA (ai x 0)).Kind && zcy (og p.zA (ai x 0))) = true := c0
 rw [Bool.and_eq_true] at c0
 have a0 : idx x.Args 0 = some ((ai x 0 : Nat) : Int) := a0
 have hn : zdb ⟨s.Exception, 0⟩ := ⟨⟨by show -999999999999999 ≤ s.Exception; omega, by show s.Exception ≤ 999999999999999; omega⟩, (by show (0 : Int) ≤ 0; decide), (by show (0 : Int) ≤ 15; decide)⟩
 refine zp3 N h hs (z1z N (by omega) h hs.sto b0 c0.1 c0.2 hn false) (by unfold zft; rw [hop]; rfl) ?_ ?_
 · unfold zd; simp only [hop, Int.reduceBEq, ctr, cfa, obs, a0, show (mI p s 0).zC = s from rfl, show (mI p s 0).zB = p from rfl, zfx b0]; cases zdm N (⟨s.Exception, 0⟩ : Number) (og p.zA (ai x 0)).zJ false with
   | none => rfl
   | some r =>
    simp only [obs]; cases zaj N (mI p s 0) ((ai x 0 : Nat) : Int) r.1 r.2 <;> rfl
 · unfold zx; rw [hi, zd9 N (by omega) h.ok]; simp only [hop, Int.reduceBEq, ctr, cfa, obs, a0]
theorem z8d (N : Nat) (hN : 20000 < N) (h : ProgV p) (hs : StoP p s.Storage) {i : Nat} (hi : i < p.zA.length) (hk : isD (og p.zA i).Kind = true) :
 (∃ e l k, (1 ≤ e ∧ e ≤ 5) ∧ zy1 p s i = .error e ∧ zd2 N (mI p s 0) (i : Int) = some (l, mI p s e) ∧ zje N p s (i : Int) = some (k, e)) ∨
 ∃ l, zy1 p s i = .ok l ∧ zd2 N (mI p s 0) (i : Int) = some (l, mI p s 0) ∧ zje N p s (i : Int) = some (l, 0) ∧ l.size ≤ 256 := by
 unfold zy1 zd2 zje
 rw [show (mI p s 0).zB = p from rfl, zfx hi, zqf h hi hk]
 simp only [obs, zuc]
 cases hn : zcy (og p.zA i) with
 | true =>
  simp only [if_true, bnt, cfa]; rcases zni N (by omega) h hs hi hk hn with ⟨e, k, he, h1, h2, h3⟩ | ⟨n, h1, h2, h3, h4⟩
  · left; rw [h1, h2, h3]; simp only [obs]; rw [z1k zod, zb5, dct (show e ≠ 0 by omega)]; exact ⟨e, _, _, by omega, rfl, rfl, rfl⟩
  · right; rw [h1, h2, h3]; simp only [obs, bsf, cfa]; rw [z1k h4, zaco N (by omega) h4]; exact ⟨_, rfl, rfl, rfl, z6q h4⟩
 | false =>
  simp only [Bool.false_eq_true, if_false, Bool.not_false, ctr]; have hz := zd3 ((zhr h.ok hi).ty hk).1; rcases zs5 N (by omega) h hs hi hk with ⟨e, k, he, h1, h2, h3⟩ | ⟨b, h1, h2, h3, h4⟩
  · left; rw [h1, h2, h3]; exact ⟨e, _, _, by omega, rfl, rfl, rfl⟩
  · right; rw [h1, h2, h3]; exact ⟨_, rfl, rfl, rfl, by omega⟩
theorem zadk (N : Nat) (hN : 20000 < N) (h : ProgV p) (hs : StI p s) {x : zI} (hx : p.zG[s.At.toNat]? = some x) (hop : x.Op = 17) : zgi N p s x := by
 have hm := lmg hx
 have hi := zjm hs hx
 have q0 := hs.at0
 have q1 := hs.at1
 have i40 := h.i40
 have ln := hs.lines
 have wn1 : w6 (s.At + 1) = s.At + 1 := w6e
 obtain ⟨a0, b0, c0⟩ := zey h hm (k := 0) (c := 1) (by rw [hop]; rfl)
 have c0 : isD (og p.zA (ai x 0)).Kind = true := c0
 have a0 : idx x.Args 0 = some ((ai x 0 : Nat) : Int) := a0
 have hex : zft p s x = (match zy1 p s (ai x 0) with | .error e => .error e | .ok l => if s.Lines.length = 40 then .ok (s.At + 1, mT s 3) else .ok (s.At + 1, mL s (s.Lines ++ [l]))) := by unfold zft; rw [hop]; rfl
 have hpr : zd N (mI p s 0) x = (zem N (mI p s 0) ((ai x 0 : Nat) : Int)).bind fun r => some (s.At + 1, r) := by
  unfold zd; simp only [hop, Int.reduceBEq, ctr, cfa, obs, a0, show (mI p s 0).zC = s from rfl, wn1]
 have hrf : zx N p s = (zje N p s ((ai x 0 : Nat) : Int)).bind fun r42 => cond (r42.2 != 0) (some (0, r42.2, s)) (cond ((s.Lines.length : Int) == 40) (some (s.At + 1, 0, mT s 3))
  (cond (Nat.ble ((s.Lines.length + ([r42.1] : List ByteArray).length) * 16) za7) (some (s.At + 1, 0, mL s (s.Lines ++ [r42.1]))) none)) := by
  unfold zx; rw [hi, zd9 N (by omega) h.ok]; simp only [hop, Int.reduceBEq, ctr, cfa, obs, a0, wn1]; rfl
 unfold zgi
 rw [hex, hpr, hrf]
 unfold zem
 rcases z8d N hN h hs.sto b0 c0 with ⟨e, l, k, he, h1, h2, h3⟩ | ⟨l, h1, h2, h3, h4⟩
 · left; rw [h1, h2, h3]; simp only [obs, show (mI p s e).raised = e from rfl, zb5, dct (show e ≠ 0 by omega), ctr]; exact ⟨e, _, _, _, rfl, by omega, rfl, rfl⟩
 · right; rw [h1, h2, h3]; simp only [obs, show (mI p s 0).raised = 0 from rfl, show (mI p s 0).zC = s from rfl, bsf, cfa, zaa]
   by_cases h40 : s.Lines.length = 40
   · rw [ifp h40, dct (show (s.Lines.length : Int) = 40 by omega)]; exact ⟨_, _, _, rfl, rfl, rfl, fun h => (by cases h), hs.T (by decide) (by decide), rfl, rfl, rfl⟩
   · rw [ifn h40, dcf (show ¬ (s.Lines.length : Int) = 40 by omega)]; unfold zjc; rw [zao (by omega)]; simp only [ctr, cfa, obs, lns]; rw [zao (by omega)]; exact ⟨_, _, _, rfl, rfl, rfl, fun _ => ⟨rfl, by omega, by omega⟩, hs.L (by omega) h4, rfl, rfl, rfl⟩
theorem zadj (N : Nat) (hN : 20000 < N) (h : ProgV p) (hs : StI p s) {x : zI} (hx : p.zG[s.At.toNat]? = some x) (hop : x.Op = 18) : zgi N p s x := by
 have hi := zjm hs hx
 have q0 := hs.at0
 have q1 := hs.at1
 have i40 := h.i40
 have wn1 : w6 (s.At + 1) = s.At + 1 := w6e
 right
 refine ⟨s.At + 1, s.At + 1, mT s 1, by unfold zft; rw [hop]; rfl, ?_, ?_, fun h => (by cases h), hs.T (by decide) (by decide), rfl, rfl, rfl⟩
 · unfold zd; simp only [hop, Int.reduceBEq, ctr, cfa, obs, show (mI p s 0).zC = s from rfl, wn1]; rfl
 · unfold zx; rw [hi, zd9 N (by omega) h.ok]; simp only [hop, Int.reduceBEq, ctr, cfa, obs, wn1]; rfl
theorem zabr (N : Nat) (hN : 20000 < N) (h : ProgV p) (hs : StI p s) {x : zI} (hx : p.zG[s.At.toNat]? = some x) : zgi N p s x := by
 have ho := zae2 h (lmg hx)
 rcases (by omega : x.Op = 0 ∨ x.Op = 1 ∨ (2 ≤ x.Op ∧ x.Op ≤ 6) ∨ (x.Op = 7 ∨ x.Op = 8) ∨ x.Op = 9 ∨ x.Op = 10 ∨ x.Op = 11 ∨ x.Op = 12 ∨ x.Op = 13 ∨ x.Op = 14 ∨ x.Op = 15 ∨ x.Op = 16 ∨ x.Op = 17 ∨ x.Op = 18) with e | e | e | e | e | e | e | e | e | e | e | e | e | e
 · exact zafe N hN h hs hx e
 · exact zafd N hN h hs hx e
 · exact z90 N hN h hs hx e
 · exact zadi N hN h hs hx e
 · exact zafc N hN h hs hx e
 · exact zadr N hN h hs hx e
 · exact zadq N hN h hs hx e
 · exact zadp N hN h hs hx e
 · exact zado N hN h hs hx e
 · exact zadn N hN h hs hx e
 · exact zadm N hN h hs hx e
 · exact zadl N hN h hs hx e
 · exact zadk N hN h hs hx e
 · exact zadj N hN h hs hx e
end
end
end Go.Proofs.YtppbpnknfigboaaGreatDoor.M
