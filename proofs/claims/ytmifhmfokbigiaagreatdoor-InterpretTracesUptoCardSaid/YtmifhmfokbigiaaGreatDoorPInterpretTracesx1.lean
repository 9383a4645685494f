/- The plain law of InterpretTraces: part 1. -/
import Derived.Test.YtmifhmfokbigiaaGreatDoorPInterpretTracesx0
namespace Go.Proofs.YtmifhmfokbigiaaGreatDoor.M
open Go Go.Amx
set_option linter.unusedVariables false
set_option linter.unusedSimpArgs false
set_option maxRecDepth 100000
set_option exponentiation.threshold 3000
noncomputable section
theorem zaam (N : Nat) (hN : 4000 < N) (A : List Int) (b r0 : Nat) (hb : 0 < b) (hb2 : b < 10 ^ 500) (Q : List Int) (hQ : dok Q) (i : Nat) (hi : i < Q.length) (hz : Q[i]? = some 0) (hr : r0 < 10 * b) :
 zh (za1.r2 N) N (A, dg b, Q, dg r0, (i : Int)) = some (A, dg b, Q.set i ((r0 / b : Nat) : Int), dg (r0 % b), (i : Int)) := by
 have h56 : (10 : Nat) ^ 500 * 10 ≤ 10 ^ 900 := by decide
 obtain ⟨s', h1, h2⟩ := zkl (f := za1.r2 N)
  (fun t => ∃ (r c : Nat), t = (A, dg b, Q.set i (c : Int), dg r, (i : Int)) ∧ r + c * b = r0)
  (fun t => 10 - (zax t.2.2.1 i).toNat) (fun t => t = (A, dg b, Q.set i ((r0 / b : Nat) : Int), dg (r0 % b), (i : Int)))
  (fun t ht => by
   obtain ⟨r, c, rfl, s1⟩ := ht; have hc : c < 10 := by
    refine cbc fun h => ?_; have := Nat.mul_le_mul_right b (show 10 ≤ c by omega); omega
   have hl : (Q.set i (c : Int)).length = Q.length := List.length_set; have hx : (Q.set i (c : Int))[i]? = some (c : Int) := by rw [List.getElem?_set, ifp rfl, ifp hi]
   have hr0 : r ≤ r0 := by omega
   simp only [za1.r2, za1.b2]; rw [zx3 N hN r b (by omega) (by omega), obs, zsw]
   by_cases h : b ≤ r
   · left; rw [dct h, ctr, zx4 N hN r b (by omega) h, obs, hl, ifp, ifp, itn, hx]; simp only [obs]; rw [ifp, ifp, w6e, List.set_set]; refine ⟨_, rfl, ⟨r - b, c + 1, rfl, ?_⟩, ?_⟩
     · rw [Nat.add_mul, Nat.one_mul]; omega
     · have g : ∀ v : Int, zax (Q.set i v) i = v := by
        intro v; clear hx hl hz
        induction Q generalizing i with
        | nil => simp at hi
        | cons q Q ih =>
         cases i with
         | zero => rfl
         | succ i =>
          rw [List.set_cons_succ]; show (if i + 1 = 0 then q else zax (Q.set i v) (i + 1 - 1)) = v; rw [ifn, Nat.add_sub_cancel]; exact ih (fun d hd => hQ d (List.mem_cons_of_mem _ hd)) i (by simpa using hi)
       show 10 - (zax (Q.set i ((c : Int) + 1)) i).toNat < 10 - (zax (Q.set i (c : Int)) i).toNat; rw [g, g]; omega
   · right; rw [dcf h, cfa]; refine ⟨_, rfl, ?_⟩; have e1 : r0 / b = c := by rw [← s1, Nat.add_mul_div_right _ _ hb, Nat.div_eq_of_lt (by omega), Nat.zero_add]
     have e2 : r0 % b = r := by rw [← s1, Nat.add_mul_mod_self_right, mel (by omega)]
     rw [e1, e2])
  (N := N) (s := (A, dg b, Q, dg r0, (i : Int))) ⟨r0, 0, by
   have : Q.set i ((0 : Nat) : Int) = Q := by
    refine List.ext_getElem? fun k => ?_; rw [List.getElem?_set]; split
    · rename_i hk; rw [← hk, hz]; rfl
    · rfl
   rw [this], by omega⟩ (by show 10 - (zax Q i).toNat < N; omega)
 rw [h1, h2]
theorem zy4 (N : Nat) (hN : 4000 < N) (a b : Nat) (ha : a < 10 ^ 400) (hb : 0 < b) (hb2 : b < 10 ^ 400) : za1 N (dg a) (dg b) = some (dg (a / b), dg (a % b)) := by
 have la : (dg a).length ≤ 400 := (zhk a 400).2 ha
 have h45 : (10 : Nat) ^ 400 < 10 ^ 500 := by decide
 have hA := zjo a
 have vA := zj5 a
 unfold za1
 generalize dg a = A at *
 rw [ifp, ifp, zag (by omega), ctr, itn, w6e]
 obtain ⟨s', h1, h2⟩ := zkl (f := za1.r0 N)
  (fun t => ∃ (Q : List Int) (i : Nat), t = (A, dg b, Q, dg (dv (A.drop i) % b), (i : Int) - 1) ∧ i ≤ A.length ∧ Q.length = A.length ∧ dok Q ∧ dv (Q.drop i) = dv (A.drop i) / b ∧ (∀ k, k < i → Q[k]? = some 0))
  (fun t => (t.2.2.2.2 + 1).toNat) (fun t => dok t.2.2.1 ∧ t.2.2.1.length = A.length ∧ dv t.2.2.1 = a / b ∧ t.2.2.2.1 = dg (a % b))
  (fun t ht => by
   obtain ⟨Q, i, rfl, s1, s2, s3, s4, s5⟩ := ht; simp only [za1.r0, za1.b0]; cases i with
   | zero =>
    right; rw [dr0, dr0, vA] at s4; refine ⟨_, rfl, s3, s2, s4, ?_⟩; rw [dr0, vA]
   | succ i =>
    left; obtain ⟨x, hx⟩ : ∃ x, A[i]? = some x := zes (by omega); obtain ⟨x0, x1⟩ := zp6 hA hx; obtain ⟨u, rfl⟩ : ∃ u : Nat, x = (u : Int) := ⟨x.toNat, by omega⟩; have hd := zo1 A i hx; rw [itn] at hd; have hrb : dv (A.drop (i + 1)) % b < b := Nat.mod_lt _ hb; have hdm := Nat.div_add_mod (dv (A.drop (i + 1))) b; rw [show ((i + 1 : Nat) : Int) - 1 = (i : Int) by omega, dct (show (i : Int) ≥ 0 by omega), ctr, zae, hx]; simp only [obs]; generalize dv (A.drop (i + 1)) = p at *; have lr : (dg (p % b)).length ≤ 500 := (zhk _ 500).2 (by omega); rw [zag (by simp only [lnc, ln0]; omega), ctr]; have hrest : dok ([(u : Int)] ++ dg (p % b)) := zuo (fun d hd => by
     rcases List.mem_cons.1 hd with rfl | hd
     · omega
     · cases hd) (zjo _)
    rw [zqu N _ hrest (by rw [lna, lns]; omega) (by rw [lna, lns]; omega)]; have hv : dv ([(u : Int)] ++ dg (p % b)) = u + 10 * (p % b) := by
     show (u : Int).toNat + 10 * dv (dg (p % b)) = _; rw [zj5, itn]
    rw [hv]; simp only [obs]; rw [zaam N hN A b (u + 10 * (p % b)) hb (by omega) Q s3 i (by omega) (s5 i (by omega)) (by omega)]; simp only [obs]; rw [w6e]; have eq1 : u + 10 * p = b * (10 * (p / b)) + (u + 10 * (p % b)) := by
     rw [Nat.mul_left_comm]; omega
    have ed : (u + 10 * p) / b = 10 * (p / b) + (u + 10 * (p % b)) / b := by rw [eq1, Nat.mul_add_div hb]
    have em : (u + 10 * p) % b = (u + 10 * (p % b)) % b := by rw [eq1, Nat.mul_add_mod]
    have hdig : (u + 10 * (p % b)) / b < 10 := Nat.div_lt_of_lt_mul (by rw [Nat.mul_comm]; omega); generalize (u + 10 * (p % b)) / b = G at *; refine ⟨_, rfl, ⟨Q.set i (G : Int), i, ?_, by omega, by rw [List.length_set]; exact s2, ?_, ?_, ?_⟩, ?_⟩
    · rw [hd, em]
    · intro d hd; rcases List.mem_or_eq_of_mem_set hd with h | h
      · exact s3 d h
      · rw [h]; omega
    · have hxs : (Q.set i (G : Int))[i]? = some (G : Int) := by rw [List.getElem?_set, ifp rfl, ifp]
      rw [zo1 _ i hxs, itn, List.drop_set_of_lt (by omega), s4, hd, ed]; omega
    · intro k hk; rw [List.getElem?_set, ifn]; exact s5 k (by omega)
    · show ((i : Int) - 1 + 1).toNat < ((i : Int) + 1).toNat; omega)
  (N := N) (s := (A, dg b, List.replicate A.length 0, [], (A.length : Int) - 1)) ⟨List.replicate A.length 0, A.length, by rw [zig (Nat.le_refl _), Nat.zero_mod, zkf], by omega, lnr, zp5 _, by rw [zig (Nat.le_refl _), Nat.zero_div, zig (by rw [lnr]; omega)], fun k hk => by rw [List.getElem?_replicate, ifp hk]⟩ (by show ((A.length : Int) - 1 + 1).toNat < N; omega)
 obtain ⟨o1, o2, o3, o4⟩ := h2
 rw [h1]
 simp only [obs]
 rw [zqu N _ o1 (by omega) (by omega), o3, o4]
 rfl
theorem zvi (k : Nat) (hk : k ≤ 100) : zgd (k : Int) = some (dg (10 ^ k)) := by
 unfold zgd
 rw [ifp, ifp, zag (by omega), ctr, itn, lnr, zag (by simp only [lnc, ln0]; omega), ctr]
 congr 1
 have h1 : dok (List.replicate k (0 : Int) ++ [1]) := zo2 (zp5 k) (by decide) (by decide)
 have h2 : dv (List.replicate k (0 : Int) ++ [1]) = 10 ^ k := by rw [znr, zre, lnr]; simp
 rw [← h2]
 refine (zzu h1 ?_).symm
 unfold zm9
 rw [List.getLast?_append]
 simp
def zx9 (p q : Nat) (half : Bool) : Nat := p / q + cond (half && decide (q ≤ p % q + p % q)) 1 0
theorem zaag (N : Nat) (hN : 4000 < N) (s : Bool) (p q : Nat) (hp : p ≤ 10 ^ 100) (hq : 0 < q) (hq2 : q ≤ 10 ^ 100) (k : Nat) (hk : k ≤ 15) (half : Bool) :
 ∃ v, zju N ⟨⟨s, dg p⟩, dg q⟩ (k : Int) half = some ⟨v, dg (zx9 (p * 10 ^ k) q half)⟩ ∧ (zx9 (p * 10 ^ k) q half ≠ 0 → v = s) := by
 have hs : p * 10 ^ k ≤ 10 ^ 100 * 10 ^ 15 := Nat.mul_le_mul hp (zb8 hk)
 have h115 : (10 : Nat) ^ 100 * 10 ^ 15 < 10 ^ 400 := by decide
 have h4 : (10 : Nat) ^ 400 < 10 ^ 900 := by decide
 have h14 : (10 : Nat) ^ 100 < 10 ^ 400 := by decide
 have hr := Nat.mod_lt (p * 10 ^ k) hq
 have hdl := Nat.div_le_self (p * 10 ^ k) q
 have lp : (dg p).length ≤ 101 := (zhk p 101).2 (by have : (10 : Nat) ^ 100 < 10 ^ 101 := (by decide); omega)
 unfold zju
 rw [ifp, ifp, zag (by omega), ctr, itn, lnr, zag (by show (k + (dg p).length) * 8 ≤ 1000000; omega), ctr]
 have hd : dok (List.replicate k (0 : Int) ++ dg p) := zuo (zp5 k) (zjo p)
 have hv : dv (List.replicate k (0 : Int) ++ dg p) = p * 10 ^ k := by rw [zr7, zre, zj5, lnr, Nat.zero_add, Nat.mul_comm]
 show ∃ v, ((zb2 N (List.replicate k (0 : Int) ++ dg p)).bind _) = _ ∧ _
 rw [zqu N _ hd (by rw [lna, lnr]; omega) (by rw [lna, lnr]; omega), hv]
 simp only [obs]
 rw [zy4 N hN _ q (by omega) hq (by omega)]
 simp only [obs]
 rw [zx2 N hN _ _ (by omega) (by omega)]
 simp only [obs]
 rw [zx3 N hN _ q (by omega) (by omega)]
 simp only [obs, zsw]
 have kk : (cond half (some (decide (q ≤ p * 10 ^ k % q + p * 10 ^ k % q))) (some false)) = some (half && decide (q ≤ p * 10 ^ k % q + p * 10 ^ k % q)) := by cases half <;> rfl
 rw [kk, obs]
 unfold zx9
 cases (half && decide (q ≤ p * 10 ^ k % q + p * 10 ^ k % q)) with
 | true =>
  rw [ctr, ctr, show ([1] : List Int) = dg 1 by rw [zod (by decide), show 1 / 10 = 0 from rfl, zkf]; rfl, zx2 N hN _ 1 (by omega) (by omega)]; simp only [obs, zqx]; refine ⟨s && decide (p * 10 ^ k / q + 1 ≠ 0), by cases s <;> rfl, fun h => ?_⟩; rw [dct h, Bool.and_true]
 | false =>
  rw [cfa, cfa]; simp only [obs, zqx, Nat.add_zero]; refine ⟨s && decide (p * 10 ^ k / q ≠ 0), by cases s <;> rfl, fun h => ?_⟩; rw [dct h, Bool.and_true]
theorem zaaj (N : Nat) (hN : 4000 < N) (v : Bool) (m : Nat) (hm : m < 10 ^ 16) : zc8 N ⟨v, dg m⟩ = some (sgn v m) := by
 have lm : (dg m).length ≤ 16 := (zhk m 16).2 hm
 have hA := zjo m
 have vA := zj5 m
 unfold zc8
 generalize dg m = A at *
 have lp := zas (f := zc8.r0 N) (fun i => (((dv (A.drop (A.length - i)) : Nat) : Int), (A.length : Int) - 1 - (i : Int), (⟨v, A⟩ : zJ))) A.length
  (fun i hi => by
   obtain ⟨x, hx⟩ : ∃ x, A[A.length - 1 - i]? = some x := zes (by omega); obtain ⟨x0, x1⟩ := zp6 hA hx; have hd := zo1 A _ hx; rw [show A.length - 1 - i + 1 = A.length - i by omega] at hd; have hb := zzs (zaa9 hA (A.length - i)); have hb2 : 10 ^ (A.drop (A.length - i)).length ≤ 10 ^ 16 := zb8 (by rw [List.length_drop]; omega); simp only [zc8.r0, zc8.b0, dct (show (A.length : Int) - 1 - (i : Int) ≥ 0 by omega), ctr]; rw [show (A.length : Int) - 1 - (i : Int) = ((A.length - 1 - i : Nat) : Int) by omega, zae, hx]; simp only [obs]; rw [w6e (n := 10 * ((dv (A.drop (A.length - i)) : Nat) : Int)), w6e (n := 10 * ((dv (A.drop (A.length - i)) : Nat) : Int) + x), w6e, show A.length - (i + 1) = A.length - 1 - i by omega, hd]
   congr 3
   · omega
   · congr 1
     omega)
  (by simp only [zc8.r0, zc8.b0, dcf (show ¬ (A.length : Int) - 1 - (A.length : Int) ≥ 0 by omega), cfa]) (N := N) (by omega)
 simp only [Nat.sub_zero, nc0, Int.sub_zero, Nat.sub_self, dr0, zig (Nat.le_refl A.length), vA] at lp
 show ((zh (zc8.r0 N) N (0, w6 ((A.length : Int) - 1), (⟨v, A⟩ : zJ))).bind _) = _
 rw [w6e, lp]
 simp only [obs]
 unfold sgn
 cases v
 · rfl
 · rw [ctr, ctr, w6e, Int.zero_sub]
theorem z8g (N : Nat) (hN : 4000 < N) (s : Bool) (p q : Nat) (hp : p ≤ 10 ^ 100) (hq : 0 < q) (hq2 : q ≤ 10 ^ 100) {t : DataType} (ht : zic t) (half : Bool) :
 ∃ n e, zin N ⟨⟨s, dg p⟩, dg q⟩ t half = some (n, e) ∧ ((⟨n, ⟨#[]⟩⟩ : Value), e) = zhp s p q t half := by
 obtain ⟨⟨l1, l2⟩, l3, l4⟩ := zfc ht
 obtain ⟨v, h1, h2⟩ := zaag N hN s p q hp hq hq2 t.Scale.toNat (by omega) half
 rw [Int.toNat_of_nonneg l3] at h1
 unfold zin
 show ∃ n e, ((zju N ⟨⟨s, dg p⟩, dg q⟩ t.Scale half).bind _) = _ ∧ _
 rw [h1]
 simp only [obs]
 have hl := zhk (zx9 (p * 10 ^ t.Scale.toNat) q half) t.Length.toNat
 have e : zhp s p q t half = if 10 ^ t.Length.toNat ≤ zx9 (p * 10 ^ t.Scale.toNat) q half then (⟨0, ⟨#[]⟩⟩, 19) else (⟨sgn s (zx9 (p * 10 ^ t.Scale.toNat) q half), ⟨#[]⟩⟩, 0) := rfl
 rw [e]
 generalize zx9 (p * 10 ^ t.Scale.toNat) q half = Q at *
 by_cases h : 10 ^ t.Length.toNat ≤ Q
 · rw [ifp h]; have : ¬ (dg Q).length ≤ t.Length.toNat := fun h3 => by have := hl.1 h3; omega
   rw [dct (by omega)]; exact ⟨_, _, rfl, rfl⟩
 · rw [ifn h]; have : (dg Q).length ≤ t.Length.toNat := hl.2 (by omega); have hQ : Q < 10 ^ 16 := Nat.lt_of_lt_of_le (by omega : Q < 10 ^ t.Length.toNat) (zb8 (by omega)); rw [dcf (by omega), cfa, zaaj N hN v Q hQ]; refine ⟨_, _, rfl, ?_⟩
   congr 2
   unfold sgn
   by_cases h0 : Q = 0
   · rw [h0]; cases v <;> cases s <;> rfl
   · rw [h2 h0]
theorem zux {t : DataType} (ht : zic t) : zfk t = some 0 := by
 obtain ⟨h0, h1, h2⟩ := ht
 unfold zfk
 rw [zwn, h0]
 simp only [obs, bsf, cfa]
 rw [zqg, zbb.2 ⟨h1, h2⟩]
 simp only [obs, zg3]
 decide
theorem zacg (N : Nat) (hN : 4000 < N) {x : Number} (hx : zde x) {t : DataType} (ht : zic t) (half : Bool) : zia N x t half = some (zkv x t half) := by
 have hx' := hx
 obtain ⟨⟨h1, h2⟩, h3, h4⟩ := hx'
 unfold zia zi2
 rw [zvk, zl7.2 hx]
 simp only [obs, bsf, cfa, eN]
 rw [zux ht]
 simp only [obs, bsf, cfa]
 have e1 := zvl N (by omega) x.N ⟨by omega, by omega⟩ 0 (by omega)
 rw [Nat.pow_zero, Nat.mul_one, nc0] at e1
 have e2 := zvi x.Scale.toNat (by omega)
 rw [Int.toNat_of_nonneg h3] at e2
 rw [e1, obs, e2, obs]
 simp only [obs]
 have hp : x.N.natAbs ≤ 10 ^ 100 := Nat.le_trans (show x.N.natAbs ≤ 10 ^ 15 by omega) (by decide)
 obtain ⟨n, e, g1, g2⟩ := z8g N hN (decide (x.N < 0)) x.N.natAbs (10 ^ x.Scale.toNat) hp (zcd _) (zb8 (by omega)) ht half
 show ((zin N ⟨⟨decide (x.N < 0), dg x.N.natAbs⟩, dg (10 ^ x.Scale.toNat)⟩ t half).bind _) = _
 rw [g1]
 simp only [obs]
 rw [g2]
 rfl
theorem z28 {n : Nat} (h : n ≤ 10 ^ 31) : n ≤ 10 ^ 100 := Nat.le_trans h (by decide)
theorem z2z (s : Bool) (p q : Nat) (hq : 0 < q) (t : DataType) (half : Bool) : zhp s p q t half = zvs (sgn s p) q t half := z21 s p q hq t half
theorem zach (N : Nat) (hN : 4000 < N) {op : Int} (hop : 0 ≤ op ∧ op ≤ 4) {a b : Number} (ha : zde a) (hb : zde b) {t : DataType} (ht : zic t) (half : Bool) : zfl N ⟨op, t, half⟩ a b = some (zja op a b t half) := by
 obtain ⟨s1, s2, s3, s4⟩ := zl3 ha hb
 have la := zil ha s4
 have lb := zil hb s4
 have ha' := ha
 have hb' := hb
 obtain ⟨⟨a1, a2⟩, a3, a4⟩ := ha'
 obtain ⟨⟨b1, b2⟩, b3, b4⟩ := hb'
 have zb := zw8 b (zg a b)
 have ga := zqf a (zg a b)
 have gb := zqf b (zg a b)
 have q1 : 10 ^ (zg a b).toNat ≤ 10 ^ 100 := zb8 (by omega)
 unfold zfl
 try simp only [eD]
 rw [zg2, zbb.2 hop]
 simp only [obs, bnt, cfa]
 rw [zvk, zvk, zl7.2 ha, zl7.2 hb]
 simp only [obs, bsf, cfa]
 rw [zux ht]
 simp only [obs, bsf, cfa, eN]
 have fin : ∀ (s : Bool) (p q : Nat), p ≤ 10 ^ 100 → 0 < q → q ≤ 10 ^ 100 → ((zin N ⟨⟨s, dg p⟩, dg q⟩ t half).bind fun r6 => some ((⟨r6.1, (⟨#[]⟩ : ByteArray)⟩ : Value), r6.2)) = some (zhp s p q t half) := fun s p q hp hq hq2 => by
  obtain ⟨n, e, g1, g2⟩ := z8g N hN s p q hp hq hq2 ht half; rw [g1, obs, g2]
 unfold zlo
 rw [zxe N (by omega) ha hb]
 simp only [obs, z3o]
 have ep := zvi (zg a b).toNat (by omega)
 rw [Int.toNat_of_nonneg s3] at ep
 have g : (cond (op == 3) (some true) (some (op == 4))) = some (decide (op = 3 ∨ op = 4)) := by
  rw [zy, zy]
  by_cases h : op = 3
  · rw [dct h, dct (show op = 3 ∨ op = 4 by omega)]; rfl
  · rw [dcf h]
    by_cases h2 : op = 4
    · rw [dct h2, dct (show op = 3 ∨ op = 4 by omega)]; rfl
    · rw [dcf h2, dcf (show ¬ (op = 3 ∨ op = 4) by omega)]; rfl
 rw [g]
 simp only [obs]
 have hbz : (zai b (zg a b)).natAbs = 0 ↔ b.N = 0 := by
  rw [Int.natAbs_eq_zero]; exact zb
 rw [show (cond (decide (op = 3 ∨ op = 4)) (some (decide ((zai b (zg a b)).natAbs = 0))) (some false)) = some (decide ((op = 3 ∨ op = 4) ∧ b.N = 0)) by
  by_cases h : op = 3 ∨ op = 4
  · rw [dct h, ctr]; congr 1; rw [decide_eq_decide]; constructor
    · intro h2; exact ⟨h, hbz.1 h2⟩
    · intro h2; exact hbz.2 h2.2
  · rw [dcf h, cfa, dcf (fun h2 => h h2.1)]]
 simp only [obs]
 unfold zja
 by_cases hz : (op = 3 ∨ op = 4) ∧ b.N = 0
 · rw [dct hz, ifp hz]; rfl
 · rw [dcf hz, ifn hz, cfa]
   by_cases o0 : op = 0
   · obtain ⟨v, m, h1, h2, h3⟩ := z2o N hN (decide (a.N < 0)) (decide (b.N < 0)) _ _ (p30 la) (p30 lb); rw [ga, gb] at h2; rw [ifp o0, o0]; simp only [show ((0 : Int) == 1) = false from rfl, show ((0 : Int) == 2) = false from rfl, show ((0 : Int) == 3) = false from rfl, show ((0 : Int) == 4) = false from rfl, cfa]; rw [h1]; simp only [obs]; rw [ep]; simp only [obs, bsf, cfa]; rw [fin v m _ (z28 (by omega)) (zcd _) q1, z2z _ _ _ (zcd _), h2]
   · rw [ifn o0]
     by_cases o1 : op = 1
     · rw [ifp o1, zy, dct o1, ctr]; have hneg : (cond (!decide (b.N < 0)) (some (decide ((((dg (zai b (zg a b)).natAbs).length : Nat) : Int) > 0))) (some false)) = some (!decide (b.N < 0) && decide ((zai b (zg a b)).natAbs ≠ 0)) := by
        rw [zqx]; cases decide (b.N < 0) <;> rfl
       rw [hneg]; simp only [obs]; obtain ⟨v, m, h1, h2, h3⟩ := z2o N hN (decide (a.N < 0)) (!decide (b.N < 0) && decide ((zai b (zg a b)).natAbs ≠ 0)) _ _ (p30 la) (p30 lb); have gb2 : sgn (!decide (b.N < 0) && decide ((zai b (zg a b)).natAbs ≠ 0)) (zai b (zg a b)).natAbs = -zai b (zg a b) := by
        by_cases h0 : (zai b (zg a b)).natAbs = 0
        · have h00 := Int.natAbs_eq_zero.1 h0; rw [h0, dcf (show ¬ (0 : Nat) ≠ 0 by omega), Bool.and_false, h00]; rfl
        · rw [dct h0, Bool.and_true, z5g, gb]
       rw [ga, gb2] at h2; rw [h1]; simp only [obs]; rw [ep]; simp only [obs, bsf, cfa]; rw [fin v m _ (z28 (by omega)) (zcd _) q1, z2z _ _ _ (zcd _), h2, Int.sub_eq_add_neg]
     · rw [ifn o1, zy, dcf o1, cfa]
       by_cases o2 : op = 2
       · rw [ifp o2, zy, dct o2, ctr]; have p90 : ∀ n : Nat, n ≤ 10 ^ 30 → n < 10 ^ 90 := fun n h => Nat.lt_of_le_of_lt h (by decide); rw [z6t N hN _ _ _ _ (p90 _ la) (p90 _ lb)]; simp only [obs]; have e2 := zvi (2 * zg a b).toNat (by omega); rw [Int.toNat_of_nonneg (by omega)] at e2; rw [w6e, e2]; simp only [obs, bsf, cfa]; have hm : (zai a (zg a b)).natAbs * (zai b (zg a b)).natAbs ≤ 10 ^ 100 := Nat.le_trans (Nat.mul_le_mul la lb) (by decide); rw [fin _ _ _ hm (zcd _) (zb8 (by omega))]; have e3 : (zai a (zg a b)).natAbs * (zai b (zg a b)).natAbs = a.N.natAbs * b.N.natAbs * 10 ^ ((zg a b - a.Scale).toNat + (zg a b - b.Scale).toNat) := by
          rw [zih, zih, Nat.mul_mul_mul_comm, ← Nat.pow_add]
         have e4 : 10 ^ (2 * zg a b).toNat = 10 ^ (a.Scale + b.Scale).toNat * 10 ^ ((zg a b - a.Scale).toNat + (zg a b - b.Scale).toNat) := by
          rw [← Nat.pow_add]; congr 1; omega
         rw [z03 _ (decide (a.N < 0) != decide (b.N < 0)) _ _ (zcd _) _ _ (fun h => by rw [dct h, Bool.and_true]), e3, e4, zy7 _ _ _ _ (zcd _) (zcd _)]
       · rw [ifn o2, zy, dcf o2, cfa]
         by_cases o3 : op = 3
         · have hb0 : b.N ≠ 0 := fun h => hz ⟨.inl o3, h⟩; have hbp : 0 < (zai b (zg a b)).natAbs := by
            have : ¬ (zai b (zg a b)).natAbs = 0 := fun h => hb0 (hbz.1 h); omega
           rw [ifp o3, zy, dct o3, ctr]; simp only [obs, bsf, cfa]; rw [fin _ _ _ (z28 (by omega)) hbp (z28 (by omega))]; have hmin : 0 ≤ a.Scale + b.Scale - zg a b := by unfold zg; split <;> omega
           have e3 : a.N.natAbs * 10 ^ b.Scale.toNat = (zai a (zg a b)).natAbs * 10 ^ (a.Scale + b.Scale - zg a b).toNat := by
            rw [zih, Nat.mul_assoc, ← Nat.pow_add]; congr 2; omega
           have e4 : b.N.natAbs * 10 ^ a.Scale.toNat = (zai b (zg a b)).natAbs * 10 ^ (a.Scale + b.Scale - zg a b).toNat := by
            rw [zih, Nat.mul_assoc, ← Nat.pow_add]; congr 2; omega
           rw [e3, e4, zy7 _ _ _ _ (zcd _) hbp]; rfl
         · have hb0 : b.N ≠ 0 := fun h => hz ⟨by omega, h⟩; have hbp : 0 < (zai b (zg a b)).natAbs := by
            have : ¬ (zai b (zg a b)).natAbs = 0 := fun h => hb0 (hbz.1 h); omega
           have p400 : ∀ n : Nat, n ≤ 10 ^ 30 → n < 10 ^ 400 := fun n h => Nat.lt_of_le_of_lt h (by decide); have hm := Nat.mod_lt (zai a (zg a b)).natAbs hbp; rw [ifn o3, zy, dcf o3, cfa, zy, dct (show op = 4 by omega), ctr, zy4 N hN _ _ (p400 _ la) hbp (p400 _ lb)]; simp only [obs]; rw [ep]; simp only [obs, bsf, cfa]; rw [fin _ _ _ (z28 (by omega)) (zcd _) q1]
theorem zz8 (N : Nat) (hN : 2000 < N) {s : Storage} (h : zlf s) {a : Int} (ha : zpe s a = true) :
 zg4 N s a = some (match ldV s a with | some o => (zh3 o, 0) | none => (zyn, 22)) := by
 obtain ⟨a1, a2, a3⟩ := zpd ha
 have hl := h.le
 have hq := h.quad
 have ht := h.tags
 unfold zg4
 rw [zace h.ok, ha]
 simp only [obs, bnt, cfa]
 have ed : w6 (a.tdiv 16) = (((a / 16).toNat : Nat) : Int) := by
  rw [tde a1, w6e]; omega
 have hi : (a / 16).toNat < s.Tags.length := by omega
 rw [ed, zae, lge hi]
 simp only [obs]
 unfold ldV
 rw [lge hi]
 cases hb : s.Tags[(a / 16).toNat] with
 | false => rfl
 | true =>
  simp only [bnt, cfa, if_true]; unfold zkt; rw [w6e (n := (((a / 16).toNat : Nat) : Int) * 16), w6e, ifp, ifp]; simp only [obs]; have e : s.Bytes.extract ((((a / 16).toNat : Nat) : Int) * 16).toNat ((((a / 16).toNat : Nat) : Int) * 16 + 16).toNat = s.Bytes.extract (16 * (a / 16).toNat) (16 * (a / 16).toNat + 16) := by
   rw [show ((((a / 16).toNat : Nat) : Int) * 16).toNat = 16 * (a / 16).toNat by omega, show ((((a / 16).toNat : Nat) : Int) * 16 + 16).toNat = 16 * (a / 16).toNat + 16 by omega]
  rw [e, z8h N (by omega) _ (by rw [zcn _ _ _ (by omega) (by omega)]; omega), zn0]; obtain ⟨off, _, h2⟩ := h.ptr (a / 16).toNat (by rw [lge hi, hb]); rw [h2]; rfl
theorem z5o {s : Storage} (h : s.Tags.length ≤ 100000) : zf8 s = some s := by
 unfold zf8 zkh
 rw [zag (by omega)]
 rfl
theorem z2n (N : Nat) (hN : 2000 < N) {s : Storage} (h : zlf s) {a : Nat} {d : ByteArray} (hd : a + d.size ≤ s.Bytes.size) (hd0 : 0 < d.size) : zbp N s (a : Int) d = some (wrV s a d) := by
 have hl := h.le
 have hq := h.quad
 have ht := h.tags
 have hmax : IntKind.i64.max = 9223372036854775807 := by decide
 unfold zbp zg8
 rw [z5o (by omega), hmax]
 simp only [obs]
 have z1 : (s.Bytes.extract (0 : Int).toNat (a : Int).toNat).size = a := by rw [zcn _ _ _ (by omega) (by omega)]; omega
 rw [ifp, ifp, ifn (by rw [z1]; omega), w6e (n := (a : Int) + (d.size : Int)), ifp]
 have z2 : (s.Bytes.extract ((a : Int) + (d.size : Int)).toNat s.Bytes.size).size = s.Bytes.size - (a + d.size) := by rw [zcn _ _ _ (by omega) (by omega)]; omega
 rw [ifn (by rw [z2, bsa, z1]; omega)]
 simp only [obs]
 have f1 : ((s.Bytes.extract (0 : Int).toNat (a : Int).toNat) ++ d) ++ (s.Bytes.extract ((a : Int) + (d.size : Int)).toNat s.Bytes.size) = (wrV s a d).Bytes := by
  refine zgw ?_; rw [zco, zco, zd3, zd3, show (0 : Int).toNat = 0 from rfl, dr0, show ((a : Int) + (d.size : Int)).toNat = a + d.size by omega, ← zal s.Bytes, List.take_length, itn]; rfl
 rw [f1]
 have lp := zas (f := zbp.r0 N) (fun i => ((a : Int), d, (i : Int), (⟨⟨#[]⟩, []⟩ : Storage), (⟨(wrV s a d).Bytes, if i = 0 then s.Tags else clr s.Tags a i⟩ : Storage))) d.size
  (fun i hi => by
   have hlen : (if i = 0 then s.Tags else clr s.Tags a i).length = s.Tags.length := by split <;> simp [zwz]
   have ei : w6 ((w6 ((a : Int) + (i : Int))).tdiv 16) = (((a + i) / 16 : Nat) : Int) := by
    rw [w6e (n := (a : Int) + (i : Int)), tde, w6e]; omega
   simp only [zbp.r0, zbp.b0, dct (show (i : Int) < (d.size : Int) by omega), ctr, ei, hlen]; rw [ifp, ifp, itn]; obtain ⟨x, hx⟩ : ∃ x, (if i = 0 then s.Tags else clr s.Tags a i)[(a + i) / 16]? = some x := zes (by omega); rw [hx]; simp only [obs]; rw [w6e]; have e2 : (if i = 0 then s.Tags else clr s.Tags a i).set ((a + i) / 16) false = clr s.Tags a (i + 1) := by
    refine List.ext_getElem? fun k => ?_; rw [zs5, List.getElem?_set, hlen]; have hc : (if i = 0 then s.Tags else clr s.Tags a i)[k]? = if i ≠ 0 ∧ 16 * k < a + i ∧ a < 16 * k + 16 then (if k < s.Tags.length then some false else none) else s.Tags[k]? := by
     by_cases h0 : i = 0
     · rw [ifp h0, ifn]
     · rw [ifn h0, zs5]
       by_cases h1 : 16 * k < a + i ∧ a < 16 * k + 16
       · rw [ifp h1, ifp (show i ≠ 0 ∧ 16 * k < a + i ∧ a < 16 * k + 16 from ⟨h0, h1⟩)]
       · rw [ifn h1, ifn (fun h => h1 h.2)]
    rw [hc]
    by_cases hk : (a + i) / 16 = k
    · rw [ifp hk, ifp (show (a + i) / 16 < s.Tags.length by omega), ifp (show 16 * k < a + (i + 1) ∧ a < 16 * k + 16 by omega), ifp]
    · rw [ifn hk]
      by_cases h1 : i ≠ 0 ∧ 16 * k < a + i ∧ a < 16 * k + 16
      · rw [ifp h1, ifp (show 16 * k < a + (i + 1) ∧ a < 16 * k + 16 by omega)]
      · rw [ifn h1, ifn (show ¬ (16 * k < a + (i + 1) ∧ a < 16 * k + 16) by omega)]
   rw [e2, ifn (show ¬ i + 1 = 0 by omega)]; rfl)
  (by simp only [zbp.r0, zbp.b0, dcf (show ¬ (d.size : Int) < (d.size : Int) by omega), cfa]) (N := N) (by omega)
 simp only [if_true, nc0] at lp
 rw [lp, ifn (show ¬ d.size = 0 by omega)]
 rfl
theorem z40 (N : Nat) (hN : 200 < N) (off : Nat) (h : off ≤ 16777215) : zk6 N (zh3 off) = some (pbV off) := by
 unfold zk6 zh3
 have b := fun v k hv hk => zsh N (by omega) v k hv hk
 have hmax : IntKind.i64.max = 9223372036854775807 := by decide
 have sz : ∀ v k, (zdd (zbf v k)).size = k := fun v k => by
  show (bl (zdd (zbf v k))).length = k; rw [zgk, lnm, zyj]
 rw [show zat N 0 1 = _ from b 0 1 (by decide) (by decide), show zat N 0 2 = _ from b 0 2 (by decide) (by decide), show zat N 1 6 = _ from b 1 6 (by decide) (by decide), show zat N (off : Int) 6 = _ from b off 6 (by omega) (by decide), hmax]
 simp only [obs]
 have z0 : (⟨#[0]⟩ : ByteArray).size = 1 := rfl
 rw [ifn (by rw [sz, z0]; decide), ifn (by rw [bsa, sz, z0, sz]; decide), ifn (by rw [bsa, bsa, sz, z0, sz, sz]; decide), ifn (by rw [bsa, bsa, bsa, sz, z0, sz, sz, sz]; decide)]
 refine congrArg some (zgw ?_)
 unfold pbV
 rw [zco, zco, zco, zco, zgk, zgk, zgk, zgk, zgk]
 simp only [List.map_append]
 rfl
theorem zaai (N : Nat) (hN : 2000 < N) {s : Storage} (h : zlf s) {a : Int} (ha : zpe s a = true) (off : Nat) (ho : off ≤ 16777215) : zfr N s a (zh3 off) = some (stV s a.toNat off) := by
 obtain ⟨a1, a2, a3⟩ := zpd ha
 have hl := h.le
 have hq := h.quad
 have ht := h.tags
 have hA : a = ((a.toNat : Nat) : Int) := by omega
 have hw : a.toNat + (pbV off).size ≤ s.Bytes.size := by rw [zku]; omega
 unfold zfr
 try simp only [eS]
 rw [z40 N (by omega) off ho]
 simp only [obs]
 have hp := z2n N hN h hw (by rw [zku]; omega)
 rw [← hA] at hp
 rw [hp]
 simp only [obs]
 have ed : w6 (a.tdiv 16) = ((a.toNat / 16 : Nat) : Int) := by
  rw [tde a1, w6e]; omega
 have hlen : (wrV s a.toNat (pbV off)).Tags.length = s.Tags.length := zwz _ _ _
 rw [ed, ifp, ifp (by rw [hlen]; omega), itn, lge (by rw [hlen]; omega)]
 rfl
def zn3 (b : ByteArray) (n : Nat) : ByteArray := ⟨((bl b).take n ++ List.replicate (n - b.size) 32).toArray⟩
theorem zvx (b : ByteArray) (n : Nat) : (zn3 b n).size = n := by
 show ((bl b).take n ++ List.replicate (n - b.size) 32).length = n
 rw [lna, lnt, lnr, zal]; omega
theorem z0z (N : Nat) (c : Nat) (hc : c < 256) (n : Nat) (hn : n < N) (hn2 : n ≤ 100000) : zcv N (c : Int) (n : Int) = some ⟨(List.replicate n (UInt8.ofNat c)).toArray⟩ := by
 unfold zcv
 have := zas (f := zcv.r0 N) (fun i => ((c : Int), (n : Int), List.replicate i (c : Int), (i : Int))) n
  (fun i hi => by
   simp only [zcv.r0, zcv.b0, dct (show (i : Int) < (n : Int) by omega), ctr]; rw [zag (by simp only [lnr, lnc, ln0]; omega), ctr, w6e, ← List.replicate_succ']; rfl)
  (by simp only [zcv.r0, zcv.b0, dcf (show ¬ (n : Int) < (n : Int) by omega), cfa]) hn
 simp only [nc0, List.replicate_zero] at this
 rw [this, obs]
 congr 1
 refine zgw ?_
 rw [zgk, List.map_replicate]
 rfl
theorem zvj (N : Nat) (hN : 10000 < N) (b : ByteArray) (hb : b.size ≤ 5000) (n : Nat) (hn : n ≤ 5000) : ze4 N b (n : Int) = some (zn3 b n) := by
 have hmax : IntKind.i64.max = 9223372036854775807 := by decide
 unfold ze4
 by_cases h : n ≤ b.size
 · rw [dct (by omega), ctr, ifp, ifp]
   congr 1
   refine zgw ?_; rw [zd3, show (0 : Int).toNat = 0 from rfl, dr0, itn]; show _ = (bl b).take n ++ List.replicate (n - b.size) 32; rw [show n - b.size = 0 by omega, List.replicate_zero, List.append_nil]
 · rw [dcf (by omega), cfa, w6e, show (n : Int) - (b.size : Int) = ((n - b.size : Nat) : Int) by omega, show (32 : Int) = ((32 : Nat) : Int) from rfl, z0z N 32 (by decide) _ (by omega) (by omega), obs, hmax]; have hs : (⟨(List.replicate (n - b.size) (UInt8.ofNat 32)).toArray⟩ : ByteArray).size = n - b.size := by
    show (List.replicate (n - b.size) (UInt8.ofNat 32)).length = _; rw [lnr]
   rw [ifn (by rw [hs]; omega)]
   congr 1
   refine zgw ?_; rw [zco]; show bl b ++ List.replicate (n - b.size) 32 = (bl b).take n ++ List.replicate (n - b.size) 32; rw [List.take_of_length_le (by rw [zal]; omega)]
theorem zpb (c : UInt8) : ∀ n, Lib.repeatL [c] n = List.replicate n c
 | 0 => rfl
 | n + 1 => by show c :: Lib.repeatL [c] n = _; rw [zpb c n, List.replicate_succ]
theorem z9a (b : ByteArray) (n : Nat) : (⟨(bl b ++ List.replicate (n - b.size) 32).toArray⟩ : ByteArray).extract 0 n = zn3 b n := by
 refine zgw ?_
 rw [zd3, dr0]
 show (bl b ++ List.replicate (n - b.size) 32).take n = (bl b).take n ++ List.replicate (n - b.size) 32
 rw [List.take_append, zal, List.take_replicate, Nat.min_self]
theorem z1g (b : ByteArray) (n : Nat) : (⟨(bl b ++ List.replicate (n - b.size) 32).toArray⟩ : ByteArray) = zn3 b (max b.size n) := by
 refine zgw ?_
 show bl b ++ List.replicate (n - b.size) 32 = (bl b).take (max b.size n) ++ List.replicate (max b.size n - b.size) 32
 rw [List.take_of_length_le (by rw [zal]; omega), show max b.size n - b.size = n - b.size by omega]
def zwb (x y : List UInt8) : Int := if Op.bytesLess x y = true then -1 else if x = y then 0 else 1
theorem z4f : ∀ (x y : List UInt8), x.length = y.length → (match (List.range x.length).find? (fun i => x.getD i 0 != y.getD i 0) with | some i => if x.getD i 0 < y.getD i 0 then (-1 : Int) else 1 | none => 0) = zwb x y
 | [], [], _ => rfl
 | [], _ :: _, h => by cases h
 | _ :: _, [], h => by cases h
 | a :: x, b :: y, h => by
  have ih := z4f x y (by simpa using h); rw [lnc, List.range_succ_eq_map, List.find?_cons]; rw [List.getD_cons_zero, List.getD_cons_zero]
  by_cases hab : a = b
  · subst hab; simp only [bsf]; rw [List.find?_map]; have e : ((fun i => (a :: x).getD i 0 != (a :: y).getD i 0) ∘ Nat.succ) = fun i => x.getD i 0 != y.getD i 0 := by
     funext i
     rfl
    rw [e]; have e2 : zwb (a :: x) (a :: y) = zwb x y := by
     unfold zwb; have e3 : Op.bytesLess (a :: x) (a :: y) = Op.bytesLess x y := by
      show (decide (a < a) || (a == a && Op.bytesLess x y)) = _; rw [dcf (UInt8.lt_irrefl a)]; simp
     rw [e3]; simp
    rw [e2, ← ih]; cases (List.range x.length).find? (fun i => x.getD i 0 != y.getD i 0) <;> rfl
  · have hne : (a != b) = true := by simpa using hab
    rw [hne]; simp only [List.getD_cons_zero]; unfold zwb; have e3 : Op.bytesLess (a :: x) (b :: y) = decide (a < b) := by
     show (decide (a < b) || (a == b && Op.bytesLess x y)) = _; rw [show (a == b) = false from beq_eq_false_iff_ne.2 hab, Bool.false_and, Bool.or_false]
    rw [e3]
    by_cases hlt : a < b
    · rw [ifp hlt, ifp (dct hlt)]
    · rw [ifn hlt, ifn (by rw [dcf hlt]; decide), ifn (by intro h; exact hab (List.cons.inj h).1)]
theorem zaev {a b : ByteArray} (h : a.size = b.size) : Extern.BytealgCompare.cmp a b = zwb (bl a) (bl b) := by
 unfold Extern.BytealgCompare.cmp
 rw [← z4f (bl a) (bl b) (by rw [zal, zal, h]), zal, show min a.size b.size = a.size by omega]
 have g : ∀ (c : ByteArray) (i : Nat), i < c.size → c[i]! = (bl c).getD i 0 := fun c i hi => by
  rw [getElem!_pos c i hi, gdd, lge (by rw [zal]; exact hi)]; rfl
 have e : (List.range a.size).find? (fun i => a[i]! != b[i]!) = (List.range a.size).find? (fun i => (bl a).getD i 0 != (bl b).getD i 0) := by
  have key : ∀ l : List Nat, (∀ i ∈ l, i < a.size) → l.find? (fun i => a[i]! != b[i]!) = l.find? (fun i => (bl a).getD i 0 != (bl b).getD i 0) := by
   intro l
   induction l with
   | nil => intro _; rfl
   | cons i l ih =>
    intro hl; have hi := hl i List.mem_cons_self; rw [List.find?_cons, List.find?_cons, g a i hi, g b i (by omega), ih fun j hj => hl j (List.mem_cons_of_mem _ hj)]
  exact key _ fun i hi => List.mem_range.1 hi
 rw [e]
 cases hf : (List.range a.size).find? (fun i => (bl a).getD i 0 != (bl b).getD i 0) with
 | none => simp only []; rw [ifn, ifn]
 | some i =>
  have hi := List.mem_range.1 (List.mem_of_find?_eq_some hf); simp only []; rw [g a i hi, g b i (by omega)]
theorem zadr (x : Int) (i : Nat) : (x.tdiv (10 ^ i)).tdiv 10 = x.tdiv (10 ^ (i + 1)) := by
 have key : ∀ m : Nat, ((m : Int).tdiv (10 ^ i)).tdiv 10 = (m : Int).tdiv (10 ^ (i + 1)) := fun m => by
  rw [show (10 : Int) ^ i = ((10 ^ i : Nat) : Int) by rw [Int.natCast_pow]; rfl, show (10 : Int) ^ (i + 1) = ((10 ^ (i + 1) : Nat) : Int) by rw [Int.natCast_pow]; rfl, ← Int.ofNat_tdiv, ← Int.ofNat_tdiv, show (10 : Int) = ((10 : Nat) : Int) from rfl, ← Int.ofNat_tdiv, Nat.div_div_eq_div_mul, Nat.pow_succ]
 obtain ⟨m, rfl | rfl⟩ := Int.eq_nat_or_neg x
 · exact key m
 · rw [Int.neg_tdiv, Int.neg_tdiv, key m, Int.neg_tdiv]
def zff (x : Number) : Int := x.N.tdiv (10 ^ x.Scale.toNat)
theorem zq0 {x : Number} (hx : zde x) : -999999999999999 ≤ zff x ∧ zff x ≤ 999999999999999 := by
 obtain ⟨⟨h1, h2⟩, _⟩ := hx
 have h := Int.natAbs_tdiv_le_natAbs x.N (10 ^ x.Scale.toNat)
 unfold zff
 omega
def zmf (m scale : Nat) : List UInt8 := List.replicate (scale + 1 - (Lib.decDigits m).length) 48 ++ Lib.decDigits m
def ptT (l : List UInt8) (scale : Nat) : List UInt8 := if 0 < scale then l.take (l.length - scale) ++ [46] ++ l.drop (l.length - scale) else l
def sgT (n : Int) (l : List UInt8) : ByteArray := ⟨(if n < 0 then [45] ++ l else l).toArray⟩
def zro (x : Number) : ByteArray := sgT x.N (ptT (zmf x.N.natAbs x.Scale.toNat) x.Scale.toNat)
theorem z3z {x : Number} (h0 : 0 ≤ x.Scale) (B : ByteArray) (h1 : x.Scale < (B.size : Int)) (h2 : B.size ≤ 100) :
 ((cond (decide (x.Scale > 0))
 (if 0 ≤ (w6 ((B.size : Int) - x.Scale)) ∧ (w6 ((B.size : Int) - x.Scale)) ≤ (B.size : Int) then (if 0 ≤ (0 : Int) ∧ (0 : Int) ≤ (w6 ((B.size : Int) - x.Scale)) then (if (((B.extract (0 : Int).toNat (w6 ((B.size : Int) - x.Scale)).toNat).size + (⟨#[46]⟩ : ByteArray).size : Nat) : Int) > IntKind.i64.max then none else if 0 ≤ (w6 ((B.size : Int) - x.Scale)) ∧ (w6 ((B.size : Int) - x.Scale)) ≤ (B.size : Int) then (if ((((B.extract (0 : Int).toNat (w6 ((B.size : Int) - x.Scale)).toNat) ++ (⟨#[46]⟩ : ByteArray)).size + (B.extract (w6 ((B.size : Int) - x.Scale)).toNat B.size).size : Nat) : Int) > IntKind.i64.max then none else cond (decide (x.N < 0))
 (if (((⟨#[45]⟩ : ByteArray).size + (((B.extract (0 : Int).toNat (w6 ((B.size : Int) - x.Scale)).toNat) ++ (⟨#[46]⟩ : ByteArray)) ++ (B.extract (w6 ((B.size : Int) - x.Scale)).toNat B.size)).size : Nat) : Int) > IntKind.i64.max then none else some (((⟨#[45]⟩ : ByteArray) ++ (((B.extract (0 : Int).toNat (w6 ((B.size : Int) - x.Scale)).toNat) ++ (⟨#[46]⟩ : ByteArray)) ++ (B.extract (w6 ((B.size : Int) - x.Scale)).toNat B.size))), 0))
 (some ((((B.extract (0 : Int).toNat (w6 ((B.size : Int) - x.Scale)).toNat) ++ (⟨#[46]⟩ : ByteArray)) ++ (B.extract (w6 ((B.size : Int) - x.Scale)).toNat B.size)), 0))) else none) else none) else none)
 (cond (decide (x.N < 0)) (if (((⟨#[45]⟩ : ByteArray).size + B.size : Nat) : Int) > IntKind.i64.max then none else some (((⟨#[45]⟩ : ByteArray) ++ B), 0)) (some (B, 0)))) : Option (ByteArray × Int)) = some (sgT x.N (ptT (bl B) x.Scale.toNat), 0) := by
 have hmax : IntKind.i64.max = 9223372036854775807 := by decide
 have z1 : (⟨#[46]⟩ : ByteArray).size = 1 := rfl
 have z2 : (⟨#[45]⟩ : ByteArray).size = 1 := rfl
 rw [hmax, w6e]
 obtain ⟨k, hk⟩ : ∃ k : Nat, (B.size : Int) - x.Scale = (k : Int) := ⟨((B.size : Int) - x.Scale).toNat, by omega⟩
 have hk2 : k = B.size - x.Scale.toNat := by omega
 rw [hk, itn, show (0 : Int).toNat = 0 from rfl]
 have s1 : (B.extract 0 k).size = k := by rw [zcn _ _ _ (by omega) (by omega)]; omega
 have s2 : (B.extract k B.size).size = B.size - k := by rw [zcn _ _ _ (by omega) (by omega)]
 by_cases hs : x.Scale > 0
 · rw [dct hs, ctr, ifp, ifp, ifn (by rw [s1, z1]; omega), ifp, ifn (by rw [bsa, s1, z1, s2]; omega)]; have e : bl ((B.extract 0 k ++ (⟨#[46]⟩ : ByteArray)) ++ B.extract k B.size) = ptT (bl B) x.Scale.toNat := by
    unfold ptT; rw [zco, zco, zd3, zd3, dr0, ifp, ← zal B, List.take_length, zal, hk2]; rfl
   by_cases hn : x.N < 0
   · rw [dct hn, ctr, ifn (by rw [bsa, bsa, s1, z1, s2, z2]; omega)]
     congr 2
     refine zgw ?_; rw [zco, e]; unfold sgT; rw [ifp hn]; rfl
   · rw [dcf hn, cfa]
     congr 2
     refine zgw ?_; rw [e]; unfold sgT; rw [ifn hn]; rfl
 · rw [dcf hs, cfa]; have e : ptT (bl B) x.Scale.toNat = bl B := by unfold ptT; rw [ifn]
   rw [e]
   by_cases hn : x.N < 0
   · rw [dct hn, ctr, ifn (by rw [z2]; omega)]
     congr 2
     refine zgw ?_; rw [zco]; unfold sgT; rw [ifp hn]; rfl
   · rw [dcf hn, cfa]
     congr 2
     unfold sgT; rw [ifn hn]; rfl
theorem z96 {x : Number} (h0 : 0 ≤ x.Scale) (B : ByteArray) (h1 : x.Scale < (B.size : Int)) (h2 : B.size ≤ 100) :
 (cond (decide (x.Scale > 0))
 (if 0 ≤ (w6 ((B.size : Int) - x.Scale)) ∧ (w6 ((B.size : Int) - x.Scale)) ≤ (B.size : Int) then (if 0 ≤ (0 : Int) ∧ (0 : Int) ≤ (w6 ((B.size : Int) - x.Scale)) then (if (((B.extract (0 : Int).toNat (w6 ((B.size : Int) - x.Scale)).toNat).size + (⟨#[46]⟩ : ByteArray).size : Nat) : Int) > IntKind.i64.max then none else if 0 ≤ (w6 ((B.size : Int) - x.Scale)) ∧ (w6 ((B.size : Int) - x.Scale)) ≤ (B.size : Int) then (if ((((B.extract (0 : Int).toNat (w6 ((B.size : Int) - x.Scale)).toNat) ++ (⟨#[46]⟩ : ByteArray)).size + (B.extract (w6 ((B.size : Int) - x.Scale)).toNat B.size).size : Nat) : Int) > IntKind.i64.max then none else cond (decide (x.N < 0))
 (if (((⟨#[45]⟩ : ByteArray).size + (((B.extract (0 : Int).toNat (w6 ((B.size : Int) - x.Scale)).toNat) ++ (⟨#[46]⟩ : ByteArray)) ++ (B.extract (w6 ((B.size : Int) - x.Scale)).toNat B.size)).size : Nat) : Int) > IntKind.i64.max then none else some ((⟨#[45]⟩ : ByteArray) ++ (((B.extract (0 : Int).toNat (w6 ((B.size : Int) - x.Scale)).toNat) ++ (⟨#[46]⟩ : ByteArray)) ++ (B.extract (w6 ((B.size : Int) - x.Scale)).toNat B.size))))
 (some (((B.extract (0 : Int).toNat (w6 ((B.size : Int) - x.Scale)).toNat) ++ (⟨#[46]⟩ : ByteArray)) ++ (B.extract (w6 ((B.size : Int) - x.Scale)).toNat B.size)))) else none) else none) else none)
 (cond (decide (x.N < 0)) (if (((⟨#[45]⟩ : ByteArray).size + B.size : Nat) : Int) > IntKind.i64.max then none else some ((⟨#[45]⟩ : ByteArray) ++ B)) (some B))) = some (sgT x.N (ptT (bl B) x.Scale.toNat)) := by
 have hmax : IntKind.i64.max = 9223372036854775807 := by decide
 have z1 : (⟨#[46]⟩ : ByteArray).size = 1 := rfl
 have z2 : (⟨#[45]⟩ : ByteArray).size = 1 := rfl
 rw [hmax, w6e]
 obtain ⟨k, hk⟩ : ∃ k : Nat, (B.size : Int) - x.Scale = (k : Int) := ⟨((B.size : Int) - x.Scale).toNat, by omega⟩
 have hk2 : k = B.size - x.Scale.toNat := by omega
 rw [hk, itn, show (0 : Int).toNat = 0 from rfl]
 have s1 : (B.extract 0 k).size = k := by rw [zcn _ _ _ (by omega) (by omega)]; omega
 have s2 : (B.extract k B.size).size = B.size - k := by rw [zcn _ _ _ (by omega) (by omega)]
 by_cases hs : x.Scale > 0
 · rw [dct hs, ctr, ifp, ifp, ifn (by rw [s1, z1]; omega), ifp, ifn (by rw [bsa, s1, z1, s2]; omega)]; have e : bl ((B.extract 0 k ++ (⟨#[46]⟩ : ByteArray)) ++ B.extract k B.size) = ptT (bl B) x.Scale.toNat := by
    unfold ptT; rw [zco, zco, zd3, zd3, dr0, ifp, ← zal B, List.take_length, zal, hk2]; rfl
   by_cases hn : x.N < 0
   · rw [dct hn, ctr, ifn (by rw [bsa, bsa, s1, z1, s2, z2]; omega)]; refine congrArg some (zgw ?_); rw [zco, e]; unfold sgT; rw [ifp hn]; rfl
   · rw [dcf hn, cfa]; refine congrArg some (zgw ?_); rw [e]; unfold sgT; rw [ifn hn]; rfl
 · rw [dcf hs, cfa]; have e : ptT (bl B) x.Scale.toNat = bl B := by unfold ptT; rw [ifn]
   rw [e]
   by_cases hn : x.N < 0
   · rw [dct hn, ctr, ifn (by rw [z2]; omega)]; refine congrArg some (zgw ?_); rw [zco]; unfold sgT; rw [ifp hn]; rfl
   · rw [dcf hn, cfa]; unfold sgT; rw [ifn hn]; rfl
theorem zwy (m : Nat) : ∀ k, 0 < k → m < 10 ^ k → (Lib.decDigits m).length ≤ k ∧ 0 < (Lib.decDigits m).length := by
 induction m using Nat.strongRecOn with
 | _ m ih =>
  intro k hk hm; rw [Lib.decDigits]
  by_cases h : m < 10
  · rw [dif_pos h, lns]; omega
  · rw [dif_neg h, lna, lns]; obtain ⟨j, rfl⟩ : ∃ j, k = j + 1 := ⟨k - 1, by omega⟩; rw [Nat.pow_succ] at hm; have hj : 0 < j := by
     refine cbc fun h0 => ?_; rw [show j = 0 by omega] at hm; omega
    have := ih (m / 10) (by omega) j hj (by omega); omega
theorem zyg (m scale : Nat) (hm : m < 10 ^ 15) (hs : scale ≤ 15) : scale < (zmf m scale).length ∧ (zmf m scale).length ≤ 16 := by
 have := zwy m 15 (by decide) hm
 unfold zmf
 rw [lna, lnr]
 omega
theorem z09 {x : Number} (hx : zde x) : zfv x = some (zro x, 0) := by
 have hx' := hx
 obtain ⟨⟨h1, h2⟩, h3, h4⟩ := hx'
 have hmax : IntKind.i64.max = 9223372036854775807 := by decide
 have hlen := zwy x.N.natAbs 15 (by decide) (by omega)
 have hdl := zyg x.N.natAbs x.Scale.toNat (by omega) (by omega)
 unfold zfv
 rw [znm, zl7.2 hx]
 simp only [obs, bsf, cfa]
 rw [zog (by omega) (by omega)]
 have hi : zyq (((x.N.natAbs : Nat) : Int)) = some ⟨(Lib.decDigits x.N.natAbs).toArray⟩ := by
  unfold zyq Lib.itoa; rw [ifp ⟨by omega, by omega⟩, ifn, itn]
 rw [hi]
 simp only [obs]
 have hsz : (⟨(Lib.decDigits x.N.natAbs).toArray⟩ : ByteArray).size = (Lib.decDigits x.N.natAbs).length := rfl
 by_cases hle : ((Lib.decDigits x.N.natAbs).length : Int) ≤ x.Scale
 · rw [hsz, dct hle, ctr, w6e (n := x.Scale + 1), w6e]; have hr : zl0 (⟨#[48]⟩ : ByteArray) (x.Scale + 1 - ((Lib.decDigits x.N.natAbs).length : Int)) = some ⟨(List.replicate (x.Scale.toNat + 1 - (Lib.decDigits x.N.natAbs).length) 48).toArray⟩ := by
    unfold zl0; have hs1 : (⟨#[48]⟩ : ByteArray).size = 1 := rfl; rw [ifp ⟨by omega, by omega, by rw [hs1]; omega⟩, zpb, show (x.Scale + 1 - ((Lib.decDigits x.N.natAbs).length : Int)).toNat = x.Scale.toNat + 1 - (Lib.decDigits x.N.natAbs).length by omega]
   rw [hr]; simp only [obs]; have hs2 : (⟨(List.replicate (x.Scale.toNat + 1 - (Lib.decDigits x.N.natAbs).length) (48 : UInt8)).toArray⟩ : ByteArray).size = x.Scale.toNat + 1 - (Lib.decDigits x.N.natAbs).length := by
    show (List.replicate (x.Scale.toNat + 1 - (Lib.decDigits x.N.natAbs).length) (48 : UInt8)).length = _; rw [lnr]
   rw [hmax, ifn (by rw [hs2]; omega)]; have hb : (⟨(List.replicate (x.Scale.toNat + 1 - (Lib.decDigits x.N.natAbs).length) (48 : UInt8)).toArray⟩ : ByteArray) ++ ⟨(Lib.decDigits x.N.natAbs).toArray⟩ = ⟨(zmf x.N.natAbs x.Scale.toNat).toArray⟩ := by
    refine zgw ?_; rw [zco]; rfl
   rw [hb]; have := z3z h3 ⟨(zmf x.N.natAbs x.Scale.toNat).toArray⟩ (by show x.Scale < ((zmf x.N.natAbs x.Scale.toNat).length : Int); omega) (by show (zmf x.N.natAbs x.Scale.toNat).length ≤ 100; omega); rw [hmax, zabr] at this; unfold zro; exact this
 · rw [hsz, dcf hle, cfa, ← hsz]; have hb : bl (⟨(Lib.decDigits x.N.natAbs).toArray⟩ : ByteArray) = zmf x.N.natAbs x.Scale.toNat := by
    unfold zmf; rw [show x.Scale.toNat + 1 - (Lib.decDigits x.N.natAbs).length = 0 by omega]; rfl
   have := z3z h3 ⟨(Lib.decDigits x.N.natAbs).toArray⟩ (by rw [hsz]; omega) (by rw [hsz]; omega); rw [hb] at this; unfold zro; exact this
theorem zvm : ∀ (N m : Nat), 0 < N → m < 10 ^ N → N ≤ 18 → ∀ K, zcw (N + K) (m : Int) = some ⟨(Lib.decDigits m).toArray⟩
 | 0, m, h, _, _ => by omega
 | N + 1, m, _, hm, hN => fun K => by
  have hmax : IntKind.i64.max = 9223372036854775807 := by decide
  have h18 : 10 ^ (N + 1) ≤ 10 ^ 18 := zb8 hN; rw [show N + 1 + K = (N + K) + 1 by omega]; show (cond (decide ((m : Int) < (-9))) _ (cond (decide ((m : Int) < 0)) _ (cond (decide ((m : Int) < 10)) _ _))) = _; rw [dcf (by omega), dcf (by omega), cfa, cfa, Lib.decDigits]
  by_cases h : m < 10
  · rw [dct (by omega), ctr, dif_pos h, w6e, zkw (by omega) (by omega)]; refine congrArg some (zgw ?_); rw [zgk]; show [UInt8.ofNat (48 + (m : Int)).toNat] = [UInt8.ofNat (48 + m)]; rw [show (48 + (m : Int)).toNat = 48 + m by omega]
  · rw [Nat.pow_succ] at hm; have hN0 : 0 < N := by
     refine cbc fun h0 => ?_; rw [show N = 0 by omega] at hm; omega
    have ih := zvm N (m / 10) hN0 (by omega) (by omega) K; rw [dcf (by omega), cfa, dif_neg h, tde, tme, w6e (n := (m : Int) / 10), show (m : Int) / 10 = ((m / 10 : Nat) : Int) by omega, ih, obs, w6e, zkw (by omega) (by omega), hmax]; have hl := zwy (m / 10) N hN0 (by omega); have hs : (⟨(Lib.decDigits (m / 10)).toArray⟩ : ByteArray).size = (Lib.decDigits (m / 10)).length := rfl; have hs2 : (zdd ([48 + (m : Int) % 10] : List Int)).size = 1 := rfl; rw [ifn (by rw [hs, hs2]; omega)]; refine congrArg some (zgw ?_); rw [zco, zgk]; show Lib.decDigits (m / 10) ++ [UInt8.ofNat (48 + (m : Int) % 10).toNat] = Lib.decDigits (m / 10) ++ [UInt8.ofNat (48 + m % 10)]; rw [show (48 + (m : Int) % 10).toNat = 48 + m % 10 by omega]
theorem zacd (N : Nat) (hN : 100 < N) {x : Number} (hx : zde x) : zec N x = some (zro x) := by
 have hx' := hx
 obtain ⟨⟨h1, h2⟩, h3, h4⟩ := hx'
 have hmax : IntKind.i64.max = 9223372036854775807 := by decide
 have hlen := zwy x.N.natAbs 15 (by decide) (by omega)
 have hdl := zyg x.N.natAbs x.Scale.toNat (by omega) (by omega)
 unfold zec zfm
 rw [zog (by omega) (by omega)]
 simp only [obs, eN]
 have hd := zvm 15 x.N.natAbs (by decide) (by omega) (by decide) (N - 15)
 rw [show 15 + (N - 15) = N by omega] at hd
 rw [hd]
 simp only [obs]
 have z1 : (⟨#[48]⟩ : ByteArray).size = 1 := rfl
 have lp := zas (f := zec.r0 N) (fun i => ((⟨(List.replicate i (48 : UInt8) ++ Lib.decDigits x.N.natAbs).toArray⟩ : ByteArray), x)) (x.Scale.toNat + 1 - (Lib.decDigits x.N.natAbs).length)
  (fun i hi => by
   have hs : (⟨(List.replicate i (48 : UInt8) ++ Lib.decDigits x.N.natAbs).toArray⟩ : ByteArray).size = i + (Lib.decDigits x.N.natAbs).length := by
    show (List.replicate i (48 : UInt8) ++ Lib.decDigits x.N.natAbs).length = _; rw [lna, lnr]
   simp only [zec.r0, zec.b0]; rw [dct (by rw [hs]; omega), ctr, hmax, ifn (by rw [hs, z1]; omega)]; refine congrArg some (congrArg Stp.again (Prod.ext (zgw ?_) rfl)); show bl ((⟨#[48]⟩ : ByteArray) ++ ⟨(List.replicate i (48 : UInt8) ++ Lib.decDigits x.N.natAbs).toArray⟩) = List.replicate (i + 1) (48 : UInt8) ++ Lib.decDigits x.N.natAbs; rw [zco, List.replicate_succ]; rfl)
  (by
   have hs : (⟨(List.replicate (x.Scale.toNat + 1 - (Lib.decDigits x.N.natAbs).length) (48 : UInt8) ++ Lib.decDigits x.N.natAbs).toArray⟩ : ByteArray).size = x.Scale.toNat + 1 - (Lib.decDigits x.N.natAbs).length + (Lib.decDigits x.N.natAbs).length := by
    show (List.replicate (x.Scale.toNat + 1 - (Lib.decDigits x.N.natAbs).length) (48 : UInt8) ++ Lib.decDigits x.N.natAbs).length = _; rw [lna, lnr]
   simp only [zec.r0, zec.b0]; rw [dcf (by rw [hs]; omega), cfa]) (N := N) (by omega)
 rw [List.replicate_zero, List.nil_append] at lp
 rw [lp]
 have := z96 h3 ⟨(zmf x.N.natAbs x.Scale.toNat).toArray⟩ (by show x.Scale < ((zmf x.N.natAbs x.Scale.toNat).length : Int); omega) (by show (zmf x.N.natAbs x.Scale.toNat).length ≤ 100; omega)
 rw [zabr] at this
 unfold zro
 exact this
theorem z6f {x : Number} (hx : zde x) : (zro x).size ≤ 256 := by
 obtain ⟨⟨h1, h2⟩, h3, h4⟩ := hx
 have hdl := zyg x.N.natAbs x.Scale.toNat (by omega) (by omega)
 have hp : (ptT (zmf x.N.natAbs x.Scale.toNat) x.Scale.toNat).length ≤ 17 := by
  unfold ptT; split
  · rw [lna, lna, lnt, List.length_drop, lns]; omega
  · omega
 unfold zro sgT
 show (if x.N < 0 then [45] ++ ptT (zmf x.N.natAbs x.Scale.toNat) x.Scale.toNat else ptT (zmf x.N.natAbs x.Scale.toNat) x.Scale.toNat).length ≤ 256
 split
 · rw [lna, lns]; omega
 · omega
theorem zqj {R α : Type} {f : α → Option (Round R α)} (S : Nat → α) (g : Nat → Option R) (n : Nat) (h : ∀ i, i < n → (∀ j, j < i → g j = none) → f (S i) = some (match g i with | some r => .result r | none => .again (S (i + 1)))) (hl : (∀ j, j < n → g j = none) → f (S n) = some (.leave (S n))) {N : Nat} (hN : n < N) :
 zp f N (S 0) = some (match (List.range n).findSome? g with | some r => .inl r | none => .inr (S n)) := by
 have key : ∀ k i N, i + k = n → k < N → (∀ j, j < i → g j = none) → zp f N (S i) = some (match (List.range' i k).findSome? g with | some r => .inl r | none => .inr (S n)) := by
  intro k
  induction k with
  | zero =>
   intro i N hi hN hp; obtain ⟨m, rfl⟩ : ∃ m, N = m + 1 := ⟨N - 1, by omega⟩; obtain rfl : i = n := by omega
   simp only [zp, hl hp, obs]; rfl
  | succ k ih =>
   intro i N hi hN hp; obtain ⟨m, rfl⟩ : ∃ m, N = m + 1 := ⟨N - 1, by omega⟩; simp only [zp, h i (by omega) hp, obs, List.range'_succ, List.findSome?_cons]; cases hg : g i with
   | some r => rfl
   | none =>
    refine ih (i + 1) m (by omega) (by omega) fun j hj => ?_; rcases Nat.lt_or_ge j i with h1 | h1
    · exact hp j h1
    · obtain rfl : j = i := by omega
      exact hg
 rw [List.range_eq_range']
 exact key n 0 N (by omega) hN (fun j hj => absurd hj (by omega))
theorem zjk {R : Type} {g : Nat → Option R} {n : Nat} : (List.range n).findSome? g = none ↔ ∀ i, i < n → g i = none := by
 rw [List.findSome?_eq_none_iff]
 exact ⟨fun h i hi => h i (List.mem_range.2 hi), fun h i hi => h i (List.mem_range.1 hi)⟩
theorem zjj {R : Type} {g : Nat → Option R} {r : R} : ∀ {n : Nat}, (List.range n).findSome? g = some r → ∃ i, i < n ∧ g i = some r ∧ ∀ j, j < i → g j = none
 | 0, h => by simp at h
 | n + 1, h => by
  rw [List.range_succ, List.findSome?_append] at h; cases hn : (List.range n).findSome? g with
  | some r' =>
   rw [hn] at h; obtain ⟨i, h1, h2, h3⟩ := zjj hn; exact ⟨i, by omega, by rw [h2]; exact h, h3⟩
  | none =>
   rw [hn] at h; simp only [List.findSome?_cons, List.findSome?_nil] at h; refine ⟨n, by omega, ?_, zjk.1 hn⟩; cases hg : g n with
   | some x => rw [hg] at h; exact h
   | none => rw [hg] at h; cases h
theorem zws (b : Bool) (e : Int) : zbz b e = some (cond b e 0) := by cases b <;> rfl
theorem zwr (n lo hi : Int) : zd0 n lo hi = some (inB n lo hi) := by
 unfold zd0 inB
 cases decide (lo ≤ n) <;> rfl
theorem ztx (N : Nat) (l : List Int) (h : l.length < N) (hl : l.length < 1000000000) : zbg N l = some (zf4 l) := by
 unfold zbg
 have := zbq (f := zbg.r0 N) (fun i => (l, (l.length : Int), (i : Int))) (fun i => (l[i]?).bind fun x => if x = 0 then none else some x) l.length
  (fun i hi => by
   have hx := lge hi; simp only [zbg.r0, zbg.b0, zae, hx, obs, dct (show (i : Int) < (l.length : Int) by omega), ctr]
   by_cases h0 : l[i] = 0
   · simp only [h0, bsf, cfa, if_true]; rw [w6e]; rfl
   · simp only [h0, if_false]; rw [show (l[i] != 0) = true by simpa using h0]; rfl)
  (by simp only [zbg.r0, zbg.b0, dcf (show ¬ (l.length : Int) < (l.length : Int) by omega), cfa]) h
 simp only [nc0] at this
 rw [this, zoy, ← zr1]
 simp only [obs]
 cases l.findSome? (fun x => if x = 0 then none else some x) <;> rfl
def letB (c : Int) : Bool := (decide (65 ≤ c) && decide (c ≤ 90)) || (decide (c = 35) || (decide (c = 36) || decide (c = 64)))
def othB (c : Int) : Bool := (decide (48 ≤ c) && decide (c ≤ 57)) || (decide (c = 95) || decide (c = 46))
def zyk (c i : Int) : Bool := !letB c && (decide (i = 0) || !othB c)
def zql (s : ByteArray) (i : Nat) : Option Bool := ((bl s)[i]?).bind fun c => if zyk ((c.toNat : Nat) : Int) (i : Int) = true then some false else none
def zt4 (s : ByteArray) : Bool := decide (1 ≤ s.size ∧ s.size ≤ 10) && ((List.range s.size).findSome? (zql s)).isNone
theorem z5f (s : ByteArray) : s.size = (bl s).length := rfl
theorem zacv (s : ByteArray) (i : Nat) : zgg s (i : Int) = (bl s)[i]? := by
 unfold zgg
 rw [ifp]
 show s.data[i]? = s.data.toList[i]?
 simp
theorem zacl (N : Nat) (hN : 20 < N) (s : ByteArray) : zcb N s = some (zt4 s) := by
 unfold zcb zt4
 rw [zkk, zkk, show bl (⟨#[]⟩ : ByteArray) = [] from rfl]
 by_cases h0 : s.size = 0
 · have : bl s = [] := List.eq_nil_of_length_eq_zero (by rw [← z5f]; exact h0); rw [this, dcf (show ¬ (1 ≤ s.size ∧ s.size ≤ 10) by omega)]; rfl
 by_cases h1 : s.size > 10
 · rw [dcf (show ¬ (1 ≤ s.size ∧ s.size ≤ 10) by omega), dct (show (s.size : Int) > 10 by omega)]; cases (bl s == ([] : List UInt8)) <;> rfl
 have hne : (bl s == ([] : List UInt8)) = false := by
  cases hb : (bl s == ([] : List UInt8)) with
  | false => rfl
  | true =>
   have := congrArg List.length (eq_of_beq hb); rw [← z5f] at this; exact absurd this h0
 rw [hne, dcf (show ¬ (s.size : Int) > 10 by omega), dct (show 1 ≤ s.size ∧ s.size ≤ 10 by omega)]
 simp only [cfa, obs, Bool.true_and]
 have hlen : (zfe s).length = s.size := by unfold zfe; rw [lnm]; rfl
 have l1 := zbq (f := zcb.r0 N) (fun i => (zfe s, ((zfe s).length : Int), (i : Int))) (zql s) s.size
  (fun i hi => by
   have hi' : i < (bl s).length := hi; have hx : (zfe s)[i]? = some (((bl s)[i].toNat : Nat) : Int) := by
    unfold zfe; rw [List.getElem?_map]; show ((bl s)[i]?).map _ = _; rw [lge hi']; rfl
   simp only [zcb.r0, zcb.b0, hlen, dct (show (i : Int) < (s.size : Int) by omega), ctr, ifp (show (0 : Int) ≤ (i : Int) by omega), ifp (show (i : Int) < (s.size : Int) by omega), itn, hx, obs, zyl, orB, zy, zql, lge hi']; rw [w6e]; generalize (((bl s)[i].toNat : Nat) : Int) = c; have e : (!(((decide (65 ≤ c) && decide (c ≤ 90)) || decide (c = 35) || decide (c = 36)) || decide (c = 64)) && (decide ((i : Int) = 0) || !(((decide (48 ≤ c) && decide (c ≤ 57)) || decide (c = 95)) || decide (c = 46)))) = zyk c (i : Int) := by
    unfold zyk letB othB; simp only [Bool.or_assoc]
   rw [e]; cases zyk c (i : Int) <;> rfl)
  (by simp only [zcb.r0, zcb.b0, hlen, dcf (show ¬ (s.size : Int) < (s.size : Int) by omega), cfa]) (N := N) (by omega)
 simp only [nc0] at l1
 rw [l1]
 cases hg : (List.range s.size).findSome? (zql s) with
 | none => rfl
 | some r =>
  obtain ⟨i, _, hi, _⟩ := zjj hg; unfold zql at hi; rw [Option.bind_eq_some_iff] at hi; obtain ⟨c, _, hc⟩ := hi; split at hc
  · cases hc; rfl
  · cases hc
theorem zacf (N : Nat) (hN : 20 < N) (s : ByteArray) : zdp N s = some (zt4 s) := by
 unfold zdp zt4
 rw [zg2, obs]
 by_cases h1 : 1 ≤ s.size ∧ s.size ≤ 10
 · rw [show inB (s.size : Int) 1 10 = true from zbb.2 (by omega), dct h1]; simp only [bnt, cfa, Bool.true_and]; have l1 := zbq (f := zdp.r0 N) (fun i => (s, (i : Int))) (zql s) s.size
    (fun i hi => by
     have hi' : i < (bl s).length := hi; simp only [zdp.r0, zdp.b0, zlx, zly, dct (show (i : Int) < (s.size : Int) by omega), ctr, zacv, lge hi', obs, zyl, orB, zy, zb9, zql]; rw [w6e]; generalize (((bl s)[i].toNat : Nat) : Int) = c; have e : (!((((decide (65 ≤ c) && decide (c ≤ 90)) || decide (c = 36)) || decide (c = 35)) || decide (c = 64)) && (decide ((i : Int) = 0) || ((!(decide (48 ≤ c) && decide (c ≤ 57)) && decide (c ≠ 95)) && decide (c ≠ 46)))) = zyk c (i : Int) := by
      unfold zyk letB othB; simp only [decide_not, Bool.not_or, Bool.not_and, Bool.or_assoc, Bool.and_assoc]; cases decide (65 ≤ c) <;> cases decide (c ≤ 90) <;> cases decide (c = 36) <;> cases decide (c = 35) <;> simp
     rw [e]; cases zyk c (i : Int) <;> rfl)
    (by simp only [zdp.r0, zdp.b0, dcf (show ¬ (s.size : Int) < (s.size : Int) by omega), cfa]) (N := N) (by omega)
   simp only [nc0] at l1; rw [l1]; cases hg : (List.range s.size).findSome? (zql s) with
   | none => rfl
   | some r =>
    obtain ⟨i, _, hi, _⟩ := zjj hg; unfold zql at hi; rw [Option.bind_eq_some_iff] at hi; obtain ⟨c, _, hc⟩ := hi; split at hc
    · cases hc; rfl
    · cases hc
 · rw [show inB (s.size : Int) 1 10 = false by
    cases hb : inB (s.size : Int) 1 10 with
    | false => rfl
    | true => have := zbb.1 hb; omega, dcf h1]
   rfl
def gNm (l : List zF) (s : ByteArray) (i : Nat) : Option Int := (l[i]?).bind fun o => if (o.Name.toList == s.toList) = true then some (i : Int) else none
def nmI (l : List zF) (s : ByteArray) : Int := match (List.range l.length).findSome? (gNm l s) with | some i => i | none => -1
theorem zya (N : Nat) (l : List zF) (h : l.length < N) (hl : l.length < 1000000000) (s : ByteArray) : zfs N l s = some (nmI l s) := by
 unfold zfs zm nmI
 have l1 := zbq (f := zm.r0 N) (fun i => (l, (l.length : Int), (i : Int), s)) (gNm l s) l.length
  (fun i hi => by
   have hx := lge hi; simp only [zm.r0, zm.b0, zi3, zae, hx, obs, dct (show (i : Int) < (l.length : Int) by omega), ctr, gNm]; rw [w6e]; cases (l[i].Name.toList == s.toList) <;> rfl)
  (by simp only [zm.r0, zm.b0, dcf (show ¬ (l.length : Int) < (l.length : Int) by omega), cfa]) h
 simp only [nc0] at l1
 rw [l1]
 cases (List.range l.length).findSome? (gNm l s) <;> rfl
theorem z1z (N : Nat) (p : zB) (h : p.zA.length < N) (hl : p.zA.length < 1000000000) (s : ByteArray) : zdu N p s = some (nmI p.zA s) := by
 unfold zdu nmI
 have l1 := zbq (f := zdu.r0 N) (fun i => (s, (i : Int), p)) (gNm p.zA s) p.zA.length
  (fun i hi => by
   have hx := lge hi; simp only [zdu.r0, zdu.b0, zae, hx, obs, dct (show (i : Int) < (p.zA.length : Int) by omega), ctr, gNm]; rw [w6e]; cases (p.zA[i].Name.toList == s.toList) <;> rfl)
  (by simp only [zdu.r0, zdu.b0, dcf (show ¬ (p.zA.length : Int) < (p.zA.length : Int) by omega), cfa]) h
 simp only [nc0] at l1
 rw [l1]
 cases (List.range p.zA.length).findSome? (gNm p.zA s) <;> rfl
theorem zaa4 {l : List zF} {s : ByteArray} {i : Nat} {r : Int} (h : gNm l s i = some r) : r = (i : Int) ∧ ∃ o, l[i]? = some o ∧ (o.Name.toList == s.toList) = true := by
 unfold gNm at h
 rw [Option.bind_eq_some_iff] at h
 obtain ⟨o, h1, h2⟩ := h
 split at h2
 · rename_i h3; cases h2; exact ⟨rfl, o, h1, h3⟩
 · cases h2
theorem zqw (l : List zF) (s : ByteArray) : (nmI l s = -1 ∧ ∀ i, i < l.length → gNm l s i = none) ∨ ∃ i : Nat, nmI l s = (i : Int) ∧ i < l.length ∧ gNm l s i = some (i : Int) ∧ ∀ j, j < i → gNm l s j = none := by
 unfold nmI
 cases hf : (List.range l.length).findSome? (gNm l s) with
 | none => exact .inl ⟨rfl, zjk.1 hf⟩
 | some r =>
  obtain ⟨i, h1, h2, h3⟩ := zjj hf; have := (zaa4 h2).1; subst this; exact .inr ⟨i, rfl, h1, h2, h3⟩
theorem zafy {l : List zF} {s : ByteArray} {i : Nat} (h1 : i < l.length) (h2 : gNm l s i = some (i : Int)) (h3 : ∀ j, j < i → gNm l s j = none) : nmI l s = (i : Int) := by
 rcases zqw l s with ⟨_, g2⟩ | ⟨k, g1, g2, g3, g4⟩
 · rw [g2 i h1] at h2; cases h2
 · rcases Nat.lt_trichotomy i k with h | h | h
   · rw [g4 i h] at h2; cases h2
   · rw [g1, h]
   · rw [h3 k h] at g3; cases g3
theorem zuh {l : List zF} {s : ByteArray} {n i : Nat} (h : i < n) : gNm (l.take n) s i = gNm l s i := by
 unfold gNm
 rw [List.getElem?_take, ifp h]
theorem z5q (l : List zF) (s : ByteArray) (n : Nat) : nmI (l.take n) s = if nmI l s < (n : Int) then nmI l s else -1 := by
 rcases zqw l s with ⟨g1, g2⟩ | ⟨k, g1, g2, g3, g4⟩
 · rw [g1, ifp]; rcases zqw (l.take n) s with ⟨e1, _⟩ | ⟨k, _, e2, e3, _⟩
   · exact e1
   · rw [lnt] at e2; rw [zuh (by omega), g2 k (by omega)] at e3; cases e3
 · by_cases hk : k < n
   · rw [g1, ifp]; exact zafy (by rw [lnt]; omega) (by rw [zuh hk]; exact g3) (fun j hj => by rw [zuh (by omega)]; exact g4 j hj)
   · rw [g1, ifn]; rcases zqw (l.take n) s with ⟨e1, _⟩ | ⟨k', _, e2, e3, _⟩
     · exact e1
     · rw [lnt] at e2; rw [zuh (by omega), g4 k' (by omega)] at e3; cases e3
theorem z3e {l : List zF} {i : Nat} {o : zF} (h : l[i]? = some o) : 0 ≤ nmI l o.Name ∧ nmI l o.Name ≤ (i : Int) := by
 have hi := (gei h).1
 have hg : gNm l o.Name i = some (i : Int) := by
  unfold gNm; rw [h, obs, ifp (bst _)]
 rcases zqw l o.Name with ⟨_, g2⟩ | ⟨k, g1, g2, g3, g4⟩
 · rw [g2 i hi] at hg; cases hg
 · have : ¬ i < k := fun hlt => by rw [g4 i hlt] at hg; cases hg
   omega
def isS (k : Int) : Bool := (decide (k = 0) || decide (k = 1)) || decide (k = 2)
def isD (k : Int) : Bool := isS k || decide (k = 4)
theorem zvv (o : zF) : zez o = some (isD o.Kind) := by
 unfold zez isD isS
 simp only [orB, zy, obs]
theorem zxd (k : Int) : zfu k = some (isS k) := by
 unfold zfu isS
 simp only [orB, zy, obs]
theorem z00 (k : Int) : zgb k = some (isD k) := by
 unfold zgb isD
 rw [zxd]
 simp only [orB, zy, obs]
theorem z6g (a b : ByteArray) : (a.toList == b.toList) = decide (a = b) := by
 rw [zkk, zkk]
 by_cases h : a = b
 · subst h; rw [dct rfl]; exact bst _
 · rw [dcf h]; refine beq_eq_false_iff_ne.2 fun hh => h ?_; obtain ⟨⟨a⟩⟩ := a; obtain ⟨⟨b⟩⟩ := b; have : a = b := hh; rw [this]
def e0 : ByteArray := ⟨#[]⟩
def noV (o : zF) : Bool := decide (o.Value.N = 0) && decide (o.Value.S = e0)
def noB (o : zF) : Bool := decide (o.Base = e0) && decide (o.Offset = 0)
def noT (o : zF) : Bool := decide (o.zK.Kind = 0) && (decide (o.zK.Length = 0) && decide (o.zK.Scale = 0))
def zrd (o : zF) : Bool :=
 if o.Kind = 0 ∨ o.Kind = 4 then !noB o || !decide (o.Target = 0)
 else if o.Kind = 1 ∨ o.Kind = 2 then !noV o || !decide (o.Target = 0)
 else if o.Kind = 3 then !noT o || (!noV o || (!noB o || !decide (o.Target = 0)))
 else !noT o || (!noV o || !noB o)
theorem zzi {k : Int} (h : inB k 0 5 = true) : k = 0 ∨ k = 1 ∨ k = 2 ∨ k = 3 ∨ k = 4 ∨ k = 5 := by
 have := zbb.1 h
 omega
theorem zdec (a : Int) : decide (0 = a) = decide (a = 0) := by
 by_cases h : a = 0
 · rw [dct h, dct h.symm]
 · rw [dcf h, dcf fun e => h e.symm]
theorem sdec (a : ByteArray) : decide ((⟨#[]⟩ : ByteArray) = a) = decide (a = e0) := by
 by_cases h : a = e0
 · rw [dct h, dct (show (⟨#[]⟩ : ByteArray) = a from h.symm)]
 · rw [dcf h, dcf fun e => h e.symm]
theorem zacm {o : zF} (h : inB o.Kind 0 5 = true) : ∃ k, zi4 o = some k ∧ (!(zgy [(k.Name == o.Name), (k.Kind == o.Kind), (k.zK.Kind == o.zK.Kind), (k.zK.Length == o.zK.Length), (k.zK.Scale == o.zK.Scale), (k.Value.N == o.Value.N), (k.Value.S == o.Value.S), (k.Base == o.Base), (k.Offset == o.Offset), (k.Target == o.Target)])) = zrd o := by
 obtain ⟨nm, kd, ty, v, bs, off, tg⟩ := o
 have hk := zzi h
 simp only at hk
 rcases hk with rfl | rfl | rfl | rfl | rfl | rfl
 all_goals
  refine ⟨_, rfl, ?_⟩; simp only [zgy, zrd, noV, noB, noT, zy, bbeq, zdec, sdec]; simp [Bool.and_assoc, Bool.or_assoc]
  try congr
theorem z8j {o : zF} (h : inB o.Kind 0 5 = true) : zit o = some (zrd o) := by
 obtain ⟨nm, kd, ty, v, bs, off, tg⟩ := o
 have hk := zzi h
 simp only at hk
 unfold zit
 simp only [z6g]
 rcases hk with rfl | rfl | rfl | rfl | rfl | rfl
 all_goals
  simp only [zgy, zrd, noV, noB, noT, zy, zb9, bbeq, z6g, orB, zyl, obs]; simp [e0, Bool.and_assoc, Bool.or_assoc]
  try congr
def zmv (t : DataType) : Int := ((10 ^ t.Length.toNat : Nat) : Int) - 1
def zjr (t : DataType) (v : Value) : Int :=
 if t.Kind = 0 then (if v.N ≠ 0 then 5 else if (v.S.size : Int) ≠ t.Length then 18 else 0)
 else (if v.S ≠ e0 then 5 else if inB v.N (-zmv t) (zmv t) = true then 0 else 19)
theorem zzc {t : DataType} (h : zey t = 0) (h0 : t.Kind ≠ 0) (h4 : t.Kind ≠ 4) : zic t := by
 rcases zl2 h with ⟨k, _⟩ | ⟨k | k, _⟩ | ⟨k, _⟩ | ⟨k, _⟩
 · exact absurd k h0
 · exact ⟨h, by omega, by omega⟩
 · exact ⟨h, by omega, by omega⟩
 · exact ⟨h, by omega, by omega⟩
 · exact absurd k h4
theorem z1b {t : DataType} (h : zic t) : w6 (((10 ^ t.Length.toNat : Nat) : Int) - 1) = zmv t ∧ w6 (0 - zmv t) = -zmv t ∧ 0 ≤ zmv t := by
 obtain ⟨⟨l1, l2⟩, _⟩ := zfc h
 have hp : 10 ^ t.Length.toNat ≤ 10 ^ 15 := zb8 (by omega)
 have hp2 := zcd t.Length.toNat
 unfold zmv
 exact ⟨w6e, by rw [w6e]; omega, by omega⟩
theorem z3b (N : Nat) (hN : 100 < N) {t : DataType} (ht : zey t = 0) (h4 : t.Kind ≠ 4) (v : Value) : zbt N t v = some (zjr t v) := by
 have f2 : ∀ a b : Int, zr N [a, b] = some (zf4 [a, b]) := fun a b => zm8 N _ (by simp; omega) (by simp)
 unfold zbt zjr
 rw [znl N (by omega), ht]
 simp only [obs, znn, f2, zy, dcf h4, cfa]
 rw [show zf4 [0, 0] = 0 from rfl]
 simp only [bsf, cfa]
 by_cases h0 : t.Kind = 0
 · rw [ifp h0, dct h0]; simp only [ctr, zb9]; rw [zv7 _ _ _ _ (by decide) (by decide)]
   by_cases h1 : v.N ≠ 0
   · rw [ifp h1, dct h1]; rfl
   · rw [ifn h1, dcf h1]
     by_cases h2 : (v.S.size : Int) ≠ t.Length
     · rw [ifp h2, dct h2]; rfl
     · rw [ifn h2, dcf h2]; rfl
 · have hn := zzc ht h0 h4; obtain ⟨⟨l1, l2⟩, _⟩ := zfc hn; obtain ⟨m1, m2, m3⟩ := z1b hn; rw [ifn h0, dcf h0]; simp only [cfa]; have := z3d N (by omega) t.Length.toNat (by omega); rw [show ((t.Length.toNat : Nat) : Int) = t.Length by omega] at this; rw [this]; simp only [obs, zzd, m1, m2, z6g]; rw [zv7 _ _ _ _ (by decide) (by decide)]
   by_cases h1 : v.S = e0
   · rw [ifn (fun h => h h1), dct (show v.S = (⟨#[]⟩ : ByteArray) from h1)]; cases hb : inB v.N (-zmv t) (zmv t) <;> rfl
   · rw [ifp h1, dcf (show ¬ v.S = (⟨#[]⟩ : ByteArray) from h1)]; rfl
theorem zaah (N : Nat) (hN : 100 < N) {t : DataType} (ht : zey t = 0) (h4 : t.Kind ≠ 4) (v : Value) : zho N t v = some (zjr t v) := by
 unfold zho zjr
 rw [zwn, ht]
 simp only [obs, zy, zb9, dcf h4, cfa, bsf, z6g]
 by_cases h0 : t.Kind = 0
 · rw [ifp h0, dct h0]; simp only [ctr, obs, dcf (show ¬ t.Kind ≠ 0 from fun h => h h0), cfa]
   by_cases h1 : v.N ≠ 0
   · rw [ifp h1, dct h1]; rfl
   · rw [ifn h1, dcf h1]; simp only [cfa, obs, zg3]
     by_cases h2 : (v.S.size : Int) ≠ t.Length
     · rw [ifp h2, dct h2]; rfl
     · rw [ifn h2, dcf h2]; rfl
 · have hn := zzc ht h0 h4; obtain ⟨⟨l1, l2⟩, _⟩ := zfc hn; obtain ⟨m1, m2, m3⟩ := z1b hn; rw [ifn h0, dcf h0]; simp only [ctr, cfa, obs, dct (show t.Kind ≠ 0 from h0)]; have := zx1 N (by omega) t.Length.toNat (by omega); rw [show ((t.Length.toNat : Nat) : Int) = t.Length by omega] at this; unfold zgi; rw [this]; simp only [obs, zg2, zg3, m1, m2]
   by_cases h1 : v.S = e0
   · rw [ifn (fun h => h h1), dct (show v.S = (⟨#[]⟩ : ByteArray) from h1)]; cases hb : inB v.N (-zmv t) (zmv t) <;> rfl
   · rw [ifp h1, dcf (show ¬ v.S = (⟨#[]⟩ : ByteArray) from h1)]; rfl
def zsa (ops : List zF) (i : Int) (o : zF) : Int :=
 if nmI ops o.Base < 0 ∨ i ≤ nmI ops o.Base then 11
 else match ops[(nmI ops o.Base).toNat]? with
  | none => 0
  | some b => if o.Kind = 2 then (if b.Kind ≠ 3 then 17 else if inB o.Offset 0 256 = true then 0 else 3)
   else if b.Kind ≠ 0 then 17 else if inB o.Offset 0 (szE b.zK - szE o.zK) = true then 0 else 3
def zrt (p : zB) (i : Int) (o : zF) : Int :=
 if o.Kind = 0 ∨ o.Kind = 4 then zjr o.zK o.Value
 else if o.Kind = 1 ∨ o.Kind = 2 then zsa p.zA i o
 else if o.Kind = 5 then (if inB o.Target 0 ((p.zG.length : Int) - 1) = true then 0 else 3)
 else 0
def opE (p : zB) (i : Nat) : Int :=
 match p.zA[i]? with
 | none => 0
 | some o => if zt4 o.Name = false then 7 else if nmI p.zA o.Name < (i : Int) then 13 else if inB o.Kind 0 5 = false then 4 else if zrd o = true then 5
  else if isD o.Kind = true ∧ zey o.zK ≠ 0 then zey o.zK else if isD o.Kind = true ∧ o.zK.Kind = 4 then 17 else zrt p i o
structure OpV (p : zB) (i : Nat) (o : zF) : Prop where
 kind : 0 ≤ o.Kind ∧ o.Kind ≤ 5
 own : nmI p.zA o.Name = (i : Int)
 ty : isD o.Kind = true → zey o.zK = 0 ∧ o.zK.Kind ≠ 4
 val : o.Kind = 0 ∨ o.Kind = 4 → zjr o.zK o.Value = 0
 base : o.Kind = 1 ∨ o.Kind = 2 → zsa p.zA i o = 0
 tg : o.Kind = 5 → 0 ≤ o.Target ∧ o.Target < (p.zG.length : Int)
theorem op_v {p : zB} {i : Nat} {o : zF} (ho : p.zA[i]? = some o) (h : opE p i = 0) : OpV p i o := by
 unfold opE at h
 rw [ho] at h
 simp only at h
 obtain ⟨n1, n2⟩ := z3e ho
 split at h
 · cases h
 split at h
 · cases h
 split at h
 · cases h
 split at h
 · cases h
 rename_i h1 h2 h3 h4
 have hk := zzi (show inB o.Kind 0 5 = true by simpa using h3)
 split at h
 · rename_i h5; exact absurd h h5.2
 split at h
 · cases h
 rename_i h5 h6
 refine { kind := by omega, own := by omega, ty := fun hd => ⟨cbc fun hh => h5 ⟨hd, hh⟩, fun hh => h6 ⟨hd, hh⟩⟩, val := fun hv => ?_, base := fun hv => ?_, tg := fun hv => ?_ }
 · unfold zrt at h; rw [ifp hv] at h; exact h
 · unfold zrt at h; rw [ifn, ifp hv] at h; exact h
 · unfold zrt at h; rw [ifn, ifn, ifp hv] at h; split at h
   · rename_i hh; have := zbb.1 hh; omega
   · cases h
theorem z0a (N : Nat) (hN : 10 < N) {o : zF} (h : zey o.zK = 0) : zg5 N o = some (szE o.zK) := by
 unfold zg5 zgu
 rw [znl N hN, h]
 simp [zwu h]
theorem zaeq (a : Int) (b : Bool) : zf4 [a, cond b 17 0] = if a = 0 then cond b 17 0 else a := by
 show (if a = 0 then zf4 [cond b 17 0] else a) = _
 cases b <;> rfl
theorem zaa1 (o : zF) : ∃ k, zi4 o = some k := by
 unfold zi4
 rw [zvv]
 simp only [obs]
 cases isD o.Kind <;> cases (o.Kind == 0) <;> cases (o.Kind == 4) <;> cases (o.Kind == 1) <;> cases (o.Kind == 2) <;> cases (o.Kind == 5) <;> exact ⟨_, rfl⟩
structure Upto (p : zB) (i : Nat) : Prop where
 ops : p.zA.length ≤ 1000
 ins : p.zG.length ≤ 1000000
 ok : ∀ j, j < i → opE p j = 0
theorem z3f (l : List zF) (s : ByteArray) : nmI l s = -1 ∨ (0 ≤ nmI l s ∧ nmI l s < (l.length : Int) ∧ ∃ o, l[(nmI l s).toNat]? = some o) := by
 rcases zqw l s with ⟨h, _⟩ | ⟨k, h1, h2, _⟩
 · exact .inl h
 · rw [h1]; exact .inr ⟨by omega, by omega, _, lge h2⟩
theorem z55 {p : zB} {i : Nat} (hu : Upto p i) {n : Int} (h0 : 0 ≤ n) (h1 : n < (i : Int)) {b : zF} (hb : p.zA[n.toNat]? = some b) (hk : b.Kind = 0) : zey b.zK = 0 := by
 have := op_v hb (hu.ok n.toNat (by omega))
 exact (this.ty (by rw [hk]; rfl)).1
theorem z2a {a b : DataType} (ha : zey a = 0) (hb : zey b = 0) : w6 (szE a - szE b) = szE a - szE b := by
 have h1 := zd6 ha
 have h2 := zd6 hb
 exact w6e
theorem zae7 (l : List zF) (i : Nat) : (l.take ((i : Int)).toNat).drop (0 : Int).toNat = l.take i := rfl
theorem z5n (N : Nat) (hN : 1100 < N) {p : zB} {i : Nat} (hu : Upto p i) {o : zF} (ht : zey o.zK = 0) (hk : o.Kind = 1 ∨ o.Kind = 2) : zg6 N o (p.zA.take i) = some (zsa p.zA i o) := by
 have hl := hu.ops
 unfold zg6 zsa
 rw [zya N _ (by rw [lnt]; omega) (by rw [lnt]; omega), z5q]
 simp only [obs]
 by_cases hc : nmI p.zA o.Base < 0 ∨ (i : Int) ≤ nmI p.zA o.Base
 · rw [ifp hc]; rw [dct (by split <;> omega)]; rfl
 · rw [ifn hc, ifp, dcf (by omega)]; obtain ⟨b, hb⟩ : ∃ b, p.zA[(nmI p.zA o.Base).toNat]? = some b := by
    rcases z3f p.zA o.Base with h | ⟨_, _, h⟩
    · omega
    · exact h
   have hx : idx (p.zA.take i) (nmI p.zA o.Base) = some b := by
    unfold idx; rw [ifp, List.getElem?_take, ifp, hb]
   rw [hx, hb]; simp only [cfa, obs, zws, zwr, zy, zb9]
   by_cases h2 : o.Kind = 2
   · rw [ifp h2, dct h2]; simp only [ctr]; rw [ztx N _ (by simp; omega) (by simp), zv7 _ _ _ _ (by decide) (by decide)]
     by_cases h3 : b.Kind ≠ 3
     · rw [ifp h3, dct h3]; rfl
     · rw [ifn h3, dcf h3]; cases inB o.Offset 0 256 <;> rfl
   · rw [ifn h2, dcf h2]; simp only [cfa]
     by_cases h3 : b.Kind ≠ 0
     · rw [ifp h3, dct h3]; rfl
     · rw [ifn h3, dcf h3]; have hbt := z55 hu (by omega) (by omega) hb (by omega); simp only [cfa]; rw [z0a N (by omega) hbt, z0a N (by omega) ht]; simp only [obs]; rw [z2a hbt ht]; cases inB o.Offset 0 (szE b.zK - szE o.zK) <;> rfl
theorem z5k (N : Nat) (hN : 1100 < N) {p : zB} {i : Nat} (hu : Upto p i) {o : zF} (ht : zey o.zK = 0) (hk : o.Kind = 1 ∨ o.Kind = 2) :
 ((cond (nmI p.zA o.Base == (-1)) (some true) (some (decide (nmI p.zA o.Base ≥ (i : Int))))).bind fun g12 => cond g12 (some (11 : Int)) ((idx p.zA (nmI p.zA o.Base)).bind fun x13 =>
 (cond (o.Kind == 1) (some (x13.Kind != 0)) (some false)).bind fun g14 => (cond g14 (some true) ((cond (o.Kind == 2) (some (x13.Kind != 3)) (some false)).bind fun g15 =>
 some g15)).bind fun g16 => cond g16 (some 17) (cond (o.Kind == 1) ((zcp x13.zK).bind fun r17 => (zcp o.zK).bind fun r18 =>
 (zf o.Offset 0 (w6 (r17 - r18))).bind fun r19 => cond (!r19) (some 3) (some 0)) ((zf o.Offset 0 256).bind fun r20 => cond (!r20) (some 3)
 (some 0))))) = some (zsa p.zA i o) := by
 have hl := hu.ops
 unfold zsa
 rcases z3f p.zA o.Base with h | ⟨n0, n1, b, hb⟩
 · rw [h, ifp]; rfl
 · rw [zy, dcf (by omega)]; simp only [cfa, obs]
   by_cases hc : (i : Int) ≤ nmI p.zA o.Base
   · rw [ifp (.inr hc), dct (show nmI p.zA o.Base ≥ (i : Int) from hc)]; rfl
   · rw [ifn, dcf (show ¬ nmI p.zA o.Base ≥ (i : Int) from hc)]; have hx : idx p.zA (nmI p.zA o.Base) = some b := by
      unfold idx; rw [ifp n0, hb]
     rw [hx, hb]; simp only [cfa, obs, zg2, zy, zb9, orB, zyl]
     by_cases h2 : o.Kind = 2
     · rw [ifp h2, dct h2, dcf (show ¬ o.Kind = 1 by omega)]; simp only [Bool.false_and, Bool.false_or, Bool.true_and, cfa]
       by_cases h3 : b.Kind ≠ 3
       · rw [ifp h3, dct h3]; rfl
       · rw [ifn h3, dcf h3]; cases inB o.Offset 0 256 <;> rfl
     · rw [ifn h2, dcf h2, dct (show o.Kind = 1 by omega)]; simp only [Bool.false_and, Bool.or_false, Bool.true_and, ctr]
       by_cases h3 : b.Kind ≠ 0
       · rw [ifp h3, dct h3]; rfl
       · rw [ifn h3, dcf h3]; have hbt := z55 hu n0 (by omega) hb (by omega); simp only [cfa]; rw [zoo hbt, zoo ht]; simp only [obs, zg2]; rw [z2a hbt ht]; cases inB o.Offset 0 (szE b.zK - szE o.zK) <;> rfl
theorem z7a {p : zB} {i : Nat} (hu : Upto p i) : w6 ((p.zG.length : Int) - 1) = (p.zG.length : Int) - 1 := by
 have := hu.ins
 exact w6e
theorem zafv (N : Nat) (hN : 1100 < N) {p : zB} {i : Nat} (hu : Upto p i) (hi : i < p.zA.length) : zgr N p (i : Int) = some (opE p i) := by
 have hl := hu.ops
 have hx := lge hi
 unfold zgr opE
 rw [zae, hx]
 generalize p.zA[i] = o at hx ⊢
 obtain ⟨n0, n1⟩ := z3e hx
 simp only [obs]
 rw [ifp, ifp]
 simp only [zae7]
 rw [zacl N (by omega), zya N _ (by rw [lnt]; omega) (by rw [lnt]; omega), z5q]
 simp only [obs, zws, zwr]
 obtain ⟨k, hk⟩ := zaa1 o
 rw [hk]
 simp only [obs]
 rw [ztx N _ (by simp; omega) (by simp)]
 simp only [obs]
 cases hnm : zt4 o.Name with
 | false => rfl
 | true =>
  by_cases hd : nmI p.zA o.Name < (i : Int)
  · rw [ifp hd, dct (show nmI p.zA o.Name ≥ 0 from n0)]; simp only [Bool.true_eq_false, if_false, ifp hd]; rfl
  · rw [ifn hd, dcf (show ¬ (-1 : Int) ≥ 0 by decide)]; simp only [Bool.true_eq_false, if_false, ifn hd]; cases hkd : inB o.Kind 0 5 with
    | false => rfl
    | true =>
     obtain ⟨k', hk1, hk2⟩ := zacm hkd; rw [hk] at hk1; cases hk1; rw [hk2]; cases hex : zrd o with
     | true => rfl
     | false =>
      rw [show zf4 [cond (!true) 7 0, cond false 13 0, cond (!true) 4 0, cond false 5 0] = 0 from rfl]; simp only [bsf, cfa, Bool.true_eq_false, Bool.false_eq_true, if_false, zvv, obs]; have hks := zzi hkd; cases hdt : isD o.Kind with
      | true =>
       simp only [ctr]; rw [znl N (by omega)]; simp only [obs, true_and]; rw [ztx N _ (by simp; omega) (by simp)]; simp only [obs, zaeq]
       by_cases ht : zey o.zK = 0
       · rw [ifp ht, ifn (fun h => h ht)]
         by_cases h4 : o.zK.Kind = 4
         · rw [ifp h4, zy, dct h4]; rfl
         · rw [ifn h4, zy, dcf h4]; simp only [cfa, bsf]; rw [z3b N (by omega) ht h4]; unfold zrt; rcases hks with h | h | h | h | h | h
           · rw [h]; rfl
           · rw [z5n N hN hu ht (.inl h), ifn, ifp (.inl h), h]; rfl
           · rw [z5n N hN hu ht (.inr h), ifn, ifp (.inr h), h]; rfl
           · rw [h] at hdt; cases hdt
           · rw [h]; rfl
           · rw [h] at hdt; cases hdt
       · rw [ifn ht, ifp ht, zb9, dct ht]; rfl
      | false =>
       simp only [cfa, Bool.false_eq_true, false_and, if_false]; unfold zrt; rcases hks with h | h | h | h | h | h
       · rw [h] at hdt; cases hdt
       · rw [h] at hdt; cases hdt
       · rw [h] at hdt; cases hdt
       · rw [h]; rfl
       · rw [h] at hdt; cases hdt
       · rw [h, z7a hu]; cases inB o.Target 0 ((p.zG.length : Int) - 1) <;> rfl
theorem zafe (N : Nat) (hN : 1100 < N) {p : zB} {i : Nat} (hu : Upto p i) (hi : i < p.zA.length) : zhm N p (i : Int) = some (opE p i) := by
 have hl := hu.ops
 have hx := lge hi
 unfold zhm opE
 rw [zae, hx]
 generalize p.zA[i] = o at hx ⊢
 obtain ⟨n0, n1⟩ := z3e hx
 simp only [obs]
 rw [zacf N (by omega)]
 simp only [obs]
 cases hnm : zt4 o.Name with
 | false => rfl
 | true =>
  simp only [bnt, cfa, Bool.true_eq_false, if_false]; rw [z1z N p (by omega) (by omega)]; simp only [obs]
  by_cases hd : nmI p.zA o.Name < (i : Int)
  · rw [dct hd, ifp hd]; rfl
  · rw [dcf hd, ifn hd]; simp only [cfa, zg2, obs]; cases hkd : inB o.Kind 0 5 with
    | false => rfl
    | true =>
     rw [z8j hkd]; simp only [bnt, cfa, obs, Bool.true_eq_false, if_false]; cases hex : zrd o with
     | true => rfl
     | false =>
      simp only [cfa, Bool.false_eq_true, if_false, z00, obs]; have hks := zzi hkd; rw [z1z N p (by omega) (by omega)]; cases hdt : isD o.Kind with
      | true =>
       simp only [ctr, true_and, zwn, obs]
       by_cases ht : zey o.zK = 0
       · rw [ifn (fun h => h ht), zb9, dcf (fun h => h ht)]; simp only [cfa]
         by_cases h4 : o.zK.Kind = 4
         · rw [ifp h4, zy, dct h4]; rfl
         · rw [ifn h4, zy, dcf h4]; simp only [cfa]; rw [zaah N (by omega) ht h4]; unfold zrt; rcases hks with h | h | h | h | h | h
           · rw [h]; rfl
           · have hb := z5k N hN hu ht (.inl h); simp only [zg2, obs] at hb; rw [ifn, ifp (.inl h), ← hb, h]; rfl
           · have hb := z5k N hN hu ht (.inr h); simp only [zg2, obs] at hb; rw [ifn, ifp (.inr h), ← hb, h]; rfl
           · rw [h] at hdt; cases hdt
           · rw [h]; rfl
           · rw [h] at hdt; cases hdt
       · rw [ifp ht, zb9, dct ht]; rfl
      | false =>
       simp only [cfa, Bool.false_eq_true, false_and, if_false, obs]; unfold zrt; rcases hks with h | h | h | h | h | h
       · rw [h] at hdt; cases hdt
       · rw [h] at hdt; cases hdt
       · rw [h] at hdt; cases hdt
       · rw [h]; rfl
       · rw [h] at hdt; cases hdt
       · rw [h, z7a hu]; cases inB o.Target 0 ((p.zG.length : Int) - 1) <;> rfl
def zc1 (o : zF) : Bool := decide (o.zK.Kind ≠ 0)
def zo4 (o b : zF) (c : Int) : Bool :=
 if c = 0 then isS o.Kind else if c = 1 then isD o.Kind else if c = 2 then isS o.Kind && zc1 o else if c = 3 then isD o.Kind && zc1 o
 else if c = 4 then isD o.Kind && (zc1 o == zc1 b) else if c = 5 then decide (o.Kind = 3) else decide (o.Kind = 5)
theorem zaa2 (k : Int) : (isD k && !decide (k = 4)) = isS k := by
 unfold isD
 by_cases h : k = 4
 · subst h; rfl
 · rw [dcf h]; simp
theorem zacn (o b : zF) {c : Int} (hc : 0 ≤ c ∧ c ≤ 6) : zkb o b c = some (zo4 o b c) := by
 have h : c = 0 ∨ c = 1 ∨ c = 2 ∨ c = 3 ∨ c = 4 ∨ c = 5 ∨ c = 6 := by omega
 unfold zkb
 rw [zvv]
 simp only [zf3, zy, zb9, obs]
 have hs := zaa2 o.Kind
 unfold zo4 zc1
 rcases h with rfl | rfl | rfl | rfl | rfl | rfl | rfl
 · rw [← hs]; simp only [if_true]; cases isD o.Kind <;> cases decide (o.Kind = 4) <;> rfl
 · rw [ifn (by decide), ifp rfl]; cases isD o.Kind <;> rfl
 · rw [← hs, ifn (by decide), ifn (by decide), ifp rfl]; cases isD o.Kind <;> cases decide (o.Kind = 4) <;> cases decide (o.zK.Kind ≠ 0) <;> rfl
 · rw [ifn (by decide), ifn (by decide), ifn (by decide), ifp rfl]; cases isD o.Kind <;> cases decide (o.zK.Kind ≠ 0) <;> rfl
 · rw [ifn (by decide), ifn (by decide), ifn (by decide), ifn (by decide), ifp rfl]; cases isD o.Kind <;> cases decide (o.zK.Kind ≠ 0) <;> cases decide (b.zK.Kind ≠ 0) <;> rfl
 · rw [ifn (by decide), ifn (by decide), ifn (by decide), ifn (by decide), ifn (by decide), ifp rfl]; rfl
 · rw [ifn (by decide), ifn (by decide), ifn (by decide), ifn (by decide), ifn (by decide), ifn (by decide)]; rfl
def zyo : zF := ⟨⟨#[]⟩, 0, ⟨0, 0, 0⟩, ⟨0, ⟨#[]⟩⟩, ⟨#[]⟩, 0, 0⟩
def zna (p : zB) (x : zI) : Nat → zF
 | 0 => zyo
 | k + 1 => p.zA.getD ((x.Args.getD k 0).toNat) zyo
def zhu (op : Int) : List Int := zrz.getD op.toNat []
def gA (p : zB) (x : zI) (i : Nat) : Option Int :=
 (x.Args[i]?).bind fun a => if inB a 0 ((p.zA.length : Int) - 1) = true then (match p.zA[a.toNat]?, (zhu x.Op)[i]? with | some o, some c => if zo4 o (zna p x i) c = true then none else some 17 | _, _ => none) else some 3
def zra (p : zB) (x : zI) : Int :=
 if inB x.Op 0 18 = false then 4 else if (x.Args.length : Int) ≠ ((zhu x.Op).length : Int) then 37
 else match (List.range x.Args.length).findSome? (gA p x) with | some e => e | none => 0
theorem z8v {k : Int} (h : inB k 0 18 = true) : ∃ n : Nat, k = (n : Int) ∧ n < 19 := by
 have := zbb.1 h
 exact ⟨k.toNat, by omega, by omega⟩
theorem zads : ((List.range 19).all fun n => (match zrz[n]? with | some l => l.all (fun c => decide (0 ≤ c) && decide (c ≤ 6)) && (decide (l.length ≤ 3) && ((List.range l.length).all fun i => !(l.getD i 0 == 4) || (i == 1 && (l.getD 0 9 == 0 || l.getD 0 9 == 1)))) | none => false)) = true := by kernel_rfl
def zz7 (c : Int) : Int := if c = 1 then 2 else if c = 2 then 1 else c
theorem zacc : ((List.range 19).all fun n => match zjt (n : Int) with | some l => l == (zhu (n : Int)).map zz7 | none => false) = true := by kernel_rfl
theorem z1o {k : Int} (h : inB k 0 18 = true) : idx zrz k = some (zhu k) ∧ (zhu k).length ≤ 3 ∧ (∀ (i : Nat) (c : Int), (zhu k)[i]? = some c → (0 ≤ c ∧ c ≤ 6) ∧ (c = 4 → i = 1 ∧ ∃ d, (zhu k)[0]? = some d ∧ (d = 0 ∨ d = 1))) ∧ zjt k = some ((zhu k).map zz7) := by
 obtain ⟨n, rfl, hn⟩ := z8v h
 have h1 := List.all_eq_true.1 zads n (List.mem_range.2 hn)
 have h2 := List.all_eq_true.1 zacc n (List.mem_range.2 hn)
 have hlt : n < zrz.length := hn
 have hg : zrz[n]? = some (zhu (n : Int)) := by
  unfold zhu; rw [itn, gdd, lge hlt]; rfl
 rw [hg] at h1
 simp only [Bool.and_eq_true, List.all_eq_true, decide_eq_true_eq, List.mem_range, Bool.or_eq_true, Bool.not_eq_true', beq_iff_eq, beq_eq_false_iff_ne] at h1
 obtain ⟨a1, a2, a3⟩ := h1
 refine ⟨by rw [zae, hg], a2, fun i c hc => ⟨a1 c (lmg hc), fun h4 => ?_⟩, ?_⟩
 · have hi := (gei hc).1; have e : (zhu (n : Int)).getD i 0 = c := by rw [gdd, hc]; rfl
   rcases a3 i hi with h | ⟨h5, h6⟩
   · rw [e] at h; exact absurd h4 h
   · refine ⟨h5, ?_⟩; have h0 : 0 < (zhu (n : Int)).length := by omega
     refine ⟨_, lge h0, ?_⟩; rw [gdd, lge h0] at h6; exact h6
 · cases hr : zjt (n : Int) with
   | none => rw [hr] at h2; cases h2
   | some l =>
    rw [hr] at h2; rw [eq_of_beq h2]
theorem opsL {p : zB} {i : Nat} (hu : Upto p i) : w6 ((p.zA.length : Int) - 1) = (p.zA.length : Int) - 1 := by
 have := hu.ops
 exact w6e
theorem z4k {p : zB} {a : Int} (h : inB a 0 ((p.zA.length : Int) - 1) = true) : ∃ o, p.zA[a.toNat]? = some o ∧ idx p.zA a = some o := by
 have := zbb.1 h
 refine ⟨_, lge (by omega), ?_⟩
 unfold idx
 rw [ifp, lge]
theorem zad9 (N : Nat) (hN : 1100 < N) {p : zB} {i : Nat} (hu : Upto p i) (x : zI) : zam N p x = some (zra p x) := by
 unfold zam zra
 rw [zwr]
 simp only [obs]
 cases hop : inB x.Op 0 18 with
 | false => rfl
 | true =>
  obtain ⟨t1, t2, t3, _⟩ := z1o hop; rw [t1]; simp only [bnt, cfa, obs, zb9, Bool.true_eq_false, if_false]
  by_cases hl : (x.Args.length : Int) ≠ ((zhu x.Op).length : Int)
  · rw [ifp hl, dct hl]; rfl
  · rw [ifn hl, dcf hl]; simp only [cfa]; have l1 := zqj (f := zam.r0 N) (fun i => (x.Args, (x.Args.length : Int), (i : Int), p, x, zna p x i)) (gA p x) x.Args.length
     (fun i hi hp => by
      have hx := lge hi; have hi2 : i < (zhu x.Op).length := by omega
      have hc := lge hi2; simp only [zam.r0, zam.b0, zae, hx, obs, dct (show (i : Int) < (x.Args.length : Int) by omega), ctr, opsL hu, zwr, gA, t1, hc]; cases hin : inB x.Args[i] 0 ((p.zA.length : Int) - 1) with
      | false => rfl
      | true =>
       obtain ⟨o, ho, ho2⟩ := z4k hin; simp only [bnt, cfa, ho, ho2, obs, if_true]; rw [zacn _ _ (t3 i _ hc).1]; simp only [obs]; cases zo4 o (zna p x i) (zhu x.Op)[i] with
       | false => rfl
       | true =>
        simp only [bnt, cfa, if_true]; rw [w6e]; rw [show zna p x (i + 1) = o by
         show p.zA.getD ((x.Args.getD i 0).toNat) zyo = o; rw [gdd (l := x.Args), hx, Option.getD_some, gdd, ho]; rfl]
        rfl)
     (fun _ => by simp only [zam.r0, zam.b0, dcf (show ¬ (x.Args.length : Int) < (x.Args.length : Int) by omega), cfa]) (N := N) (by omega)
    simp only [nc0] at l1; rw [show (⟨(⟨#[]⟩ : ByteArray), 0, (⟨0, 0, 0⟩ : DataType), (⟨0, (⟨#[]⟩ : ByteArray)⟩ : Value), (⟨#[]⟩ : ByteArray), 0, 0⟩ : zF) = zna p x 0 from rfl, l1]; cases (List.range x.Args.length).findSome? (gA p x) <;> rfl
theorem z3a {p : zB} {j : Nat} {o : zF} (ho : p.zA[j]? = some o) (h : opE p j = 0) (hd : isD o.Kind = true) : inB o.zK.Kind 1 3 = zc1 o := by
 obtain ⟨h1, h2⟩ := (op_v ho h).ty hd
 unfold zc1
 rcases zl2 h1 with ⟨k, _⟩ | ⟨k | k, _⟩ | ⟨k, _⟩ | ⟨k, _⟩
 · rw [k]; rfl
 · rw [k]; rfl
 · rw [k]; rfl
 · rw [k]; rfl
 · exact absurd k h2
theorem zaal (N : Nat) (hN : 1100 < N) {p : zB} (hu : Upto p p.zA.length) (x : zI) : zaz N p x = some (zra p x) := by
 have hol := hu.ops
 unfold zaz zra
 rw [zg2]
 simp only [obs]
 cases hop : inB x.Op 0 18 with
 | false => rfl
 | true =>
  obtain ⟨t1, t2, t3, t4⟩ := z1o hop; rw [t4]; simp only [bnt, cfa, obs, zb9, Bool.true_eq_false, if_false, lnm]
  by_cases hl : (x.Args.length : Int) ≠ ((zhu x.Op).length : Int)
  · rw [ifp hl, dct hl]; rfl
  · rw [ifn hl, dcf hl]; simp only [cfa]; have l1 := zqj (f := zaz.r0 N) (fun i => ((zhu x.Op).map zz7, (i : Int), p, x)) (gA p x) x.Args.length
     (fun i hi hp => by
      have hx := lge hi; have hi2 : i < (zhu x.Op).length := by omega
      have hc := lge hi2; simp only [zaz.r0, zaz.b0, zae, hx, obs, lnm, dct (show (i : Int) < ((zhu x.Op).length : Int) by omega), ctr, opsL hu, zg2, gA, List.getElem?_map, hc, Option.map_some]; cases hin : inB x.Args[i] 0 ((p.zA.length : Int) - 1) with
      | false => rfl
      | true =>
       obtain ⟨o, ho, ho2⟩ := z4k hin; have hlt := (gei ho).1; obtain ⟨c1, c2⟩ := t3 i _ hc; have hbf : (zhu x.Op)[i] = 4 → ∃ a b, i = 1 ∧ x.Args[0]? = some a ∧ idx p.zA a = some b ∧ zna p x i = b ∧ inB b.zK.Kind 1 3 = zc1 b := fun h4 => by
        obtain ⟨rfl, d, hd, hd2⟩ := c2 h4; have h0 := hp 0 (by omega); have hx0 := lge (show 0 < x.Args.length by omega); unfold gA at h0; rw [hx0, obs] at h0; split at h0
        · rename_i hin0; obtain ⟨b, hb, hb2⟩ := z4k hin0; rw [hb, hd] at h0; simp only at h0; split at h0
          · rename_i hcl; have hlt0 := (gei hb).1; refine ⟨_, b, rfl, hx0, hb2, ?_, z3a hb (hu.ok _ hlt0) ?_⟩
            · show p.zA.getD ((x.Args.getD 0 0).toNat) zyo = b; rw [gdd (l := x.Args), hx0, Option.getD_some, gdd, hb]; rfl
            · unfold zo4 at hcl; rcases hd2 with rfl | rfl
              · rw [ifp rfl] at hcl; unfold isD; rw [hcl]; rfl
              · rw [ifn (by decide), ifp rfl] at hcl; exact hcl
          · cases h0
        · cases h0
       have hnum : isD o.Kind = true → inB o.zK.Kind 1 3 = zc1 o := z3a ho (hu.ok _ hlt); have hSD : isS o.Kind = true → isD o.Kind = true := fun h => by unfold isD; rw [h]; rfl
       simp only [bnt, cfa, ho, ho2, obs, if_true, zxd, z00, zf6, zqg, zy]; generalize (zhu x.Op)[i] = c at c1 hbf ⊢; have fin : ∀ b : Bool, (cond (!b) (some (Round.result (17 : Int))) (some (Round.again ((zhu x.Op).map zz7, w6 ((i : Int) + 1), p, x)))) = some (cond b (Round.again ((zhu x.Op).map zz7, ((i + 1 : Nat) : Int), p, x)) (.result 17)) := fun b => by
        rw [w6e]; cases b <;> rfl
       have hcs : c = 0 ∨ c = 1 ∨ c = 2 ∨ c = 3 ∨ c = 4 ∨ c = 5 ∨ c = 6 := by omega
       rcases hcs with rfl | rfl | rfl | rfl | rfl | rfl | rfl <;> simp only [zz7, Int.reduceEq, reduceIte, decide_true, decide_false, ctr, cfa]
       · rw [show zo4 o (zna p x i) 0 = isS o.Kind from rfl]; rw [fin]; cases (isS o.Kind) <;> rfl
       · rw [show zo4 o (zna p x i) 1 = isD o.Kind from rfl]; rw [fin]; cases (isD o.Kind) <;> rfl
       · rw [show zo4 o (zna p x i) 2 = (isS o.Kind && inB o.zK.Kind 1 3) by
          show (isS o.Kind && zc1 o) = _; cases hs : isS o.Kind with
          | false => rfl
          | true => rw [hnum (hSD hs)]]
         cases isS o.Kind
         · simp only [ctr, cfa, obs, Bool.true_and, Bool.false_and]; rfl
         · simp only [ctr, cfa, obs, Bool.true_and, Bool.false_and]; rw [fin]; cases (inB o.zK.Kind 1 3) <;> rfl
       · rw [show zo4 o (zna p x i) 3 = (isD o.Kind && inB o.zK.Kind 1 3) by
          show (isD o.Kind && zc1 o) = _; cases hs : isD o.Kind with
          | false => rfl
          | true => rw [hnum hs]]
         cases isD o.Kind
         · simp only [ctr, cfa, obs, Bool.true_and, Bool.false_and]; rfl
         · simp only [ctr, cfa, obs, Bool.true_and, Bool.false_and]; rw [fin]; cases (inB o.zK.Kind 1 3) <;> rfl
       · obtain ⟨a, b, rfl, ha, hb, hbb, hbn⟩ := hbf rfl; rw [show zo4 o (zna p x 1) 4 = (isD o.Kind && (inB o.zK.Kind 1 3 == inB b.zK.Kind 1 3)) by
          show (isD o.Kind && (zc1 o == zc1 (zna p x 1))) = _; rw [hbb, hbn]; cases hs : isD o.Kind with
          | false => rfl
          | true => rw [hnum hs]]
         rw [show w6 (((1 : Nat) : Int) - 1) = ((0 : Nat) : Int) from rfl, zae, ha]; simp only [obs]; rw [hb]; cases isD o.Kind
         · simp only [ctr, cfa, obs, Bool.true_and, Bool.false_and]; rfl
         · simp only [ctr, cfa, obs, Bool.true_and, Bool.false_and]; rw [fin]; cases (inB o.zK.Kind 1 3 == inB b.zK.Kind 1 3) <;> rfl
       · rw [show zo4 o (zna p x i) 5 = decide (o.Kind = 3) from rfl]; rw [fin]; cases (decide (o.Kind = 3)) <;> rfl
       · rw [show zo4 o (zna p x i) 6 = decide (o.Kind = 5) from rfl]; rw [fin]; cases (decide (o.Kind = 5)) <;> rfl)
     (fun _ => by simp only [zaz.r0, zaz.b0, lnm, dcf (show ¬ (x.Args.length : Int) < ((zhu x.Op).length : Int) by omega), cfa]) (N := N) (by omega)
    simp only [nc0] at l1; rw [l1]; cases (List.range x.Args.length).findSome? (gA p x) <;> rfl
def zt5 (p : zB) (m : zN) : Bool := decide (0 ≤ m.From) && (decide (m.From < m.To) && (decide (m.To ≤ (p.zG.length : Int)) && (inB m.Exception 0 999 && inB m.Handler 0 ((p.zG.length : Int) - 1))))
theorem zad8 {p : zB} {i : Nat} (hu : Upto p i) (m : zN) : zgs p m = some (cond (zt5 p m) 0 3) := by
 unfold zgs zt5
 rw [z7a hu, zwr, zwr]
 simp only [obs, zyl, zws, ge_iff_le]
 cases decide (0 ≤ m.From) <;> cases decide (m.From < m.To) <;> cases decide (m.To ≤ (p.zG.length : Int)) <;> cases inB m.Exception 0 999 <;> cases inB m.Handler 0 ((p.zG.length : Int) - 1) <;> rfl
theorem zaee (p : zB) (m : zN) : ((((decide (m.From < 0) || decide (m.From ≥ m.To)) || decide (m.To > (p.zG.length : Int))) || !inB m.Exception 0 999) || !inB m.Handler 0 ((p.zG.length : Int) - 1)) = !zt5 p m := by
 unfold zt5
 rw [show decide (m.From < 0) = !decide (0 ≤ m.From) by rw [← decide_not]; congr 1; simp, show decide (m.From ≥ m.To) = !decide (m.From < m.To) by rw [← decide_not]; congr 1; simp, show decide (m.To > (p.zG.length : Int)) = !decide (m.To ≤ (p.zG.length : Int)) by rw [← decide_not]; congr 1; simp]
 simp only [Bool.not_and, Bool.or_assoc]
theorem z2v (N0 : Nat) (n : Nat) (hn : n ≤ 1000000) (v : Int) : ∀ (N k : Nat), 1 ≤ k → k ≤ n → n - k < N → zh (zby.r0 N0) N (List.replicate k v ++ List.replicate (n - k) 0, (k : Int)) = some (List.replicate n v, (n : Int))
 | 0, k, _, _, h => by omega
 | N + 1, k, h1, h2, h3 => by
  have hlen : (List.replicate k v ++ List.replicate (n - k) (0 : Int)).length = n := by rw [lna, lnr, lnr]; omega
  simp only [zh, zby.r0, zby.b0, hlen]
  by_cases hk : k < n
  · rw [dct (by omega), ctr, ifp, ifp, ifp]; simp only [obs]; have t1 : (List.replicate k v ++ List.replicate (n - k) (0 : Int)).take ((k : Int)).toNat = List.replicate k v := by
     rw [itn, List.take_append_of_le_length (by rw [lnr]; omega), List.take_replicate, Nat.min_self]
    have t2 : (((List.replicate k v ++ List.replicate (n - k) (0 : Int)).drop (0 : Int).toNat).take (((k : Int)).toNat - (0 : Int).toNat)) = List.replicate k v := t1; rw [t1, t2, lnr]; have e : ((k : Int)).toNat = k := itn k; rw [e, List.take_replicate, show min (min k (n - k)) k = min k (n - k) by omega, List.drop_append, List.drop_eq_nil_of_le (by rw [lnr]; omega), lnr, List.drop_replicate, List.nil_append]; rw [w6e]; have := z2v N0 n hn v N (k + min k (n - k)) (by omega) (by omega) (by omega); rw [← this, List.replicate_append_replicate, show n - k - (k + min k (n - k) - k) = n - (k + min k (n - k)) by omega]; rfl
  · obtain rfl : k = n := by omega
    rw [dcf (by omega), cfa, Nat.sub_self]; simp
theorem z75 (N : Nat) (n : Nat) (hn : n ≤ 100000) (hN : n < N) (v : Int) : zby N [v] (n : Int) = some (List.replicate n v) := by
 have wu : ∀ m : Nat, m ≤ 1000000 → IntKind.wrap .u64 (m : Int) = (m : Int) := fun m hm => by
  unfold IntKind.wrap; rw [show (2 : Int) ^ IntKind.u64.bits = 18446744073709551616 from rfl, show IntKind.u64.signed = false from rfl]; simp only [Bool.false_and, Bool.false_eq_true, if_false]; omega
 unfold zby zk1
 rw [show (([v] : List Int).length : Int) = ((1 : Nat) : Int) from rfl, wu 1 (by decide), wu n (by omega), zzg 1 n (by decide) (by omega)]
 rw [show (1 * n) / 18446744073709551616 = 0 by omega, show (1 * n) % 18446744073709551616 = n by omega]
 simp only [obs]
 rw [dcf (by omega), dcf (by omega), dcf (by omega), w6e, ifp, ifp, itn, zag (by omega)]
 simp only [cfa, ctr, obs, lnr]
 by_cases h0 : n = 0
 · subst h0; obtain ⟨M, rfl⟩ : ∃ M, N = M + 1 := ⟨N - 1, by omega⟩; rfl
 · have := z2v N n (by omega) v N 1 (by omega) (by omega) (by omega); rw [show min ([v] : List Int).length n = 1 by simp; omega]; rw [show ([v] : List Int).take 1 ++ (List.replicate n (0 : Int)).drop 1 = List.replicate 1 v ++ List.replicate (n - 1) 0 by rw [List.drop_replicate]; rfl, this]; rfl
def og (ops : List zF) (k : Nat) : zF := ops.getD k zyo
def pAt (ops : List zF) : Nat → Int
 | 0 => 0
 | k + 1 => pAt ops k + (if (og ops k).Kind = 3 then 16 else 0)
def zjc (ops : List zF) : Nat → Int
 | 0 => 0
 | k + 1 => zjc ops k + (if (og ops k).Kind = 0 then szE (og ops k).zK else 0)
def sAt (ops : List zF) (k : Nat) : Int := pAt ops ops.length + zjc ops k
def zcm (ops : List zF) (i : Nat) : Int :=
 if (og ops i).Kind = 3 then pAt ops i else if (og ops i).Kind = 0 then sAt ops i else if (og ops i).Kind = 1 then sAt ops (nmI ops (og ops i).Base).toNat + (og ops i).Offset else -1
def zls (ops : List zF) : List Int := (List.range ops.length).map (zcm ops)
def zid (ops : List zF) : Int := (sAt ops ops.length + 15) / 16
theorem zmu {ops : List zF} {k : Nat} (h : k < ops.length) : ops[k]? = some (og ops k) := by
 unfold og
 rw [gdd, lge h]
 rfl
theorem zni (ops : List zF) : ∀ k, 0 ≤ pAt ops k ∧ pAt ops k ≤ 16 * (k : Int) ∧ pAt ops k % 16 = 0
 | 0 => ⟨Int.le_refl _, by show (0 : Int) ≤ 16 * ((0 : Nat) : Int); omega, rfl⟩
 | k + 1 => by
  obtain ⟨h1, h2, h3⟩ := zni ops k; unfold pAt; split <;> omega
theorem z27 (ops : List zF) {j : Nat} : ∀ {k : Nat}, j ≤ k → pAt ops j ≤ pAt ops k
 | 0, h => by
  obtain rfl : j = 0 := by omega
  exact Int.le_refl _
 | k + 1, h => by
  by_cases e : j = k + 1
  · subst e; exact Int.le_refl _
  · have := z27 ops (show j ≤ k by omega); have e2 : pAt ops (k + 1) = pAt ops k + (if (og ops k).Kind = 3 then 16 else 0) := rfl; rw [e2]; split <;> omega
def zm2 (p : zB) : Prop := Upto p p.zA.length
theorem zhy {p : zB} (h : zm2 p) {k : Nat} (hk : k < p.zA.length) : OpV p k (og p.zA k) := op_v (zmu hk) (h.ok k hk)
theorem zrv {p : zB} (h : zm2 p) {k : Nat} (hk : k < p.zA.length) (h0 : (og p.zA k).Kind = 0) : zey (og p.zA k).zK = 0 := ((zhy h hk).ty (by rw [h0]; rfl)).1
theorem zl4 {p : zB} (h : zm2 p) : ∀ k, k ≤ p.zA.length → 0 ≤ zjc p.zA k ∧ zjc p.zA k ≤ 256 * (k : Int)
 | 0, _ => ⟨Int.le_refl _, by show (0 : Int) ≤ 256 * ((0 : Nat) : Int); omega⟩
 | k + 1, hk => by
  obtain ⟨h1, h2⟩ := zl4 h k (by omega); unfold zjc; split
  · rename_i h0; have := zd6 (zrv h (by omega) h0); omega
  · omega
theorem z0x {p : zB} (h : zm2 p) {j : Nat} : ∀ {k : Nat}, k ≤ p.zA.length → j ≤ k → zjc p.zA j ≤ zjc p.zA k
 | 0, _, hj => by
  obtain rfl : j = 0 := by omega
  exact Int.le_refl _
 | k + 1, hk, hj => by
  by_cases e : j = k + 1
  · subst e; exact Int.le_refl _
  · have := z0x h (show k ≤ p.zA.length by omega) (show j ≤ k by omega); have e2 : zjc p.zA (k + 1) = zjc p.zA k + (if (og p.zA k).Kind = 0 then szE (og p.zA k).zK else 0) := rfl; rw [e2]; split
    · rename_i h0; have := zd6 (zrv h (by omega) h0); omega
    · omega
theorem zow {n : Nat} (f : Nat → Int) {k : Nat} (v : Int) : ((List.range n).map f).set k v = (List.range n).map fun i => if i = k then v else f i := by
 apply List.ext_getElem?
 intro i
 rw [List.getElem?_set, List.getElem?_map, List.getElem?_map, lnm, List.length_range]
 by_cases hi : i < n
 · rw [List.getElem?_range hi]
   by_cases e : k = i
   · subst e; simp [hi]
   · simp [e, Ne.symm e]
 · rw [List.getElem?_eq_none (by simpa using hi)]
   by_cases e : k = i
   · subst e; simp [hi]
   · simp [e]
theorem zmk {n : Nat} (f : Nat → Int) {k : Nat} (h : k < n) : ((List.range n).map f)[k]? = some (f k) := by
 rw [List.getElem?_map, List.getElem?_range h]
 rfl
theorem zfp {n : Nat} {f g : Nat → Int} (h : ∀ i, i < n → f i = g i) : (List.range n).map f = (List.range n).map g := List.map_congr_left fun i hi => h i (List.mem_range.1 hi)
theorem z5r (n : Nat) (v : Int) : List.replicate n v = (List.range n).map fun _ => v := by
 apply List.ext_getElem?
 intro i
 rw [List.getElem?_replicate, List.getElem?_map]
 by_cases hi : i < n
 · rw [ifp hi, List.getElem?_range hi]; rfl
 · rw [ifn hi, List.getElem?_eq_none (by simpa using hi)]; rfl
def A1 (ops : List zF) (k i : Nat) : Int := if i < k ∧ (og ops i).Kind = 3 then pAt ops i else -1
def B1 (ops : List zF) (k i : Nat) : Int := if i < k then (if (og ops i).Kind = 3 then pAt ops i else -1) else 0
def A2 (ops : List zF) (k i : Nat) : Int := if i < k ∧ (og ops i).Kind = 0 then sAt ops i else if (og ops i).Kind = 3 then pAt ops i else -1
def A3 (ops : List zF) (k i : Nat) : Int := if i < k ∧ (og ops i).Kind = 1 then sAt ops (nmI ops (og ops i).Base).toNat + (og ops i).Offset else A2 ops ops.length i
theorem zu7 {p : zB} (h : zm2 p) {i : Nat} (hi : i < p.zA.length) (hk : (og p.zA i).Kind = 1) : ∃ b : Nat, nmI p.zA (og p.zA i).Base = (b : Int) ∧ b < i ∧ (og p.zA b).Kind = 0 ∧ 0 ≤ (og p.zA i).Offset ∧ (og p.zA i).Offset ≤ szE (og p.zA b).zK - szE (og p.zA i).zK := by
 have hb := (zhy h hi).base (.inl hk)
 unfold zsa at hb
 by_cases hc : nmI p.zA (og p.zA i).Base < 0 ∨ (i : Int) ≤ nmI p.zA (og p.zA i).Base
 · rw [ifp hc] at hb; cases hb
 · rw [ifn hc] at hb; refine ⟨(nmI p.zA (og p.zA i).Base).toNat, by omega, by omega, ?_⟩; rw [zmu (by omega)] at hb; simp only at hb; rw [ifn] at hb; split at hb
   · cases hb
   · rename_i h0; split at hb
     · rename_i h1; have := zbb.1 h1; exact ⟨by omega, by omega, by omega⟩
     · cases hb
theorem zz0 {p : zB} (h : zm2 p) {i : Nat} (hi : i < p.zA.length) (hk : (og p.zA i).Kind = 2) : ∃ b : Nat, nmI p.zA (og p.zA i).Base = (b : Int) ∧ b < i ∧ (og p.zA b).Kind = 3 ∧ 0 ≤ (og p.zA i).Offset ∧ (og p.zA i).Offset ≤ 256 := by
 have hb := (zhy h hi).base (.inr hk)
 unfold zsa at hb
 by_cases hc : nmI p.zA (og p.zA i).Base < 0 ∨ (i : Int) ≤ nmI p.zA (og p.zA i).Base
 · rw [ifp hc] at hb; cases hb
 · rw [ifn hc] at hb; refine ⟨(nmI p.zA (og p.zA i).Base).toNat, by omega, by omega, ?_⟩; rw [zmu (by omega)] at hb; simp only at hb; rw [ifp hk] at hb; split at hb
   · cases hb
   · rename_i h0; split at hb
     · rename_i h1; have := zbb.1 h1; exact ⟨by omega, by omega, by omega⟩
     · cases hb
theorem z1u {p : zB} (h : zm2 p) (k : Nat) {b : Nat} (hb : b < p.zA.length) (h0 : (og p.zA b).Kind = 0) : A3 p.zA k b = sAt p.zA b := by
 unfold A3 A2
 rw [ifn, ifp ⟨hb, h0⟩]
theorem z92 (ops : List zF) : (List.range ops.length).map (A3 ops ops.length) = zls ops := by
 refine zfp fun i hi => ?_
 unfold A3 A2 zcm
 by_cases h1 : (og ops i).Kind = 1
 · rw [ifp ⟨hi, h1⟩, ifn, ifn, ifp h1]
 · rw [ifn]
   by_cases h0 : (og ops i).Kind = 0
   · rw [ifp ⟨hi, h0⟩, ifn, ifp h0]
   · rw [ifn]
     by_cases h3 : (og ops i).Kind = 3
     · rw [ifp h3, ifp h3]
     · rw [ifn h3, ifn h3, ifn h0, ifn h1]
section
variable {ops : List zF} {k : Nat}
theorem zadh : (List.range ops.length).map (A1 ops (k + 1)) = if (og ops k).Kind = 3 then ((List.range ops.length).map (A1 ops k)).set k (pAt ops k) else (List.range ops.length).map (A1 ops k) := by
 split
 · rename_i h; rw [zow]; refine zfp fun i _ => ?_; unfold A1
   by_cases e : i = k
   · subst e; rw [ifp ⟨by omega, h⟩, ifp rfl]
   · rw [ifn e]
     by_cases h2 : i < k ∧ (og ops i).Kind = 3
     · rw [ifp h2, ifp ⟨by omega, h2.2⟩]
     · rw [ifn h2, ifn]
 · rename_i h; refine zfp fun i _ => ?_; unfold A1
   by_cases e : i = k
   · subst e; rw [ifn, ifn]
   · by_cases h2 : i < k ∧ (og ops i).Kind = 3
     · rw [ifp h2, ifp ⟨by omega, h2.2⟩]
     · rw [ifn h2, ifn]
theorem zadg : (List.range ops.length).map (B1 ops (k + 1)) = if (og ops k).Kind = 3 then (((List.range ops.length).map (B1 ops k)).set k (-1)).set k (pAt ops k) else ((List.range ops.length).map (B1 ops k)).set k (-1) := by
 split
 · rename_i h; rw [zow, zow]; refine zfp fun i _ => ?_; unfold B1
   by_cases e : i = k
   · subst e; rw [ifp, ifp h, ifp rfl]
   · rw [ifn e, ifn e]
     by_cases h2 : i < k
     · rw [ifp h2, ifp]
     · rw [ifn h2, ifn]
 · rename_i h; rw [zow]; refine zfp fun i _ => ?_; unfold B1
   by_cases e : i = k
   · subst e; rw [ifp, ifn h, ifp rfl]
   · rw [ifn e]
     by_cases h2 : i < k
     · rw [ifp h2, ifp]
     · rw [ifn h2, ifn]
theorem z6a : (List.range ops.length).map (A2 ops (k + 1)) = if (og ops k).Kind = 0 then ((List.range ops.length).map (A2 ops k)).set k (sAt ops k) else (List.range ops.length).map (A2 ops k) := by
 split
 · rename_i h; rw [zow]; refine zfp fun i _ => ?_; unfold A2
   by_cases e : i = k
   · subst e; rw [ifp ⟨by omega, h⟩, ifp rfl]
   · rw [ifn e]
     by_cases h2 : i < k ∧ (og ops i).Kind = 0
     · rw [ifp h2, ifp ⟨by omega, h2.2⟩]
     · rw [ifn h2, ifn (show ¬ (i < k + 1 ∧ (og ops i).Kind = 0) by omega)]
 · rename_i h; refine zfp fun i _ => ?_; unfold A2
   by_cases e : i = k
   · subst e; rw [ifn (show ¬ (i < i + 1 ∧ (og ops i).Kind = 0) by omega), ifn (show ¬ (i < i ∧ (og ops i).Kind = 0) by omega)]
   · by_cases h2 : i < k ∧ (og ops i).Kind = 0
     · rw [ifp h2, ifp ⟨by omega, h2.2⟩]
     · rw [ifn h2, ifn (show ¬ (i < k + 1 ∧ (og ops i).Kind = 0) by omega)]
theorem z59 : (List.range ops.length).map (A3 ops (k + 1)) = if (og ops k).Kind = 1 then ((List.range ops.length).map (A3 ops k)).set k (sAt ops (nmI ops (og ops k).Base).toNat + (og ops k).Offset) else (List.range ops.length).map (A3 ops k) := by
 split
 · rename_i h; rw [zow]; refine zfp fun i _ => ?_; unfold A3
   by_cases e : i = k
   · subst e; rw [ifp ⟨by omega, h⟩, ifp rfl]
   · rw [ifn e]
     by_cases h2 : i < k ∧ (og ops i).Kind = 1
     · rw [ifp h2, ifp ⟨by omega, h2.2⟩]
     · rw [ifn h2, ifn]
 · rename_i h; refine zfp fun i _ => ?_; unfold A3
   by_cases e : i = k
   · subst e; rw [ifn, ifn]
   · by_cases h2 : i < k ∧ (og ops i).Kind = 1
     · rw [ifp h2, ifp ⟨by omega, h2.2⟩]
     · rw [ifn h2, ifn]
end
theorem z2y {a : Int} (h0 : 0 ≤ a) (h1 : a ≤ 1000000) : w6 ((w6 ((w6 (a + 16)) - 1)).tdiv 16) = (a + 15) / 16 := by
 rw [w6e (n := a + 16), w6e (n := a + 16 - 1), tde, show a + 16 - 1 = a + 15 by omega, w6e]
theorem z0c (n : Nat) (f : Nat → Int) : ((List.range n).map f).length = n := by rw [lnm, List.length_range]
theorem zvu (N : Nat) (hN : 1100 < N) {p : zB} (h : zm2 p) : zl N p.zA = some (zls p.zA, zid p.zA) := by
 have hl := h.ops
 have hp := fun k => zni p.zA k
 have hs := fun k hk => zl4 h k hk
 unfold zl
 rw [z75 N _ (by omega) (by omega), z5r]
 simp only [obs]
 have l1 := zas (f := zl.r0 N) (fun k => (p.zA, (List.range p.zA.length).map (A1 p.zA k), pAt p.zA k, p.zA, (p.zA.length : Int), (k : Int))) p.zA.length
  (fun k hk => by
   have h1 := hp k; simp only [zl.r0, zl.b0, zae, zmu hk, obs, dct (show (k : Int) < (p.zA.length : Int) by omega), ctr, z0c, ifp (show (0 : Int) ≤ (k : Int) by omega), ifp (show (k : Int) < (p.zA.length : Int) by omega), itn, zmk _ hk, zadh, zy]; rw [w6e (n := (k : Int) + 1), w6e (n := pAt p.zA k + 16)]; rw [show pAt p.zA (k + 1) = pAt p.zA k + (if (og p.zA k).Kind = 3 then 16 else 0) from rfl]
   by_cases h3 : (og p.zA k).Kind = 3
   · rw [dct h3, ifp h3, ifp h3]; rfl
   · rw [dcf h3, ifn h3, ifn h3, Int.add_zero]; rfl)
  (by simp only [zl.r0, zl.b0, dcf (show ¬ (p.zA.length : Int) < (p.zA.length : Int) by omega), cfa]) (N := N) (by omega)
 simp only [nc0] at l1
 rw [show ((List.range p.zA.length).map fun _ => (-1 : Int)) = (List.range p.zA.length).map (A1 p.zA 0) from zfp fun i _ => by unfold A1; rw [ifn], show (0 : Int) = pAt p.zA 0 from rfl]
 rw [show pAt p.zA 0 = 0 from rfl] at l1 ⊢
 rw [l1]
 simp only [obs]
 have l2 := zas (f := zl.r2 N) (fun k => (p.zA, (List.range p.zA.length).map (A2 p.zA k), sAt p.zA k, p.zA, (p.zA.length : Int), (k : Int))) p.zA.length
  (fun k hk => by
   have h1 := hp p.zA.length; have h2 := hs k (by omega); simp only [zl.r2, zl.b2, zae, zmu hk, obs, dct (show (k : Int) < (p.zA.length : Int) by omega), ctr, z0c, ifp (show (0 : Int) ≤ (k : Int) by omega), ifp (show (k : Int) < (p.zA.length : Int) by omega), itn, zmk _ hk, z6a, zy]; rw [w6e (n := (k : Int) + 1)]; have e : sAt p.zA (k + 1) = sAt p.zA k + (if (og p.zA k).Kind = 0 then szE (og p.zA k).zK else 0) := by
    unfold sAt; rw [show zjc p.zA (k + 1) = zjc p.zA k + (if (og p.zA k).Kind = 0 then szE (og p.zA k).zK else 0) from rfl]; omega
   rw [e]
   by_cases h3 : (og p.zA k).Kind = 0
   · have hz := zd6 (zrv h hk h3); rw [dct h3, ifp h3, ifp h3, ctr, z0a N (by omega) (zrv h hk h3)]; simp only [obs]; rw [w6e (n := sAt p.zA k + szE (og p.zA k).zK) (by unfold sAt; omega) (by unfold sAt; omega)]; rfl
   · rw [dcf h3, ifn h3, ifn h3, Int.add_zero]; rfl)
  (by simp only [zl.r2, zl.b2, dcf (show ¬ (p.zA.length : Int) < (p.zA.length : Int) by omega), cfa]) (N := N) (by omega)
 simp only [nc0] at l2
 rw [show ((List.range p.zA.length).map (A1 p.zA p.zA.length)) = (List.range p.zA.length).map (A2 p.zA 0) from zfp fun i hi => by
  unfold A1 A2; rw [ifn (show ¬ (i < 0 ∧ (og p.zA i).Kind = 0) by omega)]
  by_cases h3 : (og p.zA i).Kind = 3
  · rw [ifp ⟨hi, h3⟩, ifp h3]
  · rw [ifn, ifn h3], show pAt p.zA p.zA.length = sAt p.zA 0 by unfold sAt; rw [show zjc p.zA 0 = 0 from rfl, Int.add_zero], l2]
 simp only [obs]
 have l3 := zas (f := zl.r4 N) (fun k => (p.zA, (List.range p.zA.length).map (A3 p.zA k), sAt p.zA p.zA.length, p.zA, (p.zA.length : Int), (k : Int))) p.zA.length
  (fun k hk => by
   have h1 := hp p.zA.length; simp only [zl.r4, zl.b4, zae, zmu hk, obs, dct (show (k : Int) < (p.zA.length : Int) by omega), ctr, z0c, ifp (show (0 : Int) ≤ (k : Int) by omega), ifp (show (k : Int) < (p.zA.length : Int) by omega), itn, zmk _ hk, z59, zy]; rw [w6e (n := (k : Int) + 1)]
   by_cases h3 : (og p.zA k).Kind = 1
   · obtain ⟨b, e1, e2, e3, e4, e5⟩ := zu7 h hk h3; have hz := zd6 (zrv h (show b < p.zA.length by omega) e3); have hz2 := zd6 ((zhy h hk).ty (by rw [h3]; rfl)).1; have h2 := hs b (by omega); rw [dct h3, ifp h3, ctr, zya N _ (by omega) (by omega), e1]; simp only [obs]; rw [ifp, ifp, itn, zmk _ (by omega), z1u h k (by omega) e3]; simp only [obs]; rw [w6e (n := sAt p.zA b + (og p.zA k).Offset) (by unfold sAt; omega) (by unfold sAt; omega)]; rfl
   · rw [dcf h3, ifn h3]; rfl)
  (by simp only [zl.r4, zl.b4, dcf (show ¬ (p.zA.length : Int) < (p.zA.length : Int) by omega), cfa]) (N := N) (by omega)
 simp only [nc0] at l3
 rw [show ((List.range p.zA.length).map (A2 p.zA p.zA.length)) = (List.range p.zA.length).map (A3 p.zA 0) from zfp fun i hi => by
  unfold A3; rw [ifn (show ¬ (i < 0 ∧ (og p.zA i).Kind = 1) by omega)], l3]
 simp only [obs, z92]
 have h1 := hp p.zA.length
 have h2 := hs p.zA.length (by omega)
 rw [z2y (by unfold sAt; omega) (by unfold sAt; omega)]
 rfl
theorem zeb (N : Nat) (hN : 1100 < N) {p : zB} (h : zm2 p) : zq N p = some (zls p.zA, zid p.zA) := by
 have hl := h.ops
 have hp := fun k => zni p.zA k
 have hs := fun k hk => zl4 h k hk
 unfold zq
 rw [ifp, ifp, itn, zag (by omega), ctr, z5r]
 have l1 := zas (f := zq.r0 N) (fun k => ((List.range p.zA.length).map (B1 p.zA k), pAt p.zA k, (k : Int), p)) p.zA.length
  (fun k hk => by
   have h1 := hp k; simp only [zq.r0, zq.b0, zae, zmu hk, obs, dct (show (k : Int) < (p.zA.length : Int) by omega), ctr, List.length_set, z0c, ifp (show (0 : Int) ≤ (k : Int) by omega), ifp (show (k : Int) < (p.zA.length : Int) by omega), itn, zmk _ hk, zadg, zy]; rw [w6e (n := (k : Int) + 1), w6e (n := pAt p.zA k + 16)]; rw [show pAt p.zA (k + 1) = pAt p.zA k + (if (og p.zA k).Kind = 3 then 16 else 0) from rfl]
   by_cases h3 : (og p.zA k).Kind = 3
   · rw [dct h3, ifp h3, ifp h3, ctr, zow, zmk _ hk]; rfl
   · rw [dcf h3, ifn h3, ifn h3, Int.add_zero]; rfl)
  (by simp only [zq.r0, zq.b0, dcf (show ¬ (p.zA.length : Int) < (p.zA.length : Int) by omega), cfa]) (N := N) (by omega)
 simp only [nc0] at l1
 rw [show ((List.range p.zA.length).map fun _ => (0 : Int)) = (List.range p.zA.length).map (B1 p.zA 0) from zfp fun i _ => by unfold B1; rw [ifn]]
 rw [show pAt p.zA 0 = 0 from rfl] at l1
 rw [l1]
 simp only [obs]
 have l2 := zas (f := zq.r2 N) (fun k => ((List.range p.zA.length).map (A2 p.zA k), sAt p.zA k, (k : Int), p)) p.zA.length
  (fun k hk => by
   have h1 := hp p.zA.length; have h2 := hs k (by omega); simp only [zq.r2, zq.b2, zae, zmu hk, obs, dct (show (k : Int) < (p.zA.length : Int) by omega), ctr, z0c, ifp (show (0 : Int) ≤ (k : Int) by omega), ifp (show (k : Int) < (p.zA.length : Int) by omega), itn, zmk _ hk, z6a, zy]; rw [w6e (n := (k : Int) + 1)]; have e : sAt p.zA (k + 1) = sAt p.zA k + (if (og p.zA k).Kind = 0 then szE (og p.zA k).zK else 0) := by
    unfold sAt; rw [show zjc p.zA (k + 1) = zjc p.zA k + (if (og p.zA k).Kind = 0 then szE (og p.zA k).zK else 0) from rfl]; omega
   rw [e]
   by_cases h3 : (og p.zA k).Kind = 0
   · have hz := zd6 (zrv h hk h3); rw [dct h3, ifp h3, ifp h3, ctr, zoo (zrv h hk h3)]; simp only [obs]; rw [w6e (n := sAt p.zA k + szE (og p.zA k).zK) (by unfold sAt; omega) (by unfold sAt; omega)]; rfl
   · rw [dcf h3, ifn h3, ifn h3, Int.add_zero]; rfl)
  (by simp only [zq.r2, zq.b2, dcf (show ¬ (p.zA.length : Int) < (p.zA.length : Int) by omega), cfa]) (N := N) (by omega)
 simp only [nc0] at l2
 rw [show ((List.range p.zA.length).map (B1 p.zA p.zA.length)) = (List.range p.zA.length).map (A2 p.zA 0) from zfp fun i hi => by
  unfold B1 A2; rw [ifn (show ¬ (i < 0 ∧ (og p.zA i).Kind = 0) by omega), ifp hi], show pAt p.zA p.zA.length = sAt p.zA 0 by unfold sAt; rw [show zjc p.zA 0 = 0 from rfl, Int.add_zero], l2]
 simp only [obs]
 have l3 := zas (f := zq.r4 N) (fun k => ((List.range p.zA.length).map (A3 p.zA k), sAt p.zA p.zA.length, (k : Int), p)) p.zA.length
  (fun k hk => by
   have h1 := hp p.zA.length; simp only [zq.r4, zq.b4, zae, zmu hk, obs, dct (show (k : Int) < (p.zA.length : Int) by omega), ctr, z0c, ifp (show (0 : Int) ≤ (k : Int) by omega), ifp (show (k : Int) < (p.zA.length : Int) by omega), itn, zmk _ hk, z59, zy]; rw [w6e (n := (k : Int) + 1)]
   by_cases h3 : (og p.zA k).Kind = 1
   · obtain ⟨b, e1, e2, e3, e4, e5⟩ := zu7 h hk h3; have hz := zd6 (zrv h (show b < p.zA.length by omega) e3); have hz2 := zd6 ((zhy h hk).ty (by rw [h3]; rfl)).1; have h2 := hs b (by omega); rw [dct h3, ifp h3, ctr, z1z N p (by omega) (by omega), e1]; simp only [obs]; rw [ifp, ifp, itn, zmk _ (by omega), z1u h k (by omega) e3]; simp only [obs]; rw [w6e (n := sAt p.zA b + (og p.zA k).Offset) (by unfold sAt; omega) (by unfold sAt; omega)]; rfl
   · rw [dcf h3, ifn h3]; rfl)
  (by simp only [zq.r4, zq.b4, dcf (show ¬ (p.zA.length : Int) < (p.zA.length : Int) by omega), cfa]) (N := N) (by omega)
 simp only [nc0] at l3
 rw [show ((List.range p.zA.length).map (A2 p.zA p.zA.length)) = (List.range p.zA.length).map (A3 p.zA 0) from zfp fun i hi => by
  unfold A3; rw [ifn (show ¬ (i < 0 ∧ (og p.zA i).Kind = 1) by omega)], l3]
 simp only [obs, z92]
 have h1 := hp p.zA.length
 have h2 := hs p.zA.length (by omega)
 rw [z2y (by unfold sAt; omega) (by unfold sAt; omega)]
 rfl
def gO (p : zB) (i : Nat) : Option (zM × Int) := if opE p i = 0 then none else some (⟨1, i⟩, opE p i)
def gX (p : zB) (i : Nat) : Option (zM × Int) := (p.zG[i]?).bind fun x => if zra p x = 0 then none else some (⟨2, i⟩, zra p x)
def gMo (p : zB) (i : Nat) : Option (zM × Int) := (p.zL[i]?).bind fun m => if zt5 p m = true then none else some (⟨3, i⟩, 3)
def zjz (p : zB) : zM × Int :=
 if p.zA.length > 24 ∨ p.zG.length > 40 ∨ p.zL.length > 6 then (⟨0, 0⟩, 2)
 else if p.zG.length = 0 then (⟨0, 0⟩, 1)
 else match (List.range p.zA.length).findSome? (gO p) with
  | some r => r
  | none => if zid p.zA > 24 then (⟨0, 0⟩, 30) else match (List.range p.zG.length).findSome? (gX p) with
   | some r => r
   | none => match (List.range p.zL.length).findSome? (gMo p) with
    | some r => r
    | none => (⟨0, 0⟩, 0)
theorem z0i {p : zB} {i : Nat} (h : gO p i = none) : opE p i = 0 := by
 unfold gO at h
 split at h
 · assumption
 · cases h
theorem z3p (p : zB) : ((decide ((p.zA.length : Int) > 24) || decide ((p.zG.length : Int) > 40)) || decide ((p.zL.length : Int) > 6)) = decide (p.zA.length > 24 ∨ p.zG.length > 40 ∨ p.zL.length > 6) := by
 rw [← Bool.decide_or, ← Bool.decide_or]
 congr 1
 apply propext
 omega
theorem z24 (N : Nat) (hN : 1100 < N) (p : zB) : ze N p = some (zjz p) := by
 unfold ze zjz
 simp only [orB, obs, z3p, zws]
 rw [ztx N _ (by simp; omega) (by simp)]
 simp only [obs]
 rw [zv7 _ _ _ _ (by decide) (by decide)]
 by_cases hb : p.zA.length > 24 ∨ p.zG.length > 40 ∨ p.zL.length > 6
 · rw [ifp hb, dct hb]; rfl
 rw [ifn hb, dcf hb]
 by_cases h0 : p.zG.length = 0
 · rw [ifp h0, zy, dct (by omega)]; rfl
 rw [ifn h0, zy, dcf (by omega)]
 simp only [cfa, bsf]
 have mk : ∀ i, (∀ j, j < i → gO p j = none) → Upto p i := fun i h => { ops := by omega, ins := by omega, ok := fun j hj => z0i (h j hj) }
 have l1 := zqj (f := ze.r0 N) (fun i => ((p.zA.length : Int), (i : Int), p, (⟨0, 0⟩ : zM))) (gO p) p.zA.length
  (fun i hi hp => by
   simp only [ze.r0, ze.b0, dct (show (i : Int) < (p.zA.length : Int) by omega), ctr]; rw [zafv N hN (mk i hp) hi, w6e]; unfold gO; simp only [obs, zb9]
   by_cases h : opE p i = 0
   · rw [ifp h, dcf (fun hh => hh h)]; rfl
   · rw [ifn h, dct h]; rfl)
  (fun _ => by simp only [ze.r0, ze.b0, dcf (show ¬ (p.zA.length : Int) < (p.zA.length : Int) by omega), cfa]) (N := N) (by omega)
 simp only [nc0] at l1
 rw [l1]
 cases hf : (List.range p.zA.length).findSome? (gO p) with
 | some r => rfl
 | none =>
  have hu : zm2 p := mk _ (zjk.1 hf); simp only [obs, zdt]; rw [zvu N hN hu]; simp only [obs]
  by_cases hq : zid p.zA > 24
  · rw [ifp hq, dct hq]; rfl
  rw [ifn hq, dcf hq]; simp only [cfa]; have l2 := zbq (f := ze.r2 N) (fun i => (p.zG, (p.zG.length : Int), (i : Int), p, (⟨0, 0⟩ : zM))) (gX p) p.zG.length
   (fun i hi => by
    have hx := lge hi; simp only [ze.r2, ze.b2, dct (show (i : Int) < (p.zG.length : Int) by omega), ctr, zae, hx, obs, gX]; rw [zad9 N hN hu, w6e]; simp only [obs, zb9]
    by_cases h : zra p p.zG[i] = 0
    · rw [ifp h, dcf (fun hh => hh h)]; rfl
    · rw [ifn h, dct h]; rfl)
   (by simp only [ze.r2, ze.b2, dcf (show ¬ (p.zG.length : Int) < (p.zG.length : Int) by omega), cfa]) (N := N) (by omega)
  simp only [nc0] at l2; rw [l2]; cases (List.range p.zG.length).findSome? (gX p) with
  | some r => rfl
  | none =>
   simp only [obs, zdt]; have l3 := zbq (f := ze.r4 N) (fun i => (p.zL, (p.zL.length : Int), (i : Int), p, (⟨0, 0⟩ : zM))) (gMo p) p.zL.length
    (fun i hi => by
     have hx := lge hi; simp only [ze.r4, ze.b4, dct (show (i : Int) < (p.zL.length : Int) by omega), ctr, zae, hx, obs, gMo]; rw [zad8 hu, w6e]; simp only [obs]; cases zt5 p p.zL[i] <;> rfl)
    (by simp only [ze.r4, ze.b4, dcf (show ¬ (p.zL.length : Int) < (p.zL.length : Int) by omega), cfa]) (N := N) (by omega)
   simp only [nc0] at l3; rw [l3]; cases (List.range p.zL.length).findSome? (gMo p) <;> rfl
theorem z6v (N : Nat) (hN : 1100 < N) (p : zB) : zad N p = some (zjz p) := by
 unfold zad zjz
 simp only [orB, obs, z3p]
 by_cases hb : p.zA.length > 24 ∨ p.zG.length > 40 ∨ p.zL.length > 6
 · rw [ifp hb, dct hb]; rfl
 rw [ifn hb, dcf hb]
 by_cases h0 : p.zG.length = 0
 · rw [ifp h0, zy, dct (by omega)]; rfl
 rw [ifn h0, zy, dcf (by omega)]
 simp only [cfa]
 have mk : ∀ i, (∀ j, j < i → gO p j = none) → Upto p i := fun i h => { ops := by omega, ins := by omega, ok := fun j hj => z0i (h j hj) }
 have l1 := zqj (f := zad.r0 N) (fun i => ((i : Int), p, (⟨0, 0⟩ : zM))) (gO p) p.zA.length
  (fun i hi hp => by
   simp only [zad.r0, zad.b0, dct (show (i : Int) < (p.zA.length : Int) by omega), ctr]; rw [zafe N hN (mk i hp) hi, w6e]; unfold gO; simp only [obs, zb9]
   by_cases h : opE p i = 0
   · rw [ifp h, dcf (fun hh => hh h)]; rfl
   · rw [ifn h, dct h]; rfl)
  (fun _ => by simp only [zad.r0, zad.b0, dcf (show ¬ (p.zA.length : Int) < (p.zA.length : Int) by omega), cfa]) (N := N) (by omega)
 simp only [nc0] at l1
 rw [l1]
 cases hf : (List.range p.zA.length).findSome? (gO p) with
 | some r => rfl
 | none =>
  have hu : zm2 p := mk _ (zjk.1 hf); simp only [obs, zdt]; rw [zeb N hN hu]; simp only [obs]
  by_cases hq : zid p.zA > 24
  · rw [ifp hq, dct hq]; rfl
  rw [ifn hq, dcf hq]; simp only [cfa]; have l2 := zbq (f := zad.r2 N) (fun i => ((i : Int), p, (⟨0, 0⟩ : zM))) (gX p) p.zG.length
   (fun i hi => by
    have hx := lge hi; simp only [zad.r2, zad.b2, dct (show (i : Int) < (p.zG.length : Int) by omega), ctr, zae, hx, obs, gX]; rw [zaal N hN hu, w6e]; simp only [obs, zb9]
    by_cases h : zra p p.zG[i] = 0
    · rw [ifp h, dcf (fun hh => hh h)]; rfl
    · rw [ifn h, dct h]; rfl)
   (by simp only [zad.r2, zad.b2, dcf (show ¬ (p.zG.length : Int) < (p.zG.length : Int) by omega), cfa]) (N := N) (by omega)
  simp only [nc0] at l2; rw [l2]; cases (List.range p.zG.length).findSome? (gX p) with
  | some r => rfl
  | none =>
   simp only [obs, zdt]; have l3 := zbq (f := zad.r4 N) (fun i => ((i : Int), p, (⟨0, 0⟩ : zM))) (gMo p) p.zL.length
    (fun i hi => by
     have hx := lge hi; simp only [zad.r4, zad.b4, dct (show (i : Int) < (p.zL.length : Int) by omega), ctr, zae, hx, obs, gMo, zg2, orB, z7a hu]; rw [zaee, w6e]; cases zt5 p p.zL[i] <;> rfl)
    (by simp only [zad.r4, zad.b4, dcf (show ¬ (p.zL.length : Int) < (p.zL.length : Int) by omega), cfa]) (N := N) (by omega)
   simp only [nc0] at l3; rw [l3]; cases (List.range p.zL.length).findSome? (gMo p) <;> rfl
theorem z8r (N : Nat) (hN : 1100 < N) (p : zB) : zeo N p = some (zjz p).2 := by
 unfold zeo
 rw [z24 N hN]; rfl
theorem zaan (N : Nat) (hN : 1100 < N) (p : zB) : znf N p = some (zjz p).2 := by
 unfold znf
 rw [z6v N hN]; rfl
structure ProgV (p : zB) : Prop where
 ok : zm2 p
 n24 : p.zA.length ≤ 24
 i40 : p.zG.length ≤ 40
 i0 : 0 < p.zG.length
 m6 : p.zL.length ≤ 6
 quads : zid p.zA ≤ 24
 ins : ∀ x ∈ p.zG, zra p x = 0
 mon : ∀ m ∈ p.zL, zt5 p m = true
theorem zad6 {p : zB} (h : (zjz p).2 = 0) : ProgV p := by
 unfold zjz at h
 split at h
 · cases h
 split at h
 · cases h
 rename_i hb h0
 split at h
 · rename_i r hr
   exfalso
   obtain ⟨i, _, hi, _⟩ := zjj hr; unfold gO at hi; split at hi
   · cases hi
   · rename_i hne; cases hi; exact hne h
 · rename_i hf; split at h
   · cases h
   rename_i hq; split at h
   · rename_i r hr
     exfalso
     obtain ⟨i, _, hi, _⟩ := zjj hr; unfold gX at hi; rw [Option.bind_eq_some_iff] at hi; obtain ⟨x, _, hi⟩ := hi; split at hi
     · cases hi
     · rename_i hne; cases hi; exact hne h
   · rename_i hf2; split at h
     · rename_i r hr
       exfalso
       obtain ⟨i, _, hi, _⟩ := zjj hr; unfold gMo at hi; rw [Option.bind_eq_some_iff] at hi; obtain ⟨x, _, hi⟩ := hi; split at hi
       · cases hi
       · cases hi; cases h
     · rename_i hf3; refine { ok := { ops := by omega, ins := by omega, ok := fun j hj => z0i (zjk.1 hf j hj) }, n24 := by omega, i40 := by omega, i0 := by omega, m6 := by omega, quads := by omega, ins := fun x hx => ?_, mon := fun m hm => ?_ }
       · obtain ⟨i, hi⟩ := List.getElem?_of_mem hx; have := zjk.1 hf2 i (gei hi).1; unfold gX at this; rw [hi, obs] at this; split at this
         · assumption
         · cases this
       · obtain ⟨i, hi⟩ := List.getElem?_of_mem hm; have := zjk.1 hf3 i (gei hi).1; unfold gMo at this; rw [hi, obs] at this; split at this
         · assumption
         · cases this
theorem zl6 {b : Bool} {p q : Nat} {t : DataType} {half : Bool} (h : (zhp b p q t half).2 = 0) : -((10 ^ t.Length.toNat : Nat) : Int) < (zhp b p q t half).1.N ∧ (zhp b p q t half).1.N < ((10 ^ t.Length.toNat : Nat) : Int) := by
 unfold zhp at h ⊢
 have := zcd t.Length.toNat
 generalize (p * 10 ^ t.Scale.toNat / q + cond (half && decide (q ≤ p * 10 ^ t.Scale.toNat % q + p * 10 ^ t.Scale.toNat % q)) 1 0) = Q at *
 generalize 10 ^ t.Length.toNat = T at *
 split at h
 · cases h
 · rename_i hn; rw [ifn hn]; cases b
   · show -(T : Int) < (Q : Int) ∧ (Q : Int) < T; omega
   · show -(T : Int) < -(Q : Int) ∧ -(Q : Int) < T; omega
theorem z8q (b : Bool) (p q : Nat) (t : DataType) (half : Bool) : (zhp b p q t half).1 = ⟨(zhp b p q t half).1.N, ⟨#[]⟩⟩ := by
 unfold zhp
 split <;> rfl
theorem z20 (b : Bool) (p q : Nat) (t : DataType) (half : Bool) : (zhp b p q t half).2 = 0 ∨ (zhp b p q t half).2 = 19 := by
 unfold zhp
 split
 · exact .inr rfl
 · exact .inl rfl
theorem zaeu (x : Number) (t : DataType) (half : Bool) : (zkv x t half).1 = ⟨(zkv x t half).1.N, ⟨#[]⟩⟩ := z8q _ _ _ _ _
theorem z4e (x : Number) (t : DataType) (half : Bool) : (zkv x t half).2 = 0 ∨ (zkv x t half).2 = 19 := z20 _ _ _ _ _
theorem z7k {x : Number} {t : DataType} {half : Bool} (h : (zkv x t half).2 = 0) : -((10 ^ t.Length.toNat : Nat) : Int) < (zkv x t half).1.N ∧ (zkv x t half).1.N < ((10 ^ t.Length.toNat : Nat) : Int) := zl6 h
theorem z47 {op : Int} {a b : Number} {t : DataType} {half : Bool} (h : (zja op a b t half).2 = 0) : -((10 ^ t.Length.toNat : Nat) : Int) < (zja op a b t half).1.N ∧ (zja op a b t half).1.N < ((10 ^ t.Length.toNat : Nat) : Int) := by
 unfold zja at h ⊢
 by_cases h1 : (op = 3 ∨ op = 4) ∧ b.N = 0
 · rw [ifp h1] at h; cases h
 · rw [ifn h1] at h ⊢
   by_cases h2 : op = 0
   · rw [ifp h2] at h ⊢; exact zl6 h
   · rw [ifn h2] at h ⊢
     by_cases h3 : op = 1
     · rw [ifp h3] at h ⊢; exact zl6 h
     · rw [ifn h3] at h ⊢
       by_cases h4 : op = 2
       · rw [ifp h4] at h ⊢; exact zl6 h
       · rw [ifn h4] at h ⊢
         by_cases h5 : op = 3
         · rw [ifp h5] at h ⊢; exact zl6 h
         · rw [ifn h5] at h ⊢; exact zl6 h
theorem zac4 (op : Int) (a b : Number) (t : DataType) (half : Bool) : (zja op a b t half).1 = ⟨(zja op a b t half).1.N, ⟨#[]⟩⟩ := by
 unfold zja zvs
 repeat' split
 all_goals first | rfl | exact z8q _ _ _ _ _
theorem z9o (op : Int) (a b : Number) (t : DataType) (half : Bool) : (zja op a b t half).2 = 0 ∨ (zja op a b t half).2 = 19 ∨ (zja op a b t half).2 = 20 := by
 have := fun b' p q => z20 b' p q t half
 unfold zja zvs
 repeat' split
 all_goals first | exact .inr (.inr rfl) | exact (this _ _ _).elim (fun h => .inl h) (fun h => .inr (.inl h))
theorem z9j {t : DataType} (ht : zic t) {b : ByteArray} (h4 : (b.size : Int) = szE t) : ∀ n, zlv t b = some n → -((10 ^ t.Length.toNat : Nat) : Int) < n ∧ n < ((10 ^ t.Length.toNat : Nat) : Int) := by
 intro n hn
 obtain ⟨⟨l1, l2⟩, l3, l4⟩ := zfc ht
 unfold zlv at hn
 split at hn
 · split at hn
   · rename_i hh; cases hn; exact hh
   · cases hn
 · rename_i hk3; have key : ∀ l : List Int, (∀ d ∈ l, 0 ≤ d ∧ d ≤ 15) → (List.range (l.length - 1)).any (zij l t.Length) = false → (l.length : Int) - 1 - t.Length ≤ 1 → 0 ≤ zfd (l.take (l.length - 1)) ∧ zfd (l.take (l.length - 1)) < ((10 ^ t.Length.toNat : Nat) : Int) := by
    intro l hr hg hle; rw [List.any_eq_false] at hg; have g9 : ∀ i, i < l.length - 1 → 0 ≤ l.getD i 0 ∧ l.getD i 0 ≤ 9 := fun i hi => by
     have h1 := hg i (List.mem_range.2 hi); unfold zij at h1; have hx : l[i]? = some (l.getD i 0) := by rw [gdd, lge (by omega)]; rfl
     have h2 := hr _ (lmg hx); rw [Bool.or_eq_true, decide_eq_true_eq] at h1; omega
    have step : ∀ i, i ≤ l.length - 1 → 0 ≤ zfd (l.take i) ∧ (zfd (l.take i) < ((10 ^ (i - ((l.length : Int) - 1 - t.Length).toNat) : Nat) : Int)) := by
     intro i
     induction i with
     | zero => intro _; rw [List.take_zero]; exact ⟨by decide, by simp [zfd]⟩
     | succ i ih =>
      intro hi; have hx : l[i]? = some (l.getD i 0) := by rw [gdd, lge (by omega)]; rfl
      obtain ⟨i1, i2⟩ := ih (by omega); have hd := g9 i (by omega); rw [zd9 l i hx, zn9]; refine ⟨by omega, ?_⟩
      by_cases hlead : (i : Int) < (l.length : Int) - 1 - t.Length
      · have h1 := hg i (List.mem_range.2 (by omega)); unfold zij at h1; rw [Bool.or_eq_true, Bool.and_eq_true, decide_eq_true_eq, decide_eq_true_eq, decide_eq_true_eq] at h1; have h0 : l.getD i 0 = 0 := by
         refine cbc fun h2 => h1 (.inr ⟨by omega, hlead⟩)
        rw [show i - ((l.length : Int) - 1 - t.Length).toNat = 0 by omega, Nat.pow_zero] at i2; rw [h0, show i + 1 - ((l.length : Int) - 1 - t.Length).toNat = 0 by omega, Nat.pow_zero]; omega
      · rw [show i + 1 - ((l.length : Int) - 1 - t.Length).toNat = (i - ((l.length : Int) - 1 - t.Length).toNat) + 1 by omega, Nat.pow_succ]; omega
    obtain ⟨s1, s2⟩ := step (l.length - 1) (Nat.le_refl _); refine ⟨s1, ?_⟩; have hpw : 10 ^ (l.length - 1 - ((l.length : Int) - 1 - t.Length).toNat) ≤ 10 ^ t.Length.toNat := zb8 (by omega); omega
   have hbs := h4; rw [zqt ht] at hbs; obtain ⟨_, k1, k2⟩ := ht; have hlen : ((if t.Kind = 1 then zh7 (bl b) else zd8 (bl b)).length : Int) - 1 - t.Length ≤ 1 := by
    by_cases hk1 : t.Kind = 1
    · rw [ifp hk1] at hbs; rw [ifp hk1, zou, zal]; omega
    · rw [ifn hk1, ifn hk3] at hbs; rw [ifn hk1]; unfold zd8 zfo; rw [lna, lnm, zal, lns]; omega
   have hrange : ∀ d ∈ (if t.Kind = 1 then zh7 (bl b) else zd8 (bl b)), 0 ≤ d ∧ d ≤ 15 := by
    split
    · exact zpz.1
    · exact zpz.2
   generalize (if t.Kind = 1 then zh7 (bl b) else zd8 (bl b)) = l at *; unfold zwa at hn
   by_cases hbad : (List.range (l.length - 1)).any (zij l t.Length) = true ∨ zj7 l < 10
   · rw [ifp hbad] at hn; cases hn
   · rw [ifn hbad] at hn; rw [not_or] at hbad; obtain ⟨q1, q2⟩ := key l hrange (by simpa using hbad.1) hlen; have hn2 := Option.some.inj hn; split at hn2 <;> omega
def mI (p : zB) (s : zC) (e : Int) : zD := ⟨p, s, zls p.zA, e⟩
def mS (s : zC) (t : Storage) : zC := ⟨t, s.At, s.Stack, s.Lines, s.Status, s.Exception, s.Steps⟩
def mK (s : zC) (l : List Int) : zC := ⟨s.Storage, s.At, l, s.Lines, s.Status, s.Exception, s.Steps⟩
def mL (s : zC) (l : List ByteArray) : zC := ⟨s.Storage, s.At, s.Stack, l, s.Status, s.Exception, s.Steps⟩
def mT (s : zC) (k : Int) : zC := ⟨s.Storage, s.At, s.Stack, s.Lines, k, s.Exception, s.Steps⟩
def mA (s : zC) (k : Int) : zC := ⟨s.Storage, k, s.Stack, s.Lines, s.Status, s.Exception, s.Steps⟩
def mE (s : zC) (k : Int) : zC := ⟨s.Storage, s.At, s.Stack, s.Lines, s.Status, k, s.Steps⟩
def mP (s : zC) (k : Int) : zC := ⟨s.Storage, s.At, s.Stack, s.Lines, s.Status, s.Exception, k⟩
theorem z1e (p : zB) (s : zC) (n : Int) : zt (mI p s 0) n = some (mI p s n) := rfl
theorem zp2 (p : zB) (s : zC) {e : Int} (he : e ≠ 0) (n : Int) : zt (mI p s e) n = some (mI p s e) := by
 unfold zt
 rw [show (mI p s e).raised = e from rfl, zy, dcf he]
 rfl
structure StoP (p : zB) (t : Storage) : Prop where
 sto : zlf t
 size : (t.Bytes.size : Int) = 16 * zid p.zA
section
variable {p : zB}
theorem zxs (h : ProgV p) : 0 ≤ sAt p.zA p.zA.length ∧ sAt p.zA p.zA.length ≤ 16 * zid p.zA := by
 have h1 := zni p.zA p.zA.length
 have h2 := zl4 h.ok p.zA.length (Nat.le_refl _)
 unfold zid
 have : sAt p.zA p.zA.length = pAt p.zA p.zA.length + zjc p.zA p.zA.length := rfl
 omega
theorem zjd {i : Nat} (hi : i < p.zA.length) : idx (zls p.zA) (i : Int) = some (zcm p.zA i) := by
 rw [zae]
 exact zmk _ hi
theorem zs1 (h : ProgV p) {i : Nat} (hi : i < p.zA.length) (h3 : (og p.zA i).Kind = 3) {t : Storage} (hs : StoP p t) : zpe t (zcm p.zA i) = true ∧ 0 ≤ zcm p.zA i ∧ zcm p.zA i % 16 = 0 ∧ zcm p.zA i + 16 ≤ (t.Bytes.size : Int) := by
 have e : zcm p.zA i = pAt p.zA i := by unfold zcm; rw [ifp h3]
 have b1 := zni p.zA i
 have b2 := z27 p.zA (show i + 1 ≤ p.zA.length by omega)
 have e2 : pAt p.zA (i + 1) = pAt p.zA i + 16 := by
  show pAt p.zA i + (if (og p.zA i).Kind = 3 then 16 else 0) = _; rw [ifp h3]
 have b3 := zl4 h.ok p.zA.length (Nat.le_refl _)
 have b4 := zxs h
 have e4 : sAt p.zA p.zA.length = pAt p.zA p.zA.length + zjc p.zA p.zA.length := rfl
 have hz := hs.size
 rw [e]
 refine ⟨?_, b1.1, b1.2.2, by omega⟩
 unfold zpe
 rw [dct b1.1, dct b1.2.2, dct (by omega)]
 rfl
theorem zt7 (h : ProgV p) {i : Nat} (hi : i < p.zA.length) (hk : (og p.zA i).Kind = 0 ∨ (og p.zA i).Kind = 1) {t : Storage} (hs : StoP p t) : 0 ≤ zcm p.zA i ∧ zcm p.zA i + szE (og p.zA i).zK ≤ (t.Bytes.size : Int) := by
 have b1 := zni p.zA p.zA.length
 have b4 := zxs h
 have hz := hs.size
 have key : ∀ j, j < p.zA.length → (og p.zA j).Kind = 0 → 0 ≤ sAt p.zA j ∧ sAt p.zA j + szE (og p.zA j).zK ≤ (t.Bytes.size : Int) := by
  intro j hj h0; have b2 := zl4 h.ok j (by omega); have b3 := z0x h.ok (Nat.le_refl p.zA.length) (show j + 1 ≤ p.zA.length by omega); have e2 : zjc p.zA (j + 1) = zjc p.zA j + szE (og p.zA j).zK := by
   show zjc p.zA j + (if (og p.zA j).Kind = 0 then szE (og p.zA j).zK else 0) = _; rw [ifp h0]
  have e4 : sAt p.zA p.zA.length = pAt p.zA p.zA.length + zjc p.zA p.zA.length := rfl; have e5 : sAt p.zA j = pAt p.zA p.zA.length + zjc p.zA j := rfl; omega
 unfold zcm
 rcases hk with h0 | h1
 · rw [ifn, ifp h0]; exact key i hi h0
 · obtain ⟨b, e1, e2, e3, e4, e5⟩ := zu7 h.ok hi h1; have := key b (by omega) e3; rw [ifn, ifn, ifp h1, e1, itn]; have hz := zd6 ((zhy h.ok hi).ty (by rw [h1]; rfl)).1; omega
theorem z3t (N : Nat) (l : List zF) (h : l.length < N) (hl : l.length < 1000000000) (o : zF) : zj N l o = some (nmI l o.Base) := by
 unfold zj nmI
 have l1 := zbq (f := zj.r0 N) (fun i => (l, (l.length : Int), (i : Int), o)) (gNm l o.Base) l.length
  (fun i hi => by
   have hx := lge hi; simp only [zj.r0, zj.b0, zei, zae, hx, obs, dct (show (i : Int) < (l.length : Int) by omega), ctr, gNm]; rw [w6e]; cases (l[i].Name.toList == o.Base.toList) <;> rfl)
  (by simp only [zj.r0, zj.b0, dcf (show ¬ (l.length : Int) < (l.length : Int) by omega), cfa]) h
 simp only [nc0] at l1
 rw [l1]
 cases (List.range l.length).findSome? (gNm l o.Base) <;> rfl
theorem z0f (N : Nat) (hN : 10 < N) {o : zF} (h : zey o.zK = 0) : zdc N o = some (szE o.zK) := by
 unfold zdc zgu
 rw [znl N hN, h]
 simp [zwu h]
theorem zqk (N : Nat) (hN : 2000 < N) (h : ProgV p) {s : zC} (hs : StoP p s.Storage) {i : Nat} (hi : i < p.zA.length) (h3 : (og p.zA i).Kind = 3) (e : Int) :
 zbr N (mI p s e) (i : Int) = some (match ldV s.Storage (zcm p.zA i) with | some o => (zh3 o, zcm p.zA i, mI p s e) | none => (zyn, zcm p.zA i, mI p s (if e = 0 then 4 else e))) := by
 unfold zbr
 rw [show (mI p s e).layout = zls p.zA from rfl, zjd hi, show (mI p s e).zC.Storage = s.Storage from rfl]
 simp only [obs]
 rw [zab2 N hN hs.sto (zs1 h hi h3 hs).1]
 cases ldV s.Storage (zcm p.zA i) with
 | some o => rfl
 | none =>
  simp only [obs]
  by_cases he : e = 0
  · subst he; rfl
  · rw [zp2 p s he, ifn he]; rfl
def adI (p : zB) (t : Storage) (i : Nat) : Except Int Int :=
 if (og p.zA i).Kind = 2 then (match ldV t (zcm p.zA (nmI p.zA (og p.zA i).Base).toNat) with
  | none => .error 4
  | some o => if o + (og p.zA i).Offset > (t.Bytes.size : Int) - szE (og p.zA i).zK then .error 5 else .ok (o + (og p.zA i).Offset))
 else .ok (zcm p.zA i)
theorem zf2 {i : Nat} (hi : i < p.zA.length) : idx p.zA (i : Int) = some (og p.zA i) := by
 rw [zae, zmu hi]
theorem z89 {k : Int} (h : isS k = true) : k = 0 ∨ k = 1 ∨ k = 2 := by
 unfold isS at h
 simp only [Bool.or_eq_true, decide_eq_true_eq] at h
 omega
theorem zpg {k : Int} (h : isS k = true) : isD k = true := by unfold isD; rw [h]; rfl
theorem z0q (N : Nat) (hN : 2000 < N) (h : ProgV p) {s : zC} (hs : StoP p s.Storage) {i : Nat} (hi : i < p.zA.length) (hk : isS (og p.zA i).Kind = true) :
 (∃ e j k, (e = 4 ∨ e = 5) ∧ adI p s.Storage i = .error e ∧ zav N (mI p s 0) (i : Int) = some (j, mI p s e) ∧ zbv N p s (i : Int) = some (k, e)) ∨
 ∃ a, adI p s.Storage i = .ok a ∧ zav N (mI p s 0) (i : Int) = some (a, mI p s 0) ∧ zbv N p s (i : Int) = some (a, 0) ∧ 0 ≤ a ∧ a + szE (og p.zA i).zK ≤ (s.Storage.Bytes.size : Int) := by
 have hl := hs.sto.le
 have n24 := h.n24
 have hty := ((zhy h.ok hi).ty (zpg hk)).1
 have hsz := zd6 hty
 unfold zav zbv adI
 rw [show (mI p s 0).zB = p from rfl, zf2 hi, zeb N (by omega) h.ok]
 simp only [obs, zb9]
 by_cases h2 : (og p.zA i).Kind = 2
 · rw [ifp h2, dcf (fun hh => hh h2)]; obtain ⟨b, e1, e2, e3, e4, e5⟩ := zz0 h.ok hi h2; have hb : b < p.zA.length := by omega
   simp only [cfa]; rw [z3t N _ (by omega) (by omega), z1z N p (by omega) (by omega), e1]; simp only [obs, itn]; rw [zqk N hN h hs hb e3, zjd hb]; simp only [obs]; rw [zz8 N hN hs.sto (zs1 h hb e3 hs).1]; cases hld : ldV s.Storage (zcm p.zA b) with
   | none => exact .inl ⟨4, _, _, .inl rfl, rfl, rfl, rfl⟩
   | some o =>
    have ho := zv3 hs.sto hld; simp only [obs, show (zh3 o).Address.Offset = o from rfl, show (mI p s 0).raised = 0 from rfl, show (mI p s 0).zC = s from rfl, bsf, bst, ctr, cfa]; rw [z0f N (by omega) hty, zoo hty]; simp only [obs]; rw [w6e (n := o + (og p.zA i).Offset), w6e (n := (s.Storage.Bytes.size : Int) - szE (og p.zA i).zK)]; unfold zk0; rw [zg2, zg2, w6e (n := (s.Storage.Bytes.size : Int) - (o + (og p.zA i).Offset))]; simp only [obs]
    by_cases hgt : o + (og p.zA i).Offset > (s.Storage.Bytes.size : Int) - szE (og p.zA i).zK
    · left; rw [dct hgt, ifp hgt]; refine ⟨5, _, 0, .inr rfl, rfl, rfl, ?_⟩
      by_cases h1 : inB (o + (og p.zA i).Offset) 0 (s.Storage.Bytes.size : Int) = true
      · rw [h1, ctr]; rw [show inB (szE (og p.zA i).zK) 0 ((s.Storage.Bytes.size : Int) - (o + (og p.zA i).Offset)) = false by
         cases hh : inB (szE (og p.zA i).zK) 0 ((s.Storage.Bytes.size : Int) - (o + (og p.zA i).Offset)) with
         | false => rfl
         | true => have := zbb.1 hh; omega]
        rfl
      · rw [show inB (o + (og p.zA i).Offset) 0 (s.Storage.Bytes.size : Int) = false by simpa using h1]; rfl
    · right; rw [dcf hgt, ifn hgt]; refine ⟨_, rfl, rfl, ?_, by omega, by omega⟩; rw [show inB (o + (og p.zA i).Offset) 0 (s.Storage.Bytes.size : Int) = true from zbb.2 ⟨by omega, by omega⟩, ctr, show inB (szE (og p.zA i).zK) 0 ((s.Storage.Bytes.size : Int) - (o + (og p.zA i).Offset)) = true from zbb.2 ⟨by omega, by omega⟩]; rfl
 · have hk2 := z89 hk; have hd := zt7 h hi (by omega) hs; rw [ifn h2, dct h2, show (mI p s 0).layout = zls p.zA from rfl, zjd hi]; exact .inr ⟨_, rfl, rfl, rfl, hd.1, hd.2⟩
theorem z1t (N : Nat) (hN : 2000 < N) (h : ProgV p) {s : zC} (hs : StoP p s.Storage) {i : Nat} (hi : i < p.zA.length) (hk : isS (og p.zA i).Kind = true) {e : Int} (he : e ≠ 0) :
 ∃ j, zav N (mI p s e) (i : Int) = some (j, mI p s e) := by
 have n24 := h.n24
 unfold zav
 rw [show (mI p s e).zB = p from rfl, zf2 hi]
 simp only [obs, zb9]
 by_cases h2 : (og p.zA i).Kind = 2
 · rw [dcf (fun hh => hh h2)]; obtain ⟨b, e1, e2, e3, e4, e5⟩ := zz0 h.ok hi h2; have hb : b < p.zA.length := by omega
   simp only [cfa]; rw [z3t N _ (by omega) (by omega), e1]; simp only [obs]; rw [zqk N hN h hs hb e3]; cases hld : ldV s.Storage (zcm p.zA b) with
   | none =>
    simp only [obs, ifn he]; rw [show (mI p s e).raised = e from rfl, zy, dcf he]; exact ⟨_, rfl⟩
   | some o =>
    simp only [obs]; rw [show (mI p s e).raised = e from rfl, zy, dcf he]; exact ⟨_, rfl⟩
 · rw [dct h2, show (mI p s e).layout = zls p.zA from rfl, zjd hi]; exact ⟨_, rfl⟩
end
def zob (o : zF) : ByteArray := if o.zK.Kind = 0 then o.Value.S else zum o.zK o.Value.N
theorem z7h (N : Nat) (n len : Nat) (hn : n ≤ 1000000000000000000) (hl : len ≤ 300) (hN : len < N) : ∃ l, za2 N (n : Int) (len : Int) = some l := by
 unfold za2
 rw [ifp, ifp, itn, zag (by omega), ctr, w6e]
 obtain ⟨s', h1, _⟩ := z44 (f := za2.r0 N) (fun i s => ∃ q P, s = (((q : Nat) : Int), P, (len : Int) - 1 - (i : Int)) ∧ q ≤ n ∧ P.length = len) len
  (fun i s hi hs => by
   obtain ⟨q, P, rfl, h1, h2⟩ := hs; obtain ⟨x, hx⟩ : ∃ x, P[((len : Int) - 1 - (i : Int)).toNat]? = some x := ⟨_, lge (by omega)⟩; simp only [za2.r0, za2.b0, dct (show (len : Int) - 1 - (i : Int) ≥ 0 by omega), ctr, h2]; rw [ifp, ifp, hx]; simp only [obs]; rw [tde, w6e (n := (q : Int) / 10), w6e (n := (len : Int) - 1 - (i : Int) - 1)]; exact ⟨_, rfl, q / 10, _, by rw [show (q : Int) / 10 = ((q / 10 : Nat) : Int) by omega, show (len : Int) - 1 - (i : Int) - 1 = (len : Int) - 1 - ((i + 1 : Nat) : Int) by omega], by omega, by rw [List.length_set]; exact h2⟩)
  (fun s hs => by
   obtain ⟨q, P, rfl, h1, h2⟩ := hs; exact ⟨_, by simp only [za2.r0, za2.b0, dcf (show ¬ (len : Int) - 1 - (len : Int) ≥ 0 by omega), cfa], q, P, rfl, h1, h2⟩) (N := N) hN (s := ((n : Int), List.replicate len 0, (len : Int) - 1)) ⟨n, _, by rw [show (len : Int) - 1 - ((0 : Nat) : Int) = (len : Int) - 1 by omega], Nat.le_refl _, by rw [lnr]⟩
 rw [h1]
 exact ⟨_, rfl⟩
theorem zabz {t : DataType} {v : Value} (ht : zic t) (hv : zjr t v = 0) : v = ⟨v.N, ⟨#[]⟩⟩ ∧ -((10 ^ t.Length.toNat : Nat) : Int) < v.N ∧ v.N < ((10 ^ t.Length.toNat : Nat) : Int) := by
 obtain ⟨_, k1, k2⟩ := ht
 unfold zjr at hv
 rw [ifn] at hv
 split at hv
 · cases hv
 · rename_i h1; split at hv
   · rename_i h2; have := zbb.1 h2; unfold zmv at this; have h3 : v.S = e0 := cbc h1; obtain ⟨n, s⟩ := v; simp only at h3; subst h3; exact ⟨rfl, by omega, by omega⟩
   · cases hv
theorem zsy (N : Nat) (hN : 400 < N) {o : zF} (ht : zey o.zK = 0) (h4 : o.zK.Kind ≠ 4) (hv : zjr o.zK o.Value = 0) : zcs N o.zK o.Value = some (zob o, 0) ∧ zaa N o.zK o.Value = some (zob o) ∧ ((zob o).size : Int) = szE o.zK := by
 by_cases h0 : o.zK.Kind = 0
 · unfold zob; rw [ifp h0]; have hv' := hv; unfold zjr at hv'; rw [ifp h0] at hv'; have hn : o.Value.N = 0 := by
    refine cbc fun h => ?_; rw [ifp h] at hv'; cases hv'
   rw [ifn (fun h => h hn)] at hv'; have hsz : (o.Value.S.size : Int) = o.zK.Length := by
    refine cbc fun h => ?_; rw [ifp h] at hv'; cases hv'
   have hlen : 1 ≤ o.zK.Length ∧ o.zK.Length ≤ 256 := by
    rcases zl2 ht with ⟨_, h⟩ | ⟨h | h, _⟩ | ⟨h, _⟩ | ⟨h, _⟩
    · exact h
    all_goals omega
   refine ⟨?_, ?_, ?_⟩
   · unfold zcs; rw [z3b N (by omega) ht h4, hv]; simp only [obs, bsf, cfa]; unfold z8; obtain ⟨l, hl⟩ := z7h N 0 o.zK.Length.toNat (by decide) (by omega) (by omega); rw [hn, show (if w6 (0 - 0) > 0 then w6 (0 - 0) else 0) = ((0 : Nat) : Int) from rfl, show o.zK.Length = ((o.zK.Length.toNat : Nat) : Int) by omega, hl, h0]; rfl
   · unfold zaa; rw [h0]; rfl
   · unfold szE; rw [ifn, ifn, ifn]; exact hsz
 · have hn := zzc ht h0 h4; obtain ⟨e1, e2, e3⟩ := zabz hn hv; unfold zob; rw [ifn h0]; rw [e1]; exact ⟨z1a N (by omega) hn _ ⟨e2, e3⟩, z2q N (by omega) hn _ ⟨e2, e3⟩, z1i hn _⟩
section
variable {p : zB}
theorem z1d {k : Int} (h : isD k = true) : isS k = true ∨ k = 4 := by
 unfold isD at h
 rw [Bool.or_eq_true, decide_eq_true_eq] at h
 exact h
def byI (p : zB) (t : Storage) (i : Nat) : Except Int ByteArray :=
 if (og p.zA i).Kind = 4 then .ok (zob (og p.zA i)) else match adI p t i with
  | .error e => .error e
  | .ok a => .ok (t.Bytes.extract a.toNat (a + szE (og p.zA i).zK).toNat)
theorem zs7 (N : Nat) (hN : 2000 < N) (h : ProgV p) {s : zC} (hs : StoP p s.Storage) {i : Nat} (hi : i < p.zA.length) (hk : isD (og p.zA i).Kind = true) :
 (∃ e k, (e = 4 ∨ e = 5) ∧ byI p s.Storage i = .error e ∧ zaf N (mI p s 0) (i : Int) = some (⟨#[]⟩, mI p s e) ∧ zd4 N p s (i : Int) = some (k, e)) ∨
 ∃ b, byI p s.Storage i = .ok b ∧ zaf N (mI p s 0) (i : Int) = some (b, mI p s 0) ∧ zd4 N p s (i : Int) = some (b, 0) ∧ (b.size : Int) = szE (og p.zA i).zK := by
 have ho := zhy h.ok hi
 obtain ⟨hty, hk4⟩ := ho.ty hk
 have hsz := zd6 hty
 have hl := hs.sto.le
 unfold byI zaf zd4
 rw [show (mI p s 0).zB = p from rfl, zf2 hi]
 simp only [obs, zy]
 by_cases h4 : (og p.zA i).Kind = 4
 · obtain ⟨e1, e2, e3⟩ := zsy N (by omega) hty hk4 (ho.val (.inr h4)); rw [ifp h4, dct h4, ctr, ctr, e1, e2]; exact .inr ⟨_, rfl, rfl, rfl, e3⟩
 · rw [ifn h4, dcf h4, cfa, cfa]; have hS := (z1d hk).resolve_right h4; rcases z0q N hN h hs hi hS with ⟨e, j, k, he, h1, h2, h3⟩ | ⟨a, h1, h2, h3, h4, h5⟩
   · left; rw [h1, h2, h3]; refine ⟨e, ⟨#[]⟩, he, rfl, ?_, ?_⟩
     · rcases he with rfl | rfl <;> rfl
     · rcases he with rfl | rfl <;> rfl
   · right; rw [h1, h2, h3]; simp only [obs, show (mI p s 0).raised = 0 from rfl, bsf, cfa]; rw [z0f N (by omega) hty, zoo hty]; simp only [obs, show (mI p s 0).zC = s from rfl]; have c1 : 0 ≤ a + szE (og p.zA i).zK ∧ a + szE (og p.zA i).zK ≤ (s.Storage.Bytes.size : Int) := by omega
     have c2 : 0 ≤ a ∧ a ≤ a + szE (og p.zA i).zK := by omega
     rw [w6e]; simp only [ifp c1, ifp c2]; refine ⟨_, rfl, rfl, rfl, ?_⟩; rw [zcn _ _ _ (by omega) (by omega)]; omega
theorem z1r (N : Nat) (hN : 2000 < N) (h : ProgV p) {s : zC} (hs : StoP p s.Storage) {i : Nat} (hi : i < p.zA.length) (hk : isD (og p.zA i).Kind = true) {e : Int} (he : e ≠ 0) :
 ∃ b, zaf N (mI p s e) (i : Int) = some (b, mI p s e) ∧ b.size ≤ 256 := by
 have ho := zhy h.ok hi
 obtain ⟨hty, hk4⟩ := ho.ty hk
 have hsz := zd6 hty
 unfold zaf
 rw [show (mI p s e).zB = p from rfl, zf2 hi]
 simp only [obs, zy]
 by_cases h4 : (og p.zA i).Kind = 4
 · obtain ⟨e1, e2, e3⟩ := zsy N (by omega) hty hk4 (ho.val (.inr h4)); rw [dct h4, ctr, e1]; exact ⟨_, rfl, by show (zob (og p.zA i)).size ≤ 256; omega⟩
 · rw [dcf h4, cfa]; obtain ⟨j, hj⟩ := z1t N hN h hs hi ((z1d hk).resolve_right h4) he; rw [hj]; simp only [obs, show (mI p s e).raised = e from rfl, zb9, dct he, ctr]; exact ⟨_, rfl, by decide⟩
def nuI (p : zB) (t : Storage) (i : Nat) : Except Int Number :=
 match byI p t i with | .error e => .error e | .ok b => match zlv (og p.zA i).zK b with | none => .error 1 | some n => .ok ⟨n, (og p.zA i).zK.Scale⟩
theorem zvz (h : ProgV p) {i : Nat} (hi : i < p.zA.length) (hk : isD (og p.zA i).Kind = true) (hn : zc1 (og p.zA i) = true) : zic (og p.zA i).zK := by
 obtain ⟨hty, hk4⟩ := (zhy h.ok hi).ty hk
 unfold zc1 at hn
 exact zzc hty (of_decide_eq_true hn) hk4
theorem zaed {t : DataType} (ht : zic t) {n : Int} (h : -((10 ^ t.Length.toNat : Nat) : Int) < n ∧ n < ((10 ^ t.Length.toNat : Nat) : Int)) : zde ⟨n, t.Scale⟩ := by
 obtain ⟨⟨l1, l2⟩, l3, l4⟩ := zfc ht
 have hpw : 10 ^ t.Length.toNat ≤ 10 ^ 15 := zb8 (by omega)
 refine ⟨⟨?_, ?_⟩, l3, ?_⟩
 · show -999999999999999 ≤ n; omega
 · show n ≤ 999999999999999; omega
 · show t.Scale ≤ 15; omega
theorem zno (N : Nat) (hN : 2000 < N) (h : ProgV p) {s : zC} (hs : StoP p s.Storage) {i : Nat} (hi : i < p.zA.length) (hk : isD (og p.zA i).Kind = true) (hn : zc1 (og p.zA i) = true) :
 (∃ e k, (e = 4 ∨ e = 5 ∨ e = 1) ∧ nuI p s.Storage i = .error e ∧ zo N (mI p s 0) (i : Int) = some (⟨0, 0⟩, mI p s e) ∧ zbu N p s (i : Int) = some (k, e)) ∨
 ∃ n, nuI p s.Storage i = .ok n ∧ zo N (mI p s 0) (i : Int) = some (n, mI p s 0) ∧ zbu N p s (i : Int) = some (n, 0) ∧ zde n := by
 have ht := zvz h hi hk hn
 unfold nuI zo zbu
 rcases zs7 N hN h hs hi hk with ⟨e, k, he, h1, h2, h3⟩ | ⟨b, h1, h2, h3, h4⟩
 · left; rw [h1, h2, h3]; refine ⟨e, ⟨0, 0⟩, by omega, rfl, ?_, ?_⟩
   · rcases he with rfl | rfl <;> rfl
   · rcases he with rfl | rfl <;> rfl
 · obtain ⟨v1, a1, e1, g1, g2⟩ := z81 N hN ht h4; obtain ⟨v2, a2, e2, g3, g4⟩ := z8l N hN ht h4; rw [h1, h2, h3]; simp only [obs, show (mI p s 0).raised = 0 from rfl, show (mI p s 0).zB = p from rfl, bsf, cfa]; rw [zf2 hi]; simp only [obs]; rw [g1, g3]; simp only [obs, z1e]; have hb := z9j ht h4; cases hdv : zlv (og p.zA i).zK b with
   | none =>
    rw [hdv] at g2 g4; simp only [] at g2 g4; left; refine ⟨1, ⟨0, 0⟩, by omega, rfl, ?_, ?_⟩
    · rw [zb9, dct g2]; rfl
    · rw [zb9, dct g4]; rfl
   | some n =>
    rw [hdv] at g2 g4; simp only [] at g2 g4; right; refine ⟨⟨n, (og p.zA i).zK.Scale⟩, rfl, ?_, ?_, zaed ht (hb n hdv)⟩
    · rw [g2.2, g2.1]; rfl
    · rw [g4.2, g4.1]; rfl
theorem z08 (N : Nat) (hN : 2000 < N) (h : ProgV p) {s : zC} (hs : StoP p s.Storage) {i : Nat} (hi : i < p.zA.length) (hk : isD (og p.zA i).Kind = true) {e : Int} (he : e ≠ 0) :
 zo N (mI p s e) (i : Int) = some (⟨0, 0⟩, mI p s e) := by
 unfold zo
 obtain ⟨b, hb, _⟩ := z1r N hN h hs hi hk he
 rw [hb]
 simp only [obs, show (mI p s e).raised = e from rfl, zb9, dct he, ctr]
def wrI (p : zB) (s : zC) (i : Nat) (d : ByteArray) : Except Int zC :=
 match adI p s.Storage i with | .error e => .error e | .ok a => .ok (mS s (wrV s.Storage a.toNat d))
theorem z5b (N : Nat) (hN : 2000 < N) (h : ProgV p) {s : zC} (hs : StoP p s.Storage) {i : Nat} (hi : i < p.zA.length) (hk : isS (og p.zA i).Kind = true) {d : ByteArray} (hd : (d.size : Int) = szE (og p.zA i).zK) :
 (∃ e k, (e = 4 ∨ e = 5) ∧ wrI p s i d = .error e ∧ zao N (mI p s 0) (i : Int) d = some (mI p s e) ∧ zbv N p s (i : Int) = some (k, e)) ∨
 ∃ a : Nat, wrI p s i d = .ok (mS s (wrV s.Storage a d)) ∧ zao N (mI p s 0) (i : Int) d = some (mI p (mS s (wrV s.Storage a d)) 0) ∧ zbv N p s (i : Int) = some ((a : Int), 0) ∧ zbp N s.Storage (a : Int) d = some (wrV s.Storage a d) ∧ StoP p (wrV s.Storage a d) := by
 have hty := ((zhy h.ok hi).ty (zpg hk)).1
 have hsz := zd6 hty
 unfold wrI zao
 rcases z0q N hN h hs hi hk with ⟨e, j, k, he, h1, h2, h3⟩ | ⟨a, h1, h2, h3, h4, h5⟩
 · left; rw [h1, h2, h3]; refine ⟨e, k, he, rfl, ?_, rfl⟩; rcases he with rfl | rfl <;> rfl
 · right; obtain ⟨a, rfl⟩ : ∃ k : Nat, a = (k : Int) := ⟨a.toNat, by omega⟩; rw [h1, h2, h3]; have hw : a + d.size ≤ s.Storage.Bytes.size := by omega
   have hw0 : 0 < d.size := by omega
   refine ⟨a, rfl, ?_, rfl, z2n N hN hs.sto hw hw0, ⟨z16 hs.sto hw hw0, by rw [ztd hw]; exact hs.size⟩⟩; simp only [obs, show (mI p s 0).raised = 0 from rfl, show (mI p s 0).zC = s from rfl, bst, ctr]; rw [z18 N hN hs.sto hw hw0]; rfl
end
theorem z3s (b : ByteArray) (hb : b.size ≤ 5000) (n : Nat) (hn : n ≤ 5000) : zeg b (n : Int) = some ⟨(bl b ++ List.replicate (n - b.size) 32).toArray⟩ := by
 have hmax : IntKind.i64.max = 9223372036854775807 := by decide
 unfold zeg zl0
 rw [w6e]
 have e : (if (0 : Int) > (n : Int) - (b.size : Int) then 0 else (n : Int) - (b.size : Int)) = ((n - b.size : Nat) : Int) := by split <;> omega
 have hs1 : (⟨#[32]⟩ : ByteArray).size = 1 := rfl
 rw [e, ifp ⟨by omega, by omega, by rw [hs1]; omega⟩, obs, itn, zpb, hmax]
 have hs : (⟨(List.replicate (n - b.size) (32 : UInt8)).toArray⟩ : ByteArray).size = n - b.size := by
  show (List.replicate (n - b.size) (32 : UInt8)).length = _; rw [lnr]
 rw [ifn (by rw [hs]; omega)]
 refine congrArg some (zgw ?_)
 rw [zco]
 rfl
def z7l (a b : ByteArray) : Int := zwb (bl (zn3 a (max a.size b.size))) (bl (zn3 b (max a.size b.size)))
theorem z3v {R : Type} (a b : ByteArray) (ha : a.size ≤ 5000) (hb : b.size ≤ 5000) (k : Int → Option R) : ((zeg a (b.size : Int)).bind fun r8 => (zeg b (a.size : Int)).bind fun r9 => (zh9 r8 r9).bind k) = k (z7l a b) := by
 unfold zh9 zd2
 rw [z3s a ha b.size hb, z3s b hb a.size ha]
 simp only [obs]
 rw [z1g, z1g, Nat.max_comm b.size a.size, zaev (by rw [zvx, zvx])]
 rfl
theorem zad3 {R : Type} (N : Nat) (hN : 10000 < N) (a b : ByteArray) (ha : a.size ≤ 5000) (hb : b.size ≤ 5000) (k : Int → Option R) :
 ((ze4 N a (if (b.size : Int) > (a.size : Int) then (b.size : Int) else (a.size : Int))).bind fun r12 => (ze4 N b (if (b.size : Int) > (a.size : Int) then (b.size : Int) else (a.size : Int))).bind fun r13 =>
 (zah (!((Op.bytesLess r12.toList r13.toList) || (r12.toList == r13.toList)))).bind fun r14 => (zah (Op.bytesLess r12.toList r13.toList)).bind fun r15 => k (w6 (r14 - r15))) = k (z7l a b) := by
 have e : (if (b.size : Int) > (a.size : Int) then (b.size : Int) else (a.size : Int)) = ((max a.size b.size : Nat) : Int) := by split <;> omega
 rw [e, zvj N hN a ha _ (by omega), zvj N hN b hb _ (by omega)]
 simp only [obs]
 rw [zkk, zkk, zg3, zg3]
 simp only [obs]
 unfold z7l zwb
 generalize bl (zn3 a (max a.size b.size)) = x
 generalize bl (zn3 b (max a.size b.size)) = y
 cases hx : Op.bytesLess x y with
 | true => rfl
 | false =>
  rw [ifn (by decide)]; simp only [Bool.false_or, cfa]
  by_cases hxy : x = y
  · rw [hxy, ifp rfl]; simp only [bst, bnt, cfa]; rfl
  · rw [ifn hxy, show (x == y) = false from beq_eq_false_iff_ne.2 hxy]; rfl
theorem zub (N : Nat) (hN : 100 < N) {x : Number} (hx : zde x) : zbi N x = some (zff x) := by
 have hx' := hx
 obtain ⟨⟨h1, h2⟩, h3, h4⟩ := hx'
 unfold zbi
 obtain ⟨k, hk⟩ : ∃ k : Nat, x.Scale = (k : Int) := ⟨x.Scale.toNat, by omega⟩
 have := zas (f := zbi.r0 N) (fun i => (x.Scale, (i : Int), (⟨x.N.tdiv (10 ^ i), x.Scale⟩ : Number))) k
  (fun i hi => by
   have hb := Int.natAbs_tdiv_le_natAbs x.N (10 ^ i); have hb2 := Int.natAbs_tdiv_le_natAbs (x.N.tdiv (10 ^ i)) 10; simp only [zbi.r0, zbi.b0, hk, dct (show (i : Int) < (k : Int) by omega), ctr]; rw [w6e (n := (i : Int) + 1), w6e, zadr]; rfl)
  (by simp only [zbi.r0, zbi.b0, hk, dcf (show ¬ (k : Int) < (k : Int) by omega), cfa]) (N := N) (by omega)
 simp only [nc0, Int.pow_zero, Int.tdiv_one, eN] at this
 rw [this]
 show some (x.N.tdiv (10 ^ k)) = some (zff x)
 unfold zff
 rw [hk, itn]
theorem zy3 (N : Nat) (hN : 100 < N) {x : Number} (hx : zde x) : zhw N x = some (zff x) := by
 have hw := zq0 hx
 obtain ⟨⟨h1, h2⟩, h3, h4⟩ := hx
 unfold zhw
 have hp := zx1 N hN x.Scale.toNat (by omega)
 rw [Int.toNat_of_nonneg h3] at hp
 have hpos := zcd x.Scale.toNat
 rw [hp, obs, ifn, show ((10 ^ x.Scale.toNat : Nat) : Int) = 10 ^ x.Scale.toNat by rw [Int.natCast_pow]; rfl]
 show some (w6 (zff x)) = _
 rw [w6e]
theorem zwx (n lo hi : Int) : zev n lo hi = some (inB n lo hi) := by
 unfold zev inB
 cases decide (lo ≤ n) <;> rfl
section
variable {p : zB}
def zms (p : zB) (s : zC) (i : Nat) (r : Value × Int) : Except Int zC :=
 if r.2 = 20 then .error 3 else if r.2 = 19 then .error 2 else wrI p s i (zum (og p.zA i).zK r.1.N)
def zpq (N : Nat) (p : zB) (s : zC) (i : Nat) (r : Value × Int) : Option (Int × zC) :=
 cond (r.2 == 20) (some (3, s)) (cond (r.2 != 0) (some (2, s)) ((zbv N p s (i : Int)).bind fun r19 => cond (r19.2 != 0) (some (r19.2, s)) ((zaa N (og p.zA i).zK r.1).bind fun r20 =>
  (zbp N s.Storage r19.1 r20).bind fun r21 => some (0, mS s r21))))
theorem zaas (N : Nat) (hN : 2000 < N) (h : ProgV p) {s : zC} (hs : StoP p s.Storage) {i : Nat} (hi : i < p.zA.length) (hk : isS (og p.zA i).Kind = true) (hn : zc1 (og p.zA i) = true)
 {r : Value × Int} (hr : r.2 = 0 ∨ r.2 = 19 ∨ r.2 = 20) (hS : r.1 = ⟨r.1.N, ⟨#[]⟩⟩) (hb : r.2 = 0 → -((10 ^ (og p.zA i).zK.Length.toNat : Nat) : Int) < r.1.N ∧ r.1.N < ((10 ^ (og p.zA i).zK.Length.toNat : Nat) : Int)) :
 (∃ e, (2 ≤ e ∧ e ≤ 5) ∧ zms p s i r = .error e ∧ zaj N (mI p s 0) (i : Int) r.1 r.2 = some (mI p s e) ∧ zpq N p s i r = some (e, s)) ∨
 ∃ t, zms p s i r = .ok (mS s t) ∧ zaj N (mI p s 0) (i : Int) r.1 r.2 = some (mI p (mS s t) 0) ∧ zpq N p s i r = some (0, mS s t) ∧ StoP p t := by
 have ht := zvz h hi (zpg hk) hn
 unfold zms zaj zpq
 rcases hr with h0 | h0 | h0
 · obtain ⟨b1, b2⟩ := hb h0; have hz := z1i ht r.1.N; rw [h0, ifn (by decide), ifn (by decide)]; simp only [show ((0 : Int) == 20) = false from rfl, show ((0 : Int) == 19) = false from rfl, bsf, cfa, show (mI p s 0).raised = 0 from rfl, bst, ctr, show (mI p s 0).zB = p from rfl]; rw [zf2 hi, hS]; simp only [obs]; rw [z1a N (by omega) ht _ ⟨b1, b2⟩, z2q N (by omega) ht _ ⟨b1, b2⟩]; simp only [obs]; rcases z5b N hN h hs hi hk hz with ⟨e, k, he, h1, h2, h3⟩ | ⟨a, h1, h2, h3, h4, h5⟩
   · left; rw [h1, h2, h3]; refine ⟨e, by omega, rfl, rfl, ?_⟩; rcases he with rfl | rfl <;> rfl
   · right; rw [h1, h2, h3]; refine ⟨_, rfl, rfl, ?_, h5⟩; simp only [obs, bsf, cfa]; rw [h4]; rfl
 · left; rw [h0]; exact ⟨2, by decide, rfl, rfl, rfl⟩
 · left; rw [h0]; exact ⟨3, by decide, rfl, rfl, rfl⟩
theorem z6y (N : Nat) (s : zC) (i : Int) (v : Value) (c : Int) {e : Int} (he : e ≠ 0) : zaj N (mI p s e) i v c = some (mI p s e) := by
 have hf : ((mI p s e).raised == 0) = false := by rw [show (mI p s e).raised = e from rfl, zy]; exact dcf he
 unfold zaj
 rw [zp2 p s he, zp2 p s he]
 simp only [obs, hf, cfa]
 cases (c == 20) <;> cases (c == 19) <;> rfl
structure StI (p : zB) (s : zC) : Prop where
 sto : StoP p s.Storage
 at0 : 0 ≤ s.At
 at1 : s.At < (p.zG.length : Int)
 stk : s.Stack.length ≤ 6
 calls : ∀ i ∈ s.Stack, (0 ≤ i ∧ i < (p.zG.length : Int)) ∧ ∃ x, p.zG[i.toNat]? = some x ∧ x.Op = 13
 lines : s.Lines.length ≤ 40
 long : ∀ l ∈ s.Lines, l.size ≤ 256
 st0 : 0 ≤ s.Status
 st1 : s.Status ≤ 3
 ex0 : 0 ≤ s.Exception
 ex1 : s.Exception ≤ 999
 sp0 : 0 ≤ s.Steps
 sp1 : s.Steps ≤ 300
theorem StI.S {s : zC} (h : StI p s) {t : Storage} (ht : StoP p t) : StI p (mS s t) := { sto := ht, at0 := h.at0, at1 := h.at1, stk := h.stk, calls := h.calls, lines := h.lines, long := h.long, st0 := h.st0, st1 := h.st1, ex0 := h.ex0, ex1 := h.ex1, sp0 := h.sp0, sp1 := h.sp1 }
theorem StI.K {s : zC} (h : StI p s) {l : List Int} (h1 : l.length ≤ 6) (h2 : ∀ i ∈ l, (0 ≤ i ∧ i < (p.zG.length : Int)) ∧ ∃ x, p.zG[i.toNat]? = some x ∧ x.Op = 13) : StI p (mK s l) := { sto := h.sto, at0 := h.at0, at1 := h.at1, stk := h1, calls := h2, lines := h.lines, long := h.long, st0 := h.st0, st1 := h.st1, ex0 := h.ex0, ex1 := h.ex1, sp0 := h.sp0, sp1 := h.sp1 }
theorem StI.T {s : zC} (h : StI p s) {k : Int} (h1 : 0 ≤ k) (h2 : k ≤ 3) : StI p (mT s k) := { sto := h.sto, at0 := h.at0, at1 := h.at1, stk := h.stk, calls := h.calls, lines := h.lines, long := h.long, st0 := h1, st1 := h2, ex0 := h.ex0, ex1 := h.ex1, sp0 := h.sp0, sp1 := h.sp1 }
theorem StI.A {s : zC} (h : StI p s) {k : Int} (h1 : 0 ≤ k) (h2 : k < (p.zG.length : Int)) : StI p (mA s k) := { sto := h.sto, at0 := h1, at1 := h2, stk := h.stk, calls := h.calls, lines := h.lines, long := h.long, st0 := h.st0, st1 := h.st1, ex0 := h.ex0, ex1 := h.ex1, sp0 := h.sp0, sp1 := h.sp1 }
theorem StI.E {s : zC} (h : StI p s) {k : Int} (h1 : 0 ≤ k) (h2 : k ≤ 999) : StI p (mE s k) := { sto := h.sto, at0 := h.at0, at1 := h.at1, stk := h.stk, calls := h.calls, lines := h.lines, long := h.long, st0 := h.st0, st1 := h.st1, ex0 := h1, ex1 := h2, sp0 := h.sp0, sp1 := h.sp1 }
theorem StI.P {s : zC} (h : StI p s) {k : Int} (h1 : 0 ≤ k) (h2 : k ≤ 300) : StI p (mP s k) := { sto := h.sto, at0 := h.at0, at1 := h.at1, stk := h.stk, calls := h.calls, lines := h.lines, long := h.long, st0 := h.st0, st1 := h.st1, ex0 := h.ex0, ex1 := h.ex1, sp0 := h1, sp1 := h2 }
theorem StI.L {s : zC} (h : StI p s) {l : ByteArray} (h1 : s.Lines.length < 40) (h2 : l.size ≤ 256) : StI p (mL s (s.Lines ++ [l])) := {
 sto := h.sto, at0 := h.at0, at1 := h.at1, stk := h.stk, calls := h.calls
 lines := by show (s.Lines ++ [l]).length ≤ 40; rw [lna, lns]; omega
 long := fun y hy => by
  rcases List.mem_append.1 (show y ∈ s.Lines ++ [l] from hy) with h3 | h3
  · exact h.long y h3
  · rw [List.mem_singleton.1 h3]; exact h2
 st0 := h.st0, st1 := h.st1, ex0 := h.ex0, ex1 := h.ex1, sp0 := h.sp0, sp1 := h.sp1 }
def ai (x : zI) (k : Nat) : Nat := (x.Args.getD k 0).toNat
def oa (p : zB) (x : zI) (k : Nat) : zF := og p.zA (ai x k)
def zme (s : zC) (r : Except Int zC) : Except Int (Int × zC) := match r with | .error e => .error e | .ok t => .ok (s.At + 1, t)
def z63 (p : zB) (s : zC) (x : zI) (half : Bool) : Except Int zC := match nuI p s.Storage (ai x 1) with | .error e => .error e | .ok n => zms p s (ai x 0) (zkv n (oa p x 0).zK half)
def zabm (p : zB) (s : zC) (x : zI) : Except Int zC := match byI p s.Storage (ai x 1) with | .error e => .error e | .ok b => wrI p s (ai x 0) (zn3 b (oa p x 0).zK.Length.toNat)
def zus (p : zB) (s : zC) (x : zI) : Except Int zC := match nuI p s.Storage (ai x 1) with | .error e => .error e | .ok a => match nuI p s.Storage (ai x 2) with | .error e => .error e | .ok b => zms p s (ai x 0) (zja (x.Op - 2) a b (oa p x 0).zK false)
def zwt (p : zB) (s : zC) (x : zI) : Except Int Int :=
 if zc1 (oa p x 0) = true then (match nuI p s.Storage (ai x 0) with | .error e => .error e | .ok a => match nuI p s.Storage (ai x 1) with | .error e => .error e | .ok b => .ok (z29 (zai a (zg a b)) (zai b (zg a b))))
 else match byI p s.Storage (ai x 0) with | .error e => .error e | .ok a => match byI p s.Storage (ai x 1) with | .error e => .error e | .ok b => .ok (z7l a b)
def zpl (op o : Int) : Bool := if op = 7 then decide (o = 0) else decide (o < 0)
def zyr (p : zB) (s : zC) (i : Nat) : Except Int ByteArray :=
 if zc1 (og p.zA i) = true then (match nuI p s.Storage i with | .error e => .error e | .ok n => .ok (zro n)) else byI p s.Storage i
def zfy (p : zB) (s : zC) (x : zI) : Except Int (Int × zC) :=
 match x.Op.toNat with
 | 0 => zme s (if zc1 (oa p x 0) = true then z63 p s x false else zabm p s x)
 | 1 => zme s (z63 p s x true)
 | 2 => zme s (zus p s x)
 | 3 => zme s (zus p s x)
 | 4 => zme s (zus p s x)
 | 5 => zme s (zus p s x)
 | 6 => zme s (zus p s x)
 | 7 => (match zwt p s x with | .error e => .error e | .ok o => .ok (cond (zpl 7 o) (oa p x 2).Target (s.At + 1), s))
 | 8 => (match zwt p s x with | .error e => .error e | .ok o => .ok (cond (zpl 8 o) (oa p x 2).Target (s.At + 1), s))
 | 9 => .ok ((oa p x 0).Target, s)
 | 10 => zme s (match adI p s.Storage (ai x 1) with | .error e => .error e | .ok a => .ok (mS s (stV s.Storage (zcm p.zA (ai x 0)).toNat a.toNat)))
 | 11 => zme s (match ldV s.Storage (zcm p.zA (ai x 1)) with | none => .error 4 | some o => .ok (mS s (stV s.Storage (zcm p.zA (ai x 0)).toNat o.toNat)))
 | 12 => zme s (match ldV s.Storage (zcm p.zA (ai x 0)) with
  | none => .error 4
  | some o => match nuI p s.Storage (ai x 1) with
   | .error e => .error e
   | .ok n => if inB (o + zff n) 0 16777215 = true then .ok (mS s (stV s.Storage (zcm p.zA (ai x 0)).toNat (o + zff n).toNat)) else .error 5)
 | 13 => if 6 ≤ s.Stack.length then .error 6 else .ok ((oa p x 0).Target, mK s (s.Stack ++ [s.At]))
 | 14 => if s.Stack.length = 0 then .ok (s.At, mT s 1) else .ok (s.Stack.getD (s.Stack.length - 1) 0 + 1, mK s (s.Stack.take (s.Stack.length - 1)))
 | 15 => (match nuI p s.Storage (ai x 0) with | .error e => .error e | .ok n => if inB (zff n) 100 999 = true then .error (zff n) else .error 2)
 | 16 => zme s (zms p s (ai x 0) (zkv ⟨s.Exception, 0⟩ (oa p x 0).zK false))
 | 17 => (match zyr p s (ai x 0) with | .error e => .error e | .ok l => if s.Lines.length = 40 then .ok (s.At + 1, mT s 3) else .ok (s.At + 1, mL s (s.Lines ++ [l])))
 | _ => .ok (s.At + 1, mT s 1)
def zgl (N : Nat) (p : zB) (s : zC) (x : zI) : Prop :=
 (∃ e nx ny t, zfy p s x = .error e ∧ (1 ≤ e ∧ e ≤ 999) ∧ zd N (mI p s 0) x = some (nx, mI p s e) ∧ zx N p s = some (ny, e, t)) ∨
 ∃ n k t, zfy p s x = .ok (n, t) ∧ zd N (mI p s 0) x = some (n, mI p t 0) ∧ zx N p s = some (k, 0, t) ∧ (t.Status = 0 → k = n ∧ 0 ≤ n ∧ n ≤ (p.zG.length : Int)) ∧ StI p t ∧ t.At = s.At ∧ t.Steps = s.Steps ∧ t.Exception = s.Exception
theorem ze3 (h : ProgV p) {x : zI} (hx : x ∈ p.zG) {k : Nat} {c : Int} (hc : (zhu x.Op)[k]? = some c) :
 idx x.Args (k : Int) = some ((ai x k : Nat) : Int) ∧ ai x k < p.zA.length ∧ zo4 (oa p x k) (zna p x k) c = true := by
 have hi := h.ins x hx
 unfold zra at hi
 split at hi
 · cases hi
 split at hi
 · cases hi
 rename_i h1 h2
 have hk := (gei hc).1
 have hkl : k < x.Args.length := by omega
 have hx := lge hkl
 have he : gA p x k = none := by
  cases hf : (List.range x.Args.length).findSome? (gA p x) with
  | none => exact zjk.1 hf k hkl
  | some r =>
   exfalso
   rw [hf] at hi; simp only at hi; subst hi; obtain ⟨i, _, hi, _⟩ := zjj hf; unfold gA at hi; rw [Option.bind_eq_some_iff] at hi; obtain ⟨a, _, ha⟩ := hi; split at ha
   · split at ha
     · split at ha <;> cases ha
     · cases ha
   · cases ha
 unfold gA at he
 rw [hx, obs] at he
 split at he
 · rename_i hin; have := zbb.1 hin; have hai : ai x k = (x.Args[k]).toNat := by
    unfold ai; rw [gdd, hx]; rfl
   have hlt : ai x k < p.zA.length := by omega
   have ho := zmu hlt; rw [← hai, ho, hc] at he; simp only at he; refine ⟨by rw [zae, hx, hai]; congr 1; omega, hlt, ?_⟩; split at he
   · assumption
   · cases he
 · cases he
theorem zaen (h : ProgV p) {x : zI} (hx : x ∈ p.zG) : 0 ≤ x.Op ∧ x.Op ≤ 18 := by
 have hi := h.ins x hx
 unfold zra at hi
 split at hi
 · cases hi
 · rename_i h1; have := zbb.1 (show inB x.Op 0 18 = true by simpa using h1); exact this
end
section
variable {p : zB} {s : zC}
theorem zud (o : zF) : zcu o = some (zc1 o) := by
 unfold zcu zc1
 rw [zb9]
theorem zqh (h : ProgV p) {i : Nat} (hi : i < p.zA.length) (hk : isD (og p.zA i).Kind = true) : zek p (i : Int) = some (zc1 (og p.zA i)) := by
 unfold zek
 rw [zf2 hi]
 simp only [obs, zqg]
 rw [z3a (zmu hi) (h.ok.ok i hi) hk]
theorem z8n (N : Nat) (hN : 4000 < N) (h : ProgV p) {i : Nat} (hi : i < p.zA.length) (ht : zic (og p.zA i).zK) {x : Number} (hx : zde x) (half : Bool) : zim N p s (i : Int) x half = zpq N p s i (zkv x (og p.zA i).zK half) := by
 unfold zim zpq
 rw [zf2 hi]
 simp only [obs]
 rw [zacg N hN hx ht]
 simp only [obs]
 rcases z4e x (og p.zA i).zK half with h0 | h0 <;> rw [h0] <;> rfl
theorem zoj : zde ⟨0, 0⟩ := ⟨⟨by decide, by decide⟩, by decide, by decide⟩
def zpn (N : Nat) (p : zB) (s : zC) (m : Except Int zC) (prog : Option zD) (rf : Option (Int × zC)) : Prop :=
 (∃ e u, (1 ≤ e ∧ e ≤ 5) ∧ m = .error e ∧ prog = some (mI p s e) ∧ rf = some (e, u)) ∨ ∃ t, m = .ok (mS s t) ∧ prog = some (mI p (mS s t) 0) ∧ rf = some (0, mS s t) ∧ StoP p t
theorem zpn.mk (N : Nat) {m : Except Int zC} {r : Value × Int} {i : Nat} (hN : 2000 < N) (h : ProgV p) (hs : StoP p s.Storage) (hi : i < p.zA.length) (hk : isS (og p.zA i).Kind = true) (hn : zc1 (og p.zA i) = true)
 (hr : r.2 = 0 ∨ r.2 = 19 ∨ r.2 = 20) (hS : r.1 = ⟨r.1.N, ⟨#[]⟩⟩) (hb : r.2 = 0 → -((10 ^ (og p.zA i).zK.Length.toNat : Nat) : Int) < r.1.N ∧ r.1.N < ((10 ^ (og p.zA i).zK.Length.toNat : Nat) : Int)) (hm : m = zms p s i r) :
 zpn N p s m (zaj N (mI p s 0) (i : Int) r.1 r.2) (zpq N p s i r) := by
 subst hm
 rcases zaas N hN h hs hi hk hn hr hS hb with ⟨e, he, h1, h2, h3⟩ | ⟨t, h1, h2, h3, h4⟩
 · exact .inl ⟨e, s, by omega, h1, h2, h3⟩
 · exact .inr ⟨t, h1, h2, h3, h4⟩
theorem z1n (N : Nat) (hN : 4000 < N) (h : ProgV p) (hs : StoP p s.Storage) {i : Nat} (hi : i < p.zA.length) (hk : isS (og p.zA i).Kind = true) (hn : zc1 (og p.zA i) = true) {x : Number} (hx : zde x) (half : Bool) :
 zpn N p s (zms p s i (zkv x (og p.zA i).zK half)) ((zdo N x (og p.zA i).zK half).bind fun r4 => (zaj N (mI p s 0) (i : Int) r4.1 r4.2).bind fun r5 => some r5) (zim N p s (i : Int) x half) := by
 have ht := zvz h hi (zpg hk) hn
 rw [z5p N (by omega) hx ht, z8n N hN h hi ht hx]
 have := zpn.mk (m := zms p s i (zkv x (og p.zA i).zK half)) N (by omega) h hs hi hk hn (by rcases z4e x (og p.zA i).zK half with h | h; exact .inl h; exact .inr (.inl h)) (zaeu x _ half) (fun h0 => z7k h0) rfl
 simp only [obs]
 rcases this with ⟨e, u, he, h1, h2, h3⟩ | ⟨t, h1, h2, h3, h4⟩
 · exact .inl ⟨e, u, he, h1, by rw [h2]; rfl, h3⟩
 · exact .inr ⟨t, h1, by rw [h2]; rfl, h3, h4⟩
theorem z3i (N : Nat) (hN : 4000 < N) (h : ProgV p) (hs : StoP p s.Storage) {i j : Nat} (hi : i < p.zA.length) (hk : isS (og p.zA i).Kind = true) (hn : zc1 (og p.zA i) = true) (hj : j < p.zA.length) (hkj : isD (og p.zA j).Kind = true) (hnj : zc1 (og p.zA j) = true) (half : Bool) :
 zpn N p s (match nuI p s.Storage j with | .error e => .error e | .ok n => zms p s i (zkv n (og p.zA i).zK half)) (zda N (mI p s 0) (i : Int) (j : Int) half)
  ((zbu N p s (j : Int)).bind fun r11 => cond (r11.2 != 0) (some (r11.2, s)) ((zim N p s (i : Int) r11.1 half).bind fun r13 => some (r13.1, r13.2))) := by
 have ht := zvz h hi (zpg hk) hn
 unfold zda
 rw [show (mI p s 0).zB = p from rfl, zf2 hi]
 simp only [obs, zud, hn, ctr]
 rcases zno N (by omega) h hs hj hkj hnj with ⟨e, k, he, h1, h2, h3⟩ | ⟨n, h1, h2, h3, h4⟩
 · left; rw [h1, h2, h3]; simp only [obs]; rw [z5p N (by omega) zoj ht]; simp only [obs]; rw [z6y N s (i : Int) _ _ (show e ≠ 0 by omega), zb9, dct (show e ≠ 0 by omega)]; exact ⟨e, s, by omega, rfl, rfl, rfl⟩
 · rw [h1, h2, h3]; simp only [obs, bsf, cfa]; have := z1n N hN h hs hi hk hn h4 half; rcases this with ⟨e, u, he, g1, g2, g3⟩ | ⟨t, g1, g2, g3, g4⟩
   · exact .inl ⟨e, u, he, g1, g2, by rw [g3]; rfl⟩
   · exact .inr ⟨t, g1, g2, by rw [g3]; rfl, g4⟩
theorem z83 (N : Nat) (hN : 20000 < N) (h : ProgV p) (hs : StoP p s.Storage) {i j : Nat} (hi : i < p.zA.length) (hk : isS (og p.zA i).Kind = true) (hn : zc1 (og p.zA i) = false) (hj : j < p.zA.length) (hkj : isD (og p.zA j).Kind = true) :
 zpn N p s (match byI p s.Storage j with | .error e => .error e | .ok b => wrI p s i (zn3 b (og p.zA i).zK.Length.toNat)) (zda N (mI p s 0) (i : Int) (j : Int) false)
  ((zd4 N p s (j : Int)).bind fun r5 => cond (r5.2 != 0) (some (r5.2, s)) ((zbv N p s (i : Int)).bind fun r6 => cond (r6.2 != 0) (some (r6.2, s))
   ((ze4 N r5.1 (og p.zA i).zK.Length).bind fun r8 => (zbp N s.Storage r6.1 r8).bind fun r9 => some (0, mS s r9)))) := by
 have hty := ((zhy h.ok hi).ty (zpg hk)).1
 have hsz := zd6 hty
 have h0 : (og p.zA i).zK.Kind = 0 := by
  unfold zc1 at hn; have := of_decide_eq_false hn; omega
 have hle : szE (og p.zA i).zK = (og p.zA i).zK.Length := by unfold szE; rw [ifn, ifn, ifn]
 have hL : (og p.zA i).zK.Length = (((og p.zA i).zK.Length.toNat : Nat) : Int) := by omega
 have tail : ∀ b : ByteArray, b.size ≤ 5000 → ∀ M : zD, ((zdc N (og p.zA i)).bind fun r7 => (zeg b r7).bind fun r8 => (zdc N (og p.zA i)).bind fun r9 =>
  if 0 ≤ r9 ∧ r9 ≤ (r8.size : Int) then (if 0 ≤ (0 : Int) ∧ (0 : Int) ≤ r9 then ((zao N M (i : Int) (r8.extract (0 : Int).toNat r9.toNat)).bind fun r10 => some r10) else none) else none) = zao N M (i : Int) (zn3 b (og p.zA i).zK.Length.toNat) := by
  intro b hb M; rw [z0f N (by omega) hty, hle]; simp only [obs]; have hpad := z3s b hb (og p.zA i).zK.Length.toNat (by omega); rw [← hL] at hpad; rw [hpad, obs]; have hps : (⟨(bl b ++ List.replicate ((og p.zA i).zK.Length.toNat - b.size) 32).toArray⟩ : ByteArray).size = b.size + ((og p.zA i).zK.Length.toNat - b.size) := by
   show (bl b ++ List.replicate ((og p.zA i).zK.Length.toNat - b.size) 32).length = _; rw [lna, lnr, zal]
  rw [ifp ⟨by omega, by rw [hps]; omega⟩, ifp, show (0 : Int).toNat = 0 from rfl, z9a]; cases zao N M (i : Int) (zn3 b (og p.zA i).zK.Length.toNat) <;> rfl
 unfold zda
 rw [show (mI p s 0).zB = p from rfl, zf2 hi]
 simp only [obs, zud, hn, cfa]
 rcases zs7 N (by omega) h hs hj hkj with ⟨e, k, he, h1, h2, h3⟩ | ⟨b, h1, h2, h3, h4⟩
 · left; rw [h1, h2, h3]; simp only [obs]; rw [tail _ (by decide), zb9, dct (show e ≠ 0 by omega)]; unfold zao; obtain ⟨j', hj'⟩ := z1t N (by omega) h hs hi hk (show e ≠ 0 by omega); rw [hj']; simp only [obs, show (mI p s e).raised = e from rfl, zy, dcf (show e ≠ 0 by omega), cfa]; exact ⟨e, s, by omega, rfl, rfl, rfl⟩
 · have hzb := zd6 ((zhy h.ok hj).ty hkj).1; have hrp : ze4 N b (og p.zA i).zK.Length = some (zn3 b (og p.zA i).zK.Length.toNat) := by
    have h := zvj N (by omega) b (by omega) (og p.zA i).zK.Length.toNat (by omega); rw [← hL] at h; exact h
   rw [h1, h2, h3]; simp only [obs, bsf, cfa]; rw [tail b (by omega), hrp]; simp only [obs]; rcases z5b N (by omega) h hs hi hk (d := zn3 b (og p.zA i).zK.Length.toNat) (by rw [zvx]; omega) with ⟨e, k, he, g1, g2, g3⟩ | ⟨a, g1, g2, g3, g4, g5⟩
   · left; rw [g2, g3]; simp only [obs, zb9, dct (show e ≠ 0 by omega), ctr]; exact ⟨e, s, by omega, g1, rfl, rfl⟩
   · right; rw [g2, g3]; simp only [obs, bsf, cfa]; rw [g4]; exact ⟨_, g1, rfl, rfl, g5⟩
theorem z9n (N : Nat) (hN : 4000 < N) (h : ProgV p) (hs : StoP p s.Storage) {op : Int} (hop : 0 ≤ op ∧ op ≤ 4) {i : Nat} (hi : i < p.zA.length) (hk : isS (og p.zA i).Kind = true) (hn : zc1 (og p.zA i) = true) {a b : Number} (ha : zde a) (hb : zde b) :
 zpn N p s (zms p s i (zja op a b (og p.zA i).zK false)) ((zfn N op a b (og p.zA i).zK false).bind fun r7 => (zaj N (mI p s 0) (i : Int) r7.1 r7.2).bind fun r9 => some r9)
  ((zfl N (⟨op, (og p.zA i).zK, false⟩ : zS) a b).bind fun r18 => zpq N p s i r18) := by
 have ht := zvz h hi (zpg hk) hn
 rw [zacs N (by omega) hop ha hb ht, zach N hN hop ha hb ht]
 have := zpn.mk (m := zms p s i (zja op a b (og p.zA i).zK false)) N (by omega) h hs hi hk hn (z9o _ _ _ _ _) (zac4 _ _ _ _ _) (fun h0 => z47 h0) rfl
 simp only [obs]
 rcases this with ⟨e, u, he, h1, h2, h3⟩ | ⟨t, h1, h2, h3, h4⟩
 · exact .inl ⟨e, u, he, h1, by rw [h2]; rfl, h3⟩
 · exact .inr ⟨t, h1, by rw [h2]; rfl, h3, h4⟩
theorem zp7 (N : Nat) (h : ProgV p) (hs : StI p s) {x : zI} {m : Except Int zC} {prog : Option zD} {rf : Option (Int × zC)} (hp : zpn N p s m prog rf) (hx : zfy p s x = zme s m)
 (h1 : zd N (mI p s 0) x = prog.bind fun r => some (w6 (s.At + 1), r)) (h2 : zx N p s = rf.bind fun r => some (w6 (s.At + 1), r.1, r.2)) : zgl N p s x := by
 have a0 := hs.at0
 have a1 := hs.at1
 have i40 := h.i40
 have wn1 : w6 (s.At + 1) = s.At + 1 := w6e
 unfold zgl
 rw [hx, h1, h2, wn1]
 rcases hp with ⟨e, u, he, g1, g2, g3⟩ | ⟨t, g1, g2, g3, g4⟩
 · rw [g1, g2, g3]; exact .inl ⟨e, _, _, u, rfl, by omega, rfl, rfl⟩
 · rw [g1, g2, g3]; exact .inr ⟨_, _, _, rfl, rfl, rfl, fun _ => ⟨rfl, by omega, by omega⟩, hs.S g4, rfl, rfl, rfl⟩
theorem zjp (hs : StI p s) {x : zI} (hx : p.zG[s.At.toNat]? = some x) : idx p.zG s.At = some x := by
 unfold idx
 rw [ifp hs.at0, hx]
theorem zaey (N : Nat) (hN : 20000 < N) (h : ProgV p) (hs : StI p s) {x : zI} (hx : p.zG[s.At.toNat]? = some x) (hop : x.Op = 0) : zgl N p s x := by
 have hm := lmg hx
 have hi := zjp hs hx
 obtain ⟨a0, b0, c0⟩ := ze3 h hm (k := 0) (c := 0) (by rw [hop]; rfl)
 obtain ⟨a1, b1, c1⟩ := ze3 h hm (k := 1) (c := 4) (by rw [hop]; rfl)
 have c0 : isS (og p.zA (ai x 0)).Kind = true := c0
 have c1 : (isD (og p.zA (ai x 1)).Kind && (zc1 (og p.zA (ai x 1)) == zc1 (og p.zA (ai x 0)))) = true := c1
 rw [Bool.and_eq_true] at c1
 have cn := eq_of_beq c1.2
 have a0 : idx x.Args 0 = some ((ai x 0 : Nat) : Int) := a0
 have a1 : idx x.Args 1 = some ((ai x 1 : Nat) : Int) := a1
 have hex : zfy p s x = zme s (if zc1 (og p.zA (ai x 0)) = true then z63 p s x false else zabm p s x) := by unfold zfy; rw [hop]; rfl
 cases hn : zc1 (og p.zA (ai x 0)) with
 | true =>
  rw [hn] at hex cn; refine zp7 N h hs (z3i N (by omega) h hs.sto b0 c0 hn b1 c1.1 cn false) hex ?_ ?_
  · unfold zd; simp only [hop, Int.reduceBEq, ctr, cfa, obs, a0, a1]; rfl
  · unfold zx zgp; rw [hi, zeb N (by omega) h.ok]; simp only [hop, Int.reduceBEq, ctr, cfa, obs, a0, a1, zqh h b0 (zpg c0), hn, bnt]
 | false =>
  rw [hn] at hex; refine zp7 N h hs (z83 N (by omega) h hs.sto b0 c0 hn b1 c1.1) hex ?_ ?_
  · unfold zd; simp only [hop, Int.reduceBEq, ctr, cfa, obs, a0, a1]; rfl
  · unfold zx zgp; rw [hi, zeb N (by omega) h.ok]; simp only [hop, Int.reduceBEq, ctr, cfa, obs, a0, a1, zqh h b0 (zpg c0), hn, Bool.not_false, zf2 b0]; rfl
theorem zaex (N : Nat) (hN : 20000 < N) (h : ProgV p) (hs : StI p s) {x : zI} (hx : p.zG[s.At.toNat]? = some x) (hop : x.Op = 1) : zgl N p s x := by
 have hm := lmg hx
 have hi := zjp hs hx
 obtain ⟨a0, b0, c0⟩ := ze3 h hm (k := 0) (c := 2) (by rw [hop]; rfl)
 obtain ⟨a1, b1, c1⟩ := ze3 h hm (k := 1) (c := 3) (by rw [hop]; rfl)
 have c0 : (isS (og p.zA (ai x 0)).Kind && zc1 (og p.zA (ai x 0))) = true := c0
 have c1 : (isD (og p.zA (ai x 1)).Kind && zc1 (og p.zA (ai x 1))) = true := c1
 rw [Bool.and_eq_true] at c0 c1
 have a0 : idx x.Args 0 = some ((ai x 0 : Nat) : Int) := a0
 have a1 : idx x.Args 1 = some ((ai x 1 : Nat) : Int) := a1
 refine zp7 N h hs (z3i N (by omega) h hs.sto b0 c0.1 c0.2 b1 c1.1 c1.2 true) (by unfold zfy; rw [hop]; rfl) ?_ ?_
 · unfold zd; simp only [hop, Int.reduceBEq, ctr, cfa, obs, a0, a1]; rfl
 · unfold zx zgp; rw [hi, zeb N (by omega) h.ok]; simp only [hop, Int.reduceBEq, ctr, cfa, obs, a0, a1]
theorem z9p (N : Nat) (hN : 20000 < N) (h : ProgV p) (hs : StI p s) {x : zI} (hx : p.zG[s.At.toNat]? = some x) (hop : 2 ≤ x.Op ∧ x.Op ≤ 6) : zgl N p s x := by
 have hm := lmg hx
 have hi := zjp hs hx
 have hcls : zhu x.Op = [2, 3, 3] := by
  rcases (by omega : x.Op = 2 ∨ x.Op = 3 ∨ x.Op = 4 ∨ x.Op = 5 ∨ x.Op = 6) with e | e | e | e | e <;> rw [e] <;> rfl
 obtain ⟨a0, b0, c0⟩ := ze3 h hm (k := 0) (c := 2) (by rw [hcls]; rfl)
 obtain ⟨a1, b1, c1⟩ := ze3 h hm (k := 1) (c := 3) (by rw [hcls]; rfl)
 obtain ⟨a2, b2, c2⟩ := ze3 h hm (k := 2) (c := 3) (by rw [hcls]; rfl)
 have c0 : (isS (og p.zA (ai x 0)).Kind && zc1 (og p.zA (ai x 0))) = true := c0
 have c1 : (isD (og p.zA (ai x 1)).Kind && zc1 (og p.zA (ai x 1))) = true := c1
 have c2 : (isD (og p.zA (ai x 2)).Kind && zc1 (og p.zA (ai x 2))) = true := c2
 rw [Bool.and_eq_true] at c0 c1 c2
 have a0 : idx x.Args 0 = some ((ai x 0 : Nat) : Int) := a0
 have a1 : idx x.Args 1 = some ((ai x 1 : Nat) : Int) := a1
 have a2 : idx x.Args 2 = some ((ai x 2 : Nat) : Int) := a2
 have w1 : w6 (x.Op - 2) = x.Op - 2 := w6e
 have w2 : w6 (x.Op - 2 + 0) = x.Op - 2 := by rw [Int.add_zero]; exact w1
 have hel : (([0, 1, 2, 3, 4] : List Int)[(x.Op - 2).toNat]?) = some (x.Op - 2) := by
  rcases (by omega : x.Op = 2 ∨ x.Op = 3 ∨ x.Op = 4 ∨ x.Op = 5 ∨ x.Op = 6) with e | e | e | e | e <;> rw [e] <;> rfl
 have hpart : zpn N p s (zus p s x) (zdn N (mI p s 0) (x.Op - 2) x.Args)
  ((zbu N p s ((ai x 1 : Nat) : Int)).bind fun r11 => cond (r11.2 != 0) (some (r11.2, s)) ((zbu N p s ((ai x 2 : Nat) : Int)).bind fun r15 => cond (r15.2 != 0) (some (r15.2, s))
   ((zfl N (⟨x.Op - 2, (og p.zA (ai x 0)).zK, false⟩ : zS) r11.1 r15.1).bind fun r18 => zpq N p s (ai x 0) r18))) := by
  unfold zus zdn; rw [a0, a1, a2]; simp only [obs]; rcases zno N (by omega) h hs.sto b1 c1.1 c1.2 with ⟨e, k, he, h1, h2, h3⟩ | ⟨n, h1, h2, h3, h4⟩
  · left; rw [h1, h2, h3]; simp only [obs]; rw [z08 N (by omega) h hs.sto b2 c2.1 (show e ≠ 0 by omega)]; simp only [obs, show (mI p s e).raised = e from rfl, zb9, dct (show e ≠ 0 by omega), ctr]; exact ⟨e, s, by omega, rfl, rfl, rfl⟩
  · rw [h1, h2, h3]; simp only [obs, bsf, cfa]; rcases zno N (by omega) h hs.sto b2 c2.1 c2.2 with ⟨e, k, he, g1, g2, g3⟩ | ⟨n2, g1, g2, g3, g4⟩
    · left; rw [g1, g2, g3]; simp only [obs, show (mI p s e).raised = e from rfl, zb9, dct (show e ≠ 0 by omega), ctr]; exact ⟨e, s, by omega, rfl, rfl, rfl⟩
    · rw [g1, g2, g3]; simp only [obs, show (mI p s 0).raised = 0 from rfl, show (mI p s 0).zB = p from rfl, bsf, cfa]; rw [zf2 b0]; simp only [obs]; exact z9n N (by omega) h hs.sto (by omega) b0 c0.1 c0.2 h4 g4
 refine zp7 N h hs hpart ?_ ?_ ?_
 · unfold zfy; rcases (by omega : x.Op = 2 ∨ x.Op = 3 ∨ x.Op = 4 ∨ x.Op = 5 ∨ x.Op = 6) with e | e | e | e | e <;> rw [e] <;> rfl
 · unfold zd; rw [w1, w2]; rcases (by omega : x.Op = 2 ∨ x.Op = 3 ∨ x.Op = 4 ∨ x.Op = 5 ∨ x.Op = 6) with e | e | e | e | e <;> simp only [e, Int.reduceBEq, ctr, cfa, obs] <;> rfl
 · unfold zx zgp; rw [hi, zeb N (by omega) h.ok]; simp only [obs, a0, a1, a2, w1, hel, ifp (show 0 ≤ x.Op - 2 by omega), ifp (show x.Op - 2 < (([0, 1, 2, 3, 4] : List Int).length : Int) by show x.Op - 2 < 5; omega), zf2 b0]; rcases (by omega : x.Op = 2 ∨ x.Op = 3 ∨ x.Op = 4 ∨ x.Op = 5 ∨ x.Op = 6) with e | e | e | e | e <;> simp only [e, Int.reduceBEq, ctr, cfa, obs] <;> rfl
end
section
variable {p : zB} {s : zC}
theorem zaay (N : Nat) (hN : 20000 < N) (h : ProgV p) (hs : StoP p s.Storage) {x : zI} (hop : x.Op = 7 ∨ x.Op = 8) (a0 : idx x.Args 0 = some ((ai x 0 : Nat) : Int)) (a1 : idx x.Args 1 = some ((ai x 1 : Nat) : Int))
 (b0 : ai x 0 < p.zA.length) (b1 : ai x 1 < p.zA.length) (c0 : isD (og p.zA (ai x 0)).Kind = true) (c1 : isD (og p.zA (ai x 1)).Kind = true) (cn : zc1 (og p.zA (ai x 1)) = zc1 (og p.zA (ai x 0))) :
 (∃ e o k, (1 ≤ e ∧ e ≤ 5) ∧ zwt p s x = .error e ∧ zcx N (mI p s 0) ((ai x 0 : Nat) : Int) ((ai x 1 : Nat) : Int) = some (o, mI p s e) ∧ zgq N p s x = some (k, e)) ∨
 ∃ o, zwt p s x = .ok o ∧ zcx N (mI p s 0) ((ai x 0 : Nat) : Int) ((ai x 1 : Nat) : Int) = some (o, mI p s 0) ∧ zgq N p s x = some (zpl x.Op o, 0) := by
 have hcond : ∀ o : Int, (cond (x.Op == 7) (some ((o == 0), (0 : Int))) (some (decide (o < 0), 0))) = some (zpl x.Op o, 0) := fun o => by
  unfold zpl; rcases hop with e | e <;> rw [e]
  · rw [ifp rfl, zy o]; rfl
  · rw [ifn (by decide)]; rfl
 unfold zwt zcx zgq
 rw [show (mI p s 0).zB = p from rfl, zf2 b0, a0, a1]
 simp only [obs, zud]
 rw [zqh h b0 c0]
 simp only [obs]
 show (∃ e o k, _ ∧ (if zc1 (og p.zA (ai x 0)) = true then _ else _) = _ ∧ _ ∧ _) ∨ ∃ o, (if zc1 (og p.zA (ai x 0)) = true then _ else _) = _ ∧ _ ∧ _
 cases hn : zc1 (og p.zA (ai x 0)) with
 | true =>
  rw [hn] at cn; simp only [if_true, ctr]; rcases zno N (by omega) h hs b0 c0 hn with ⟨e, k, he, h1, h2, h3⟩ | ⟨n, h1, h2, h3, h4⟩
  · left; rw [h1, h2, h3]; simp only [obs]; rw [z08 N (by omega) h hs b1 c1 (show e ≠ 0 by omega)]; simp only [obs]; rw [zsl N (by omega) zoj zoj, zb9, dct (show e ≠ 0 by omega)]; exact ⟨e, _, false, by omega, rfl, rfl, rfl⟩
  · rw [h1, h2, h3]; simp only [obs, bsf, cfa]; rcases zno N (by omega) h hs b1 c1 cn with ⟨e, k, he, g1, g2, g3⟩ | ⟨n2, g1, g2, g3, g4⟩
    · left; rw [g1, g2, g3]; simp only [obs]; rw [zsl N (by omega) h4 zoj, zb9, dct (show e ≠ 0 by omega)]; exact ⟨e, _, false, by omega, rfl, rfl, rfl⟩
    · right; rw [g1, g2, g3]; simp only [obs, bsf, cfa]; rw [zsl N (by omega) h4 g4, zaao N (by omega) h4 g4]; simp only [obs, hcond]; exact ⟨_, rfl, rfl, rfl⟩
 | false =>
  simp only [Bool.false_eq_true, if_false, cfa]; have z0 := zd6 ((zhy h.ok b0).ty c0).1; have z1 := zd6 ((zhy h.ok b1).ty c1).1; rcases zs7 N (by omega) h hs b0 c0 with ⟨e, k, he, h1, h2, h3⟩ | ⟨b, h1, h2, h3, h4⟩
  · left; obtain ⟨b', g1, g2⟩ := z1r N (by omega) h hs b1 c1 (show e ≠ 0 by omega); rw [h1, h2, h3]; simp only [obs]; rw [g1]; simp only [obs]; rw [z3v _ _ (by decide) (by omega), zb9, dct (show e ≠ 0 by omega)]; exact ⟨e, _, false, by omega, rfl, rfl, rfl⟩
  · rw [h1, h2, h3]; simp only [obs, bsf, cfa]; rcases zs7 N (by omega) h hs b1 c1 with ⟨e, k, he, g1, g2, g3⟩ | ⟨b2, g1, g2, g3, g4⟩
    · left; rw [g1, g2, g3]; simp only [obs]; rw [z3v _ _ (by omega) (by decide), zb9, dct (show e ≠ 0 by omega)]; exact ⟨e, _, false, by omega, rfl, rfl, rfl⟩
    · right; rw [g1, g2, g3]; simp only [obs, bsf, cfa]; rw [z3v _ _ (by omega) (by omega), zad3 N (by omega) b b2 (by omega) (by omega) (fun o => cond (x.Op == 7) (some ((o == 0), (0 : Int))) (some (decide (o < 0), 0))), hcond]; exact ⟨_, rfl, rfl, rfl⟩
theorem z3q (h : ProgV p) {i : Nat} (hi : i < p.zA.length) (hk : (og p.zA i).Kind = 5) : 0 ≤ (og p.zA i).Target ∧ (og p.zA i).Target < (p.zG.length : Int) := (zhy h.ok hi).tg hk
theorem zuc (i : Nat) (hi : i < p.zA.length) (e : Int) : zce (mI p s e) (i : Int) = some (og p.zA i).Target := by
 unfold zce
 rw [show (mI p s e).zB = p from rfl, zf2 hi]
 rfl
theorem zac6 (N : Nat) (hN : 20000 < N) (h : ProgV p) (hs : StI p s) {x : zI} (hx : p.zG[s.At.toNat]? = some x) (hop : x.Op = 7 ∨ x.Op = 8) : zgl N p s x := by
 have hm := lmg hx
 have hi := zjp hs hx
 have q0 := hs.at0
 have q1 := hs.at1
 have i40 := h.i40
 have wn1 : w6 (s.At + 1) = s.At + 1 := w6e
 have hcls : zhu x.Op = [1, 4, 6] := by rcases hop with e | e <;> rw [e] <;> rfl
 obtain ⟨a0, b0, c0⟩ := ze3 h hm (k := 0) (c := 1) (by rw [hcls]; rfl)
 obtain ⟨a1, b1, c1⟩ := ze3 h hm (k := 1) (c := 4) (by rw [hcls]; rfl)
 obtain ⟨a2, b2, c2⟩ := ze3 h hm (k := 2) (c := 6) (by rw [hcls]; rfl)
 have c0 : isD (og p.zA (ai x 0)).Kind = true := c0
 have c1 : (isD (og p.zA (ai x 1)).Kind && (zc1 (og p.zA (ai x 1)) == zc1 (og p.zA (ai x 0)))) = true := c1
 have c2 : decide ((og p.zA (ai x 2)).Kind = 5) = true := c2
 rw [Bool.and_eq_true] at c1
 have cn := eq_of_beq c1.2
 have lt := z3q h b2 (of_decide_eq_true c2)
 have a0 : idx x.Args 0 = some ((ai x 0 : Nat) : Int) := a0
 have a1 : idx x.Args 1 = some ((ai x 1 : Nat) : Int) := a1
 have a2 : idx x.Args 2 = some ((ai x 2 : Nat) : Int) := a2
 have hex : zfy p s x = (match zwt p s x with | .error e => .error e | .ok o => .ok (cond (zpl x.Op o) (oa p x 2).Target (s.At + 1), s)) := by
  unfold zfy; rcases hop with e | e <;> rw [e] <;> rfl
 have hpr : zd N (mI p s 0) x = (zcx N (mI p s 0) ((ai x 0 : Nat) : Int) ((ai x 1 : Nat) : Int)).bind fun r10 => cond (zpl x.Op r10.1) ((zce r10.2 ((ai x 2 : Nat) : Int)).bind fun r15 => some (r15, r10.2)) (some (s.At + 1, r10.2)) := by
  unfold zd zpl; rcases hop with e | e <;> simp only [e, Int.reduceBEq, ctr, cfa, obs, a0, a1, a2, show (mI p s 0).zC = s from rfl, wn1]
  · congr 1
    funext r
    rw [ifp trivial, zy]; cases decide (r.1 = 0) <;> rfl
  · congr 1
 have hrf : zx N p s = (zgq N p s x).bind fun r6 => cond (r6.2 != 0) (some (0, r6.2, s)) (cond r6.1 (some ((og p.zA (ai x 2)).Target, 0, s)) (some (s.At + 1, 0, s))) := by
  unfold zx; rw [hi, zeb N (by omega) h.ok]; rcases hop with e | e <;> simp only [e, Int.reduceBEq, ctr, cfa, obs, a2, zf2 b2, wn1]
 unfold zgl
 rw [hex, hpr, hrf]
 rcases zaay N hN h hs.sto hop a0 a1 b0 b1 c0 c1.1 cn with ⟨e, o, k, he, h1, h2, h3⟩ | ⟨o, h1, h2, h3⟩
 · left; rw [h1, h2, h3]; simp only [obs, zb9, dct (show e ≠ 0 by omega), ctr]; rw [zuc _ b2]; cases zpl x.Op o
   · exact ⟨e, _, _, _, rfl, by omega, rfl, rfl⟩
   · exact ⟨e, _, _, _, rfl, by omega, rfl, rfl⟩
 · right; rw [h1, h2, h3]; simp only [obs, bsf, cfa]; rw [zuc _ b2]; cases zpl x.Op o
   · exact ⟨_, _, _, rfl, rfl, rfl, fun _ => ⟨rfl, by show 0 ≤ s.At + 1; omega, by show s.At + 1 ≤ _; omega⟩, hs, rfl, rfl, rfl⟩
   · exact ⟨_, _, _, rfl, rfl, rfl, fun _ => ⟨rfl, by show 0 ≤ (og p.zA (ai x 2)).Target; omega, by show (og p.zA (ai x 2)).Target ≤ _; omega⟩, hs, rfl, rfl, rfl⟩
theorem zaew (N : Nat) (hN : 20000 < N) (h : ProgV p) (hs : StI p s) {x : zI} (hx : p.zG[s.At.toNat]? = some x) (hop : x.Op = 9) : zgl N p s x := by
 have hm := lmg hx
 have hi := zjp hs hx
 obtain ⟨a0, b0, c0⟩ := ze3 h hm (k := 0) (c := 6) (by rw [hop]; rfl)
 have c0 : decide ((og p.zA (ai x 0)).Kind = 5) = true := c0
 have lt := z3q h b0 (of_decide_eq_true c0)
 have a0 : idx x.Args 0 = some ((ai x 0 : Nat) : Int) := a0
 right
 refine ⟨(og p.zA (ai x 0)).Target, (og p.zA (ai x 0)).Target, s, by unfold zfy; rw [hop]; rfl, ?_, ?_, fun _ => ⟨rfl, by omega, by omega⟩, hs, rfl, rfl, rfl⟩
 · unfold zd; simp only [hop, Int.reduceBEq, ctr, cfa, obs, a0]; rw [zuc _ b0]; rfl
 · unfold zx; rw [hi, zeb N (by omega) h.ok]; simp only [hop, Int.reduceBEq, ctr, cfa, obs, a0, zf2 b0]
theorem ztg (N : Nat) (hN : 2000 < N) (h : ProgV p) (hs : StoP p s.Storage) {i : Nat} (hi : i < p.zA.length) (h3 : (og p.zA i).Kind = 3) (o : Nat) (ho : o ≤ 16777215) :
 zcf N s.Storage (zcm p.zA i) (zh3 o) = some (stV s.Storage (zcm p.zA i).toNat o, 0) ∧ zfr N s.Storage (zcm p.zA i) (zh3 o) = some (stV s.Storage (zcm p.zA i).toNat o) ∧ StoP p (stV s.Storage (zcm p.zA i).toNat o) := by
 obtain ⟨q, l0, l1, l2⟩ := zs1 h hi h3 hs
 refine ⟨z97 N hN hs.sto q o ho, zaai N hN hs.sto q o ho, ⟨zadu hs.sto (by omega) (by omega) ho, by rw [z98 (by omega)]; exact hs.size⟩⟩
theorem zadf (N : Nat) (hN : 20000 < N) (h : ProgV p) (hs : StI p s) {x : zI} (hx : p.zG[s.At.toNat]? = some x) (hop : x.Op = 10) : zgl N p s x := by
 have hm := lmg hx
 have hi := zjp hs hx
 have q0 := hs.at0
 have q1 := hs.at1
 have i40 := h.i40
 have wn1 : w6 (s.At + 1) = s.At + 1 := w6e
 have hl := hs.sto.sto.le
 obtain ⟨a0, b0, c0⟩ := ze3 h hm (k := 0) (c := 5) (by rw [hop]; rfl)
 obtain ⟨a1, b1, c1⟩ := ze3 h hm (k := 1) (c := 0) (by rw [hop]; rfl)
 have c0 : decide ((og p.zA (ai x 0)).Kind = 3) = true := c0
 have c0 := of_decide_eq_true c0
 have c1 : isS (og p.zA (ai x 1)).Kind = true := c1
 have a0 : idx x.Args 0 = some ((ai x 0 : Nat) : Int) := a0
 have a1 : idx x.Args 1 = some ((ai x 1 : Nat) : Int) := a1
 have hz := zd6 ((zhy h.ok b1).ty (zpg c1)).1
 have hex : zfy p s x = zme s (match adI p s.Storage (ai x 1) with | .error e => .error e | .ok a => .ok (mS s (stV s.Storage (zcm p.zA (ai x 0)).toNat a.toNat))) := by unfold zfy; rw [hop]; rfl
 have hpr : zd N (mI p s 0) x = (zdv N (mI p s 0) x.Args).bind fun r => some (s.At + 1, r) := by
  unfold zd; simp only [hop, Int.reduceBEq, ctr, cfa, obs, show (mI p s 0).zC = s from rfl, wn1]
 have hrf : zx N p s = (zbv N p s ((ai x 1 : Nat) : Int)).bind fun r12 => cond (r12.2 != 0) (some (0, r12.2, s)) ((zfr N s.Storage (zcm p.zA (ai x 0)) (⟨0, (⟨1, r12.1⟩ : Address), 0⟩ : Pointer)).bind fun r15 => some (s.At + 1, 0, mS s r15)) := by
  unfold zx; rw [hi, zeb N (by omega) h.ok]; simp only [hop, Int.reduceBEq, ctr, cfa, obs, a0, a1, zjd b0, wn1]; rfl
 unfold zgl
 rw [hex, hpr, hrf]
 unfold zdv
 rw [a0, a1]
 simp only [obs]
 rcases z0q N (by omega) h hs.sto b1 c1 with ⟨e, j, k, he, h1, h2, h3⟩ | ⟨a, h1, h2, h3, h4, h5⟩
 · left; rw [h1, h2, h3]; simp only [obs, show (mI p s e).raised = e from rfl, zy, zb9, dct (show e ≠ 0 by omega), dcf (show ¬ e = 0 by omega), ctr, cfa]; exact ⟨e, _, _, _, rfl, by omega, rfl, rfl⟩
 · right; obtain ⟨a, rfl⟩ : ∃ k : Nat, a = (k : Int) := ⟨a.toNat, by omega⟩; obtain ⟨g1, g2, g3⟩ := ztg N (by omega) h hs.sto b0 c0 a (by omega); rw [h1, h2, h3]; simp only [obs, show (mI p s 0).raised = 0 from rfl, show (mI p s 0).layout = zls p.zA from rfl, show (mI p s 0).zC = s from rfl, bst, bsf, ctr, cfa]; rw [zjd b0]; simp only [obs]; rw [show (⟨0, (⟨1, (a : Int)⟩ : Address), 0⟩ : Pointer) = zh3 a from rfl, g1, g2]; exact ⟨_, _, _, rfl, rfl, rfl, fun _ => ⟨rfl, by omega, by omega⟩, hs.S g3, rfl, rfl, rfl⟩
theorem zade (N : Nat) (hN : 20000 < N) (h : ProgV p) (hs : StI p s) {x : zI} (hx : p.zG[s.At.toNat]? = some x) (hop : x.Op = 11) : zgl N p s x := by
 have hm := lmg hx
 have hi := zjp hs hx
 have q0 := hs.at0
 have q1 := hs.at1
 have i40 := h.i40
 have wn1 : w6 (s.At + 1) = s.At + 1 := w6e
 obtain ⟨a0, b0, c0⟩ := ze3 h hm (k := 0) (c := 5) (by rw [hop]; rfl)
 obtain ⟨a1, b1, c1⟩ := ze3 h hm (k := 1) (c := 5) (by rw [hop]; rfl)
 have c0 : decide ((og p.zA (ai x 0)).Kind = 3) = true := c0
 have c0 := of_decide_eq_true c0
 have c1 : decide ((og p.zA (ai x 1)).Kind = 3) = true := c1
 have c1 := of_decide_eq_true c1
 have a0 : idx x.Args 0 = some ((ai x 0 : Nat) : Int) := a0
 have a1 : idx x.Args 1 = some ((ai x 1 : Nat) : Int) := a1
 have hex : zfy p s x = zme s (match ldV s.Storage (zcm p.zA (ai x 1)) with | none => .error 4 | some o => .ok (mS s (stV s.Storage (zcm p.zA (ai x 0)).toNat o.toNat))) := by unfold zfy; rw [hop]; rfl
 have hpr : zd N (mI p s 0) x = (zc2 N (mI p s 0) x.Args).bind fun r => some (s.At + 1, r) := by
  unfold zd; simp only [hop, Int.reduceBEq, ctr, cfa, obs, show (mI p s 0).zC = s from rfl, wn1]
 have hrf : zx N p s = (zg4 N s.Storage (zcm p.zA (ai x 1))).bind fun r18 => cond (r18.2 != 0) (some (0, 4, s)) ((zfr N s.Storage (zcm p.zA (ai x 0)) r18.1).bind fun r21 => some (s.At + 1, 0, mS s r21)) := by
  unfold zx; rw [hi, zeb N (by omega) h.ok]; simp only [hop, Int.reduceBEq, ctr, cfa, obs, a0, a1, zjd b0, zjd b1, wn1]; rfl
 unfold zgl
 rw [hex, hpr, hrf]
 unfold zc2
 rw [a0, a1]
 simp only [obs]
 rw [zqk N (by omega) h hs.sto b1 c1, zz8 N (by omega) hs.sto.sto (zs1 h b1 c1 hs.sto).1]
 cases hld : ldV s.Storage (zcm p.zA (ai x 1)) with
 | none => exact .inl ⟨4, _, _, _, rfl, by decide, rfl, rfl⟩
 | some o =>
  right; have ho := zv3 hs.sto.sto hld; obtain ⟨o, rfl⟩ : ∃ k : Nat, o = (k : Int) := ⟨o.toNat, by omega⟩; obtain ⟨g1, g2, g3⟩ := ztg N (by omega) h hs.sto b0 c0 o (by omega); simp only [obs, show (mI p s 0).raised = 0 from rfl, show (mI p s 0).layout = zls p.zA from rfl, show (mI p s 0).zC = s from rfl, bst, bsf, ctr, cfa]; rw [zjd b0]; simp only [obs]; rw [g1, g2]; exact ⟨_, _, _, rfl, rfl, rfl, fun _ => ⟨rfl, by omega, by omega⟩, hs.S g3, rfl, rfl, rfl⟩
theorem zadd (N : Nat) (hN : 20000 < N) (h : ProgV p) (hs : StI p s) {x : zI} (hx : p.zG[s.At.toNat]? = some x) (hop : x.Op = 12) : zgl N p s x := by
 have hm := lmg hx
 have hi := zjp hs hx
 have q0 := hs.at0
 have q1 := hs.at1
 have i40 := h.i40
 have wn1 : w6 (s.At + 1) = s.At + 1 := w6e
 obtain ⟨a0, b0, c0⟩ := ze3 h hm (k := 0) (c := 5) (by rw [hop]; rfl)
 obtain ⟨a1, b1, c1⟩ := ze3 h hm (k := 1) (c := 3) (by rw [hop]; rfl)
 have c0 : decide ((og p.zA (ai x 0)).Kind = 3) = true := c0
 have c0 := of_decide_eq_true c0
 have c1 : (isD (og p.zA (ai x 1)).Kind && zc1 (og p.zA (ai x 1))) = true := c1
 rw [Bool.and_eq_true] at c1
 have a0 : idx x.Args 0 = some ((ai x 0 : Nat) : Int) := a0
 have a1 : idx x.Args 1 = some ((ai x 1 : Nat) : Int) := a1
 have hex : zfy p s x = zme s (match ldV s.Storage (zcm p.zA (ai x 0)) with
  | none => .error 4
  | some o => match nuI p s.Storage (ai x 1) with
   | .error e => .error e
   | .ok n => if inB (o + zff n) 0 16777215 = true then .ok (mS s (stV s.Storage (zcm p.zA (ai x 0)).toNat (o + zff n).toNat)) else .error 5) := by unfold zfy; rw [hop]; rfl
 have hpr : zd N (mI p s 0) x = (zd7 N (mI p s 0) x.Args).bind fun r => some (s.At + 1, r) := by
  unfold zd; simp only [hop, Int.reduceBEq, ctr, cfa, obs, show (mI p s 0).zC = s from rfl, wn1]
 have hrf : zx N p s = (zg4 N s.Storage (zcm p.zA (ai x 0))).bind fun r24 => cond (r24.2 != 0) (some (0, 4, s)) ((zbu N p s ((ai x 1 : Nat) : Int)).bind fun r26 => cond (r26.2 != 0) (some (0, r26.2, s)) ((zhw N r26.1).bind fun r27 =>
  cond (!inB (w6 (r24.1.Address.Offset + r27)) 0 16777215) (some (0, 5, s)) ((zfr N s.Storage (zcm p.zA (ai x 0)) (⟨r24.1.Kind, (⟨r24.1.Address.zV, (w6 (r24.1.Address.Offset + r27))⟩ : Address), r24.1.Authority⟩ : Pointer)).bind fun r31 => some (s.At + 1, 0, mS s r31)))) := by
  unfold zx; rw [hi, zeb N (by omega) h.ok]; simp only [hop, Int.reduceBEq, ctr, cfa, obs, a0, a1, zjd b0, wn1, zg2]; rfl
 unfold zgl
 rw [hex, hpr, hrf]
 unfold zd7
 rw [a0, a1]
 simp only [obs]
 rw [zqk N (by omega) h hs.sto b0 c0, zz8 N (by omega) hs.sto.sto (zs1 h b0 c0 hs.sto).1]
 cases hld : ldV s.Storage (zcm p.zA (ai x 0)) with
 | none => exact .inl ⟨4, _, _, _, rfl, by decide, rfl, rfl⟩
 | some o =>
  have ho := zv3 hs.sto.sto hld; simp only [obs, show (mI p s 0).raised = 0 from rfl, bsf, cfa]; rcases zno N (by omega) h hs.sto b1 c1.1 c1.2 with ⟨e, k, he, h1, h2, h3⟩ | ⟨n, h1, h2, h3, h4⟩
  · left; rw [h1, h2, h3]; simp only [obs]; rw [zub N (by omega) zoj]; simp only [obs, show (mI p s e).raised = e from rfl, zb9, dct (show e ≠ 0 by omega), ctr]; exact ⟨e, _, _, _, rfl, by omega, rfl, rfl⟩
  · have hw := zq0 h4; rw [h1, h2, h3]; simp only [obs, show (mI p s 0).raised = 0 from rfl, bsf, cfa]; rw [zub N (by omega) h4, zy3 N (by omega) h4]; simp only [obs, zwx, show (zh3 o).Address.Offset = o from rfl]; rw [w6e (n := o + zff n)]; cases hin : inB (o + zff n) 0 16777215 with
    | false => exact .inl ⟨5, _, _, _, rfl, by decide, rfl, rfl⟩
    | true =>
     right; have hr := zbb.1 hin; obtain ⟨q, hq⟩ : ∃ k : Nat, o + zff n = (k : Int) := ⟨(o + zff n).toNat, by omega⟩; obtain ⟨g1, g2, g3⟩ := ztg N (by omega) h hs.sto b0 c0 q (by omega); simp only [bnt, cfa, if_true, show (mI p s 0).zC = s from rfl]; rw [hq, show (⟨(zh3 o).Kind, (⟨(zh3 o).Address.zV, (q : Int)⟩ : Address), (zh3 o).Authority⟩ : Pointer) = zh3 q from rfl, g1, g2]; exact ⟨_, _, _, rfl, rfl, rfl, fun _ => ⟨rfl, by omega, by omega⟩, hs.S g3, rfl, rfl, rfl⟩
end
section
variable {p : zB} {s : zC}
theorem zadc (N : Nat) (hN : 20000 < N) (h : ProgV p) (hs : StI p s) {x : zI} (hx : p.zG[s.At.toNat]? = some x) (hop : x.Op = 13) : zgl N p s x := by
 have hm := lmg hx
 have hi := zjp hs hx
 have q0 := hs.at0
 have q1 := hs.at1
 have st := hs.stk
 obtain ⟨a0, b0, c0⟩ := ze3 h hm (k := 0) (c := 6) (by rw [hop]; rfl)
 have c0 : decide ((og p.zA (ai x 0)).Kind = 5) = true := c0
 have lt := z3q h b0 (of_decide_eq_true c0)
 have a0 : idx x.Args 0 = some ((ai x 0 : Nat) : Int) := a0
 have hex : zfy p s x = if 6 ≤ s.Stack.length then .error 6 else .ok ((og p.zA (ai x 0)).Target, mK s (s.Stack ++ [s.At])) := by unfold zfy; rw [hop]; rfl
 have hpr : zd N (mI p s 0) x = (ze1 (mI p s 0) (og p.zA (ai x 0)).Target).bind fun r => some (r.1, r.2) := by
  unfold zd; simp only [hop, Int.reduceBEq, ctr, cfa, obs, a0, zuc _ b0]
 have hrf : zx N p s = cond ((s.Stack.length : Int) == 6) (some (0, 6, s)) (cond (Nat.ble ((s.Stack.length + ([s.At] : List Int).length) * 8) za3) (some ((og p.zA (ai x 0)).Target, 0, mK s (s.Stack ++ [s.At]))) none) := by
  unfold zx; rw [hi, zeb N (by omega) h.ok]; simp only [hop, Int.reduceBEq, ctr, cfa, obs, a0, zf2 b0]; rfl
 unfold zgl
 rw [hex, hpr, hrf]
 unfold ze1 zjf
 simp only [show (mI p s 0).zC = s from rfl, lns, zy]
 by_cases h6 : 6 ≤ s.Stack.length
 · left; rw [ifp h6, dct (show (s.Stack.length : Int) ≥ 6 by omega), dct (show (s.Stack.length : Int) = 6 by omega)]; exact ⟨6, _, _, _, rfl, by decide, rfl, rfl⟩
 · right; rw [ifn h6, dcf (show ¬ (s.Stack.length : Int) ≥ 6 by omega), dcf (show ¬ (s.Stack.length : Int) = 6 by omega), zag (by omega), zag (by omega)]; simp only [cfa, ctr, obs]; rw [zag (by omega)]; refine ⟨_, _, _, rfl, rfl, rfl, fun _ => ⟨rfl, by omega, by omega⟩, hs.K (by rw [lna, lns]; omega) (fun i hi => ?_), rfl, rfl, rfl⟩; rcases List.mem_append.1 hi with g | g
   · exact hs.calls i g
   · rw [List.mem_singleton.1 g]; exact ⟨⟨q0, q1⟩, x, hx, hop⟩
theorem zadb (N : Nat) (hN : 20000 < N) (h : ProgV p) (hs : StI p s) {x : zI} (hx : p.zG[s.At.toNat]? = some x) (hop : x.Op = 14) : zgl N p s x := by
 have hi := zjp hs hx
 have q0 := hs.at0
 have q1 := hs.at1
 have st := hs.stk
 have i40 := h.i40
 have hex : zfy p s x = if s.Stack.length = 0 then .ok (s.At, mT s 1) else .ok (s.Stack.getD (s.Stack.length - 1) 0 + 1, mK s (s.Stack.take (s.Stack.length - 1))) := by unfold zfy; rw [hop]; rfl
 have hpr : zd N (mI p s 0) x = (ze2 (mI p s 0)).bind fun r => some (r.1, r.2) := by
  unfold zd; simp only [hop, Int.reduceBEq, ctr, cfa, obs]
 unfold zgl zx
 rw [hex, hpr, hi, zeb N (by omega) h.ok]
 simp only [hop, Int.reduceBEq, ctr, cfa, obs]
 unfold ze2
 simp only [show (mI p s 0).zC = s from rfl, zy]
 right
 by_cases h0 : s.Stack.length = 0
 · rw [ifp h0, dct (show (s.Stack.length : Int) = 0 by omega)]; exact ⟨_, _, _, rfl, rfl, rfl, fun h => (by cases h), hs.T (by decide) (by decide), rfl, rfl, rfl⟩
 · rw [ifn h0, dcf (show ¬ (s.Stack.length : Int) = 0 by omega)]; simp only [cfa]; have wl : w6 ((s.Stack.length : Int) - 1) = ((s.Stack.length - 1 : Nat) : Int) := by rw [w6e]; omega
   have hg : s.Stack[s.Stack.length - 1]? = some (s.Stack.getD (s.Stack.length - 1) 0) := by
    rw [gdd, lge (by omega)]; rfl
   have hc := hs.calls _ (lmg hg); have wn : w6 (s.Stack.getD (s.Stack.length - 1) 0 + 1) = s.Stack.getD (s.Stack.length - 1) 0 + 1 := w6e; have k1 : 0 ≤ ((s.Stack.length - 1 : Nat) : Int) ∧ ((s.Stack.length - 1 : Nat) : Int) ≤ (s.Stack.length : Int) := by omega
   have k2 : 0 ≤ (0 : Int) ∧ (0 : Int) ≤ ((s.Stack.length - 1 : Nat) : Int) := by omega
   have k3 : 0 ≤ ((s.Stack.length - 1 : Nat) : Int) := by omega
   have k4 : ((s.Stack.length - 1 : Nat) : Int) < (s.Stack.length : Int) := by omega
   simp only [wl, zae, itn, hg, obs, ifp k1, ifp k2, ifp k3, ifp k4, wn]; unfold zjf; rw [show (s.Stack.take (s.Stack.length - 1)).drop (0 : Int).toNat = s.Stack.take (s.Stack.length - 1) from rfl, zag (by rw [lnt]; omega)]; refine ⟨_, _, _, rfl, rfl, rfl, fun _ => ⟨rfl, by omega, by omega⟩, hs.K (by rw [lnt]; omega) (fun i hi => hs.calls i (List.mem_of_mem_take hi)), rfl, rfl, rfl⟩
theorem zada (N : Nat) (hN : 20000 < N) (h : ProgV p) (hs : StI p s) {x : zI} (hx : p.zG[s.At.toNat]? = some x) (hop : x.Op = 15) : zgl N p s x := by
 have hm := lmg hx
 have hi := zjp hs hx
 obtain ⟨a0, b0, c0⟩ := ze3 h hm (k := 0) (c := 3) (by rw [hop]; rfl)
 have c0 : (isD (og p.zA (ai x 0)).Kind && zc1 (og p.zA (ai x 0))) = true := c0
 rw [Bool.and_eq_true] at c0
 have a0 : idx x.Args 0 = some ((ai x 0 : Nat) : Int) := a0
 have hex : zfy p s x = (match nuI p s.Storage (ai x 0) with | .error e => .error e | .ok n => if inB (zff n) 100 999 = true then .error (zff n) else .error 2) := by unfold zfy; rw [hop]; rfl
 have hpr : zd N (mI p s 0) x = (zeh N (mI p s 0) ((ai x 0 : Nat) : Int)).bind fun r => some (w6 (s.At + 1), r) := by
  unfold zd; simp only [hop, Int.reduceBEq, ctr, cfa, obs, a0]; rfl
 have hrf : zx N p s = (zbu N p s ((ai x 0 : Nat) : Int)).bind fun r36 => cond (r36.2 != 0) (some (0, r36.2, s)) ((zhw N r36.1).bind fun r37 => cond (inB r37 100 999) (some (0, r37, s)) (some (0, 2, s))) := by
  unfold zx; rw [hi, zeb N (by omega) h.ok]; simp only [hop, Int.reduceBEq, ctr, cfa, obs, a0, zg2]
 unfold zgl
 rw [hex, hpr, hrf]
 unfold zeh
 left
 rcases zno N (by omega) h hs.sto b0 c0.1 c0.2 with ⟨e, k, he, h1, h2, h3⟩ | ⟨n, h1, h2, h3, h4⟩
 · rw [h1, h2, h3]; simp only [obs]; rw [zub N (by omega) zoj]; simp only [obs, zwx]; rw [zp2 p s (show e ≠ 0 by omega), zp2 p s (show e ≠ 0 by omega), zb9, dct (show e ≠ 0 by omega)]; exact ⟨e, _, _, _, rfl, by omega, by cases inB (zff ⟨0, 0⟩) 100 999 <;> rfl, rfl⟩
 · have hw := zq0 h4; rw [h1, h2, h3]; simp only [obs, bsf, cfa]; rw [zub N (by omega) h4, zy3 N (by omega) h4]; simp only [obs, zwx, z1e]; cases hin : inB (zff n) 100 999 with
   | true =>
    have := zbb.1 hin; exact ⟨zff n, _, _, _, rfl, by omega, rfl, rfl⟩
   | false => exact ⟨2, _, _, _, rfl, by omega, rfl, rfl⟩
theorem zac9 (N : Nat) (hN : 20000 < N) (h : ProgV p) (hs : StI p s) {x : zI} (hx : p.zG[s.At.toNat]? = some x) (hop : x.Op = 16) : zgl N p s x := by
 have hm := lmg hx
 have hi := zjp hs hx
 have e0 := hs.ex0
 have e1 := hs.ex1
 obtain ⟨a0, b0, c0⟩ := ze3 h hm (k := 0) (c := 2) (by rw [hop]; rfl)
 have c0 : (isS (og p.zA (ai x 0)).Kind && zc1 (og p.zA (ai x 0))) = true := c0
 rw [Bool.and_eq_true] at c0
 have a0 : idx x.Args 0 = some ((ai x 0 : Nat) : Int) := a0
 have hn : zde ⟨s.Exception, 0⟩ := ⟨⟨by show -999999999999999 ≤ s.Exception; omega, by show s.Exception ≤ 999999999999999; omega⟩, (by show (0 : Int) ≤ 0; decide), (by show (0 : Int) ≤ 15; decide)⟩
 refine zp7 N h hs (z1n N (by omega) h hs.sto b0 c0.1 c0.2 hn false) (by unfold zfy; rw [hop]; rfl) ?_ ?_
 · unfold zd; simp only [hop, Int.reduceBEq, ctr, cfa, obs, a0, show (mI p s 0).zC = s from rfl, show (mI p s 0).zB = p from rfl, zf2 b0]; cases zdo N (⟨s.Exception, 0⟩ : Number) (og p.zA (ai x 0)).zK false with
   | none => rfl
   | some r =>
    simp only [obs]; cases zaj N (mI p s 0) ((ai x 0 : Nat) : Int) r.1 r.2 <;> rfl
 · unfold zx; rw [hi, zeb N (by omega) h.ok]; simp only [hop, Int.reduceBEq, ctr, cfa, obs, a0]
theorem z71 (N : Nat) (hN : 20000 < N) (h : ProgV p) (hs : StoP p s.Storage) {i : Nat} (hi : i < p.zA.length) (hk : isD (og p.zA i).Kind = true) :
 (∃ e l k, (1 ≤ e ∧ e ≤ 5) ∧ zyr p s i = .error e ∧ zd5 N (mI p s 0) (i : Int) = some (l, mI p s e) ∧ zjh N p s (i : Int) = some (k, e)) ∨
 ∃ l, zyr p s i = .ok l ∧ zd5 N (mI p s 0) (i : Int) = some (l, mI p s 0) ∧ zjh N p s (i : Int) = some (l, 0) ∧ l.size ≤ 256 := by
 unfold zyr zd5 zjh
 rw [show (mI p s 0).zB = p from rfl, zf2 hi, zqh h hi hk]
 simp only [obs, zud]
 cases hn : zc1 (og p.zA i) with
 | true =>
  simp only [if_true, bnt, cfa]; rcases zno N (by omega) h hs hi hk hn with ⟨e, k, he, h1, h2, h3⟩ | ⟨n, h1, h2, h3, h4⟩
  · left; rw [h1, h2, h3]; simp only [obs]; rw [z09 zoj, zb9, dct (show e ≠ 0 by omega)]; exact ⟨e, _, _, by omega, rfl, rfl, rfl⟩
  · right; rw [h1, h2, h3]; simp only [obs, bsf, cfa]; rw [z09 h4, zacd N (by omega) h4]; exact ⟨_, rfl, rfl, rfl, z6f h4⟩
 | false =>
  simp only [Bool.false_eq_true, if_false, Bool.not_false, ctr]; have hz := zd6 ((zhy h.ok hi).ty hk).1; rcases zs7 N (by omega) h hs hi hk with ⟨e, k, he, h1, h2, h3⟩ | ⟨b, h1, h2, h3, h4⟩
  · left; rw [h1, h2, h3]; exact ⟨e, _, _, by omega, rfl, rfl, rfl⟩
  · right; rw [h1, h2, h3]; exact ⟨_, rfl, rfl, rfl, by omega⟩
theorem zac8 (N : Nat) (hN : 20000 < N) (h : ProgV p) (hs : StI p s) {x : zI} (hx : p.zG[s.At.toNat]? = some x) (hop : x.Op = 17) : zgl N p s x := by
 have hm := lmg hx
 have hi := zjp hs hx
 have q0 := hs.at0
 have q1 := hs.at1
 have i40 := h.i40
 have ln := hs.lines
 have wn1 : w6 (s.At + 1) = s.At + 1 := w6e
 obtain ⟨a0, b0, c0⟩ := ze3 h hm (k := 0) (c := 1) (by rw [hop]; rfl)
 have c0 : isD (og p.zA (ai x 0)).Kind = true := c0
 have a0 : idx x.Args 0 = some ((ai x 0 : Nat) : Int) := a0
 have hex : zfy p s x = (match zyr p s (ai x 0) with | .error e => .error e | .ok l => if s.Lines.length = 40 then .ok (s.At + 1, mT s 3) else .ok (s.At + 1, mL s (s.Lines ++ [l]))) := by unfold zfy; rw [hop]; rfl
 have hpr : zd N (mI p s 0) x = (zeq N (mI p s 0) ((ai x 0 : Nat) : Int)).bind fun r => some (s.At + 1, r) := by
  unfold zd; simp only [hop, Int.reduceBEq, ctr, cfa, obs, a0, show (mI p s 0).zC = s from rfl, wn1]
 have hrf : zx N p s = (zjh N p s ((ai x 0 : Nat) : Int)).bind fun r42 => cond (r42.2 != 0) (some (0, r42.2, s)) (cond ((s.Lines.length : Int) == 40) (some (s.At + 1, 0, mT s 3))
  (cond (Nat.ble ((s.Lines.length + ([r42.1] : List ByteArray).length) * 16) za3) (some (s.At + 1, 0, mL s (s.Lines ++ [r42.1]))) none)) := by
  unfold zx; rw [hi, zeb N (by omega) h.ok]; simp only [hop, Int.reduceBEq, ctr, cfa, obs, a0, wn1]; rfl
 unfold zgl
 rw [hex, hpr, hrf]
 unfold zeq
 rcases z71 N hN h hs.sto b0 c0 with ⟨e, l, k, he, h1, h2, h3⟩ | ⟨l, h1, h2, h3, h4⟩
 · left; rw [h1, h2, h3]; simp only [obs, show (mI p s e).raised = e from rfl, zb9, dct (show e ≠ 0 by omega), ctr]; exact ⟨e, _, _, _, rfl, by omega, rfl, rfl⟩
 · right; rw [h1, h2, h3]; simp only [obs, show (mI p s 0).raised = 0 from rfl, show (mI p s 0).zC = s from rfl, bsf, cfa, zy]
   by_cases h40 : s.Lines.length = 40
   · rw [ifp h40, dct (show (s.Lines.length : Int) = 40 by omega)]; exact ⟨_, _, _, rfl, rfl, rfl, fun h => (by cases h), hs.T (by decide) (by decide), rfl, rfl, rfl⟩
   · rw [ifn h40, dcf (show ¬ (s.Lines.length : Int) = 40 by omega)]; unfold zjf; rw [zag (by omega)]; simp only [ctr, cfa, obs, lns]; rw [zag (by omega)]; exact ⟨_, _, _, rfl, rfl, rfl, fun _ => ⟨rfl, by omega, by omega⟩, hs.L (by omega) h4, rfl, rfl, rfl⟩
theorem zac7 (N : Nat) (hN : 20000 < N) (h : ProgV p) (hs : StI p s) {x : zI} (hx : p.zG[s.At.toNat]? = some x) (hop : x.Op = 18) : zgl N p s x := by
 have hi := zjp hs hx
 have q0 := hs.at0
 have q1 := hs.at1
 have i40 := h.i40
 have wn1 : w6 (s.At + 1) = s.At + 1 := w6e
 right
 refine ⟨s.At + 1, s.At + 1, mT s 1, by unfold zfy; rw [hop]; rfl, ?_, ?_, fun h => (by cases h), hs.T (by decide) (by decide), rfl, rfl, rfl⟩
 · unfold zd; simp only [hop, Int.reduceBEq, ctr, cfa, obs, show (mI p s 0).zC = s from rfl, wn1]; rfl
 · unfold zx; rw [hi, zeb N (by omega) h.ok]; simp only [hop, Int.reduceBEq, ctr, cfa, obs, wn1]; rfl
theorem zabe (N : Nat) (hN : 20000 < N) (h : ProgV p) (hs : StI p s) {x : zI} (hx : p.zG[s.At.toNat]? = some x) : zgl N p s x := by
 have ho := zaen h (lmg hx)
 rcases (by omega : x.Op = 0 ∨ x.Op = 1 ∨ (2 ≤ x.Op ∧ x.Op ≤ 6) ∨ (x.Op = 7 ∨ x.Op = 8) ∨ x.Op = 9 ∨ x.Op = 10 ∨ x.Op = 11 ∨ x.Op = 12 ∨ x.Op = 13 ∨ x.Op = 14 ∨ x.Op = 15 ∨ x.Op = 16 ∨ x.Op = 17 ∨ x.Op = 18) with e | e | e | e | e | e | e | e | e | e | e | e | e | e
 · exact zaey N hN h hs hx e
 · exact zaex N hN h hs hx e
 · exact z9p N hN h hs hx e
 · exact zac6 N hN h hs hx e
 · exact zaew N hN h hs hx e
 · exact zadf N hN h hs hx e
 · exact zade N hN h hs hx e
 · exact zadd N hN h hs hx e
 · exact zadc N hN h hs hx e
 · exact zadb N hN h hs hx e
 · exact zada N hN h hs hx e
 · exact zac9 N hN h hs hx e
 · exact zac8 N hN h hs hx e
 · exact zac7 N hN h hs hx e
end
end
end Go.Proofs.YtmifhmfokbigiaaGreatDoor.M
