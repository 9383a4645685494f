/- TranslateMaps: the law answers true for every input of bulk at most 1048576, and its arguments read as they did; by the seat's second form, tied to the program's text. -/
import Derived.Test.YtnpfkhdbmlhfhaaGreatDoorPTranslateMapsx0
import Derived.Test.YtnpfkhdbmlhfhaaGreatDoorWTranslateMaps
namespace Go.Proofs.YtnpfkhdbmlhfhaaGreatDoor.M
open Go Go.Amx
set_option linter.unusedVariables false
set_option linter.unusedSimpArgs false
set_option maxRecDepth 100000
noncomputable section
theorem zy1 (N0 : Nat) (n : Nat) (hn : n ≤ 1000000) (v : Int) : ∀ (N k : Nat), 1 ≤ k → k ≤ n → n - k < N → zi (zbs.r0 N0) N (List.replicate k v ++ List.replicate (n - k) 0, (k : Int)) = some (List.replicate n v, (n : Int))
 | 0, k, _, _, h => by omega
 | N + 1, k, h1, h2, h3 => by
  have hlen : (List.replicate k v ++ List.replicate (n - k) (0 : Int)).length = n := by rw [lna, lnr, lnr]; omega
  simp only [zi, zbs.r0, zbs.b0, hlen]
  by_cases hk : k < n
  · rw [dct (by omega), ctr, ifp, ifp, ifp]; simp only [obs]; have t1 : (List.replicate k v ++ List.replicate (n - k) (0 : Int)).take ((k : Int)).toNat = List.replicate k v := by
     rw [itn, List.take_append_of_le_length (by rw [lnr]; omega), List.take_replicate, Nat.min_self]
    have t2 : (((List.replicate k v ++ List.replicate (n - k) (0 : Int)).drop (0 : Int).toNat).take (((k : Int)).toNat - (0 : Int).toNat)) = List.replicate k v := t1; rw [t1, t2, lnr]; have e : ((k : Int)).toNat = k := itn k; rw [e, List.take_replicate, show min (min k (n - k)) k = min k (n - k) by omega, List.drop_append, List.drop_eq_nil_of_le (by rw [lnr]; omega), lnr, List.drop_replicate, List.nil_append]; rw [w6e]; have := zy1 N0 n hn v N (k + min k (n - k)) (by omega) (by omega) (by omega); rw [← this, List.replicate_append_replicate, show n - k - (k + min k (n - k) - k) = n - (k + min k (n - k)) by omega]; rfl
  · obtain rfl : k = n := by omega
    rw [dcf (by omega), cfa, Nat.sub_self]; simp
theorem z3m (N : Nat) (n : Nat) (hn : n ≤ 100000) (hN : n < N) (v : Int) : zbs N [v] (n : Int) = some (List.replicate n v) := by
 have wu : ∀ m : Nat, m ≤ 1000000 → IntKind.wrap .u64 (m : Int) = (m : Int) := fun m hm => by
  unfold IntKind.wrap; rw [show (2 : Int) ^ IntKind.u64.bits = 18446744073709551616 from rfl, show IntKind.u64.signed = false from rfl]; simp only [Bool.false_and, Bool.false_eq_true, if_false]; omega
 unfold zbs zjy
 rw [show (([v] : List Int).length : Int) = ((1 : Nat) : Int) from rfl, wu 1 (by decide), wu n (by omega), zaas 1 n (by decide) (by omega)]
 rw [show (1 * n) / 18446744073709551616 = 0 by omega, show (1 * n) % 18446744073709551616 = n by omega]
 simp only [obs]
 rw [dcf (by omega), dcf (by omega), dcf (by omega), w6e, ifp, ifp, itn, zdj (by omega)]
 simp only [cfa, ctr, obs, lnr]
 by_cases h0 : n = 0
 · subst h0; obtain ⟨M, rfl⟩ : ∃ M, N = M + 1 := ⟨N - 1, by omega⟩; rfl
 · have := zy1 N n (by omega) v N 1 (by omega) (by omega) (by omega); rw [show min ([v] : List Int).length n = 1 by simp; omega]; rw [show ([v] : List Int).take 1 ++ (List.replicate n (0 : Int)).drop 1 = List.replicate 1 v ++ List.replicate (n - 1) 0 by rw [List.drop_replicate]; rfl, this]; rfl
def og (ops : List zH) (k : Nat) : zH := ops.getD k zu8
def pAt (ops : List zH) : Nat → Int
 | 0 => 0
 | k + 1 => pAt ops k + (if (og ops k).Kind = 3 then 16 else 0)
def ziv (ops : List zH) : Nat → Int
 | 0 => 0
 | k + 1 => ziv ops k + (if (og ops k).Kind = 0 then szE (og ops k).zG else 0)
def sAt (ops : List zH) (k : Nat) : Int := pAt ops ops.length + ziv ops k
def zkj (ops : List zH) (i : Nat) : Int :=
 if (og ops i).Kind = 3 then pAt ops i else if (og ops i).Kind = 0 then sAt ops i else if (og ops i).Kind = 1 then sAt ops (nmI ops (og ops i).Base).toNat + (og ops i).Offset else -1
def zwt (ops : List zH) : List Int := (List.range ops.length).map (zkj ops)
def zhc (ops : List zH) : Int := (sAt ops ops.length + 15) / 16
theorem zn9 {ops : List zH} {k : Nat} (h : k < ops.length) : ops[k]? = some (og ops k) := by
 unfold og
 rw [gdd, lge h]
 rfl
theorem znr (ops : List zH) : ∀ k, 0 ≤ pAt ops k ∧ pAt ops k ≤ 16 * (k : Int) ∧ pAt ops k % 16 = 0
 | 0 => ⟨Int.le_refl _, by show (0 : Int) ≤ 16 * ((0 : Nat) : Int); omega, rfl⟩
 | k + 1 => by
  obtain ⟨h1, h2, h3⟩ := znr ops k; unfold pAt; split <;> omega
def zmr (p : zD) : Prop := Upto p p.zB.length
theorem zpj {p : zD} (h : zmr p) {k : Nat} (hk : k < p.zB.length) : OpV p k (og p.zB k) := z54 (zn9 hk) (h.ok k hk)
theorem zpi {p : zD} (h : zmr p) {k : Nat} (hk : k < p.zB.length) (h0 : (og p.zB k).Kind = 0) : zbp (og p.zB k).zG = 0 := ((zpj h hk).ty (by rw [h0]; rfl)).1
theorem zmf {p : zD} (h : zmr p) : ∀ k, k ≤ p.zB.length → 0 ≤ ziv p.zB k ∧ ziv p.zB k ≤ 256 * (k : Int)
 | 0, _ => ⟨Int.le_refl _, by show (0 : Int) ≤ 256 * ((0 : Nat) : Int); omega⟩
 | k + 1, hk => by
  obtain ⟨h1, h2⟩ := zmf h k (by omega); unfold ziv; split
  · rename_i h0; have := zf9 (zpi h (by omega) h0); omega
  · omega
theorem zw7 {p : zD} (h : zmr p) {j : Nat} : ∀ {k : Nat}, k ≤ p.zB.length → j ≤ k → ziv p.zB j ≤ ziv p.zB k
 | 0, _, hj => by
  obtain rfl : j = 0 := by omega
  exact Int.le_refl _
 | k + 1, hk, hj => by
  by_cases e : j = k + 1
  · subst e; exact Int.le_refl _
  · have := zw7 h (show k ≤ p.zB.length by omega) (show j ≤ k by omega); have e2 : ziv p.zB (k + 1) = ziv p.zB k + (if (og p.zB k).Kind = 0 then szE (og p.zB k).zG else 0) := rfl; rw [e2]; split
    · rename_i h0; have := zf9 (zpi h (by omega) h0); omega
    · omega
theorem zm3 {n : Nat} (f : Nat → Int) {k : Nat} (v : Int) : ((List.range n).map f).set k v = (List.range n).map fun i => if i = k then v else f i := by
 apply List.ext_getElem?
 intro i
 rw [List.getElem?_set, List.getElem?_map, List.getElem?_map, lnm, List.length_range]
 by_cases hi : i < n
 · rw [List.getElem?_range hi]
   by_cases e : k = i
   · subst e; simp [hi]
   · simp [e, Ne.symm e]
 · rw [List.getElem?_eq_none (by simpa using hi)]
   by_cases e : k = i
   · subst e; simp [hi]
   · simp [e]
theorem zla {n : Nat} (f : Nat → Int) {k : Nat} (h : k < n) : ((List.range n).map f)[k]? = some (f k) := by
 rw [List.getElem?_map, List.getElem?_range h]
 rfl
theorem zes {n : Nat} {f g : Nat → Int} (h : ∀ i, i < n → f i = g i) : (List.range n).map f = (List.range n).map g := List.map_congr_left fun i hi => h i (List.mem_range.1 hi)
theorem z08 (n : Nat) (v : Int) : List.replicate n v = (List.range n).map fun _ => v := by
 apply List.ext_getElem?
 intro i
 rw [List.getElem?_replicate, List.getElem?_map]
 by_cases hi : i < n
 · rw [ifp hi, List.getElem?_range hi]; rfl
 · rw [ifn hi, List.getElem?_eq_none (by simpa using hi)]; rfl
def A1 (ops : List zH) (k i : Nat) : Int := if i < k ∧ (og ops i).Kind = 3 then pAt ops i else -1
def B1 (ops : List zH) (k i : Nat) : Int := if i < k then (if (og ops i).Kind = 3 then pAt ops i else -1) else 0
def A2 (ops : List zH) (k i : Nat) : Int := if i < k ∧ (og ops i).Kind = 0 then sAt ops i else if (og ops i).Kind = 3 then pAt ops i else -1
def A3 (ops : List zH) (k i : Nat) : Int := if i < k ∧ (og ops i).Kind = 1 then sAt ops (nmI ops (og ops i).Base).toNat + (og ops i).Offset else A2 ops ops.length i
theorem zsl {p : zD} (h : zmr p) {i : Nat} (hi : i < p.zB.length) (hk : (og p.zB i).Kind = 1) : ∃ b : Nat, nmI p.zB (og p.zB i).Base = (b : Int) ∧ b < i ∧ (og p.zB b).Kind = 0 ∧ 0 ≤ (og p.zB i).Offset ∧ (og p.zB i).Offset ≤ szE (og p.zB b).zG - szE (og p.zB i).zG := by
 have hb := (zpj h hi).base (.inl hk)
 unfold zsa at hb
 by_cases hc : nmI p.zB (og p.zB i).Base < 0 ∨ (i : Int) ≤ nmI p.zB (og p.zB i).Base
 · rw [ifp hc] at hb; cases hb
 · rw [ifn hc] at hb; refine ⟨(nmI p.zB (og p.zB i).Base).toNat, by omega, by omega, ?_⟩; rw [zn9 (by omega)] at hb; simp only at hb; rw [ifn] at hb; split at hb
   · cases hb
   · rename_i h0; split at hb
     · rename_i h1; have := zcl.1 h1; exact ⟨by omega, by omega, by omega⟩
     · cases hb
theorem zxr {p : zD} (h : zmr p) (k : Nat) {b : Nat} (hb : b < p.zB.length) (h0 : (og p.zB b).Kind = 0) : A3 p.zB k b = sAt p.zB b := by
 unfold A3 A2
 rw [ifn, ifp ⟨hb, h0⟩]
theorem z44 (ops : List zH) : (List.range ops.length).map (A3 ops ops.length) = zwt ops := by
 refine zes fun i hi => ?_
 unfold A3 A2 zkj
 by_cases h1 : (og ops i).Kind = 1
 · rw [ifp ⟨hi, h1⟩, ifn, ifn, ifp h1]
 · rw [ifn]
   by_cases h0 : (og ops i).Kind = 0
   · rw [ifp ⟨hi, h0⟩, ifn, ifp h0]
   · rw [ifn]
     by_cases h3 : (og ops i).Kind = 3
     · rw [ifp h3, ifp h3]
     · rw [ifn h3, ifn h3, ifn h0, ifn h1]
section
variable {ops : List zH} {k : Nat}
theorem z8i : (List.range ops.length).map (A1 ops (k + 1)) = if (og ops k).Kind = 3 then ((List.range ops.length).map (A1 ops k)).set k (pAt ops k) else (List.range ops.length).map (A1 ops k) := by
 split
 · rename_i h; rw [zm3]; refine zes fun i _ => ?_; unfold A1
   by_cases e : i = k
   · subst e; rw [ifp ⟨by omega, h⟩, ifp rfl]
   · rw [ifn e]
     by_cases h2 : i < k ∧ (og ops i).Kind = 3
     · rw [ifp h2, ifp ⟨by omega, h2.2⟩]
     · rw [ifn h2, ifn]
 · rename_i h; refine zes fun i _ => ?_; unfold A1
   by_cases e : i = k
   · subst e; rw [ifn, ifn]
   · by_cases h2 : i < k ∧ (og ops i).Kind = 3
     · rw [ifp h2, ifp ⟨by omega, h2.2⟩]
     · rw [ifn h2, ifn]
theorem z8h : (List.range ops.length).map (B1 ops (k + 1)) = if (og ops k).Kind = 3 then (((List.range ops.length).map (B1 ops k)).set k (-1)).set k (pAt ops k) else ((List.range ops.length).map (B1 ops k)).set k (-1) := by
 split
 · rename_i h; rw [zm3, zm3]; refine zes fun i _ => ?_; unfold B1
   by_cases e : i = k
   · subst e; rw [ifp, ifp h, ifp rfl]
   · rw [ifn e, ifn e]
     by_cases h2 : i < k
     · rw [ifp h2, ifp]
     · rw [ifn h2, ifn]
 · rename_i h; rw [zm3]; refine zes fun i _ => ?_; unfold B1
   by_cases e : i = k
   · subst e; rw [ifp, ifn h, ifp rfl]
   · rw [ifn e]
     by_cases h2 : i < k
     · rw [ifp h2, ifp]
     · rw [ifn h2, ifn]
theorem z1t : (List.range ops.length).map (A2 ops (k + 1)) = if (og ops k).Kind = 0 then ((List.range ops.length).map (A2 ops k)).set k (sAt ops k) else (List.range ops.length).map (A2 ops k) := by
 split
 · rename_i h; rw [zm3]; refine zes fun i _ => ?_; unfold A2
   by_cases e : i = k
   · subst e; rw [ifp ⟨by omega, h⟩, ifp rfl]
   · rw [ifn e]
     by_cases h2 : i < k ∧ (og ops i).Kind = 0
     · rw [ifp h2, ifp ⟨by omega, h2.2⟩]
     · rw [ifn h2, ifn (show ¬ (i < k + 1 ∧ (og ops i).Kind = 0) by omega)]
 · rename_i h; refine zes fun i _ => ?_; unfold A2
   by_cases e : i = k
   · subst e; rw [ifn (show ¬ (i < i + 1 ∧ (og ops i).Kind = 0) by omega), ifn (show ¬ (i < i ∧ (og ops i).Kind = 0) by omega)]
   · by_cases h2 : i < k ∧ (og ops i).Kind = 0
     · rw [ifp h2, ifp ⟨by omega, h2.2⟩]
     · rw [ifn h2, ifn (show ¬ (i < k + 1 ∧ (og ops i).Kind = 0) by omega)]
theorem z1s : (List.range ops.length).map (A3 ops (k + 1)) = if (og ops k).Kind = 1 then ((List.range ops.length).map (A3 ops k)).set k (sAt ops (nmI ops (og ops k).Base).toNat + (og ops k).Offset) else (List.range ops.length).map (A3 ops k) := by
 split
 · rename_i h; rw [zm3]; refine zes fun i _ => ?_; unfold A3
   by_cases e : i = k
   · subst e; rw [ifp ⟨by omega, h⟩, ifp rfl]
   · rw [ifn e]
     by_cases h2 : i < k ∧ (og ops i).Kind = 1
     · rw [ifp h2, ifp ⟨by omega, h2.2⟩]
     · rw [ifn h2, ifn]
 · rename_i h; refine zes fun i _ => ?_; unfold A3
   by_cases e : i = k
   · subst e; rw [ifn, ifn]
   · by_cases h2 : i < k ∧ (og ops i).Kind = 1
     · rw [ifp h2, ifp ⟨by omega, h2.2⟩]
     · rw [ifn h2, ifn]
end
theorem zy4 {a : Int} (h0 : 0 ≤ a) (h1 : a ≤ 1000000) : w6 ((w6 ((w6 (a + 16)) - 1)).tdiv 16) = (a + 15) / 16 := by
 rw [w6e (n := a + 16), w6e (n := a + 16 - 1), tde, show a + 16 - 1 = a + 15 by omega, w6e]
theorem zws (n : Nat) (f : Nat → Int) : ((List.range n).map f).length = n := by rw [lnm, List.length_range]
theorem zxe (N : Nat) (hN : 1100 < N) {p : zD} (h : zmr p) : zh N p.zB = some (zwt p.zB, zhc p.zB) := by
 have hl := h.ops
 have hp := fun k => znr p.zB k
 have hs := fun k hk => zmf h k hk
 unfold zh
 rw [z3m N _ (by omega) (by omega), z08]
 simp only [obs]
 have l1 := zbv (f := zh.r0 N) (fun k => (p.zB, (List.range p.zB.length).map (A1 p.zB k), pAt p.zB k, p.zB, (p.zB.length : Int), (k : Int))) p.zB.length
  (fun k hk => by
   have h1 := hp k; simp only [zh.r0, zh.b0, zae, zn9 hk, obs, dct (show (k : Int) < (p.zB.length : Int) by omega), ctr, zws, ifp (show (0 : Int) ≤ (k : Int) by omega), ifp (show (k : Int) < (p.zB.length : Int) by omega), itn, zla _ hk, z8i, zbj]; rw [w6e (n := (k : Int) + 1), w6e (n := pAt p.zB k + 16)]; rw [show pAt p.zB (k + 1) = pAt p.zB k + (if (og p.zB k).Kind = 3 then 16 else 0) from rfl]
   by_cases h3 : (og p.zB k).Kind = 3
   · rw [dct h3, ifp h3, ifp h3]; rfl
   · rw [dcf h3, ifn h3, ifn h3, Int.add_zero]; rfl)
  (by simp only [zh.r0, zh.b0, dcf (show ¬ (p.zB.length : Int) < (p.zB.length : Int) by omega), cfa]) (N := N) (by omega)
 simp only [nc0] at l1
 rw [show ((List.range p.zB.length).map fun _ => (-1 : Int)) = (List.range p.zB.length).map (A1 p.zB 0) from zes fun i _ => by unfold A1; rw [ifn], show (0 : Int) = pAt p.zB 0 from rfl]
 rw [show pAt p.zB 0 = 0 from rfl] at l1 ⊢
 rw [l1]
 simp only [obs]
 have l2 := zbv (f := zh.r2 N) (fun k => (p.zB, (List.range p.zB.length).map (A2 p.zB k), sAt p.zB k, p.zB, (p.zB.length : Int), (k : Int))) p.zB.length
  (fun k hk => by
   have h1 := hp p.zB.length; have h2 := hs k (by omega); simp only [zh.r2, zh.b2, zae, zn9 hk, obs, dct (show (k : Int) < (p.zB.length : Int) by omega), ctr, zws, ifp (show (0 : Int) ≤ (k : Int) by omega), ifp (show (k : Int) < (p.zB.length : Int) by omega), itn, zla _ hk, z1t, zbj]; rw [w6e (n := (k : Int) + 1)]; have e : sAt p.zB (k + 1) = sAt p.zB k + (if (og p.zB k).Kind = 0 then szE (og p.zB k).zG else 0) := by
    unfold sAt; rw [show ziv p.zB (k + 1) = ziv p.zB k + (if (og p.zB k).Kind = 0 then szE (og p.zB k).zG else 0) from rfl]; omega
   rw [e]
   by_cases h3 : (og p.zB k).Kind = 0
   · have hz := zf9 (zpi h hk h3); rw [dct h3, ifp h3, ifp h3, ctr, zwo N (by omega) (zpi h hk h3)]; simp only [obs]; rw [w6e (n := sAt p.zB k + szE (og p.zB k).zG) (by unfold sAt; omega) (by unfold sAt; omega)]; rfl
   · rw [dcf h3, ifn h3, ifn h3, Int.add_zero]; rfl)
  (by simp only [zh.r2, zh.b2, dcf (show ¬ (p.zB.length : Int) < (p.zB.length : Int) by omega), cfa]) (N := N) (by omega)
 simp only [nc0] at l2
 rw [show ((List.range p.zB.length).map (A1 p.zB p.zB.length)) = (List.range p.zB.length).map (A2 p.zB 0) from zes fun i hi => by
  unfold A1 A2; rw [ifn (show ¬ (i < 0 ∧ (og p.zB i).Kind = 0) by omega)]
  by_cases h3 : (og p.zB i).Kind = 3
  · rw [ifp ⟨hi, h3⟩, ifp h3]
  · rw [ifn, ifn h3], show pAt p.zB p.zB.length = sAt p.zB 0 by unfold sAt; rw [show ziv p.zB 0 = 0 from rfl, Int.add_zero], l2]
 simp only [obs]
 have l3 := zbv (f := zh.r4 N) (fun k => (p.zB, (List.range p.zB.length).map (A3 p.zB k), sAt p.zB p.zB.length, p.zB, (p.zB.length : Int), (k : Int))) p.zB.length
  (fun k hk => by
   have h1 := hp p.zB.length; simp only [zh.r4, zh.b4, zae, zn9 hk, obs, dct (show (k : Int) < (p.zB.length : Int) by omega), ctr, zws, ifp (show (0 : Int) ≤ (k : Int) by omega), ifp (show (k : Int) < (p.zB.length : Int) by omega), itn, zla _ hk, z1s, zbj]; rw [w6e (n := (k : Int) + 1)]
   by_cases h3 : (og p.zB k).Kind = 1
   · obtain ⟨b, e1, e2, e3, e4, e5⟩ := zsl h hk h3; have hz := zf9 (zpi h (show b < p.zB.length by omega) e3); have hz2 := zf9 ((zpj h hk).ty (by rw [h3]; rfl)).1; have h2 := hs b (by omega); rw [dct h3, ifp h3, ctr, zuv N _ (by omega) (by omega), e1]; simp only [obs]; rw [ifp, ifp, itn, zla _ (by omega), zxr h k (by omega) e3]; simp only [obs]; rw [w6e (n := sAt p.zB b + (og p.zB k).Offset) (by unfold sAt; omega) (by unfold sAt; omega)]; rfl
   · rw [dcf h3, ifn h3]; rfl)
  (by simp only [zh.r4, zh.b4, dcf (show ¬ (p.zB.length : Int) < (p.zB.length : Int) by omega), cfa]) (N := N) (by omega)
 simp only [nc0] at l3
 rw [show ((List.range p.zB.length).map (A2 p.zB p.zB.length)) = (List.range p.zB.length).map (A3 p.zB 0) from zes fun i hi => by
  unfold A3; rw [ifn (show ¬ (i < 0 ∧ (og p.zB i).Kind = 1) by omega)], l3]
 simp only [obs, z44]
 have h1 := hp p.zB.length
 have h2 := hs p.zB.length (by omega)
 rw [zy4 (by unfold sAt; omega) (by unfold sAt; omega)]
 rfl
theorem zw8 (N : Nat) (hN : 1100 < N) {p : zD} (h : zmr p) : zp N p = some (zwt p.zB, zhc p.zB) := by
 have hl := h.ops
 have hp := fun k => znr p.zB k
 have hs := fun k hk => zmf h k hk
 unfold zp
 rw [ifp, ifp, itn, zdj (by omega), ctr, z08]
 have l1 := zbv (f := zp.r0 N) (fun k => ((List.range p.zB.length).map (B1 p.zB k), pAt p.zB k, (k : Int), p)) p.zB.length
  (fun k hk => by
   have h1 := hp k; simp only [zp.r0, zp.b0, zae, zn9 hk, obs, dct (show (k : Int) < (p.zB.length : Int) by omega), ctr, List.length_set, zws, ifp (show (0 : Int) ≤ (k : Int) by omega), ifp (show (k : Int) < (p.zB.length : Int) by omega), itn, zla _ hk, z8h, zbj]; rw [w6e (n := (k : Int) + 1), w6e (n := pAt p.zB k + 16)]; rw [show pAt p.zB (k + 1) = pAt p.zB k + (if (og p.zB k).Kind = 3 then 16 else 0) from rfl]
   by_cases h3 : (og p.zB k).Kind = 3
   · rw [dct h3, ifp h3, ifp h3, ctr, zm3, zla _ hk]; rfl
   · rw [dcf h3, ifn h3, ifn h3, Int.add_zero]; rfl)
  (by simp only [zp.r0, zp.b0, dcf (show ¬ (p.zB.length : Int) < (p.zB.length : Int) by omega), cfa]) (N := N) (by omega)
 simp only [nc0] at l1
 rw [show ((List.range p.zB.length).map fun _ => (0 : Int)) = (List.range p.zB.length).map (B1 p.zB 0) from zes fun i _ => by unfold B1; rw [ifn]]
 rw [show pAt p.zB 0 = 0 from rfl] at l1
 rw [l1]
 simp only [obs]
 have l2 := zbv (f := zp.r2 N) (fun k => ((List.range p.zB.length).map (A2 p.zB k), sAt p.zB k, (k : Int), p)) p.zB.length
  (fun k hk => by
   have h1 := hp p.zB.length; have h2 := hs k (by omega); simp only [zp.r2, zp.b2, zae, zn9 hk, obs, dct (show (k : Int) < (p.zB.length : Int) by omega), ctr, zws, ifp (show (0 : Int) ≤ (k : Int) by omega), ifp (show (k : Int) < (p.zB.length : Int) by omega), itn, zla _ hk, z1t, zbj]; rw [w6e (n := (k : Int) + 1)]; have e : sAt p.zB (k + 1) = sAt p.zB k + (if (og p.zB k).Kind = 0 then szE (og p.zB k).zG else 0) := by
    unfold sAt; rw [show ziv p.zB (k + 1) = ziv p.zB k + (if (og p.zB k).Kind = 0 then szE (og p.zB k).zG else 0) from rfl]; omega
   rw [e]
   by_cases h3 : (og p.zB k).Kind = 0
   · have hz := zf9 (zpi h hk h3); rw [dct h3, ifp h3, ifp h3, ctr, zmx (zpi h hk h3)]; simp only [obs]; rw [w6e (n := sAt p.zB k + szE (og p.zB k).zG) (by unfold sAt; omega) (by unfold sAt; omega)]; rfl
   · rw [dcf h3, ifn h3, ifn h3, Int.add_zero]; rfl)
  (by simp only [zp.r2, zp.b2, dcf (show ¬ (p.zB.length : Int) < (p.zB.length : Int) by omega), cfa]) (N := N) (by omega)
 simp only [nc0] at l2
 rw [show ((List.range p.zB.length).map (B1 p.zB p.zB.length)) = (List.range p.zB.length).map (A2 p.zB 0) from zes fun i hi => by
  unfold B1 A2; rw [ifn (show ¬ (i < 0 ∧ (og p.zB i).Kind = 0) by omega), ifp hi], show pAt p.zB p.zB.length = sAt p.zB 0 by unfold sAt; rw [show ziv p.zB 0 = 0 from rfl, Int.add_zero], l2]
 simp only [obs]
 have l3 := zbv (f := zp.r4 N) (fun k => ((List.range p.zB.length).map (A3 p.zB k), sAt p.zB p.zB.length, (k : Int), p)) p.zB.length
  (fun k hk => by
   have h1 := hp p.zB.length; simp only [zp.r4, zp.b4, zae, zn9 hk, obs, dct (show (k : Int) < (p.zB.length : Int) by omega), ctr, zws, ifp (show (0 : Int) ≤ (k : Int) by omega), ifp (show (k : Int) < (p.zB.length : Int) by omega), itn, zla _ hk, z1s, zbj]; rw [w6e (n := (k : Int) + 1)]
   by_cases h3 : (og p.zB k).Kind = 1
   · obtain ⟨b, e1, e2, e3, e4, e5⟩ := zsl h hk h3; have hz := zf9 (zpi h (show b < p.zB.length by omega) e3); have hz2 := zf9 ((zpj h hk).ty (by rw [h3]; rfl)).1; have h2 := hs b (by omega); rw [dct h3, ifp h3, ctr, z2g N p (by omega) (by omega), e1]; simp only [obs]; rw [ifp, ifp, itn, zla _ (by omega), zxr h k (by omega) e3]; simp only [obs]; rw [w6e (n := sAt p.zB b + (og p.zB k).Offset) (by unfold sAt; omega) (by unfold sAt; omega)]; rfl
   · rw [dcf h3, ifn h3]; rfl)
  (by simp only [zp.r4, zp.b4, dcf (show ¬ (p.zB.length : Int) < (p.zB.length : Int) by omega), cfa]) (N := N) (by omega)
 simp only [nc0] at l3
 rw [show ((List.range p.zB.length).map (A2 p.zB p.zB.length)) = (List.range p.zB.length).map (A3 p.zB 0) from zes fun i hi => by
  unfold A3; rw [ifn (show ¬ (i < 0 ∧ (og p.zB i).Kind = 1) by omega)], l3]
 simp only [obs, z44]
 have h1 := hp p.zB.length
 have h2 := hs p.zB.length (by omega)
 rw [zy4 (by unfold sAt; omega) (by unfold sAt; omega)]
 rfl
def gO (p : zD) (i : Nat) : Option (zQ × Int) := if opE p i = 0 then none else some (⟨1, i⟩, opE p i)
def gX (p : zD) (i : Nat) : Option (zQ × Int) := (p.zA[i]?).bind fun x => if zrv p x = 0 then none else some (⟨2, i⟩, zrv p x)
def gMo (p : zD) (i : Nat) : Option (zQ × Int) := (p.zP[i]?).bind fun m => if zrr p m = true then none else some (⟨3, i⟩, 3)
def zkm (p : zD) : zQ × Int :=
 if p.zB.length > 24 ∨ p.zA.length > 40 ∨ p.zP.length > 6 then (⟨0, 0⟩, 2)
 else if p.zA.length = 0 then (⟨0, 0⟩, 1)
 else match (List.range p.zB.length).findSome? (gO p) with
  | some r => r
  | none => if zhc p.zB > 24 then (⟨0, 0⟩, 30) else match (List.range p.zA.length).findSome? (gX p) with
   | some r => r
   | none => match (List.range p.zP.length).findSome? (gMo p) with
    | some r => r
    | none => (⟨0, 0⟩, 0)
theorem zww {p : zD} {i : Nat} (h : gO p i = none) : opE p i = 0 := by
 unfold gO at h
 split at h
 · assumption
 · cases h
theorem zzk (p : zD) : ((decide ((p.zB.length : Int) > 24) || decide ((p.zA.length : Int) > 40)) || decide ((p.zP.length : Int) > 6)) = decide (p.zB.length > 24 ∨ p.zA.length > 40 ∨ p.zP.length > 6) := by
 rw [← Bool.decide_or, ← Bool.decide_or]
 congr 1
 apply propext
 omega
theorem zy6 (N : Nat) (hN : 1100 < N) (p : zD) : ze N p = some (zkm p) := by
 unfold ze zkm
 simp only [orB, obs, zzk, ztr]
 rw [zrk N _ (by simp; omega) (by simp)]
 simp only [obs]
 rw [zs6 _ _ _ _ (by decide) (by decide)]
 by_cases hb : p.zB.length > 24 ∨ p.zA.length > 40 ∨ p.zP.length > 6
 · rw [ifp hb, dct hb]; rfl
 rw [ifn hb, dcf hb]
 by_cases h0 : p.zA.length = 0
 · rw [ifp h0, zbj, dct (by omega)]; rfl
 rw [ifn h0, zbj, dcf (by omega)]
 simp only [cfa, bsf]
 have mk : ∀ i, (∀ j, j < i → gO p j = none) → Upto p i := fun i h => { ops := by omega, ins := by omega, ok := fun j hj => zww (h j hj) }
 have l1 := zoa (f := ze.r0 N) (fun i => ((p.zB.length : Int), (i : Int), p, (⟨0, 0⟩ : zQ))) (gO p) p.zB.length
  (fun i hi hp => by
   simp only [ze.r0, ze.b0, dct (show (i : Int) < (p.zB.length : Int) by omega), ctr]; rw [zaap N hN (mk i hp) hi, w6e]; unfold gO; simp only [obs, zcd]
   by_cases h : opE p i = 0
   · rw [ifp h, dcf (fun hh => hh h)]; rfl
   · rw [ifn h, dct h]; rfl)
  (fun _ => by simp only [ze.r0, ze.b0, dcf (show ¬ (p.zB.length : Int) < (p.zB.length : Int) by omega), cfa]) (N := N) (by omega)
 simp only [nc0] at l1
 rw [l1]
 cases hf : (List.range p.zB.length).findSome? (gO p) with
 | some r => rfl
 | none =>
  have hu : zmr p := mk _ (zjp.1 hf); simp only [obs, zbc]; rw [zxe N hN hu]; simp only [obs]
  by_cases hq : zhc p.zB > 24
  · rw [ifp hq, dct hq]; rfl
  rw [ifn hq, dcf hq]; simp only [cfa]; have l2 := zax (f := ze.r2 N) (fun i => (p.zA, (p.zA.length : Int), (i : Int), p, (⟨0, 0⟩ : zQ))) (gX p) p.zA.length
   (fun i hi => by
    have hx := lge hi; simp only [ze.r2, ze.b2, dct (show (i : Int) < (p.zA.length : Int) by omega), ctr, zae, hx, obs, gX]; rw [z9b N hN hu, w6e]; simp only [obs, zcd]
    by_cases h : zrv p p.zA[i] = 0
    · rw [ifp h, dcf (fun hh => hh h)]; rfl
    · rw [ifn h, dct h]; rfl)
   (by simp only [ze.r2, ze.b2, dcf (show ¬ (p.zA.length : Int) < (p.zA.length : Int) by omega), cfa]) (N := N) (by omega)
  simp only [nc0] at l2; rw [l2]; cases (List.range p.zA.length).findSome? (gX p) with
  | some r => rfl
  | none =>
   simp only [obs, zbc]; have l3 := zax (f := ze.r4 N) (fun i => (p.zP, (p.zP.length : Int), (i : Int), p, (⟨0, 0⟩ : zQ))) (gMo p) p.zP.length
    (fun i hi => by
     have hx := lge hi; simp only [ze.r4, ze.b4, dct (show (i : Int) < (p.zP.length : Int) by omega), ctr, zae, hx, obs, gMo]; rw [z9a hu, w6e]; simp only [obs]; cases zrr p p.zP[i] <;> rfl)
    (by simp only [ze.r4, ze.b4, dcf (show ¬ (p.zP.length : Int) < (p.zP.length : Int) by omega), cfa]) (N := N) (by omega)
   simp only [nc0] at l3; rw [l3]; cases (List.range p.zP.length).findSome? (gMo p) <;> rfl
theorem z2f (N : Nat) (hN : 1100 < N) (p : zD) : zac N p = some (zkm p) := by
 unfold zac zkm
 simp only [orB, obs, zzk]
 by_cases hb : p.zB.length > 24 ∨ p.zA.length > 40 ∨ p.zP.length > 6
 · rw [ifp hb, dct hb]; rfl
 rw [ifn hb, dcf hb]
 by_cases h0 : p.zA.length = 0
 · rw [ifp h0, zbj, dct (by omega)]; rfl
 rw [ifn h0, zbj, dcf (by omega)]
 simp only [cfa]
 have mk : ∀ i, (∀ j, j < i → gO p j = none) → Upto p i := fun i h => { ops := by omega, ins := by omega, ok := fun j hj => zww (h j hj) }
 have l1 := zoa (f := zac.r0 N) (fun i => ((i : Int), p, (⟨0, 0⟩ : zQ))) (gO p) p.zB.length
  (fun i hi hp => by
   simp only [zac.r0, zac.b0, dct (show (i : Int) < (p.zB.length : Int) by omega), ctr]; rw [z99 N hN (mk i hp) hi, w6e]; unfold gO; simp only [obs, zcd]
   by_cases h : opE p i = 0
   · rw [ifp h, dcf (fun hh => hh h)]; rfl
   · rw [ifn h, dct h]; rfl)
  (fun _ => by simp only [zac.r0, zac.b0, dcf (show ¬ (p.zB.length : Int) < (p.zB.length : Int) by omega), cfa]) (N := N) (by omega)
 simp only [nc0] at l1
 rw [l1]
 cases hf : (List.range p.zB.length).findSome? (gO p) with
 | some r => rfl
 | none =>
  have hu : zmr p := mk _ (zjp.1 hf); simp only [obs, zbc]; rw [zw8 N hN hu]; simp only [obs]
  by_cases hq : zhc p.zB > 24
  · rw [ifp hq, dct hq]; rfl
  rw [ifn hq, dcf hq]; simp only [cfa]; have l2 := zax (f := zac.r2 N) (fun i => ((i : Int), p, (⟨0, 0⟩ : zQ))) (gX p) p.zA.length
   (fun i hi => by
    have hx := lge hi; simp only [zac.r2, zac.b2, dct (show (i : Int) < (p.zA.length : Int) by omega), ctr, zae, hx, obs, gX]; rw [z5q N hN hu, w6e]; simp only [obs, zcd]
    by_cases h : zrv p p.zA[i] = 0
    · rw [ifp h, dcf (fun hh => hh h)]; rfl
    · rw [ifn h, dct h]; rfl)
   (by simp only [zac.r2, zac.b2, dcf (show ¬ (p.zA.length : Int) < (p.zA.length : Int) by omega), cfa]) (N := N) (by omega)
  simp only [nc0] at l2; rw [l2]; cases (List.range p.zA.length).findSome? (gX p) with
  | some r => rfl
  | none =>
   simp only [obs, zbc]; have l3 := zax (f := zac.r4 N) (fun i => ((i : Int), p, (⟨0, 0⟩ : zQ))) (gMo p) p.zP.length
    (fun i hi => by
     have hx := lge hi; simp only [zac.r4, zac.b4, dct (show (i : Int) < (p.zP.length : Int) by omega), ctr, zae, hx, obs, gMo, zfy, orB, z2t hu]; rw [z9i, w6e]; cases zrr p p.zP[i] <;> rfl)
    (by simp only [zac.r4, zac.b4, dcf (show ¬ (p.zP.length : Int) < (p.zP.length : Int) by omega), cfa]) (N := N) (by omega)
   simp only [nc0] at l3; rw [l3]; cases (List.range p.zP.length).findSome? (gMo p) <;> rfl
theorem z9c (N : Nat) (hN : 1100 < N) (p : zD) : zdt N p = some (zkm p).2 := by
 unfold zdt
 rw [zy6 N hN]; rfl
theorem z5s (N : Nat) (hN : 1100 < N) (p : zD) : zl2 N p = some (zkm p).2 := by
 unfold zl2
 rw [z2f N hN]; rfl
structure ProgV (p : zD) : Prop where
 ok : zmr p
 n24 : p.zB.length ≤ 24
 i40 : p.zA.length ≤ 40
 i0 : 0 < p.zA.length
 m6 : p.zP.length ≤ 6
 quads : zhc p.zB ≤ 24
 ins : ∀ x ∈ p.zA, zrv p x = 0
 mon : ∀ m ∈ p.zP, zrr p m = true
theorem z88 {p : zD} (h : (zkm p).2 = 0) : ProgV p := by
 unfold zkm at h
 split at h
 · cases h
 split at h
 · cases h
 rename_i hb h0
 split at h
 · rename_i r hr
   exfalso
   obtain ⟨i, _, hi, _⟩ := zjo hr; unfold gO at hi; split at hi
   · cases hi
   · rename_i hne; cases hi; exact hne h
 · rename_i hf; split at h
   · cases h
   rename_i hq; split at h
   · rename_i r hr
     exfalso
     obtain ⟨i, _, hi, _⟩ := zjo hr; unfold gX at hi; rw [Option.bind_eq_some_iff] at hi; obtain ⟨x, _, hi⟩ := hi; split at hi
     · cases hi
     · rename_i hne; cases hi; exact hne h
   · rename_i hf2; split at h
     · rename_i r hr
       exfalso
       obtain ⟨i, _, hi, _⟩ := zjo hr; unfold gMo at hi; rw [Option.bind_eq_some_iff] at hi; obtain ⟨x, _, hi⟩ := hi; split at hi
       · cases hi
       · cases hi; cases h
     · rename_i hf3; refine { ok := { ops := by omega, ins := by omega, ok := fun j hj => zww (zjp.1 hf j hj) }, n24 := by omega, i40 := by omega, i0 := by omega, m6 := by omega, quads := by omega, ins := fun x hx => ?_, mon := fun m hm => ?_ }
       · obtain ⟨i, hi⟩ := List.getElem?_of_mem hx; have := zjp.1 hf2 i (gei hi).1; unfold gX at this; rw [hi, obs] at this; split at this
         · assumption
         · cases this
       · obtain ⟨i, hi⟩ := List.getElem?_of_mem hm; have := zjp.1 hf3 i (gei hi).1; unfold gMo at this; rw [hi, obs] at this; split at this
         · assumption
         · cases this
structure StoP (p : zD) (t : Storage) : Prop where
 sto : zqg t
 size : (t.Bytes.size : Int) = 16 * zhc p.zB
section
variable {p : zD}
theorem zyb (h : ProgV p) : 0 ≤ sAt p.zB p.zB.length ∧ sAt p.zB p.zB.length ≤ 16 * zhc p.zB := by
 have h1 := znr p.zB p.zB.length
 have h2 := zmf h.ok p.zB.length (Nat.le_refl _)
 unfold zhc
 have : sAt p.zB p.zB.length = pAt p.zB p.zB.length + ziv p.zB p.zB.length := rfl
 omega
theorem z09 {i : Nat} (hi : i < p.zB.length) : idx (zwt p.zB) (i : Int) = some (zkj p.zB i) := by
 rw [zae]
 exact zla _ hi
theorem zu1 (h : ProgV p) {i : Nat} (hi : i < p.zB.length) (hk : (og p.zB i).Kind = 0 ∨ (og p.zB i).Kind = 1) {t : Storage} (hs : StoP p t) : 0 ≤ zkj p.zB i ∧ zkj p.zB i + szE (og p.zB i).zG ≤ (t.Bytes.size : Int) := by
 have b1 := znr p.zB p.zB.length
 have b4 := zyb h
 have hz := hs.size
 have key : ∀ j, j < p.zB.length → (og p.zB j).Kind = 0 → 0 ≤ sAt p.zB j ∧ sAt p.zB j + szE (og p.zB j).zG ≤ (t.Bytes.size : Int) := by
  intro j hj h0; have b2 := zmf h.ok j (by omega); have b3 := zw7 h.ok (Nat.le_refl p.zB.length) (show j + 1 ≤ p.zB.length by omega); have e2 : ziv p.zB (j + 1) = ziv p.zB j + szE (og p.zB j).zG := by
   show ziv p.zB j + (if (og p.zB j).Kind = 0 then szE (og p.zB j).zG else 0) = _; rw [ifp h0]
  have e4 : sAt p.zB p.zB.length = pAt p.zB p.zB.length + ziv p.zB p.zB.length := rfl; have e5 : sAt p.zB j = pAt p.zB p.zB.length + ziv p.zB j := rfl; omega
 unfold zkj
 rcases hk with h0 | h1
 · rw [ifn, ifp h0]; exact key i hi h0
 · obtain ⟨b, e1, e2, e3, e4, e5⟩ := zsl h.ok hi h1; have := key b (by omega) e3; rw [ifn, ifn, ifp h1, e1, itn]; have hz := zf9 ((zpj h.ok hi).ty (by rw [h1]; rfl)).1; omega
theorem z38 {i : Nat} (hi : i < p.zB.length) : idx p.zB (i : Int) = some (og p.zB i) := by
 rw [zae, zn9 hi]
end
def zn0 (o : zH) : ByteArray := if o.zG.Kind = 0 then o.Value.S else zta o.zG o.Value.N
theorem z21 (N : Nat) (n len : Nat) (hn : n ≤ 1000000000000000000) (hl : len ≤ 300) (hN : len < N) : ∃ l, zaq N (n : Int) (len : Int) = some l := by
 unfold zaq
 rw [ifp, ifp, itn, zdj (by omega), ctr, w6e]
 obtain ⟨s', h1, _⟩ := znf (f := zaq.r0 N) (fun i s => ∃ q P, s = (((q : Nat) : Int), P, (len : Int) - 1 - (i : Int)) ∧ q ≤ n ∧ P.length = len) len
  (fun i s hi hs => by
   obtain ⟨q, P, rfl, h1, h2⟩ := hs; obtain ⟨x, hx⟩ : ∃ x, P[((len : Int) - 1 - (i : Int)).toNat]? = some x := ⟨_, lge (by omega)⟩; simp only [zaq.r0, zaq.b0, dct (show (len : Int) - 1 - (i : Int) ≥ 0 by omega), ctr, h2]; rw [ifp, ifp, hx]; simp only [obs]; rw [tde, w6e (n := (q : Int) / 10), w6e (n := (len : Int) - 1 - (i : Int) - 1)]; exact ⟨_, rfl, q / 10, _, by rw [show (q : Int) / 10 = ((q / 10 : Nat) : Int) by omega, show (len : Int) - 1 - (i : Int) - 1 = (len : Int) - 1 - ((i + 1 : Nat) : Int) by omega], by omega, by rw [List.length_set]; exact h2⟩)
  (fun s hs => by
   obtain ⟨q, P, rfl, h1, h2⟩ := hs; exact ⟨_, by simp only [zaq.r0, zaq.b0, dcf (show ¬ (len : Int) - 1 - (len : Int) ≥ 0 by omega), cfa], q, P, rfl, h1, h2⟩) (N := N) hN (s := ((n : Int), List.replicate len 0, (len : Int) - 1)) ⟨n, _, by rw [show (len : Int) - 1 - ((0 : Nat) : Int) = (len : Int) - 1 by omega], Nat.le_refl _, by rw [lnr]⟩
 rw [h1]
 exact ⟨_, rfl⟩
theorem z64 {t : DataType} {v : Value} (ht : zp9 t) (hv : ziu t v = 0) : v = ⟨v.N, ⟨#[]⟩⟩ ∧ -((10 ^ t.Length.toNat : Nat) : Int) < v.N ∧ v.N < ((10 ^ t.Length.toNat : Nat) : Int) := by
 obtain ⟨_, k1, k2⟩ := ht
 unfold ziu at hv
 rw [ifn] at hv
 split at hv
 · cases hv
 · rename_i h1; split at hv
   · rename_i h2; have := zcl.1 h2; unfold zlj at this; have h3 : v.S = e0 := cbc h1; obtain ⟨n, s⟩ := v; simp only at h3; subst h3; exact ⟨rfl, by omega, by omega⟩
   · cases hv
theorem zwr (N : Nat) (hN : 400 < N) {o : zH} (ht : zbp o.zG = 0) (h4 : o.zG.Kind ≠ 4) (hv : ziu o.zG o.Value = 0) : zfw N o.zG o.Value = some (zn0 o, 0) ∧ zam N o.zG o.Value = some (zn0 o) ∧ ((zn0 o).size : Int) = szE o.zG := by
 by_cases h0 : o.zG.Kind = 0
 · unfold zn0; rw [ifp h0]; have hv' := hv; unfold ziu at hv'; rw [ifp h0] at hv'; have hn : o.Value.N = 0 := by
    refine cbc fun h => ?_; rw [ifp h] at hv'; cases hv'
   rw [ifn (fun h => h hn)] at hv'; have hsz : (o.Value.S.size : Int) = o.zG.Length := by
    refine cbc fun h => ?_; rw [ifp h] at hv'; cases hv'
   have hlen : 1 ≤ o.zG.Length ∧ o.zG.Length ≤ 256 := by
    rcases zig ht with ⟨_, h⟩ | ⟨h | h, _⟩ | ⟨h, _⟩ | ⟨h, _⟩
    · exact h
    all_goals omega
   refine ⟨?_, ?_, ?_⟩
   · unfold zfw; rw [zza N (by omega) ht h4, hv]; simp only [obs, bsf, cfa]; unfold zu; obtain ⟨l, hl⟩ := z21 N 0 o.zG.Length.toNat (by decide) (by omega) (by omega); rw [hn, show (if w6 (0 - 0) > 0 then w6 (0 - 0) else 0) = ((0 : Nat) : Int) from rfl, show o.zG.Length = ((o.zG.Length.toNat : Nat) : Int) by omega, hl, h0]; rfl
   · unfold zam; rw [h0]; rfl
   · unfold szE; rw [ifn, ifn, ifn]; exact hsz
 · have hn := zwp ht h0 h4; obtain ⟨e1, e2, e3⟩ := z64 hn hv; unfold zn0; rw [ifn h0]; rw [e1]; exact ⟨z4d N (by omega) hn _ ⟨e2, e3⟩, z5u N (by omega) hn _ ⟨e2, e3⟩, z4o hn _⟩
section
variable {p : zD}
end
section
variable {p : zD}
def znk (n : Nat) : Storage := ⟨⟨(List.replicate (16 * n) 0).toArray⟩, List.replicate n false⟩
theorem zty (n : Nat) : (znk n).Bytes.size = 16 * n := by
 show (List.replicate (16 * n) (0 : UInt8)).length = _
 rw [lnr]
theorem z3e {n : Nat} (hn : n ≤ 64) : zqg (znk n) := by
 have hz := zty n
 refine ⟨by omega, by omega, ?_, fun i hi => ?_⟩
 · rw [hz]; show (List.replicate n false).length = _; rw [lnr]; omega
 · have hi' : (List.replicate n false)[i]? = some true := hi; rw [List.getElem?_replicate] at hi'; split at hi' <;> cases hi'
theorem z8q {n : Nat} (hn : n ≤ 64) : zf8 (n : Int) = some (znk n, 0) := by
 unfold zf8 zti
 have hb : inB (n : Int) 0 64 = true := zcl.2 ⟨by omega, by omega⟩
 have hs1 : (⟨#[0]⟩ : ByteArray).size = 1 := rfl
 rw [z1y, hb, w6e]
 simp only [obs, bnt, cfa]
 rw [ifp ⟨by omega, by omega, by rw [hs1]; omega⟩, obs, ifp, ifp (Int.le_refl _), zdj (by omega), ctr, show ((n : Int) * 16).toNat = 16 * n by omega, itn]
 show some ((⟨⟨(Lib.repeatL [0] (16 * n)).toArray⟩, _⟩ : Storage), (0 : Int)) = _
 rw [zua]
 rfl
theorem z5n {b d : ByteArray} {a : Nat} (hd : a + d.size ≤ b.size) (hb : b.size ≤ 1024) : zjc b (a : Int) d = some ⟨(spl (bl b) a (bl d)).toArray⟩ := by
 have hmax : IntKind.i64.max = 9223372036854775807 := by decide
 unfold zjc
 rw [hmax]
 have z1 : (b.extract (0 : Int).toNat (a : Int).toNat).size = a := by rw [zd3 _ _ _ (by omega) (by omega)]; omega
 rw [ifp, ifp, ifn (by rw [z1]; omega), w6e (n := (a : Int) + (d.size : Int)), ifp]
 have z2 : (b.extract ((a : Int) + (d.size : Int)).toNat b.size).size = b.size - (a + d.size) := by rw [zd3 _ _ _ (by omega) (by omega)]; omega
 rw [ifn (by rw [z2, bsa, z1]; omega)]
 congr 1
 refine zz9 ?_
 rw [zpx, zpx, zio, zio, show (0 : Int).toNat = 0 from rfl, dr0, show ((a : Int) + (d.size : Int)).toNat = a + d.size by omega, ← zli b, List.take_length, itn]
 rfl
theorem zxo (n a k : Nat) : clr (List.replicate n false) a k = List.replicate n false := by
 refine List.ext_getElem? fun i => ?_
 rw [zwy]
 split
 · rw [List.getElem?_replicate, lnr]
 · rfl
def zg1 (p : zD) : Nat → Storage
 | 0 => znk (zhc p.zB).toNat
 | k + 1 => if (og p.zB k).Kind = 0 then wrV (zg1 p k) (zkj p.zB k).toNat (zn0 (og p.zB k)) else zg1 p k
theorem zrt (h : ProgV p) : 0 ≤ zhc p.zB ∧ zhc p.zB ≤ 24 := by
 have := zyb h
 have := h.quads
 omega
theorem zv1 (N : Nat) (hN : 400 < N) (h : ProgV p) : ∀ k, k ≤ p.zB.length → StoP p (zg1 p k) ∧ (zg1 p k).Tags = List.replicate (zhc p.zB).toNat false
 | 0, _ => by
  have hl := zrt h; exact ⟨⟨z3e (by omega), by show ((znk _).Bytes.size : Int) = _; rw [zty]; omega⟩, rfl⟩
 | k + 1, hk => by
  obtain ⟨i1, i2⟩ := zv1 N hN h k (by omega); show StoP p (if (og p.zB k).Kind = 0 then _ else _) ∧ (if (og p.zB k).Kind = 0 then wrV (zg1 p k) (zkj p.zB k).toNat (zn0 (og p.zB k)) else zg1 p k).Tags = _
  by_cases h0 : (og p.zB k).Kind = 0
  · rw [ifp h0]; have ov := zpj h.ok (show k < p.zB.length by omega); obtain ⟨t1, t2⟩ := ov.ty (by rw [h0]; rfl); obtain ⟨_, _, e3⟩ := zwr N hN t1 t2 (ov.val (.inl h0)); obtain ⟨d1, d2⟩ := zu1 h (show k < p.zB.length by omega) (.inl h0) i1; have hp := zf9 t1; have w : (zkj p.zB k).toNat + (zn0 (og p.zB k)).size ≤ (zg1 p k).Bytes.size := by omega
    refine ⟨⟨z8k i1.sto w (by omega), by rw [zx8 w]; exact i1.size⟩, ?_⟩; show clr (zg1 p k).Tags _ _ = _; rw [i2, zxo]
  · rw [ifn h0]; exact ⟨i1, i2⟩
theorem z2k (N : Nat) (hN : 20000 < N) (h : ProgV p) (hc : (zkm p).2 = 0) : zy N p = some (zg1 p p.zB.length, 0) := by
 have hl := zrt h
 have n24 := h.n24
 unfold zy
 rw [z9c N (by omega), hc, zxe N (by omega) h.ok]
 simp only [obs, bsf, cfa]
 rw [show zhc p.zB = ((zhc p.zB).toNat : Int) by omega, z8q (by omega)]
 simp only [obs]
 have l1 := zax (f := zy.r0 N) (fun i => (zwt p.zB, 0, p.zB, (p.zB.length : Int), (i : Int), (⟨⟨#[]⟩, []⟩ : Storage), zg1 p i)) (fun _ => none) p.zB.length
  (fun i hi => by
   simp only [zy.r0, zy.b0, z38 hi, obs, dct (show (i : Int) < (p.zB.length : Int) by omega), ctr, orB, bsf, Bool.or_false]; rw [w6e (n := (i : Int) + 1)]
   by_cases h0 : (og p.zB i).Kind = 0
   · rw [zcd, dcf (fun hh => hh h0)]; simp only [cfa]; have ov := zpj h.ok hi; obtain ⟨t1, t2⟩ := ov.ty (by rw [h0]; rfl); obtain ⟨e1, _, e3⟩ := zwr N (by omega) t1 t2 (ov.val (.inl h0)); obtain ⟨i1, _⟩ := zv1 N (by omega) h i (by omega); obtain ⟨d1, d2⟩ := zu1 h hi (.inl h0) i1; have hp := zf9 t1; have w : (zkj p.zB i).toNat + (zn0 (og p.zB i)).size ≤ (zg1 p i).Bytes.size := by omega
     rw [e1, z09 hi]; simp only [obs, bsf, cfa]; have hw := z5d N (by omega) i1.sto w (by omega); rw [show (((zkj p.zB i).toNat : Nat) : Int) = zkj p.zB i by omega] at hw; rw [hw]; simp only [obs]; have e : zg1 p (i + 1) = wrV (zg1 p i) (zkj p.zB i).toNat (zn0 (og p.zB i)) := by
      show (if (og p.zB i).Kind = 0 then _ else _) = _; rw [ifp h0]
     rw [e]; rfl
   · rw [zcd, dct h0]; simp only [ctr]; have e : zg1 p (i + 1) = zg1 p i := by
      show (if (og p.zB i).Kind = 0 then _ else _) = _; rw [ifn h0]
     rw [e]; rfl)
  (by simp only [zy.r0, zy.b0, dcf (show ¬ (p.zB.length : Int) < (p.zB.length : Int) by omega), cfa]) (N := N) (by omega)
 simp only [nc0] at l1
 have e0 : zg1 p 0 = znk (zhc p.zB).toNat := rfl
 rw [e0] at l1
 rw [l1]
 have : ∀ l : List Nat, l.findSome? (fun _ => (none : Option (Storage × Int))) = none := fun l => by rw [List.findSome?_eq_none_iff]; intros; rfl
 rw [this]
 rfl
theorem z2e (N : Nat) (hN : 20000 < N) (h : ProgV p) : zci N p = some (zg1 p p.zB.length) := by
 have hl := zrt h
 have n24 := h.n24
 unfold zci
 rw [zw8 N (by omega) h.ok]
 simp only [obs]
 rw [show zhc p.zB = ((zhc p.zB).toNat : Int) by omega, w6e, show ((zhc p.zB).toNat : Int) * 16 = ((16 * (zhc p.zB).toNat : Nat) : Int) by omega, show (0 : Int) = ((0 : Nat) : Int) from rfl, z3x N 0 (by decide) _ (by omega) (by omega)]
 simp only [obs]
 rw [ifp, ifp (Int.le_refl _), itn, zdj (by omega), ctr]
 have l1 := zbv (f := zci.r0 N) (fun i => (zwt p.zB, (i : Int), p, (⟨⟨#[]⟩, []⟩ : Storage), zg1 p i)) p.zB.length
  (fun i hi => by
   simp only [zci.r0, zci.b0, z38 hi, obs, dct (show (i : Int) < (p.zB.length : Int) by omega), ctr]; rw [w6e (n := (i : Int) + 1), zbj]
   by_cases h0 : (og p.zB i).Kind = 0
   · rw [dct h0]; simp only [ctr]; have ov := zpj h.ok hi; obtain ⟨t1, t2⟩ := ov.ty (by rw [h0]; rfl); obtain ⟨_, e2, e3⟩ := zwr N (by omega) t1 t2 (ov.val (.inl h0)); obtain ⟨i1, i2⟩ := zv1 N (by omega) h i (by omega); obtain ⟨d1, d2⟩ := zu1 h hi (.inl h0) i1; have hp := zf9 t1; have w : (zkj p.zB i).toNat + (zn0 (og p.zB i)).size ≤ (zg1 p i).Bytes.size := by omega
     rw [e2, z09 hi]; simp only [obs]; have hw := z5n w i1.sto.le; rw [show (((zkj p.zB i).toNat : Nat) : Int) = zkj p.zB i by omega] at hw; rw [hw]; simp only [obs]; have e : zg1 p (i + 1) = wrV (zg1 p i) (zkj p.zB i).toNat (zn0 (og p.zB i)) := by
      show (if (og p.zB i).Kind = 0 then _ else _) = _; rw [ifp h0]
     rw [e]; unfold wrV; rw [i2, zxo]; rfl
   · rw [dcf h0]; simp only [cfa]; have e : zg1 p (i + 1) = zg1 p i := by
      show (if (og p.zB i).Kind = 0 then _ else _) = _; rw [ifn h0]
     rw [e]; rfl)
  (by simp only [zci.r0, zci.b0, dcf (show ¬ (p.zB.length : Int) < (p.zB.length : Int) by omega), cfa]) (N := N) (by omega)
 simp only [nc0] at l1 ⊢
 have e0 : zg1 p 0 = znk (zhc p.zB).toNat := rfl
 rw [e0] at l1
 have e1 : (⟨⟨(List.replicate (16 * (zhc p.zB).toNat) (UInt8.ofNat 0)).toArray⟩, List.replicate (zhc p.zB).toNat false⟩ : Storage) = znk (zhc p.zB).toNat := rfl
 rw [e1, l1]
 rfl
theorem z05 {n : Nat} (h : Wft En n Ty.zD p) : p.zB.length ≤ n ∧ p.zA.length ≤ n ∧ p.zP.length ≤ n ∧ ∀ x ∈ p.zA, x.Args.length ≤ n := by
 have h1 := h (.lst Ty.zH p.zB) (by show _ ∈ zim p; simp [zim])
 have h2 := h (.lst Ty.zK p.zA) (by show _ ∈ zim p; simp [zim])
 have h3 := h (.lst Ty.zU p.zP) (by show _ ∈ zim p; simp [zim])
 cases h1 with
 | lst h1 _ =>
  cases h2 with
  | lst h2 h2' =>
   cases h3 with
   | lst h3 _ =>
    refine ⟨h1, h2, h3, fun x hx => ?_⟩; have h4 := h2' x hx (.lst (Ty.int .i64) x.Args) (by show _ ∈ zk1 x; simp [zk1]); cases h4 with
    | lst h4 _ => exact h4
theorem zrb {n : Nat} (h : n ≤ 1000000000) : Nat.ble n zah = true := Nat.ble_eq_true_of_le (by unfold zah; omega)
theorem z5y (N : Nat) (hN : 1048600 < N) (hp : Wft En 1048576 Ty.zD p) : zd8 N p = some p := by
 obtain ⟨w1, w2, w3, w4⟩ := z05 hp
 unfold zd8
 rw [zrb (by omega), zrb (by omega)]
 simp only [ctr]
 have l1 := zbv (f := zd8.r0 N) (fun i => ((i : Int), p, (⟨[], [], []⟩ : zD), (⟨p.zB, p.zA.take i, p.zP⟩ : zD))) p.zA.length
  (fun i hi => by
   have hx := lge hi; have ha := w4 _ (List.getElem_mem hi); simp only [zd8.r0, zd8.b0, zae, hx, obs, dct (show (i : Int) < (p.zA.length : Int) by omega), ctr, zgh, zrb (show p.zA[i].Args.length * 8 ≤ 1000000000 by omega)]; rw [zrb (by rw [lnt]; simp only [lnc, ln0]; omega), ctr, w6e, ← List.take_append_getElem hi]; rfl)
  (by simp only [zd8.r0, zd8.b0, dcf (show ¬ (p.zA.length : Int) < (p.zA.length : Int) by omega), cfa]) (N := N) (by omega)
 simp only [nc0, List.take_zero] at l1
 rw [l1, obs, List.take_length]
theorem zaa1 (N : Nat) (hN : 1048600 < N) (hp : Wft En 1048576 Ty.zD p) : ∃ b, zb2 N p = some b := by
 obtain ⟨w1, w2, w3, w4⟩ := z05 hp
 unfold zb2
 simp only [orB, obs]
 cases (decide ((p.zB.length : Int) > 28) || decide ((p.zA.length : Int) > 44)) || decide ((p.zP.length : Int) > 9) with
 | true => exact ⟨_, rfl⟩
 | false =>
  simp only [cfa]; have l1 := zlc (f := zb2.r0 N) (fun i t => t = ((i : Int), p)) (fun r => True) p.zB.length
   (fun i t hi ht => by
    subst ht; have hx := lge hi; simp only [zb2.r0, zb2.b0, zae, hx, obs, dct (show (i : Int) < (p.zB.length : Int) by omega), ctr, orB]; rw [w6e (n := (i : Int) + 1)]; cases (decide ((p.zB[i].Name.size : Int) > 100) || decide ((p.zB[i].Base.size : Int) > 100)) || decide ((p.zB[i].Value.S.size : Int) > 600) with
    | true => exact .inr ⟨_, rfl, trivial⟩
    | false => exact .inl ⟨_, rfl, rfl⟩)
   (fun t ht => by
    subst ht; simp only [zb2.r0, zb2.b0, dcf (show ¬ (p.zB.length : Int) < (p.zB.length : Int) by omega), cfa]; exact ⟨_, rfl, rfl⟩) (N := N) (by omega) (s := (0, p)) rfl
  rcases l1 with ⟨t, g1, g2⟩ | ⟨r, g1, _⟩
  · rw [g1, g2]; simp only [obs, zbc]; have l2 := zlc (f := zb2.r2 N) (fun i t => t = ((i : Int), p)) (fun r => True) p.zA.length
     (fun i t hi ht => by
      subst ht; have hx := lge hi; simp only [zb2.r2, zb2.b2, zae, hx, obs, dct (show (i : Int) < (p.zA.length : Int) by omega), ctr]; rw [w6e (n := (i : Int) + 1)]; cases decide ((p.zA[i].Args.length : Int) > 6) with
      | true => exact .inr ⟨_, rfl, trivial⟩
      | false => exact .inl ⟨_, rfl, rfl⟩)
     (fun t ht => by
      subst ht; simp only [zb2.r2, zb2.b2, dcf (show ¬ (p.zA.length : Int) < (p.zA.length : Int) by omega), cfa]; exact ⟨_, rfl, rfl⟩) (N := N) (by omega) (s := (0, p)) rfl
    rcases l2 with ⟨t, g3, _⟩ | ⟨r, g3, _⟩
    · rw [g3]; exact ⟨_, rfl⟩
    · rw [g3]; exact ⟨_, rfl⟩
  · rw [g1]; exact ⟨_, rfl⟩
end
variable {p : zD} {x : Translation}
theorem zxh {R α : Type} {f : α → Option (Round R α)} (S : Nat → α) (g : Nat → Option R) (P : Nat → Prop) (n : Nat) (h0 : P 0) (hP : ∀ i, i < n → P i → g i = none → P (i + 1)) (h : ∀ i, i < n → P i → f (S i) = some (match g i with | some r => .result r | none => .again (S (i + 1)))) (hl : f (S n) = some (.leave (S n))) {N : Nat} (hN : n < N) :
 zf f N (S 0) = some (match (List.range n).findSome? g with | some r => .inl r | none => .inr (S n)) := by
 have key : ∀ k i N, i + k = n → k < N → P i → zf f N (S i) = some (match (List.range' i k).findSome? g with | some r => .inl r | none => .inr (S n)) := by
  intro k
  induction k with
  | zero =>
   intro i N hi hN _; obtain ⟨m, rfl⟩ : ∃ m, N = m + 1 := ⟨N - 1, by omega⟩; obtain rfl : i = n := by omega
   simp only [zf, hl, obs]; rfl
  | succ k ih =>
   intro i N hi hN hp; obtain ⟨m, rfl⟩ : ∃ m, N = m + 1 := ⟨N - 1, by omega⟩; simp only [zf, h i (by omega) hp, obs, List.range'_succ, List.findSome?_cons]; cases hg : g i with
   | some r => rfl
   | none => exact ih (i + 1) m (by omega) (by omega) (hP i (by omega) hp hg)
 rw [List.range_eq_range']
 exact key n 0 N (by omega) hN h0
def zvv (x : Translation) (n i : Nat) (a : Int) : Bool := match x.Code.zA[a.toNat]? with
 | some y => (decide (i < n) && (y.Op != 25)) || (decide (i = n) && ((y.Op != 26) || (a != (x.Code.zA.length : Int) - 1)))
 | none => false
def ztk (x : Translation) (n i : Nat) : Bool := match x.Map.Starts[i]? with
 | some a => cond (decide (i = 0)) (a != 0) (decide (a ≤ x.Map.Starts.getD (i - 1) 0)) || (decide (a ≥ (x.Code.zA.length : Int)) || zvv x n i a)
 | none => false
def stB (x : Translation) (n i : Nat) : Option (Int × Int) := if ztk x n i = true then some ((i : Int), 42) else none
def stP (x : Translation) (i : Nat) : Prop := 0 < i → 0 ≤ x.Map.Starts.getD (i - 1) 0
structure MapV (x : Translation) (n : Nat) : Prop where
 n40 : n ≤ 40
 len : x.Code.zA.length ≤ 240
 st : x.Map.Starts.length = n + 1
theorem zyh {n i : Nat} (h : MapV x n) (hi : i < n + 1) (hp : stP x i) (hg : stB x n i = none) : stP x (i + 1) := by
 intro _
 have hx := lge (show i < x.Map.Starts.length by rw [h.st]; exact hi)
 rw [Nat.add_sub_cancel, gdd, hx]
 simp only [Option.getD_some]
 unfold stB at hg
 split at hg
 · cases hg
 · rename_i hb; unfold ztk at hb; rw [hx] at hb; simp only [Bool.or_eq_true, not_or] at hb; have h1 := hb.1
   by_cases h0 : i = 0
   · rw [dct h0, ctr, bne_iff_ne] at h1; simp only [ne_eq, Decidable.not_not] at h1; omega
   · rw [dcf h0, cfa, decide_eq_true_eq] at h1; have := hp (by omega); omega
theorem z1h {i n : Nat} : decide ((i : Int) < (n : Int)) = decide (i < n) := by rw [decide_eq_decide]; omega
theorem z1i {i n : Nat} : decide ((i : Int) = (n : Int)) = decide (i = n) := by rw [decide_eq_decide]; omega
theorem z49 (N : Nat) {n i : Nat} (h : MapV x n) (hi : i < n + 1) (hp : stP x i) :
 zal.r0 N (x.Map.Starts, (n : Int), x.Map.Starts, ((n + 1 : Nat) : Int), (i : Int), x.Code) = some (match stB x n i with | some r => .result r | none => .again (x.Map.Starts, (n : Int), x.Map.Starts, ((n + 1 : Nat) : Int), ((i + 1 : Nat) : Int), x.Code)) := by
 have n40 := h.n40
 have hlen := h.len
 obtain ⟨a, hx⟩ : ∃ a, x.Map.Starts[i]? = some a := ⟨_, lge (by rw [h.st]; exact hi)⟩
 have fin : ∀ (b : Bool) (Q A : Option (Round (Int × Int) ((List Int) × Int × (List Int) × Int × Int × zI))), Q = some (.result ((i : Int), 42)) → A = some (.again (x.Map.Starts, (n : Int), x.Map.Starts, ((n + 1 : Nat) : Int), ((i + 1 : Nat) : Int), x.Code)) → b = cond (decide (i = 0)) (a != 0) (decide (a ≤ x.Map.Starts.getD (i - 1) 0)) →
  ((cond b (some true) (some (decide (a ≥ (x.Code.zA.length : Int))))).bind fun g1007 => cond g1007 Q
  ((idx x.Code.zA a).bind fun x1008 => (cond (decide (i < n)) (some (x1008.Op != 25)) (some false)).bind fun g1009 => (cond g1009 (some true) ((cond (decide (i = n))
  ((cond (x1008.Op != 26) (some true) (some (a != (x.Code.zA.length : Int) - 1))).bind fun g1010 => some g1010) (some false)).bind fun g1011 =>
  some g1011)).bind fun g1012 => cond g1012 Q A)) =
  some (match stB x n i with | some r => .result r | none => .again (x.Map.Starts, (n : Int), x.Map.Starts, ((n + 1 : Nat) : Int), ((i + 1 : Nat) : Int), x.Code)) := by
  intro b Q A hQ hA hb; subst hQ hA; have hsb : ztk x n i = (b || (decide (a ≥ (x.Code.zA.length : Int)) || zvv x n i a)) := by
   unfold ztk; rw [hx, hb]
  unfold stB; rw [hsb]; cases b with
  | true => rfl
  | false =>
   by_cases h2 : a ≥ (x.Code.zA.length : Int)
   · rw [dct h2]; rfl
   · rw [dcf h2]; have ha : 0 ≤ a := by
      by_cases h0 : i = 0
      · rw [dct h0, ctr] at hb; have : a = 0 := by simpa using hb.symm
        omega
      · rw [dcf h0, cfa] at hb; have := of_decide_eq_false hb.symm; have := hp (by omega); omega
     have hy := lge (show a.toNat < x.Code.zA.length by omega); generalize x.Code.zA[a.toNat] = y at hy; have hz : idx x.Code.zA a = some y := by unfold idx; rw [ifp ha, hy]
     rw [hz]; unfold zvv; rw [hy]; simp only [cfa, obs, Bool.false_or]; cases decide (i < n) <;> cases decide (i = n) <;> cases (y.Op != 25) <;> cases (y.Op != 26) <;> cases (a != (x.Code.zA.length : Int) - 1) <;> rfl
 simp only [zal.r0, zal.b0]
 rw [zae, hx, dct (show (i : Int) < ((n + 1 : Nat) : Int) by omega), w6e (n := (i : Int) + 1), w6e (n := (x.Code.zA.length : Int) - 1)]
 simp only [obs, ctr, zbj, z1h, z1i]
 by_cases h0 : i = 0
 · subst h0; have e : (a != 0) = cond (decide ((0 : Nat) = 0)) (a != 0) (decide (a ≤ x.Map.Starts.getD (0 - 1) 0)) := rfl; rw [← fin _ _ _ rfl rfl e, show decide (((0 : Nat) : Int) > 0) = false from rfl, show decide (((0 : Nat) : Int) = 0) = true from rfl]
   by_cases ha : a = 0
   · subst ha; rfl
   · rw [dcf ha, show (a != 0) = true by simpa using ha]; cases decide (a > -1) <;> rfl
 · have hb := hp (by omega); have hq : idx x.Map.Starts ((i : Int) - 1) = some (x.Map.Starts.getD (i - 1) 0) := by
    rw [show (i : Int) - 1 = ((i - 1 : Nat) : Int) by omega, zae, gdd, lge (by rw [h.st]; omega)]; rfl
   have e : decide (a ≤ x.Map.Starts.getD (i - 1) 0) = cond (decide (i = 0)) (a != 0) (decide (a ≤ x.Map.Starts.getD (i - 1) 0)) := by rw [dcf h0]; rfl
   rw [← fin _ _ _ rfl rfl e, dct (show (i : Int) > 0 by omega), dcf (show ¬ (i : Int) = 0 by omega), w6e (n := (i : Int) - 1), ifn (show ¬ (0 : Int) > (i : Int) - 1 by omega), hq]; simp only [obs, ctr, cfa]; generalize x.Map.Starts.getD (i - 1) 0 = b at hb
   by_cases hab : a ≤ b
   · rw [dct hab, dcf (show ¬ a > b by omega)]; cases decide (a > -1) <;> rfl
   · rw [dcf hab, dct (show a > b by omega), dct (show a > -1 by omega)]; rfl
theorem z5l (N : Nat) {n i : Nat} (h : MapV x n) (hi : i < n + 1) (hp : stP x i) :
 zg.r0 N ((n : Int), x.Map.Starts, (i : Int), p, x) = some (match stB x n i with | some r => .result r | none => .again ((n : Int), x.Map.Starts, ((i + 1 : Nat) : Int), p, x)) := by
 have n40 := h.n40
 have hlen := h.len
 obtain ⟨a, hx⟩ : ∃ a, x.Map.Starts[i]? = some a := ⟨_, lge (by rw [h.st]; exact hi)⟩
 have fin : ∀ (b : Bool) (Q A : Option (Round (Int × Int) (Int × (List Int) × Int × zD × Translation))), Q = some (.result ((i : Int), 42)) → A = some (.again ((n : Int), x.Map.Starts, ((i + 1 : Nat) : Int), p, x)) → b = cond (decide (i = 0)) (a != 0) (decide (a ≤ x.Map.Starts.getD (i - 1) 0)) →
  ((cond b (some true) (some (decide (a ≥ (x.Code.zA.length : Int))))).bind fun g1008 => cond g1008 Q
  ((idx x.Code.zA a).bind fun x1010 => (cond (decide (i < n)) (some (x1010.Op != 25)) (some false)).bind fun g1011 => (cond g1011 (some true) ((cond (decide (i = n))
  ((cond (x1010.Op != 26) (some true) (some (a != (x.Code.zA.length : Int) - 1))).bind fun g1013 => some g1013) (some false)).bind fun g1014 =>
  some g1014)).bind fun g1015 => cond g1015 Q A)) =
  some (match stB x n i with | some r => .result r | none => .again ((n : Int), x.Map.Starts, ((i + 1 : Nat) : Int), p, x)) := by
  intro b Q A hQ hA hb; subst hQ hA; have hsb : ztk x n i = (b || (decide (a ≥ (x.Code.zA.length : Int)) || zvv x n i a)) := by
   unfold ztk; rw [hx, hb]
  unfold stB; rw [hsb]; cases b with
  | true => rfl
  | false =>
   by_cases h2 : a ≥ (x.Code.zA.length : Int)
   · rw [dct h2]; rfl
   · rw [dcf h2]; have ha : 0 ≤ a := by
      by_cases h0 : i = 0
      · rw [dct h0, ctr] at hb; have : a = 0 := by simpa using hb.symm
        omega
      · rw [dcf h0, cfa] at hb; have := of_decide_eq_false hb.symm; have := hp (by omega); omega
     have hy := lge (show a.toNat < x.Code.zA.length by omega); generalize x.Code.zA[a.toNat] = y at hy; have hz : idx x.Code.zA a = some y := by unfold idx; rw [ifp ha, hy]
     rw [hz]; unfold zvv; rw [hy]; simp only [cfa, obs, Bool.false_or]; cases decide (i < n) <;> cases decide (i = n) <;> cases (y.Op != 25) <;> cases (y.Op != 26) <;> cases (a != (x.Code.zA.length : Int) - 1) <;> rfl
 simp only [zg.r0, zg.b0]
 rw [zae, hx, dct (show (i : Int) ≤ (n : Int) by omega), w6e (n := (i : Int) + 1), w6e (n := (x.Code.zA.length : Int) - 1)]
 simp only [obs, ctr, zbj, z1h, z1i]
 by_cases h0 : i = 0
 · subst h0; have e : (a != 0) = cond (decide ((0 : Nat) = 0)) (a != 0) (decide (a ≤ x.Map.Starts.getD (0 - 1) 0)) := rfl; rw [← fin _ _ _ rfl rfl e, show decide (((0 : Nat) : Int) > 0) = false from rfl, show decide (((0 : Nat) : Int) = 0) = true from rfl]; cases (a != 0) <;> rfl
 · have hb := hp (by omega); have hq : idx x.Map.Starts ((i : Int) - 1) = some (x.Map.Starts.getD (i - 1) 0) := by
    rw [show (i : Int) - 1 = ((i - 1 : Nat) : Int) by omega, zae, gdd, lge (by rw [h.st]; omega)]; rfl
   have e : decide (a ≤ x.Map.Starts.getD (i - 1) 0) = cond (decide (i = 0)) (a != 0) (decide (a ≤ x.Map.Starts.getD (i - 1) 0)) := by rw [dcf h0]; rfl
   rw [← fin _ _ _ rfl rfl e, dct (show (i : Int) > 0 by omega), dcf (show ¬ (i : Int) = 0 by omega), w6e (n := (i : Int) - 1), hq]; simp only [obs, ctr, cfa]; cases decide (a ≤ x.Map.Starts.getD (i - 1) 0) <;> rfl
variable {p : zD} {x : Translation}
theorem z4y {a b : List Bool} (h : a.length = b.length) : (List.range a.length).findSome? (zn3 a b) = if a = b then none else some false := by
 by_cases e : a = b
 · subst e; rw [ifp rfl, List.findSome?_eq_none_iff]; intro i hi; have hi : i < a.length := by simpa using hi
   unfold zn3; rw [lge hi, obs, obs, ifp rfl]
 · rw [ifn e]; cases hf : (List.range a.length).findSome? (zn3 a b) with
   | none =>
    refine absurd ?_ e; rw [List.findSome?_eq_none_iff] at hf; apply List.ext_getElem h; intro i h1 h2; have := hf i (by simpa using h1); unfold zn3 at this; rw [lge h1, lge h2, obs, obs] at this; split at this
    · rename_i h3; exact h3
    · cases this
   | some v =>
    obtain ⟨i, _, hv⟩ := eof hf; unfold zn3 at hv; rw [Option.bind_eq_some_iff] at hv; obtain ⟨u, _, hv⟩ := hv; rw [Option.bind_eq_some_iff] at hv; obtain ⟨w, _, hv⟩ := hv; split at hv
    · cases hv
    · cases hv; rfl
theorem zyn (N : Nat) (a b : List Bool) (h : a.length < N) (hl : a.length < 1000000000) : zab N a b = some (decide (a = b)) := by
 unfold zab
 rw [zcd]
 by_cases e : (a.length : Int) = (b.length : Int)
 · rw [dcf (show ¬ (a.length : Int) ≠ (b.length : Int) from fun h => h e)]; have l1 := zax (f := zab.r0 N) (fun i => (a, b, (a.length : Int), (i : Int))) (zn3 a b) a.length (fun i hi => by
    have hx := lge hi; have hy := lge (show i < b.length by omega); generalize a[i] = u at hx; generalize b[i] = v at hy; simp only [zab.r0, zab.b0, zn3, zae, hx, hy, obs, dct (show (i : Int) < (a.length : Int) by omega), ctr]; rw [w6e]; cases u <;> cases v <;> rfl)
    (by simp only [zab.r0, zab.b0, dcf (Int.lt_irrefl _), cfa]) h
   simp only [nc0] at l1; rw [cfa, l1, z4y (by omega)]
   by_cases e2 : a = b
   · rw [ifp e2, dct e2]; rfl
   · rw [ifn e2, dcf e2]; rfl
 · rw [dct (show (a.length : Int) ≠ (b.length : Int) from e), dcf (show ¬ a = b from fun h => e (by rw [h]))]; rfl
theorem z32 (N : Nat) (a b : List Bool) (h : a.length < N) (hl : a.length < 1000000000) : zdg N a b = some (decide (a = b)) := by
 obtain ⟨v, h1, h2⟩ := z28 N a b h hl
 rw [zyn N a b h hl] at h1
 rw [h2, ← h1]
theorem z69 (N : Nat) (l : List Int) (z : Int) (h : l.length < N) (hl : l.length < 1000000000) : zea N l z = some (l.contains z) := by
 unfold zea zbn
 have := z8s (f := zbn.r0 N) l (fun y => z == y) (fun i => (l, z, (l.length : Int), (i : Int))) (fun i y hy => by
  have hi := (gei hy).1; simp only [zbn.r0, zbn.b0, zae, hy, obs, dct (show (i : Int) < (l.length : Int) by omega), ctr]; rw [w6e]; cases (z == y) <;> rfl)
  (by simp only [zbn.r0, zbn.b0, dcf (show ¬ (l.length : Int) < (l.length : Int) by omega), cfa]) h
 simp only [nc0] at this
 rw [this]
 have e := zud l (fun y => z == y)
 have e2 : l.contains z = l.any fun y => z == y := List.contains_eq_any_beq
 rw [e2, ← e]
 cases hf : l.findIdx? (fun y => z == y) with
 | none => rfl
 | some k => simp [zbc]
def zvw (x : Translation) (n i : Nat) : Bool := match x.Code.zA[i]? with
 | some y => ((y.Op == 25) && !(x.Map.Starts.take n).contains (i : Int)) || (zkk y.Op && !(x.Map.Starts.take n).contains y.Target)
 | none => false
def mkB (x : Translation) (n i : Nat) : Option (Int × Int) := if zvw x n i = true then some (0, 42) else none
theorem z5a (N : Nat) (hN : 1000 < N) {n : Nat} (h : MapV x n) : zf (zay.r0 N) N (x.Map.Starts, x.Map.Starts.take n, x.Code.zA, (x.Code.zA.length : Int), 0, p, x) =
 some (match (List.range x.Code.zA.length).findSome? (mkB x n) with | some r => .inl r | none => .inr (x.Map.Starts, x.Map.Starts.take n, x.Code.zA, (x.Code.zA.length : Int), (x.Code.zA.length : Int), p, x)) := by
 have n40 := h.n40
 have hlen := h.len
 have hst := h.st
 have htl : (x.Map.Starts.take n).length ≤ 60 := by rw [lnt]; omega
 have l1 := zax (f := zay.r0 N) (fun i => (x.Map.Starts, x.Map.Starts.take n, x.Code.zA, (x.Code.zA.length : Int), (i : Int), p, x)) (mkB x n) x.Code.zA.length (fun i hi => by
  have hx := lge hi; have hb : zvw x n i = ((((x.Code.zA[i]).Op == 25) && !(x.Map.Starts.take n).contains (i : Int)) || (zkk (x.Code.zA[i]).Op && !(x.Map.Starts.take n).contains (x.Code.zA[i]).Target)) := by unfold zvw; rw [hx]
  generalize x.Code.zA[i] = y at hx hb; unfold mkB; rw [hb]; simp only [zay.r0, zay.b0]; rw [zae, hx, dct (show (i : Int) < (x.Code.zA.length : Int) by omega), w6e]; simp only [obs, ctr, z5b, z69 N (x.Map.Starts.take n) _ (by omega) (by omega)]; cases (y.Op == 25) <;> cases (x.Map.Starts.take n).contains (i : Int) <;> cases zkk y.Op <;> cases (x.Map.Starts.take n).contains y.Target <;> rfl)
  (by simp only [zay.r0, zay.b0]; rw [dcf (Int.lt_irrefl _), cfa]) (show x.Code.zA.length < N by omega)
 simp only [nc0] at l1
 rw [l1]
 cases (List.range x.Code.zA.length).findSome? (mkB x n) <;> rfl
theorem z5o (N : Nat) (hN : 1000 < N) {n : Nat} (h : MapV x n) : zf (zg.r2 N) N ((n : Int), x.Map.Starts, 0, p, x) =
 some (match (List.range x.Code.zA.length).findSome? (mkB x n) with | some r => .inl r | none => .inr ((n : Int), x.Map.Starts, (x.Code.zA.length : Int), p, x)) := by
 have n40 := h.n40
 have hlen := h.len
 have hst := h.st
 have htl : (x.Map.Starts.take n).length ≤ 60 := by rw [lnt]; omega
 have l1 := zax (f := zg.r2 N) (fun i => ((n : Int), x.Map.Starts, (i : Int), p, x)) (mkB x n) x.Code.zA.length (fun i hi => by
  have hx := lge hi; have hb : zvw x n i = ((((x.Code.zA[i]).Op == 25) && !(x.Map.Starts.take n).contains (i : Int)) || (zkk (x.Code.zA[i]).Op && !(x.Map.Starts.take n).contains (x.Code.zA[i]).Target)) := by unfold zvw; rw [hx]
  generalize x.Code.zA[i] = y at hx hb; obtain ⟨r1, e1, d1⟩ := zvo N (x.Map.Starts.take n) (i : Int) (by omega) (by omega); obtain ⟨r2, e2, d2⟩ := zvo N (x.Map.Starts.take n) y.Target (by omega) (by omega); unfold mkB; rw [hb]; simp only [zg.r2, zg.b2]; rw [zae, hx, dct (show (i : Int) < (x.Code.zA.length : Int) by omega), w6e]; simp only [obs, ctr, z0o, ifp (show 0 ≤ (n : Int) ∧ (n : Int) ≤ (x.Map.Starts.length : Int) by omega), ifp (show (0 : Int) ≤ 0 ∧ (0 : Int) ≤ (n : Int) by omega), itn, Int.toNat_zero, dr0, e1, e2]; rw [zbj r1, zbj r2, d1, d2]; cases (y.Op == 25) <;> cases (x.Map.Starts.take n).contains (i : Int) <;> cases zkk y.Op <;> cases (x.Map.Starts.take n).contains y.Target <;> rfl)
  (by simp only [zg.r2, zg.b2]; rw [dcf (Int.lt_irrefl _), cfa]) (show x.Code.zA.length < N by omega)
 simp only [nc0] at l1
 rw [l1]
 cases (List.range x.Code.zA.length).findSome? (mkB x n) <;> rfl
def zmd (st : List Int) (t : zU) : zR := ⟨st.getD t.From.toNat 0, st.getD t.To.toNat 0, t.Exception, st.getD t.Handler.toNat 0⟩
theorem zqi {st : List Int} {z : Int} (h0 : 0 ≤ z) (h1 : z < (st.length : Int)) : idx st z = some (st.getD z.toNat 0) := by
 unfold idx
 rw [ifp h0, gdd, lge (by omega)]
 rfl
theorem z1w (N : Nat) {st : List Int} {l : List zU} (hN : l.length < N) (hl : l.length ≤ 1000) (ht : ∀ t ∈ l, (0 ≤ t.From ∧ t.From < (st.length : Int)) ∧ (0 ≤ t.To ∧ t.To < (st.length : Int)) ∧ 0 ≤ t.Handler ∧ t.Handler < (st.length : Int)) : zaz N l st = some (l.map (zmd st)) := by
 unfold zaz
 have := coll (f := zaz.r0 N) l (fun t => some (zmd st t)) (fun i acc => (st, acc, l, (l.length : Int), (i : Int))) (fun i t acc hx hacc => by
  have hi := (gei hx).1; obtain ⟨h1, h2, h3⟩ := ht t (lmg hx); simp only [zaz.r0, zaz.b0, zae, hx, obs, dct (show (i : Int) < (l.length : Int) by omega), ctr, zqi h1.1 h1.2, zqi h2.1 h2.2, zqi h3.1 h3.2, lnc, ln0, zaa3 (show acc.length + (0 + 1) ≤ 1000000000 by omega)]; rw [w6e]; rfl)
  (fun acc => by simp only [zaz.r0, zaz.b0, dcf (Int.lt_irrefl _), cfa]) hN
 simp only [nc0] at this
 rw [this]
 simp only [obs]
 congr 1
 rw [← List.filterMap_eq_map]
 rfl
theorem z2c (N : Nat) (hN : 1000 < N) (hl : p.zP.length ≤ 900) (e : x.Code.zV.length = p.zP.length)
 (ht : ∀ t ∈ p.zP, (0 ≤ t.From ∧ t.From < (x.Map.Starts.length : Int)) ∧ (0 ≤ t.To ∧ t.To < (x.Map.Starts.length : Int)) ∧ 0 ≤ t.Handler ∧ t.Handler < (x.Map.Starts.length : Int)) (n : Int) :
 zf (zg.r4 N) N (n, x.Map.Starts, 0, p, x) = some (match (List.range p.zP.length).findSome? (fun i => if zq4 x.Code.zV (p.zP.map (zmd x.Map.Starts)) i = true then some ((0 : Int), (42 : Int)) else none) with | some b => .inl b | none => .inr (n, x.Map.Starts, (p.zP.length : Int), p, x)) := by
 have l1 := zax (f := zg.r4 N) (fun i => (n, x.Map.Starts, (i : Int), p, x)) (fun i => if zq4 x.Code.zV (p.zP.map (zmd x.Map.Starts)) i = true then some ((0 : Int), (42 : Int)) else none) p.zP.length (fun i hi => by
  have hx := lge hi; have hy := lge (show i < x.Code.zV.length by omega); obtain ⟨h1, h2, h3⟩ := ht _ (List.getElem_mem hi); generalize p.zP[i] = t at hx h1 h2 h3; generalize x.Code.zV[i] = u at hy; simp only [zg.r4, zg.b4, zq4, zae, hx, hy, List.getElem?_map, Option.map_some, obs, dct (show (i : Int) < (p.zP.length : Int) by omega), ctr, zqi h1.1 h1.2, zqi h2.1 h2.2, zqi h3.1 h3.2]; rw [w6e]; show cond (!(zcp [(u.From == (zmd x.Map.Starts t).From), (u.To == (zmd x.Map.Starts t).To), (u.Exception == (zmd x.Map.Starts t).Exception), (u.Handler == (zmd x.Map.Starts t).Handler)])) _ _ = _; cases zcp [(u.From == (zmd x.Map.Starts t).From), (u.To == (zmd x.Map.Starts t).To), (u.Exception == (zmd x.Map.Starts t).Exception), (u.Handler == (zmd x.Map.Starts t).Handler)] <;> rfl)
  (by simp only [zg.r4, zg.b4, dcf (Int.lt_irrefl _), cfa]) (show p.zP.length < N by omega)
 simp only [nc0] at l1
 rw [l1]
 cases (List.range p.zP.length).findSome? (fun i => if zq4 x.Code.zV (p.zP.map (zmd x.Map.Starts)) i = true then some ((0 : Int), (42 : Int)) else none) <;> rfl
variable {p : zD} {x : Translation}
theorem z67 {n i : Nat} {r : Int × Int} (h : stB x n i = some r) : r.2 = 42 := by
 unfold stB at h
 split at h
 · cases h; rfl
 · cases h
theorem z3h (N : Nat) (hN : 1000 < N) {n : Nat} (h : MapV x n) : zal N x.Code x.Map.Starts = some (match (List.range (n + 1)).findSome? (stB x n) with | some r => r | none => (0, 0)) := by
 have n40 := h.n40
 unfold zal
 rw [h.st, w6e, show ((n + 1 : Nat) : Int) - 1 = (n : Int) by omega]
 have l1 := zxh (f := zal.r0 N) (fun i => (x.Map.Starts, (n : Int), x.Map.Starts, ((n + 1 : Nat) : Int), (i : Int), x.Code)) (stB x n) (stP x) (n + 1) (fun h => absurd h (by omega)) (fun i hi hp hg => zyh h hi hp hg) (fun i hi hp => by
  rw [z49 N h hi hp]; cases stB x n i <;> rfl)
  (by simp only [zal.r0, zal.b0, dcf (Int.lt_irrefl _), cfa]) (show n + 1 < N by omega)
 simp only [nc0] at l1
 rw [l1]
 cases (List.range (n + 1)).findSome? (stB x n) <;> rfl
theorem z3w (N : Nat) (hN : 1000 < N) {n : Nat} (h : MapV x n) : zf (zg.r0 N) N ((n : Int), x.Map.Starts, 0, p, x) = some (match (List.range (n + 1)).findSome? (stB x n) with | some r => .inl r | none => .inr ((n : Int), x.Map.Starts, ((n + 1 : Nat) : Int), p, x)) := by
 have n40 := h.n40
 have l1 := zxh (f := zg.r0 N) (fun i => ((n : Int), x.Map.Starts, (i : Int), p, x)) (stB x n) (stP x) (n + 1) (fun h => absurd h (by omega)) (fun i hi hp hg => zyh h hi hp hg) (fun i hi hp => by
  rw [z5l N h hi hp]; cases stB x n i <;> rfl)
  (by simp only [zg.r0, zg.b0]; rw [dcf (show ¬ ((n + 1 : Nat) : Int) ≤ (n : Int) by omega), cfa]) (show n + 1 < N by omega)
 simp only [nc0] at l1
 rw [l1]
 cases (List.range (n + 1)).findSome? (stB x n) <;> rfl
theorem z0r (N : Nat) {m : zL} {c : zI} {em : Int} (hm : zgl m = some em) (h0 : em ≠ 0) {r : Int × Int} (h : zo N m c = some r) : r.2 = em := by
 unfold zo at h
 rw [hm, obs, show (em != 0) = true by simpa using h0, ctr] at h
 cases h
 rfl
theorem z56 (N : Nat) (hN : 1048600 < N) (p : zD) (hc : Wft En 1048576 Ty.zI x.Code) : ∃ r, zay N p x = some r ∧ zg N p x = some r := by
 obtain ⟨⟨nc, ec⟩, a1, a2⟩ := z4t N hN x.Model hc
 obtain ⟨em, m1, m2, _⟩ := zrs x.Model
 unfold zay zg ze9 zjw zdv
 rw [zy6 N (by omega), z5s N (by omega), a1, a2, m1]
 simp only [obs]
 rw [z5c N [(zkm p).2, em, ec] (by show 3 < N; omega) (by show 3 < 1000000000; omega), obs]
 have hf : zds [(zkm p).2, em, ec] = if (zkm p).2 ≠ 0 then (zkm p).2 else ec := by
  by_cases h1 : (zkm p).2 = 0
  · rw [ifn (fun h => h h1), h1]
    by_cases h2 : em = 0
    · by_cases h3 : ec = 0 <;> simp [zds, h2, h3]
    · have := z0r N m2 h2 a2; simp only at this; simp [zds, h2, this]
  · rw [ifp h1]; simp [zds, h1]
 rw [hf]
 by_cases hp : (zkm p).2 = 0
 · rw [ifn (fun h => h hp), hp]; simp only [bsf, cfa]
   by_cases he : ec = 0
   · subst he; obtain ⟨hcv, hn⟩ := z9v N hN hc a2; have pv := z88 hp; have hil := hcv.len; have hi40 := pv.i40; have hm6 := pv.m6; simp only [bsf, cfa]; rw [z2k N (by omega) pv hp, z2e N (by omega) pv]; simp only [obs, bsf, cfa]; have hio := (zv1 N (by omega) pv p.zB.length (Nat.le_refl _)).1.sto; have htl : (zg1 p p.zB.length).Tags.length ≤ 64 := by have := hio.tags; have := hio.le; omega
     generalize zg1 p p.zB.length = S at *; obtain ⟨w1, w2, w3, w4, w5⟩ := zm8 hc; unfold zh5; rw [zyn N S.Tags x.Code.Storage.Tags (by omega) (by omega), z32 N x.Code.Storage.Tags S.Tags (by omega) (by omega), show (x.Code.Storage.Bytes.toList == S.Bytes.toList) = (S.Bytes.toList == x.Code.Storage.Bytes.toList) from Bool.eq_iff_iff.2 (by rw [beq_iff_eq, beq_iff_eq]; exact ⟨Eq.symm, Eq.symm⟩), show decide (x.Code.Storage.Tags = S.Tags) = decide (S.Tags = x.Code.Storage.Tags) by rw [decide_eq_decide]; exact ⟨Eq.symm, Eq.symm⟩, w6e, zcd]
     by_cases hst : (x.Map.Starts.length : Int) = (p.zA.length : Int) + 1
     · rw [dcf (show ¬ (x.Map.Starts.length : Int) ≠ (p.zA.length : Int) + 1 from fun h => h hst)]; have mv : MapV x p.zA.length := ⟨hi40, hil, by omega⟩; have hmon : ∀ t ∈ p.zP, (0 ≤ t.From ∧ t.From < (x.Map.Starts.length : Int)) ∧ (0 ≤ t.To ∧ t.To < (x.Map.Starts.length : Int)) ∧ 0 ≤ t.Handler ∧ t.Handler < (x.Map.Starts.length : Int) := fun t ht => by
        have := pv.mon t ht; unfold zrr at this; simp only [Bool.and_eq_true, decide_eq_true_eq] at this; obtain ⟨b1, b2, b3, b4, b5⟩ := this; have := zcl.1 b5; omega
       rw [z3h N (by omega) mv, z3w N (by omega) mv]; simp only [obs]; cases (S.Bytes.toList == x.Code.Storage.Bytes.toList) with
       | false => exact ⟨(0, 42), rfl, rfl⟩
       | true =>
        cases decide (S.Tags = x.Code.Storage.Tags) with
        | false => exact ⟨(0, 42), rfl, rfl⟩
        | true =>
         simp only [ctr, obs, bnt, cfa]; cases hs : (List.range (p.zA.length + 1)).findSome? (stB x p.zA.length) with
         | some r =>
          obtain ⟨i, _, hi⟩ := eof hs; have := z67 hi; refine ⟨r, ?_, rfl⟩; simp only []; rw [this]; rw [show ((42 : Int) != 0) = true from rfl, ctr, ← this]
         | none =>
          simp only [zbc, bsf, cfa]; rw [ifp, ifp, itn, show (0 : Int).toNat = 0 from rfl, dr0, z5a N (by omega) mv, z5o N (by omega) mv]; simp only [obs]; cases (List.range x.Code.zA.length).findSome? (mkB x p.zA.length) with
          | some r => exact ⟨r, rfl, rfl⟩
          | none =>
           simp only [zbc]; rw [z1w N (by omega) (by omega) hmon]; simp only [obs]; rw [zcd]
           by_cases ht : (x.Code.zV.length : Int) = (p.zP.length : Int)
           · rw [dcf (show ¬ (x.Code.zV.length : Int) ≠ (p.zP.length : Int) from fun h => h ht), cfa, zya N (by rw [lnm]; omega) (by omega) (by omega), z2c N (by omega) (by omega) (by omega) hmon, show x.Code.zV.length = p.zP.length by omega, zr3, zr3]; cases ((List.range p.zP.length).map (zq4 x.Code.zV (p.zP.map (zmd x.Map.Starts)))).findIdx? id with
             | some k => exact ⟨(0, 42), rfl, rfl⟩
             | none => exact ⟨((p.zA.length : Int), 0), rfl, rfl⟩
           · rw [dct (show (x.Code.zV.length : Int) ≠ (p.zP.length : Int) from ht)]; unfold zaa; rw [zcd, lnm, dct (show (x.Code.zV.length : Int) ≠ (p.zP.length : Int) from ht)]; exact ⟨(0, 42), rfl, rfl⟩
     · rw [dct (show (x.Map.Starts.length : Int) ≠ (p.zA.length : Int) + 1 from hst)]; refine ⟨(0, 42), ?_, ?_⟩
       · cases (S.Bytes.toList == x.Code.Storage.Bytes.toList) <;> cases decide (S.Tags = x.Code.Storage.Tags) <;> rfl
       · cases (S.Bytes.toList == x.Code.Storage.Bytes.toList) <;> cases decide (S.Tags = x.Code.Storage.Tags) <;> rfl
   · rw [show (ec != 0) = true by simpa using he]; exact ⟨(0, ec), rfl, rfl⟩
 · rw [ifp hp, show ((zkm p).2 != 0) = true by simpa using hp]; exact ⟨(0, (zkm p).2), rfl, rfl⟩
structure TrnW (x : Translation) : Prop where
 c : Wft En 1048576 Ty.zI x.Code
 i : x.Map.Starts.length ≤ 1048576
theorem z8n (h : Wft En 1048576 Ty.Translation x) : TrnW x := by
 have k : ∀ u, u ∈ zmm x → Wfc En 1048576 u := h
 simp only [zmm, List.mem_cons, List.not_mem_nil, or_false] at k
 refine ⟨fun u hu => ?_, ?_⟩
 · have hu : u ∈ zie x.Code := hu; simp only [zie, List.mem_cons, List.not_mem_nil, or_false] at hu; rcases hu with rfl | rfl | rfl | rfl <;> exact k _ (by simp)
 · have := k (.lst (Ty.int .i64) x.Map.Starts) (by simp); cases this with
   | lst h1 _ => exact h1
theorem z7t (h : TrnW x) : ze3 x = some x := by
 have hi := h.i
 unfold ze3 zgh
 rw [z5z h.c, show Nat.ble (x.Map.Starts.length * 8) zah = true from Nat.ble_eq_true_of_le (by unfold zah; omega)]
 rfl
theorem plainTranslateMaps : zg4 := by
 intro p x hp hx
 refine ⟨2000000, ?_⟩
 have h := z8n hx
 obtain ⟨b1, hb1⟩ := zaa1 2000000 (by decide) hp
 obtain ⟨b2, hb2⟩ := z4m 2000000 (by decide) h.c
 obtain ⟨r, hr1, hr2⟩ := z56 2000000 (by decide) p h.c
 unfold zfg zik
 rw [z8f, hb1, hb2, z5y 2000000 (by decide) hp, z7t h]
 simp only [obs, bnt, cfa]
 rw [hr1, hr2]
 cases b1 with
 | false => rfl
 | true =>
  cases b2 with
  | false => rfl
  | true =>
   cases decide ((x.Map.Starts.length : Int) ≤ 60) with
   | false => rfl
   | true => simp
end
end Go.Proofs.YtnpfkhdbmlhfhaaGreatDoor.M
namespace Go.Proofs.YtnpfkhdbmlhfhaaGreatDoor
theorem translateMaps_card : Rows.TranslateMapsUptoCardSaid := M.cardTranslateMaps M.plainTranslateMaps
#print axioms translateMaps_card
end Go.Proofs.YtnpfkhdbmlhfhaaGreatDoor
