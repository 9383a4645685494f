/- The plain law of InterpretSteps: part 1. -/
import Derived.Test.YtmifhmfokbigiaaGreatDoorPInterpretStepsx0
namespace Go.Proofs.YtmifhmfokbigiaaGreatDoor.M
open Go Go.Amx
set_option linter.unusedVariables false
set_option linter.unusedSimpArgs false
set_option maxRecDepth 100000
noncomputable section
theorem z50 (N : Nat) (hN : 2000 < N) {s : Storage} (h : zqf s) {a : Int} (ha : zus s a = true) :
 zfw N s a = some (match ldV s a with | some o => (zka o, 0) | none => (z4i, 22)) := by
 obtain ⟨a1, a2, a3⟩ := zuo ha
 have hl := h.le
 have hq := h.quad
 have ht := h.tags
 unfold zfw
 rw [zaey h.ok, ha]
 simp only [obs, bnt, cfa]
 have ed : w6 (a.tdiv 16) = (((a / 16).toNat : Nat) : Int) := by
  rw [tde a1, w6e]; omega
 have hi : (a / 16).toNat < s.Tags.length := by omega
 rw [ed, zai, lge hi]
 simp only [obs]
 unfold ldV
 rw [lge hi]
 cases hb : s.Tags[(a / 16).toNat] with
 | false => rfl
 | true =>
  simp only [bnt, cfa, if_true]; unfold zk7; rw [w6e (n := (((a / 16).toNat : Nat) : Int) * 16), w6e, ifp, ifp]; simp only [obs]; have e : s.Bytes.extract ((((a / 16).toNat : Nat) : Int) * 16).toNat ((((a / 16).toNat : Nat) : Int) * 16 + 16).toNat = s.Bytes.extract (16 * (a / 16).toNat) (16 * (a / 16).toNat + 16) := by
   rw [show ((((a / 16).toNat : Nat) : Int) * 16).toNat = 16 * (a / 16).toNat by omega, show ((((a / 16).toNat : Nat) : Int) * 16 + 16).toNat = 16 * (a / 16).toNat + 16 by omega]
  rw [e, z8l N (by omega) _ (by rw [zdc _ _ _ (by omega) (by omega)]; omega), zoh]; obtain ⟨off, _, h2⟩ := h.ptr (a / 16).toNat (by rw [lge hi, hb]); rw [h2]; rfl
theorem zaae {s : Storage} (h : s.Tags.length ≤ 100000) : zgt s = some s := by
 unfold zgt zly
 rw [za3 (by omega)]
 rfl
theorem z8i (N : Nat) (hN : 2000 < N) {s : Storage} (h : zqf s) {a : Nat} {d : ByteArray} (hd : a + d.size ≤ s.Bytes.size) (hd0 : 0 < d.size) : zb1 N s (a : Int) d = some (wrV s a d) := by
 have hl := h.le
 have hq := h.quad
 have ht := h.tags
 have hmax : IntKind.i64.max = 9223372036854775807 := by decide
 unfold zb1 zqc
 rw [zaae (by omega), hmax]
 simp only [obs]
 have z1 : (s.Bytes.extract (0 : Int).toNat (a : Int).toNat).size = a := by rw [zdc _ _ _ (by omega) (by omega)]; omega
 rw [ifp, ifp, ifn (by rw [z1]; omega), w6e (n := (a : Int) + (d.size : Int)), ifp]
 have z2 : (s.Bytes.extract ((a : Int) + (d.size : Int)).toNat s.Bytes.size).size = s.Bytes.size - (a + d.size) := by rw [zdc _ _ _ (by omega) (by omega)]; omega
 rw [ifn (by rw [z2, bsa, z1]; omega)]
 simp only [obs]
 have f1 : ((s.Bytes.extract (0 : Int).toNat (a : Int).toNat) ++ d) ++ (s.Bytes.extract ((a : Int) + (d.size : Int)).toNat s.Bytes.size) = (wrV s a d).Bytes := by
  refine zjv ?_; rw [zd2, zd2, zfy, zfy, show (0 : Int).toNat = 0 from rfl, dr0, show ((a : Int) + (d.size : Int)).toNat = a + d.size by omega, ← zax s.Bytes, List.take_length, itn]; rfl
 rw [f1]
 have lp := za1 (f := zb1.r0 N) (fun i => ((a : Int), d, (i : Int), (⟨⟨#[]⟩, []⟩ : Storage), (⟨(wrV s a d).Bytes, if i = 0 then s.Tags else clr s.Tags a i⟩ : Storage))) d.size
  (fun i hi => by
   have hlen : (if i = 0 then s.Tags else clr s.Tags a i).length = s.Tags.length := by split <;> simp [z2s]
   have ei : w6 ((w6 ((a : Int) + (i : Int))).tdiv 16) = (((a + i) / 16 : Nat) : Int) := by
    rw [w6e (n := (a : Int) + (i : Int)), tde, w6e]; omega
   simp only [zb1.r0, zb1.b0, dct (show (i : Int) < (d.size : Int) by omega), ctr, ei, hlen]; rw [ifp, ifp, itn]; obtain ⟨x, hx⟩ : ∃ x, (if i = 0 then s.Tags else clr s.Tags a i)[(a + i) / 16]? = some x := zfx (by omega); rw [hx]; simp only [obs]; rw [w6e]; have e2 : (if i = 0 then s.Tags else clr s.Tags a i).set ((a + i) / 16) false = clr s.Tags a (i + 1) := by
    refine List.ext_getElem? fun k => ?_; rw [z2v, List.getElem?_set, hlen]; have hc : (if i = 0 then s.Tags else clr s.Tags a i)[k]? = if i ≠ 0 ∧ 16 * k < a + i ∧ a < 16 * k + 16 then (if k < s.Tags.length then some false else none) else s.Tags[k]? := by
     by_cases h0 : i = 0
     · rw [ifp h0, ifn]
     · rw [ifn h0, z2v]
       by_cases h1 : 16 * k < a + i ∧ a < 16 * k + 16
       · rw [ifp h1, ifp (show i ≠ 0 ∧ 16 * k < a + i ∧ a < 16 * k + 16 from ⟨h0, h1⟩)]
       · rw [ifn h1, ifn (fun h => h1 h.2)]
    rw [hc]
    by_cases hk : (a + i) / 16 = k
    · rw [ifp hk, ifp (show (a + i) / 16 < s.Tags.length by omega), ifp (show 16 * k < a + (i + 1) ∧ a < 16 * k + 16 by omega), ifp]
    · rw [ifn hk]
      by_cases h1 : i ≠ 0 ∧ 16 * k < a + i ∧ a < 16 * k + 16
      · rw [ifp h1, ifp (show 16 * k < a + (i + 1) ∧ a < 16 * k + 16 by omega)]
      · rw [ifn h1, ifn (show ¬ (16 * k < a + (i + 1) ∧ a < 16 * k + 16) by omega)]
   rw [e2, ifn (show ¬ i + 1 = 0 by omega)]; rfl)
  (by simp only [zb1.r0, zb1.b0, dcf (show ¬ (d.size : Int) < (d.size : Int) by omega), cfa]) (N := N) (by omega)
 simp only [if_true, nc0] at lp
 rw [lp, ifn (show ¬ d.size = 0 by omega)]
 rfl
theorem z91 (N : Nat) (hN : 200 < N) (off : Nat) (h : off ≤ 16777215) : zpj N (zka off) = some (pbV off) := by
 unfold zpj zka
 have b := fun v k hv hk => zxq N (by omega) v k hv hk
 have hmax : IntKind.i64.max = 9223372036854775807 := by decide
 have sz : ∀ v k, (zd3 (zbt v k)).size = k := fun v k => by
  show (bl (zd3 (zbt v k))).length = k; rw [ziu, lnm, z4f]
 rw [show za4 N 0 1 = _ from b 0 1 (by decide) (by decide), show za4 N 0 2 = _ from b 0 2 (by decide) (by decide), show za4 N 1 6 = _ from b 1 6 (by decide) (by decide), show za4 N (off : Int) 6 = _ from b off 6 (by omega) (by decide), hmax]
 simp only [obs]
 have z0 : (⟨#[0]⟩ : ByteArray).size = 1 := rfl
 rw [ifn (by rw [sz, z0]; decide), ifn (by rw [bsa, sz, z0, sz]; decide), ifn (by rw [bsa, bsa, sz, z0, sz, sz]; decide), ifn (by rw [bsa, bsa, bsa, sz, z0, sz, sz, sz]; decide)]
 refine congrArg some (zjv ?_)
 unfold pbV
 rw [zd2, zd2, zd2, zd2, ziu, ziu, ziu, ziu, ziu]
 simp only [List.map_append]
 rfl
theorem zadi (N : Nat) (hN : 2000 < N) {s : Storage} (h : zqf s) {a : Int} (ha : zus s a = true) (off : Nat) (ho : off ≤ 16777215) : zhm N s a (zka off) = some (stV s a.toNat off) := by
 obtain ⟨a1, a2, a3⟩ := zuo ha
 have hl := h.le
 have hq := h.quad
 have ht := h.tags
 have hA : a = ((a.toNat : Nat) : Int) := by omega
 have hw : a.toNat + (pbV off).size ≤ s.Bytes.size := by rw [zo5]; omega
 unfold zhm
 try simp only [eS]
 rw [z91 N (by omega) off ho]
 simp only [obs]
 have hp := z8i N hN h hw (by rw [zo5]; omega)
 rw [← hA] at hp
 rw [hp]
 simp only [obs]
 have ed : w6 (a.tdiv 16) = ((a.toNat / 16 : Nat) : Int) := by
  rw [tde a1, w6e]; omega
 have hlen : (wrV s a.toNat (pbV off)).Tags.length = s.Tags.length := z2s _ _ _
 rw [ed, ifp, ifp (by rw [hlen]; omega), itn, lge (by rw [hlen]; omega)]
 rfl
def zs6 (b : ByteArray) (n : Nat) : ByteArray := ⟨((bl b).take n ++ List.replicate (n - b.size) 32).toArray⟩
theorem z1p (b : ByteArray) (n : Nat) : (zs6 b n).size = n := by
 show ((bl b).take n ++ List.replicate (n - b.size) 32).length = n
 rw [lna, lnt, lnr, zax]; omega
theorem zab1 (N : Nat) (c : Nat) (hc : c < 256) (n : Nat) (hn : n < N) (hn2 : n ≤ 100000) : zeg N (c : Int) (n : Int) = some ⟨(List.replicate n (UInt8.ofNat c)).toArray⟩ := by
 unfold zeg
 have := za1 (f := zeg.r0 N) (fun i => ((c : Int), (n : Int), List.replicate i (c : Int), (i : Int))) n
  (fun i hi => by
   simp only [zeg.r0, zeg.b0, dct (show (i : Int) < (n : Int) by omega), ctr]; rw [za3 (by simp only [lnr, lnc, ln0]; omega), ctr, w6e, ← List.replicate_succ']; rfl)
  (by simp only [zeg.r0, zeg.b0, dcf (show ¬ (n : Int) < (n : Int) by omega), cfa]) hn
 simp only [nc0, List.replicate_zero] at this
 rw [this, obs]
 congr 1
 refine zjv ?_
 rw [ziu, List.map_replicate]
 rfl
theorem z05 (N : Nat) (hN : 10000 < N) (b : ByteArray) (hb : b.size ≤ 5000) (n : Nat) (hn : n ≤ 5000) : zgg N b (n : Int) = some (zs6 b n) := by
 have hmax : IntKind.i64.max = 9223372036854775807 := by decide
 unfold zgg
 by_cases h : n ≤ b.size
 · rw [dct (by omega), ctr, ifp, ifp]
   congr 1
   refine zjv ?_; rw [zfy, show (0 : Int).toNat = 0 from rfl, dr0, itn]; show _ = (bl b).take n ++ List.replicate (n - b.size) 32; rw [show n - b.size = 0 by omega, List.replicate_zero, List.append_nil]
 · rw [dcf (by omega), cfa, w6e, show (n : Int) - (b.size : Int) = ((n - b.size : Nat) : Int) by omega, show (32 : Int) = ((32 : Nat) : Int) from rfl, zab1 N 32 (by decide) _ (by omega) (by omega), obs, hmax]; have hs : (⟨(List.replicate (n - b.size) (UInt8.ofNat 32)).toArray⟩ : ByteArray).size = n - b.size := by
    show (List.replicate (n - b.size) (UInt8.ofNat 32)).length = _; rw [lnr]
   rw [ifn (by rw [hs]; omega)]
   congr 1
   refine zjv ?_; rw [zd2]; show bl b ++ List.replicate (n - b.size) 32 = (bl b).take n ++ List.replicate (n - b.size) 32; rw [List.take_of_length_le (by rw [zax]; omega)]
theorem zxr (c : UInt8) : ∀ n, Lib.repeatL [c] n = List.replicate n c
 | 0 => rfl
 | n + 1 => by show c :: Lib.repeatL [c] n = _; rw [zxr c n, List.replicate_succ]
theorem zacp (b : ByteArray) (n : Nat) : (⟨(bl b ++ List.replicate (n - b.size) 32).toArray⟩ : ByteArray).extract 0 n = zs6 b n := by
 refine zjv ?_
 rw [zfy, dr0]
 show (bl b ++ List.replicate (n - b.size) 32).take n = (bl b).take n ++ List.replicate (n - b.size) 32
 rw [List.take_append, zax, List.take_replicate, Nat.min_self]
theorem z7i (b : ByteArray) (n : Nat) : (⟨(bl b ++ List.replicate (n - b.size) 32).toArray⟩ : ByteArray) = zs6 b (max b.size n) := by
 refine zjv ?_
 show bl b ++ List.replicate (n - b.size) 32 = (bl b).take (max b.size n) ++ List.replicate (max b.size n - b.size) 32
 rw [List.take_of_length_le (by rw [zax]; omega), show max b.size n - b.size = n - b.size by omega]
def z16 (x y : List UInt8) : Int := if Op.bytesLess x y = true then -1 else if x = y then 0 else 1
theorem z9t : ∀ (x y : List UInt8), x.length = y.length → (match (List.range x.length).find? (fun i => x.getD i 0 != y.getD i 0) with | some i => if x.getD i 0 < y.getD i 0 then (-1 : Int) else 1 | none => 0) = z16 x y
 | [], [], _ => rfl
 | [], _ :: _, h => by cases h
 | _ :: _, [], h => by cases h
 | a :: x, b :: y, h => by
  have ih := z9t x y (by simpa using h); rw [lnc, List.range_succ_eq_map, List.find?_cons]; rw [List.getD_cons_zero, List.getD_cons_zero]
  by_cases hab : a = b
  · subst hab; simp only [bsf]; rw [List.find?_map]; have e : ((fun i => (a :: x).getD i 0 != (a :: y).getD i 0) ∘ Nat.succ) = fun i => x.getD i 0 != y.getD i 0 := by
     funext i
     rfl
    rw [e]; have e2 : z16 (a :: x) (a :: y) = z16 x y := by
     unfold z16; have e3 : Op.bytesLess (a :: x) (a :: y) = Op.bytesLess x y := by
      show (decide (a < a) || (a == a && Op.bytesLess x y)) = _; rw [dcf (UInt8.lt_irrefl a)]; simp
     rw [e3]; simp
    rw [e2, ← ih]; cases (List.range x.length).find? (fun i => x.getD i 0 != y.getD i 0) <;> rfl
  · have hne : (a != b) = true := by simpa using hab
    rw [hne]; simp only [List.getD_cons_zero]; unfold z16; have e3 : Op.bytesLess (a :: x) (b :: y) = decide (a < b) := by
     show (decide (a < b) || (a == b && Op.bytesLess x y)) = _; rw [show (a == b) = false from beq_eq_false_iff_ne.2 hab, Bool.false_and, Bool.or_false]
    rw [e3]
    by_cases hlt : a < b
    · rw [ifp hlt, ifp (dct hlt)]
    · rw [ifn hlt, ifn (by rw [dcf hlt]; decide), ifn (by intro h; exact hab (List.cons.inj h).1)]
theorem zagv {a b : ByteArray} (h : a.size = b.size) : Extern.BytealgCompare.cmp a b = z16 (bl a) (bl b) := by
 unfold Extern.BytealgCompare.cmp
 rw [← z9t (bl a) (bl b) (by rw [zax, zax, h]), zax, show min a.size b.size = a.size by omega]
 have g : ∀ (c : ByteArray) (i : Nat), i < c.size → c[i]! = (bl c).getD i 0 := fun c i hi => by
  rw [getElem!_pos c i hi, gdd, lge (by rw [zax]; exact hi)]; rfl
 have e : (List.range a.size).find? (fun i => a[i]! != b[i]!) = (List.range a.size).find? (fun i => (bl a).getD i 0 != (bl b).getD i 0) := by
  have key : ∀ l : List Nat, (∀ i ∈ l, i < a.size) → l.find? (fun i => a[i]! != b[i]!) = l.find? (fun i => (bl a).getD i 0 != (bl b).getD i 0) := by
   intro l
   induction l with
   | nil => intro _; rfl
   | cons i l ih =>
    intro hl; have hi := hl i List.mem_cons_self; rw [List.find?_cons, List.find?_cons, g a i hi, g b i (by omega), ih fun j hj => hl j (List.mem_cons_of_mem _ hj)]
  exact key _ fun i hi => List.mem_range.1 hi
 rw [e]
 cases hf : (List.range a.size).find? (fun i => (bl a).getD i 0 != (bl b).getD i 0) with
 | none => simp only []; rw [ifn, ifn]
 | some i =>
  have hi := List.mem_range.1 (List.mem_of_find?_eq_some hf); simp only []; rw [g a i hi, g b i (by omega)]
theorem zaf0 (x : Int) (i : Nat) : (x.tdiv (10 ^ i)).tdiv 10 = x.tdiv (10 ^ (i + 1)) := by
 have key : ∀ m : Nat, ((m : Int).tdiv (10 ^ i)).tdiv 10 = (m : Int).tdiv (10 ^ (i + 1)) := fun m => by
  rw [show (10 : Int) ^ i = ((10 ^ i : Nat) : Int) by rw [Int.natCast_pow]; rfl, show (10 : Int) ^ (i + 1) = ((10 ^ (i + 1) : Nat) : Int) by rw [Int.natCast_pow]; rfl, ← Int.ofNat_tdiv, ← Int.ofNat_tdiv, show (10 : Int) = ((10 : Nat) : Int) from rfl, ← Int.ofNat_tdiv, Nat.div_div_eq_div_mul, Nat.pow_succ]
 obtain ⟨m, rfl | rfl⟩ := Int.eq_nat_or_neg x
 · exact key m
 · rw [Int.neg_tdiv, Int.neg_tdiv, key m, Int.neg_tdiv]
def zgu (x : Number) : Int := x.N.tdiv (10 ^ x.Scale.toNat)
theorem zwl {x : Number} (hx : zd6 x) : -999999999999999 ≤ zgu x ∧ zgu x ≤ 999999999999999 := by
 obtain ⟨⟨h1, h2⟩, _⟩ := hx
 have h := Int.natAbs_tdiv_le_natAbs x.N (10 ^ x.Scale.toNat)
 unfold zgu
 omega
def zq3 (m scale : Nat) : List UInt8 := List.replicate (scale + 1 - (Lib.decDigits m).length) 48 ++ Lib.decDigits m
def ptT (l : List UInt8) (scale : Nat) : List UInt8 := if 0 < scale then l.take (l.length - scale) ++ [46] ++ l.drop (l.length - scale) else l
def sgT (n : Int) (l : List UInt8) : ByteArray := ⟨(if n < 0 then [45] ++ l else l).toArray⟩
def zw4 (x : Number) : ByteArray := sgT x.N (ptT (zq3 x.N.natAbs x.Scale.toNat) x.Scale.toNat)
theorem z9i {x : Number} (h0 : 0 ≤ x.Scale) (B : ByteArray) (h1 : x.Scale < (B.size : Int)) (h2 : B.size ≤ 100) :
 ((cond (decide (x.Scale > 0))
 (if 0 ≤ (w6 ((B.size : Int) - x.Scale)) ∧ (w6 ((B.size : Int) - x.Scale)) ≤ (B.size : Int) then (if 0 ≤ (0 : Int) ∧ (0 : Int) ≤ (w6 ((B.size : Int) - x.Scale)) then (if (((B.extract (0 : Int).toNat (w6 ((B.size : Int) - x.Scale)).toNat).size + (⟨#[46]⟩ : ByteArray).size : Nat) : Int) > IntKind.i64.max then none else if 0 ≤ (w6 ((B.size : Int) - x.Scale)) ∧ (w6 ((B.size : Int) - x.Scale)) ≤ (B.size : Int) then (if ((((B.extract (0 : Int).toNat (w6 ((B.size : Int) - x.Scale)).toNat) ++ (⟨#[46]⟩ : ByteArray)).size + (B.extract (w6 ((B.size : Int) - x.Scale)).toNat B.size).size : Nat) : Int) > IntKind.i64.max then none else cond (decide (x.N < 0))
 (if (((⟨#[45]⟩ : ByteArray).size + (((B.extract (0 : Int).toNat (w6 ((B.size : Int) - x.Scale)).toNat) ++ (⟨#[46]⟩ : ByteArray)) ++ (B.extract (w6 ((B.size : Int) - x.Scale)).toNat B.size)).size : Nat) : Int) > IntKind.i64.max then none else some (((⟨#[45]⟩ : ByteArray) ++ (((B.extract (0 : Int).toNat (w6 ((B.size : Int) - x.Scale)).toNat) ++ (⟨#[46]⟩ : ByteArray)) ++ (B.extract (w6 ((B.size : Int) - x.Scale)).toNat B.size))), 0))
 (some ((((B.extract (0 : Int).toNat (w6 ((B.size : Int) - x.Scale)).toNat) ++ (⟨#[46]⟩ : ByteArray)) ++ (B.extract (w6 ((B.size : Int) - x.Scale)).toNat B.size)), 0))) else none) else none) else none)
 (cond (decide (x.N < 0)) (if (((⟨#[45]⟩ : ByteArray).size + B.size : Nat) : Int) > IntKind.i64.max then none else some (((⟨#[45]⟩ : ByteArray) ++ B), 0)) (some (B, 0)))) : Option (ByteArray × Int)) = some (sgT x.N (ptT (bl B) x.Scale.toNat), 0) := by
 have hmax : IntKind.i64.max = 9223372036854775807 := by decide
 have z1 : (⟨#[46]⟩ : ByteArray).size = 1 := rfl
 have z2 : (⟨#[45]⟩ : ByteArray).size = 1 := rfl
 rw [hmax, w6e]
 obtain ⟨k, hk⟩ : ∃ k : Nat, (B.size : Int) - x.Scale = (k : Int) := ⟨((B.size : Int) - x.Scale).toNat, by omega⟩
 have hk2 : k = B.size - x.Scale.toNat := by omega
 rw [hk, itn, show (0 : Int).toNat = 0 from rfl]
 have s1 : (B.extract 0 k).size = k := by rw [zdc _ _ _ (by omega) (by omega)]; omega
 have s2 : (B.extract k B.size).size = B.size - k := by rw [zdc _ _ _ (by omega) (by omega)]
 by_cases hs : x.Scale > 0
 · rw [dct hs, ctr, ifp, ifp, ifn (by rw [s1, z1]; omega), ifp, ifn (by rw [bsa, s1, z1, s2]; omega)]; have e : bl ((B.extract 0 k ++ (⟨#[46]⟩ : ByteArray)) ++ B.extract k B.size) = ptT (bl B) x.Scale.toNat := by
    unfold ptT; rw [zd2, zd2, zfy, zfy, dr0, ifp, ← zax B, List.take_length, zax, hk2]; rfl
   by_cases hn : x.N < 0
   · rw [dct hn, ctr, ifn (by rw [bsa, bsa, s1, z1, s2, z2]; omega)]
     congr 2
     refine zjv ?_; rw [zd2, e]; unfold sgT; rw [ifp hn]; rfl
   · rw [dcf hn, cfa]
     congr 2
     refine zjv ?_; rw [e]; unfold sgT; rw [ifn hn]; rfl
 · rw [dcf hs, cfa]; have e : ptT (bl B) x.Scale.toNat = bl B := by unfold ptT; rw [ifn]
   rw [e]
   by_cases hn : x.N < 0
   · rw [dct hn, ctr, ifn (by rw [z2]; omega)]
     congr 2
     refine zjv ?_; rw [zd2]; unfold sgT; rw [ifp hn]; rfl
   · rw [dcf hn, cfa]
     congr 2
     unfold sgT; rw [ifn hn]; rfl
theorem zac5 {x : Number} (h0 : 0 ≤ x.Scale) (B : ByteArray) (h1 : x.Scale < (B.size : Int)) (h2 : B.size ≤ 100) :
 (cond (decide (x.Scale > 0))
 (if 0 ≤ (w6 ((B.size : Int) - x.Scale)) ∧ (w6 ((B.size : Int) - x.Scale)) ≤ (B.size : Int) then (if 0 ≤ (0 : Int) ∧ (0 : Int) ≤ (w6 ((B.size : Int) - x.Scale)) then (if (((B.extract (0 : Int).toNat (w6 ((B.size : Int) - x.Scale)).toNat).size + (⟨#[46]⟩ : ByteArray).size : Nat) : Int) > IntKind.i64.max then none else if 0 ≤ (w6 ((B.size : Int) - x.Scale)) ∧ (w6 ((B.size : Int) - x.Scale)) ≤ (B.size : Int) then (if ((((B.extract (0 : Int).toNat (w6 ((B.size : Int) - x.Scale)).toNat) ++ (⟨#[46]⟩ : ByteArray)).size + (B.extract (w6 ((B.size : Int) - x.Scale)).toNat B.size).size : Nat) : Int) > IntKind.i64.max then none else cond (decide (x.N < 0))
 (if (((⟨#[45]⟩ : ByteArray).size + (((B.extract (0 : Int).toNat (w6 ((B.size : Int) - x.Scale)).toNat) ++ (⟨#[46]⟩ : ByteArray)) ++ (B.extract (w6 ((B.size : Int) - x.Scale)).toNat B.size)).size : Nat) : Int) > IntKind.i64.max then none else some ((⟨#[45]⟩ : ByteArray) ++ (((B.extract (0 : Int).toNat (w6 ((B.size : Int) - x.Scale)).toNat) ++ (⟨#[46]⟩ : ByteArray)) ++ (B.extract (w6 ((B.size : Int) - x.Scale)).toNat B.size))))
 (some (((B.extract (0 : Int).toNat (w6 ((B.size : Int) - x.Scale)).toNat) ++ (⟨#[46]⟩ : ByteArray)) ++ (B.extract (w6 ((B.size : Int) - x.Scale)).toNat B.size)))) else none) else none) else none)
 (cond (decide (x.N < 0)) (if (((⟨#[45]⟩ : ByteArray).size + B.size : Nat) : Int) > IntKind.i64.max then none else some ((⟨#[45]⟩ : ByteArray) ++ B)) (some B))) = some (sgT x.N (ptT (bl B) x.Scale.toNat)) := by
 have hmax : IntKind.i64.max = 9223372036854775807 := by decide
 have z1 : (⟨#[46]⟩ : ByteArray).size = 1 := rfl
 have z2 : (⟨#[45]⟩ : ByteArray).size = 1 := rfl
 rw [hmax, w6e]
 obtain ⟨k, hk⟩ : ∃ k : Nat, (B.size : Int) - x.Scale = (k : Int) := ⟨((B.size : Int) - x.Scale).toNat, by omega⟩
 have hk2 : k = B.size - x.Scale.toNat := by omega
 rw [hk, itn, show (0 : Int).toNat = 0 from rfl]
 have s1 : (B.extract 0 k).size = k := by rw [zdc _ _ _ (by omega) (by omega)]; omega
 have s2 : (B.extract k B.size).size = B.size - k := by rw [zdc _ _ _ (by omega) (by omega)]
 by_cases hs : x.Scale > 0
 · rw [dct hs, ctr, ifp, ifp, ifn (by rw [s1, z1]; omega), ifp, ifn (by rw [bsa, s1, z1, s2]; omega)]; have e : bl ((B.extract 0 k ++ (⟨#[46]⟩ : ByteArray)) ++ B.extract k B.size) = ptT (bl B) x.Scale.toNat := by
    unfold ptT; rw [zd2, zd2, zfy, zfy, dr0, ifp, ← zax B, List.take_length, zax, hk2]; rfl
   by_cases hn : x.N < 0
   · rw [dct hn, ctr, ifn (by rw [bsa, bsa, s1, z1, s2, z2]; omega)]; refine congrArg some (zjv ?_); rw [zd2, e]; unfold sgT; rw [ifp hn]; rfl
   · rw [dcf hn, cfa]; refine congrArg some (zjv ?_); rw [e]; unfold sgT; rw [ifn hn]; rfl
 · rw [dcf hs, cfa]; have e : ptT (bl B) x.Scale.toNat = bl B := by unfold ptT; rw [ifn]
   rw [e]
   by_cases hn : x.N < 0
   · rw [dct hn, ctr, ifn (by rw [z2]; omega)]; refine congrArg some (zjv ?_); rw [zd2]; unfold sgT; rw [ifp hn]; rfl
   · rw [dcf hn, cfa]; unfold sgT; rw [ifn hn]; rfl
theorem z2p (m : Nat) : ∀ k, 0 < k → m < 10 ^ k → (Lib.decDigits m).length ≤ k ∧ 0 < (Lib.decDigits m).length := by
 induction m using Nat.strongRecOn with
 | _ m ih =>
  intro k hk hm; rw [Lib.decDigits]
  by_cases h : m < 10
  · rw [dif_pos h, lns]; omega
  · rw [dif_neg h, lna, lns]; obtain ⟨j, rfl⟩ : ∃ j, k = j + 1 := ⟨k - 1, by omega⟩; rw [Nat.pow_succ] at hm; have hj : 0 < j := by
     refine cbc fun h0 => ?_; rw [show j = 0 by omega] at hm; omega
    have := ih (m / 10) (by omega) j hj (by omega); omega
theorem z4c (m scale : Nat) (hm : m < 10 ^ 15) (hs : scale ≤ 15) : scale < (zq3 m scale).length ∧ (zq3 m scale).length ≤ 16 := by
 have := z2p m 15 (by decide) hm
 unfold zq3
 rw [lna, lnr]
 omega
theorem z67 {x : Number} (hx : zd6 x) : zhq x = some (zw4 x, 0) := by
 have hx' := hx
 obtain ⟨⟨h1, h2⟩, h3, h4⟩ := hx'
 have hmax : IntKind.i64.max = 9223372036854775807 := by decide
 have hlen := z2p x.N.natAbs 15 (by decide) (by omega)
 have hdl := z4c x.N.natAbs x.Scale.toNat (by omega) (by omega)
 unfold zhq
 rw [zsp, zqn.2 hx]
 simp only [obs, bsf, cfa]
 rw [ztt (by omega) (by omega)]
 have hi : z0f (((x.N.natAbs : Nat) : Int)) = some ⟨(Lib.decDigits x.N.natAbs).toArray⟩ := by
  unfold z0f Lib.itoa; rw [ifp ⟨by omega, by omega⟩, ifn, itn]
 rw [hi]
 simp only [obs]
 have hsz : (⟨(Lib.decDigits x.N.natAbs).toArray⟩ : ByteArray).size = (Lib.decDigits x.N.natAbs).length := rfl
 by_cases hle : ((Lib.decDigits x.N.natAbs).length : Int) ≤ x.Scale
 · rw [hsz, dct hle, ctr, w6e (n := x.Scale + 1), w6e]; have hr : znn (⟨#[48]⟩ : ByteArray) (x.Scale + 1 - ((Lib.decDigits x.N.natAbs).length : Int)) = some ⟨(List.replicate (x.Scale.toNat + 1 - (Lib.decDigits x.N.natAbs).length) 48).toArray⟩ := by
    unfold znn; have hs1 : (⟨#[48]⟩ : ByteArray).size = 1 := rfl; rw [ifp ⟨by omega, by omega, by rw [hs1]; omega⟩, zxr, show (x.Scale + 1 - ((Lib.decDigits x.N.natAbs).length : Int)).toNat = x.Scale.toNat + 1 - (Lib.decDigits x.N.natAbs).length by omega]
   rw [hr]; simp only [obs]; have hs2 : (⟨(List.replicate (x.Scale.toNat + 1 - (Lib.decDigits x.N.natAbs).length) (48 : UInt8)).toArray⟩ : ByteArray).size = x.Scale.toNat + 1 - (Lib.decDigits x.N.natAbs).length := by
    show (List.replicate (x.Scale.toNat + 1 - (Lib.decDigits x.N.natAbs).length) (48 : UInt8)).length = _; rw [lnr]
   rw [hmax, ifn (by rw [hs2]; omega)]; have hb : (⟨(List.replicate (x.Scale.toNat + 1 - (Lib.decDigits x.N.natAbs).length) (48 : UInt8)).toArray⟩ : ByteArray) ++ ⟨(Lib.decDigits x.N.natAbs).toArray⟩ = ⟨(zq3 x.N.natAbs x.Scale.toNat).toArray⟩ := by
    refine zjv ?_; rw [zd2]; rfl
   rw [hb]; have := z9i h3 ⟨(zq3 x.N.natAbs x.Scale.toNat).toArray⟩ (by show x.Scale < ((zq3 x.N.natAbs x.Scale.toNat).length : Int); omega) (by show (zq3 x.N.natAbs x.Scale.toNat).length ≤ 100; omega); rw [hmax, zaen] at this; unfold zw4; exact this
 · rw [hsz, dcf hle, cfa, ← hsz]; have hb : bl (⟨(Lib.decDigits x.N.natAbs).toArray⟩ : ByteArray) = zq3 x.N.natAbs x.Scale.toNat := by
    unfold zq3; rw [show x.Scale.toNat + 1 - (Lib.decDigits x.N.natAbs).length = 0 by omega]; rfl
   have := z9i h3 ⟨(Lib.decDigits x.N.natAbs).toArray⟩ (by rw [hsz]; omega) (by rw [hsz]; omega); rw [hb] at this; unfold zw4; exact this
theorem z1b : ∀ (N m : Nat), 0 < N → m < 10 ^ N → N ≤ 18 → ∀ K, zdl (N + K) (m : Int) = some ⟨(Lib.decDigits m).toArray⟩
 | 0, m, h, _, _ => by omega
 | N + 1, m, _, hm, hN => fun K => by
  have hmax : IntKind.i64.max = 9223372036854775807 := by decide
  have h18 : 10 ^ (N + 1) ≤ 10 ^ 18 := zcv hN; rw [show N + 1 + K = (N + K) + 1 by omega]; show (cond (decide ((m : Int) < (-9))) _ (cond (decide ((m : Int) < 0)) _ (cond (decide ((m : Int) < 10)) _ _))) = _; rw [dcf (by omega), dcf (by omega), cfa, cfa, Lib.decDigits]
  by_cases h : m < 10
  · rw [dct (by omega), ctr, dif_pos h, w6e, zo9 (by omega) (by omega)]; refine congrArg some (zjv ?_); rw [ziu]; show [UInt8.ofNat (48 + (m : Int)).toNat] = [UInt8.ofNat (48 + m)]; rw [show (48 + (m : Int)).toNat = 48 + m by omega]
  · rw [Nat.pow_succ] at hm; have hN0 : 0 < N := by
     refine cbc fun h0 => ?_; rw [show N = 0 by omega] at hm; omega
    have ih := z1b N (m / 10) hN0 (by omega) (by omega) K; rw [dcf (by omega), cfa, dif_neg h, tde, tme, w6e (n := (m : Int) / 10), show (m : Int) / 10 = ((m / 10 : Nat) : Int) by omega, ih, obs, w6e, zo9 (by omega) (by omega), hmax]; have hl := z2p (m / 10) N hN0 (by omega); have hs : (⟨(Lib.decDigits (m / 10)).toArray⟩ : ByteArray).size = (Lib.decDigits (m / 10)).length := rfl; have hs2 : (zd3 ([48 + (m : Int) % 10] : List Int)).size = 1 := rfl; rw [ifn (by rw [hs, hs2]; omega)]; refine congrArg some (zjv ?_); rw [zd2, ziu]; show Lib.decDigits (m / 10) ++ [UInt8.ofNat (48 + (m : Int) % 10).toNat] = Lib.decDigits (m / 10) ++ [UInt8.ofNat (48 + m % 10)]; rw [show (48 + (m : Int) % 10).toNat = 48 + m % 10 by omega]
theorem zaex (N : Nat) (hN : 100 < N) {x : Number} (hx : zd6 x) : ze9 N x = some (zw4 x) := by
 have hx' := hx
 obtain ⟨⟨h1, h2⟩, h3, h4⟩ := hx'
 have hmax : IntKind.i64.max = 9223372036854775807 := by decide
 have hlen := z2p x.N.natAbs 15 (by decide) (by omega)
 have hdl := z4c x.N.natAbs x.Scale.toNat (by omega) (by omega)
 unfold ze9 zha
 rw [ztt (by omega) (by omega)]
 simp only [obs, eN]
 have hd := z1b 15 x.N.natAbs (by decide) (by omega) (by decide) (N - 15)
 rw [show 15 + (N - 15) = N by omega] at hd
 rw [hd]
 simp only [obs]
 have z1 : (⟨#[48]⟩ : ByteArray).size = 1 := rfl
 have lp := za1 (f := ze9.r0 N) (fun i => ((⟨(List.replicate i (48 : UInt8) ++ Lib.decDigits x.N.natAbs).toArray⟩ : ByteArray), x)) (x.Scale.toNat + 1 - (Lib.decDigits x.N.natAbs).length)
  (fun i hi => by
   have hs : (⟨(List.replicate i (48 : UInt8) ++ Lib.decDigits x.N.natAbs).toArray⟩ : ByteArray).size = i + (Lib.decDigits x.N.natAbs).length := by
    show (List.replicate i (48 : UInt8) ++ Lib.decDigits x.N.natAbs).length = _; rw [lna, lnr]
   simp only [ze9.r0, ze9.b0]; rw [dct (by rw [hs]; omega), ctr, hmax, ifn (by rw [hs, z1]; omega)]; refine congrArg some (congrArg Stp.again (Prod.ext (zjv ?_) rfl)); show bl ((⟨#[48]⟩ : ByteArray) ++ ⟨(List.replicate i (48 : UInt8) ++ Lib.decDigits x.N.natAbs).toArray⟩) = List.replicate (i + 1) (48 : UInt8) ++ Lib.decDigits x.N.natAbs; rw [zd2, List.replicate_succ]; rfl)
  (by
   have hs : (⟨(List.replicate (x.Scale.toNat + 1 - (Lib.decDigits x.N.natAbs).length) (48 : UInt8) ++ Lib.decDigits x.N.natAbs).toArray⟩ : ByteArray).size = x.Scale.toNat + 1 - (Lib.decDigits x.N.natAbs).length + (Lib.decDigits x.N.natAbs).length := by
    show (List.replicate (x.Scale.toNat + 1 - (Lib.decDigits x.N.natAbs).length) (48 : UInt8) ++ Lib.decDigits x.N.natAbs).length = _; rw [lna, lnr]
   simp only [ze9.r0, ze9.b0]; rw [dcf (by rw [hs]; omega), cfa]) (N := N) (by omega)
 rw [List.replicate_zero, List.nil_append] at lp
 rw [lp]
 have := zac5 h3 ⟨(zq3 x.N.natAbs x.Scale.toNat).toArray⟩ (by show x.Scale < ((zq3 x.N.natAbs x.Scale.toNat).length : Int); omega) (by show (zq3 x.N.natAbs x.Scale.toNat).length ≤ 100; omega)
 rw [zaen] at this
 unfold zw4
 exact this
theorem zaaw {x : Number} (hx : zd6 x) : (zw4 x).size ≤ 256 := by
 obtain ⟨⟨h1, h2⟩, h3, h4⟩ := hx
 have hdl := z4c x.N.natAbs x.Scale.toNat (by omega) (by omega)
 have hp : (ptT (zq3 x.N.natAbs x.Scale.toNat) x.Scale.toNat).length ≤ 17 := by
  unfold ptT; split
  · rw [lna, lna, lnt, List.length_drop, lns]; omega
  · omega
 unfold zw4 sgT
 show (if x.N < 0 then [45] ++ ptT (zq3 x.N.natAbs x.Scale.toNat) x.Scale.toNat else ptT (zq3 x.N.natAbs x.Scale.toNat) x.Scale.toNat).length ≤ 256
 split
 · rw [lna, lns]; omega
 · omega
theorem zv3 {R α : Type} {f : α → Option (Round R α)} (S : Nat → α) (g : Nat → Option R) (n : Nat) (h : ∀ i, i < n → (∀ j, j < i → g j = none) → f (S i) = some (match g i with | some r => .result r | none => .again (S (i + 1)))) (hl : (∀ j, j < n → g j = none) → f (S n) = some (.leave (S n))) {N : Nat} (hN : n < N) :
 zj f N (S 0) = some (match (List.range n).findSome? g with | some r => .inl r | none => .inr (S n)) := by
 have key : ∀ k i N, i + k = n → k < N → (∀ j, j < i → g j = none) → zj f N (S i) = some (match (List.range' i k).findSome? g with | some r => .inl r | none => .inr (S n)) := by
  intro k
  induction k with
  | zero =>
   intro i N hi hN hp; obtain ⟨m, rfl⟩ : ∃ m, N = m + 1 := ⟨N - 1, by omega⟩; obtain rfl : i = n := by omega
   simp only [zj, hl hp, obs]; rfl
  | succ k ih =>
   intro i N hi hN hp; obtain ⟨m, rfl⟩ : ∃ m, N = m + 1 := ⟨N - 1, by omega⟩; simp only [zj, h i (by omega) hp, obs, List.range'_succ, List.findSome?_cons]; cases hg : g i with
   | some r => rfl
   | none =>
    refine ih (i + 1) m (by omega) (by omega) fun j hj => ?_; rcases Nat.lt_or_ge j i with h1 | h1
    · exact hp j h1
    · obtain rfl : j = i := by omega
      exact hg
 rw [List.range_eq_range']
 exact key n 0 N (by omega) hN (fun j hj => absurd hj (by omega))
theorem zm6 {R : Type} {g : Nat → Option R} {n : Nat} : (List.range n).findSome? g = none ↔ ∀ i, i < n → g i = none := by
 rw [List.findSome?_eq_none_iff]
 exact ⟨fun h i hi => h i (List.mem_range.2 hi), fun h i hi => h i (List.mem_range.1 hi)⟩
theorem zm5 {R : Type} {g : Nat → Option R} {r : R} : ∀ {n : Nat}, (List.range n).findSome? g = some r → ∃ i, i < n ∧ g i = some r ∧ ∀ j, j < i → g j = none
 | 0, h => by simp at h
 | n + 1, h => by
  rw [List.range_succ, List.findSome?_append] at h; cases hn : (List.range n).findSome? g with
  | some r' =>
   rw [hn] at h; obtain ⟨i, h1, h2, h3⟩ := zm5 hn; exact ⟨i, by omega, by rw [h2]; exact h, h3⟩
  | none =>
   rw [hn] at h; simp only [List.findSome?_cons, List.findSome?_nil] at h; refine ⟨n, by omega, ?_, zm6.1 hn⟩; cases hg : g n with
   | some x => rw [hg] at h; exact h
   | none => rw [hg] at h; cases h
theorem z2k (b : Bool) (e : Int) : zcj b e = some (cond b e 0) := by cases b <;> rfl
theorem z2j (n lo hi : Int) : zep n lo hi = some (inB n lo hi) := by
 unfold zep inB
 cases decide (lo ≤ n) <;> rfl
theorem zy5 (N : Nat) (l : List Int) (h : l.length < N) (hl : l.length < 1000000000) : zbv N l = some (zhe l) := by
 unfold zbv
 have := zbh (f := zbv.r0 N) (fun i => (l, (l.length : Int), (i : Int))) (fun i => (l[i]?).bind fun x => if x = 0 then none else some x) l.length
  (fun i hi => by
   have hx := lge hi; simp only [zbv.r0, zbv.b0, zai, hx, obs, dct (show (i : Int) < (l.length : Int) by omega), ctr]
   by_cases h0 : l[i] = 0
   · simp only [h0, bsf, cfa, if_true]; rw [w6e]; rfl
   · simp only [h0, if_false]; rw [show (l[i] != 0) = true by simpa using h0]; rfl)
  (by simp only [zbv.r0, zbv.b0, dcf (show ¬ (l.length : Int) < (l.length : Int) by omega), cfa]) h
 simp only [nc0] at this
 rw [this, zmh, ← zot]
 simp only [obs]
 cases l.findSome? (fun x => if x = 0 then none else some x) <;> rfl
def letB (c : Int) : Bool := (decide (65 ≤ c) && decide (c ≤ 90)) || (decide (c = 35) || (decide (c = 36) || decide (c = 64)))
def othB (c : Int) : Bool := (decide (48 ≤ c) && decide (c ≤ 57)) || (decide (c = 95) || decide (c = 46))
def z4h (c i : Int) : Bool := !letB c && (decide (i = 0) || !othB c)
def zwa (s : ByteArray) (i : Nat) : Option Bool := ((bl s)[i]?).bind fun c => if z4h ((c.toNat : Nat) : Int) (i : Int) = true then some false else none
def zzq (s : ByteArray) : Bool := decide (1 ≤ s.size ∧ s.size ≤ 10) && ((List.range s.size).findSome? (zwa s)).isNone
theorem z97 (s : ByteArray) : s.size = (bl s).length := rfl
theorem zafb (s : ByteArray) (i : Nat) : zhl s (i : Int) = (bl s)[i]? := by
 unfold zhl
 rw [ifp]
 show s.data[i]? = s.data.toList[i]?
 simp
theorem zae4 (N : Nat) (hN : 20 < N) (s : ByteArray) : zcx N s = some (zzq s) := by
 unfold zcx zzq
 rw [zol, zol, show bl (⟨#[]⟩ : ByteArray) = [] from rfl]
 by_cases h0 : s.size = 0
 · have : bl s = [] := List.eq_nil_of_length_eq_zero (by rw [← z97]; exact h0); rw [this, dcf (show ¬ (1 ≤ s.size ∧ s.size ≤ 10) by omega)]; rfl
 by_cases h1 : s.size > 10
 · rw [dcf (show ¬ (1 ≤ s.size ∧ s.size ≤ 10) by omega), dct (show (s.size : Int) > 10 by omega)]; cases (bl s == ([] : List UInt8)) <;> rfl
 have hne : (bl s == ([] : List UInt8)) = false := by
  cases hb : (bl s == ([] : List UInt8)) with
  | false => rfl
  | true =>
   have := congrArg List.length (eq_of_beq hb); rw [← z97] at this; exact absurd this h0
 rw [hne, dcf (show ¬ (s.size : Int) > 10 by omega), dct (show 1 ≤ s.size ∧ s.size ≤ 10 by omega)]
 simp only [cfa, obs, Bool.true_and]
 have hlen : (zex s).length = s.size := by unfold zex; rw [lnm]; rfl
 have l1 := zbh (f := zcx.r0 N) (fun i => (zex s, ((zex s).length : Int), (i : Int))) (zwa s) s.size
  (fun i hi => by
   have hi' : i < (bl s).length := hi; have hx : (zex s)[i]? = some (((bl s)[i].toNat : Nat) : Int) := by
    unfold zex; rw [List.getElem?_map]; show ((bl s)[i]?).map _ = _; rw [lge hi']; rfl
   simp only [zcx.r0, zcx.b0, hlen, dct (show (i : Int) < (s.size : Int) by omega), ctr, ifp (show (0 : Int) ≤ (i : Int) by omega), ifp (show (i : Int) < (s.size : Int) by omega), itn, hx, obs, zxw, orB, zcn, zwa, lge hi']; rw [w6e]; generalize (((bl s)[i].toNat : Nat) : Int) = c; have e : (!(((decide (65 ≤ c) && decide (c ≤ 90)) || decide (c = 35) || decide (c = 36)) || decide (c = 64)) && (decide ((i : Int) = 0) || !(((decide (48 ≤ c) && decide (c ≤ 57)) || decide (c = 95)) || decide (c = 46)))) = z4h c (i : Int) := by
    unfold z4h letB othB; simp only [Bool.or_assoc]
   rw [e]; cases z4h c (i : Int) <;> rfl)
  (by simp only [zcx.r0, zcx.b0, hlen, dcf (show ¬ (s.size : Int) < (s.size : Int) by omega), cfa]) (N := N) (by omega)
 simp only [nc0] at l1
 rw [l1]
 cases hg : (List.range s.size).findSome? (zwa s) with
 | none => rfl
 | some r =>
  obtain ⟨i, _, hi, _⟩ := zm5 hg; unfold zwa at hi; rw [Option.bind_eq_some_iff] at hi; obtain ⟨c, _, hc⟩ := hi; split at hc
  · cases hc; rfl
  · cases hc
theorem zaez (N : Nat) (hN : 20 < N) (s : ByteArray) : zeh N s = some (zzq s) := by
 unfold zeh zzq
 rw [zie, obs]
 by_cases h1 : 1 ≤ s.size ∧ s.size ≤ 10
 · rw [show inB (s.size : Int) 1 10 = true from zbj.2 (by omega), dct h1]; simp only [bnt, cfa, Bool.true_and]; have l1 := zbh (f := zeh.r0 N) (fun i => (s, (i : Int))) (zwa s) s.size
    (fun i hi => by
     have hi' : i < (bl s).length := hi; simp only [zeh.r0, zeh.b0, zqd, zqe, dct (show (i : Int) < (s.size : Int) by omega), ctr, zafb, lge hi', obs, zxw, orB, zcn, zd1, zwa]; rw [w6e]; generalize (((bl s)[i].toNat : Nat) : Int) = c; have e : (!((((decide (65 ≤ c) && decide (c ≤ 90)) || decide (c = 36)) || decide (c = 35)) || decide (c = 64)) && (decide ((i : Int) = 0) || ((!(decide (48 ≤ c) && decide (c ≤ 57)) && decide (c ≠ 95)) && decide (c ≠ 46)))) = z4h c (i : Int) := by
      unfold z4h letB othB; simp only [decide_not, Bool.not_or, Bool.not_and, Bool.or_assoc, Bool.and_assoc]; cases decide (65 ≤ c) <;> cases decide (c ≤ 90) <;> cases decide (c = 36) <;> cases decide (c = 35) <;> simp
     rw [e]; cases z4h c (i : Int) <;> rfl)
    (by simp only [zeh.r0, zeh.b0, dcf (show ¬ (s.size : Int) < (s.size : Int) by omega), cfa]) (N := N) (by omega)
   simp only [nc0] at l1; rw [l1]; cases hg : (List.range s.size).findSome? (zwa s) with
   | none => rfl
   | some r =>
    obtain ⟨i, _, hi, _⟩ := zm5 hg; unfold zwa at hi; rw [Option.bind_eq_some_iff] at hi; obtain ⟨c, _, hc⟩ := hi; split at hc
    · cases hc; rfl
    · cases hc
 · rw [show inB (s.size : Int) 1 10 = false by
    cases hb : inB (s.size : Int) 1 10 with
    | false => rfl
    | true => have := zbj.1 hb; omega, dcf h1]
   rfl
def gNm (l : List zG) (s : ByteArray) (i : Nat) : Option Int := (l[i]?).bind fun o => if (o.Name.toList == s.toList) = true then some (i : Int) else none
def nmI (l : List zG) (s : ByteArray) : Int := match (List.range l.length).findSome? (gNm l s) with | some i => i | none => -1
theorem z34 (N : Nat) (l : List zG) (h : l.length < N) (hl : l.length < 1000000000) (s : ByteArray) : zhn N l s = some (nmI l s) := by
 unfold zhn zn nmI
 have l1 := zbh (f := zn.r0 N) (fun i => (l, (l.length : Int), (i : Int), s)) (gNm l s) l.length
  (fun i hi => by
   have hx := lge hi; simp only [zn.r0, zn.b0, zl6, zai, hx, obs, dct (show (i : Int) < (l.length : Int) by omega), ctr, gNm]; rw [w6e]; cases (l[i].Name.toList == s.toList) <;> rfl)
  (by simp only [zn.r0, zn.b0, dcf (show ¬ (l.length : Int) < (l.length : Int) by omega), cfa]) h
 simp only [nc0] at l1
 rw [l1]
 cases (List.range l.length).findSome? (gNm l s) <;> rfl
theorem z77 (N : Nat) (p : zB) (h : p.zA.length < N) (hl : p.zA.length < 1000000000) (s : ByteArray) : zel N p s = some (nmI p.zA s) := by
 unfold zel nmI
 have l1 := zbh (f := zel.r0 N) (fun i => (s, (i : Int), p)) (gNm p.zA s) p.zA.length
  (fun i hi => by
   have hx := lge hi; simp only [zel.r0, zel.b0, zai, hx, obs, dct (show (i : Int) < (p.zA.length : Int) by omega), ctr, gNm]; rw [w6e]; cases (p.zA[i].Name.toList == s.toList) <;> rfl)
  (by simp only [zel.r0, zel.b0, dcf (show ¬ (p.zA.length : Int) < (p.zA.length : Int) by omega), cfa]) h
 simp only [nc0] at l1
 rw [l1]
 cases (List.range p.zA.length).findSome? (gNm p.zA s) <;> rfl
theorem zad5 {l : List zG} {s : ByteArray} {i : Nat} {r : Int} (h : gNm l s i = some r) : r = (i : Int) ∧ ∃ o, l[i]? = some o ∧ (o.Name.toList == s.toList) = true := by
 unfold gNm at h
 rw [Option.bind_eq_some_iff] at h
 obtain ⟨o, h1, h2⟩ := h
 split at h2
 · rename_i h3; cases h2; exact ⟨rfl, o, h1, h3⟩
 · cases h2
theorem zwe (l : List zG) (s : ByteArray) : (nmI l s = -1 ∧ ∀ i, i < l.length → gNm l s i = none) ∨ ∃ i : Nat, nmI l s = (i : Int) ∧ i < l.length ∧ gNm l s i = some (i : Int) ∧ ∀ j, j < i → gNm l s j = none := by
 unfold nmI
 cases hf : (List.range l.length).findSome? (gNm l s) with
 | none => exact .inl ⟨rfl, zm6.1 hf⟩
 | some r =>
  obtain ⟨i, h1, h2, h3⟩ := zm5 hf; have := (zad5 h2).1; subst this; exact .inr ⟨i, rfl, h1, h2, h3⟩
theorem zahr {l : List zG} {s : ByteArray} {i : Nat} (h1 : i < l.length) (h2 : gNm l s i = some (i : Int)) (h3 : ∀ j, j < i → gNm l s j = none) : nmI l s = (i : Int) := by
 rcases zwe l s with ⟨_, g2⟩ | ⟨k, g1, g2, g3, g4⟩
 · rw [g2 i h1] at h2; cases h2
 · rcases Nat.lt_trichotomy i k with h | h | h
   · rw [g4 i h] at h2; cases h2
   · rw [g1, h]
   · rw [h3 k h] at g3; cases g3
theorem zz1 {l : List zG} {s : ByteArray} {n i : Nat} (h : i < n) : gNm (l.take n) s i = gNm l s i := by
 unfold gNm
 rw [List.getElem?_take, ifp h]
theorem zaah (l : List zG) (s : ByteArray) (n : Nat) : nmI (l.take n) s = if nmI l s < (n : Int) then nmI l s else -1 := by
 rcases zwe l s with ⟨g1, g2⟩ | ⟨k, g1, g2, g3, g4⟩
 · rw [g1, ifp]; rcases zwe (l.take n) s with ⟨e1, _⟩ | ⟨k, _, e2, e3, _⟩
   · exact e1
   · rw [lnt] at e2; rw [zz1 (by omega), g2 k (by omega)] at e3; cases e3
 · by_cases hk : k < n
   · rw [g1, ifp]; exact zahr (by rw [lnt]; omega) (by rw [zz1 hk]; exact g3) (fun j hj => by rw [zz1 (by omega)]; exact g4 j hj)
   · rw [g1, ifn]; rcases zwe (l.take n) s with ⟨e1, _⟩ | ⟨k', _, e2, e3, _⟩
     · exact e1
     · rw [lnt] at e2; rw [zz1 (by omega), g4 k' (by omega)] at e3; cases e3
theorem z87 {l : List zG} {i : Nat} {o : zG} (h : l[i]? = some o) : 0 ≤ nmI l o.Name ∧ nmI l o.Name ≤ (i : Int) := by
 have hi := (gei h).1
 have hg : gNm l o.Name i = some (i : Int) := by
  unfold gNm; rw [h, obs, ifp (bst _)]
 rcases zwe l o.Name with ⟨_, g2⟩ | ⟨k, g1, g2, g3, g4⟩
 · rw [g2 i hi] at hg; cases hg
 · have : ¬ i < k := fun hlt => by rw [g4 i hlt] at hg; cases hg
   omega
def isS (k : Int) : Bool := (decide (k = 0) || decide (k = 1)) || decide (k = 2)
def isD (k : Int) : Bool := isS k || decide (k = 4)
theorem z1o (o : zG) : zf6 o = some (isD o.Kind) := by
 unfold zf6 isD isS
 simp only [orB, zcn, obs]
theorem z26 (k : Int) : zhp k = some (isS k) := by
 unfold zhp isS
 simp only [orB, zcn, obs]
theorem z61 (k : Int) : zik k = some (isD k) := by
 unfold zik isD
 rw [z26]
 simp only [orB, zcn, obs]
theorem tbeq (a b : ByteArray) : (a.toList == b.toList) = decide (a = b) := by
 rw [zol, zol]
 by_cases h : a = b
 · subst h; rw [dct rfl]; exact bst _
 · rw [dcf h]; refine beq_eq_false_iff_ne.2 fun hh => h ?_; obtain ⟨⟨a⟩⟩ := a; obtain ⟨⟨b⟩⟩ := b; have : a = b := hh; rw [this]
def e0 : ByteArray := ⟨#[]⟩
def noV (o : zG) : Bool := decide (o.Value.N = 0) && decide (o.Value.S = e0)
def noB (o : zG) : Bool := decide (o.Base = e0) && decide (o.Offset = 0)
def noT (o : zG) : Bool := decide (o.zK.Kind = 0) && (decide (o.zK.Length = 0) && decide (o.zK.Scale = 0))
def zwy (o : zG) : Bool :=
 if o.Kind = 0 ∨ o.Kind = 4 then !noB o || !decide (o.Target = 0)
 else if o.Kind = 1 ∨ o.Kind = 2 then !noV o || !decide (o.Target = 0)
 else if o.Kind = 3 then !noT o || (!noV o || (!noB o || !decide (o.Target = 0)))
 else !noT o || (!noV o || !noB o)
theorem z47 {k : Int} (h : inB k 0 5 = true) : k = 0 ∨ k = 1 ∨ k = 2 ∨ k = 3 ∨ k = 4 ∨ k = 5 := by
 have := zbj.1 h
 omega
theorem zdec (a : Int) : decide (0 = a) = decide (a = 0) := by
 by_cases h : a = 0
 · rw [dct h, dct h.symm]
 · rw [dcf h, dcf fun e => h e.symm]
theorem sdec (a : ByteArray) : decide ((⟨#[]⟩ : ByteArray) = a) = decide (a = e0) := by
 by_cases h : a = e0
 · rw [dct h, dct (show (⟨#[]⟩ : ByteArray) = a from h.symm)]
 · rw [dcf h, dcf fun e => h e.symm]
theorem zae5 {o : zG} (h : inB o.Kind 0 5 = true) : ∃ k, zl8 o = some k ∧ (!(zfd [(k.Name == o.Name), (k.Kind == o.Kind), (k.zK.Kind == o.zK.Kind), (k.zK.Length == o.zK.Length), (k.zK.Scale == o.zK.Scale), (k.Value.N == o.Value.N), (k.Value.S == o.Value.S), (k.Base == o.Base), (k.Offset == o.Offset), (k.Target == o.Target)])) = zwy o := by
 obtain ⟨nm, kd, ty, v, bs, off, tg⟩ := o
 have hk := z47 h
 simp only at hk
 rcases hk with rfl | rfl | rfl | rfl | rfl | rfl
 all_goals
  refine ⟨_, rfl, ?_⟩; simp only [zfd, zwy, noV, noB, noT, zcn, bbeq, zdec, sdec]; simp [Bool.and_assoc, Bool.or_assoc]
  try congr
theorem zab5 {o : zG} (h : inB o.Kind 0 5 = true) : zlp o = some (zwy o) := by
 obtain ⟨nm, kd, ty, v, bs, off, tg⟩ := o
 have hk := z47 h
 simp only at hk
 unfold zlp
 simp only [tbeq]
 rcases hk with rfl | rfl | rfl | rfl | rfl | rfl
 all_goals
  simp only [zfd, zwy, noV, noB, noT, zcn, zd1, bbeq, tbeq, orB, zxw, obs]; simp [e0, Bool.and_assoc, Bool.or_assoc]
  try congr
def zrg (t : DataType) : Int := ((10 ^ t.Length.toNat : Nat) : Int) - 1
def zhx (t : DataType) (v : Value) : Int :=
 if t.Kind = 0 then (if v.N ≠ 0 then 5 else if (v.S.size : Int) ≠ t.Length then 18 else 0)
 else (if v.S ≠ e0 then 5 else if inB v.N (-zrg t) (zrg t) = true then 0 else 19)
theorem z4u {t : DataType} (h : zf2 t = 0) (h0 : t.Kind ≠ 0) (h4 : t.Kind ≠ 4) : zkz t := by
 rcases zqg h with ⟨k, _⟩ | ⟨k | k, _⟩ | ⟨k, _⟩ | ⟨k, _⟩
 · exact absurd k h0
 · exact ⟨h, by omega, by omega⟩
 · exact ⟨h, by omega, by omega⟩
 · exact ⟨h, by omega, by omega⟩
 · exact absurd k h4
theorem z69 {t : DataType} (h : zkz t) : w6 (((10 ^ t.Length.toNat : Nat) : Int) - 1) = zrg t ∧ w6 (0 - zrg t) = -zrg t ∧ 0 ≤ zrg t := by
 obtain ⟨⟨l1, l2⟩, _⟩ := zgq h
 have hp : 10 ^ t.Length.toNat ≤ 10 ^ 15 := zcv (by omega)
 have hp2 := zcz t.Length.toNat
 unfold zrg
 exact ⟨w6e, by rw [w6e]; omega, by omega⟩
theorem z84 (N : Nat) (hN : 100 < N) {t : DataType} (ht : zf2 t = 0) (h4 : t.Kind ≠ 4) (v : Value) : zb8 N t v = some (zhx t v) := by
 have f2 : ∀ a b : Int, zt N [a, b] = some (zhe [a, b]) := fun a b => zrx N _ (by simp; omega) (by simp)
 unfold zb8 zhx
 rw [zsn N (by omega), ht]
 simp only [obs, zsq, f2, zcn, dcf h4, cfa]
 rw [show zhe [0, 0] = 0 from rfl]
 simp only [bsf, cfa]
 by_cases h0 : t.Kind = 0
 · rw [ifp h0, dct h0]; simp only [ctr, zd1]; rw [z1z _ _ _ _ (by decide) (by decide)]
   by_cases h1 : v.N ≠ 0
   · rw [ifp h1, dct h1]; rfl
   · rw [ifn h1, dcf h1]
     by_cases h2 : (v.S.size : Int) ≠ t.Length
     · rw [ifp h2, dct h2]; rfl
     · rw [ifn h2, dcf h2]; rfl
 · have hn := z4u ht h0 h4; obtain ⟨⟨l1, l2⟩, _⟩ := zgq hn; obtain ⟨m1, m2, m3⟩ := z69 hn; rw [ifn h0, dcf h0]; simp only [cfa]; have := z86 N (by omega) t.Length.toNat (by omega); rw [show ((t.Length.toNat : Nat) : Int) = t.Length by omega] at this; rw [this]; simp only [obs, z4x, m1, m2, tbeq]; rw [z1z _ _ _ _ (by decide) (by decide)]
   by_cases h1 : v.S = e0
   · rw [ifn (fun h => h h1), dct (show v.S = (⟨#[]⟩ : ByteArray) from h1)]; cases hb : inB v.N (-zrg t) (zrg t) <;> rfl
   · rw [ifp h1, dcf (show ¬ v.S = (⟨#[]⟩ : ByteArray) from h1)]; rfl
theorem zadh (N : Nat) (hN : 100 < N) {t : DataType} (ht : zf2 t = 0) (h4 : t.Kind ≠ 4) (v : Value) : zj8 N t v = some (zhx t v) := by
 unfold zj8 zhx
 rw [z19, ht]
 simp only [obs, zcn, zd1, dcf h4, cfa, bsf, tbeq]
 by_cases h0 : t.Kind = 0
 · rw [ifp h0, dct h0]; simp only [ctr, obs, dcf (show ¬ t.Kind ≠ 0 from fun h => h h0), cfa]
   by_cases h1 : v.N ≠ 0
   · rw [ifp h1, dct h1]; rfl
   · rw [ifn h1, dcf h1]; simp only [cfa, obs, zjs]
     by_cases h2 : (v.S.size : Int) ≠ t.Length
     · rw [ifp h2, dct h2]; rfl
     · rw [ifn h2, dcf h2]; rfl
 · have hn := z4u ht h0 h4; obtain ⟨⟨l1, l2⟩, _⟩ := zgq hn; obtain ⟨m1, m2, m3⟩ := z69 hn; rw [ifn h0, dcf h0]; simp only [ctr, cfa, obs, dct (show t.Kind ≠ 0 from h0)]; have := z3u N (by omega) t.Length.toNat (by omega); rw [show ((t.Length.toNat : Nat) : Int) = t.Length by omega] at this; unfold zis; rw [this]; simp only [obs, zie, zjs, m1, m2]
   by_cases h1 : v.S = e0
   · rw [ifn (fun h => h h1), dct (show v.S = (⟨#[]⟩ : ByteArray) from h1)]; cases hb : inB v.N (-zrg t) (zrg t) <;> rfl
   · rw [ifp h1, dcf (show ¬ v.S = (⟨#[]⟩ : ByteArray) from h1)]; rfl
def zxh (ops : List zG) (i : Int) (o : zG) : Int :=
 if nmI ops o.Base < 0 ∨ i ≤ nmI ops o.Base then 11
 else match ops[(nmI ops o.Base).toNat]? with
  | none => 0
  | some b => if o.Kind = 2 then (if b.Kind ≠ 3 then 17 else if inB o.Offset 0 256 = true then 0 else 3)
   else if b.Kind ≠ 0 then 17 else if inB o.Offset 0 (szE b.zK - szE o.zK) = true then 0 else 3
def zw5 (p : zB) (i : Int) (o : zG) : Int :=
 if o.Kind = 0 ∨ o.Kind = 4 then zhx o.zK o.Value
 else if o.Kind = 1 ∨ o.Kind = 2 then zxh p.zA i o
 else if o.Kind = 5 then (if inB o.Target 0 ((p.zF.length : Int) - 1) = true then 0 else 3)
 else 0
def opE (p : zB) (i : Nat) : Int :=
 match p.zA[i]? with
 | none => 0
 | some o => if zzq o.Name = false then 7 else if nmI p.zA o.Name < (i : Int) then 13 else if inB o.Kind 0 5 = false then 4 else if zwy o = true then 5
  else if isD o.Kind = true ∧ zf2 o.zK ≠ 0 then zf2 o.zK else if isD o.Kind = true ∧ o.zK.Kind = 4 then 17 else zw5 p i o
structure OpV (p : zB) (i : Nat) (o : zG) : Prop where
 kind : 0 ≤ o.Kind ∧ o.Kind ≤ 5
 own : nmI p.zA o.Name = (i : Int)
 ty : isD o.Kind = true → zf2 o.zK = 0 ∧ o.zK.Kind ≠ 4
 val : o.Kind = 0 ∨ o.Kind = 4 → zhx o.zK o.Value = 0
 base : o.Kind = 1 ∨ o.Kind = 2 → zxh p.zA i o = 0
 tg : o.Kind = 5 → 0 ≤ o.Target ∧ o.Target < (p.zF.length : Int)
theorem op_v {p : zB} {i : Nat} {o : zG} (ho : p.zA[i]? = some o) (h : opE p i = 0) : OpV p i o := by
 unfold opE at h
 rw [ho] at h
 simp only at h
 obtain ⟨n1, n2⟩ := z87 ho
 split at h
 · cases h
 split at h
 · cases h
 split at h
 · cases h
 split at h
 · cases h
 rename_i h1 h2 h3 h4
 have hk := z47 (show inB o.Kind 0 5 = true by simpa using h3)
 split at h
 · rename_i h5; exact absurd h h5.2
 split at h
 · cases h
 rename_i h5 h6
 refine { kind := by omega, own := by omega, ty := fun hd => ⟨cbc fun hh => h5 ⟨hd, hh⟩, fun hh => h6 ⟨hd, hh⟩⟩, val := fun hv => ?_, base := fun hv => ?_, tg := fun hv => ?_ }
 · unfold zw5 at h; rw [ifp hv] at h; exact h
 · unfold zw5 at h; rw [ifn, ifp hv] at h; exact h
 · unfold zw5 at h; rw [ifn, ifn, ifp hv] at h; split at h
   · rename_i hh; have := zbj.1 hh; omega
   · cases h
theorem z54 (N : Nat) (hN : 10 < N) {o : zG} (h : zf2 o.zK = 0) : zjt N o = some (szE o.zK) := by
 unfold zjt zjg
 rw [zsn N hN, h]
 simp [z2m h]
theorem zagq (a : Int) (b : Bool) : zhe [a, cond b 17 0] = if a = 0 then cond b 17 0 else a := by
 show (if a = 0 then zhe [cond b 17 0] else a) = _
 cases b <;> rfl
theorem zadz (o : zG) : ∃ k, zl8 o = some k := by
 unfold zl8
 rw [z1o]
 simp only [obs]
 cases isD o.Kind <;> cases (o.Kind == 0) <;> cases (o.Kind == 4) <;> cases (o.Kind == 1) <;> cases (o.Kind == 2) <;> cases (o.Kind == 5) <;> exact ⟨_, rfl⟩
structure Upto (p : zB) (i : Nat) : Prop where
 ops : p.zA.length ≤ 1000
 ins : p.zF.length ≤ 1000000
 ok : ∀ j, j < i → opE p j = 0
theorem z88 (l : List zG) (s : ByteArray) : nmI l s = -1 ∨ (0 ≤ nmI l s ∧ nmI l s < (l.length : Int) ∧ ∃ o, l[(nmI l s).toNat]? = some o) := by
 rcases zwe l s with ⟨h, _⟩ | ⟨k, h1, h2, _⟩
 · exact .inl h
 · rw [h1]; exact .inr ⟨by omega, by omega, _, lge h2⟩
theorem zaaq {p : zB} {i : Nat} (hu : Upto p i) {n : Int} (h0 : 0 ≤ n) (h1 : n < (i : Int)) {b : zG} (hb : p.zA[n.toNat]? = some b) (hk : b.Kind = 0) : zf2 b.zK = 0 := by
 have := op_v hb (hu.ok n.toNat (by omega))
 exact (this.ty (by rw [hk]; rfl)).1
theorem z8c {a b : DataType} (ha : zf2 a = 0) (hb : zf2 b = 0) : w6 (szE a - szE b) = szE a - szE b := by
 have h1 := zf3 ha
 have h2 := zf3 hb
 exact w6e
theorem zag6 (l : List zG) (i : Nat) : (l.take ((i : Int)).toNat).drop (0 : Int).toNat = l.take i := rfl
theorem zaad (N : Nat) (hN : 1100 < N) {p : zB} {i : Nat} (hu : Upto p i) {o : zG} (ht : zf2 o.zK = 0) (hk : o.Kind = 1 ∨ o.Kind = 2) : zju N o (p.zA.take i) = some (zxh p.zA i o) := by
 have hl := hu.ops
 unfold zju zxh
 rw [z34 N _ (by rw [lnt]; omega) (by rw [lnt]; omega), zaah]
 simp only [obs]
 by_cases hc : nmI p.zA o.Base < 0 ∨ (i : Int) ≤ nmI p.zA o.Base
 · rw [ifp hc]; rw [dct (by split <;> omega)]; rfl
 · rw [ifn hc, ifp, dcf (by omega)]; obtain ⟨b, hb⟩ : ∃ b, p.zA[(nmI p.zA o.Base).toNat]? = some b := by
    rcases z88 p.zA o.Base with h | ⟨_, _, h⟩
    · omega
    · exact h
   have hx : idx (p.zA.take i) (nmI p.zA o.Base) = some b := by
    unfold idx; rw [ifp, List.getElem?_take, ifp, hb]
   rw [hx, hb]; simp only [cfa, obs, z2k, z2j, zcn, zd1]
   by_cases h2 : o.Kind = 2
   · rw [ifp h2, dct h2]; simp only [ctr]; rw [zy5 N _ (by simp; omega) (by simp), z1z _ _ _ _ (by decide) (by decide)]
     by_cases h3 : b.Kind ≠ 3
     · rw [ifp h3, dct h3]; rfl
     · rw [ifn h3, dcf h3]; cases inB o.Offset 0 256 <;> rfl
   · rw [ifn h2, dcf h2]; simp only [cfa]
     by_cases h3 : b.Kind ≠ 0
     · rw [ifp h3, dct h3]; rfl
     · rw [ifn h3, dcf h3]; have hbt := zaaq hu (by omega) (by omega) hb (by omega); simp only [cfa]; rw [z54 N (by omega) hbt, z54 N (by omega) ht]; simp only [obs]; rw [z8c hbt ht]; cases inB o.Offset 0 (szE b.zK - szE o.zK) <;> rfl
theorem zaaa (N : Nat) (hN : 1100 < N) {p : zB} {i : Nat} (hu : Upto p i) {o : zG} (ht : zf2 o.zK = 0) (hk : o.Kind = 1 ∨ o.Kind = 2) :
 ((cond (nmI p.zA o.Base == (-1)) (some true) (some (decide (nmI p.zA o.Base ≥ (i : Int))))).bind fun g12 => cond g12 (some (11 : Int)) ((idx p.zA (nmI p.zA o.Base)).bind fun x13 =>
 (cond (o.Kind == 1) (some (x13.Kind != 0)) (some false)).bind fun g14 => (cond g14 (some true) ((cond (o.Kind == 2) (some (x13.Kind != 3)) (some false)).bind fun g15 =>
 some g15)).bind fun g16 => cond g16 (some 17) (cond (o.Kind == 1) ((zdd x13.zK).bind fun r17 => (zdd o.zK).bind fun r18 =>
 (zf o.Offset 0 (w6 (r17 - r18))).bind fun r19 => cond (!r19) (some 3) (some 0)) ((zf o.Offset 0 256).bind fun r20 => cond (!r20) (some 3)
 (some 0))))) = some (zxh p.zA i o) := by
 have hl := hu.ops
 unfold zxh
 rcases z88 p.zA o.Base with h | ⟨n0, n1, b, hb⟩
 · rw [h, ifp]; rfl
 · rw [zcn, dcf (by omega)]; simp only [cfa, obs]
   by_cases hc : (i : Int) ≤ nmI p.zA o.Base
   · rw [ifp (.inr hc), dct (show nmI p.zA o.Base ≥ (i : Int) from hc)]; rfl
   · rw [ifn, dcf (show ¬ nmI p.zA o.Base ≥ (i : Int) from hc)]; have hx : idx p.zA (nmI p.zA o.Base) = some b := by
      unfold idx; rw [ifp n0, hb]
     rw [hx, hb]; simp only [cfa, obs, zie, zcn, zd1, orB, zxw]
     by_cases h2 : o.Kind = 2
     · rw [ifp h2, dct h2, dcf (show ¬ o.Kind = 1 by omega)]; simp only [Bool.false_and, Bool.false_or, Bool.true_and, cfa]
       by_cases h3 : b.Kind ≠ 3
       · rw [ifp h3, dct h3]; rfl
       · rw [ifn h3, dcf h3]; cases inB o.Offset 0 256 <;> rfl
     · rw [ifn h2, dcf h2, dct (show o.Kind = 1 by omega)]; simp only [Bool.false_and, Bool.or_false, Bool.true_and, ctr]
       by_cases h3 : b.Kind ≠ 0
       · rw [ifp h3, dct h3]; rfl
       · rw [ifn h3, dcf h3]; have hbt := zaaq hu n0 (by omega) hb (by omega); simp only [cfa]; rw [zt3 hbt, zt3 ht]; simp only [obs, zie]; rw [z8c hbt ht]; cases inB o.Offset 0 (szE b.zK - szE o.zK) <;> rfl
theorem insL {p : zB} {i : Nat} (hu : Upto p i) : w6 ((p.zF.length : Int) - 1) = (p.zF.length : Int) - 1 := by
 have := hu.ins
 exact w6e
theorem zahq (N : Nat) (hN : 1100 < N) {p : zB} {i : Nat} (hu : Upto p i) (hi : i < p.zA.length) : zi5 N p (i : Int) = some (opE p i) := by
 have hl := hu.ops
 have hx := lge hi
 unfold zi5 opE
 rw [zai, hx]
 generalize p.zA[i] = o at hx ⊢
 obtain ⟨n0, n1⟩ := z87 hx
 simp only [obs]
 rw [ifp, ifp]
 simp only [zag6]
 rw [zae4 N (by omega), z34 N _ (by rw [lnt]; omega) (by rw [lnt]; omega), zaah]
 simp only [obs, z2k, z2j]
 obtain ⟨k, hk⟩ := zadz o
 rw [hk]
 simp only [obs]
 rw [zy5 N _ (by simp; omega) (by simp)]
 simp only [obs]
 cases hnm : zzq o.Name with
 | false => rfl
 | true =>
  by_cases hd : nmI p.zA o.Name < (i : Int)
  · rw [ifp hd, dct (show nmI p.zA o.Name ≥ 0 from n0)]; simp only [Bool.true_eq_false, if_false, ifp hd]; rfl
  · rw [ifn hd, dcf (show ¬ (-1 : Int) ≥ 0 by decide)]; simp only [Bool.true_eq_false, if_false, ifn hd]; cases hkd : inB o.Kind 0 5 with
    | false => rfl
    | true =>
     obtain ⟨k', hk1, hk2⟩ := zae5 hkd; rw [hk] at hk1; cases hk1; rw [hk2]; cases hex : zwy o with
     | true => rfl
     | false =>
      rw [show zhe [cond (!true) 7 0, cond false 13 0, cond (!true) 4 0, cond false 5 0] = 0 from rfl]; simp only [bsf, cfa, Bool.true_eq_false, Bool.false_eq_true, if_false, z1o, obs]; have hks := z47 hkd; cases hdt : isD o.Kind with
      | true =>
       simp only [ctr]; rw [zsn N (by omega)]; simp only [obs, true_and]; rw [zy5 N _ (by simp; omega) (by simp)]; simp only [obs, zagq]
       by_cases ht : zf2 o.zK = 0
       · rw [ifp ht, ifn (fun h => h ht)]
         by_cases h4 : o.zK.Kind = 4
         · rw [ifp h4, zcn, dct h4]; rfl
         · rw [ifn h4, zcn, dcf h4]; simp only [cfa, bsf]; rw [z84 N (by omega) ht h4]; unfold zw5; rcases hks with h | h | h | h | h | h
           · rw [h]; rfl
           · rw [zaad N hN hu ht (.inl h), ifn, ifp (.inl h), h]; rfl
           · rw [zaad N hN hu ht (.inr h), ifn, ifp (.inr h), h]; rfl
           · rw [h] at hdt; cases hdt
           · rw [h]; rfl
           · rw [h] at hdt; cases hdt
       · rw [ifn ht, ifp ht, zd1, dct ht]; rfl
      | false =>
       simp only [cfa, Bool.false_eq_true, false_and, if_false]; unfold zw5; rcases hks with h | h | h | h | h | h
       · rw [h] at hdt; cases hdt
       · rw [h] at hdt; cases hdt
       · rw [h] at hdt; cases hdt
       · rw [h]; rfl
       · rw [h] at hdt; cases hdt
       · rw [h, insL hu]; cases inB o.Target 0 ((p.zF.length : Int) - 1) <;> rfl
theorem zag7 (N : Nat) (hN : 1100 < N) {p : zB} {i : Nat} (hu : Upto p i) (hi : i < p.zA.length) : zj6 N p (i : Int) = some (opE p i) := by
 have hl := hu.ops
 have hx := lge hi
 unfold zj6 opE
 rw [zai, hx]
 generalize p.zA[i] = o at hx ⊢
 obtain ⟨n0, n1⟩ := z87 hx
 simp only [obs]
 rw [zaez N (by omega)]
 simp only [obs]
 cases hnm : zzq o.Name with
 | false => rfl
 | true =>
  simp only [bnt, cfa, Bool.true_eq_false, if_false]; rw [z77 N p (by omega) (by omega)]; simp only [obs]
  by_cases hd : nmI p.zA o.Name < (i : Int)
  · rw [dct hd, ifp hd]; rfl
  · rw [dcf hd, ifn hd]; simp only [cfa, zie, obs]; cases hkd : inB o.Kind 0 5 with
    | false => rfl
    | true =>
     rw [zab5 hkd]; simp only [bnt, cfa, obs, Bool.true_eq_false, if_false]; cases hex : zwy o with
     | true => rfl
     | false =>
      simp only [cfa, Bool.false_eq_true, if_false, z61, obs]; have hks := z47 hkd; rw [z77 N p (by omega) (by omega)]; cases hdt : isD o.Kind with
      | true =>
       simp only [ctr, true_and, z19, obs]
       by_cases ht : zf2 o.zK = 0
       · rw [ifn (fun h => h ht), zd1, dcf (fun h => h ht)]; simp only [cfa]
         by_cases h4 : o.zK.Kind = 4
         · rw [ifp h4, zcn, dct h4]; rfl
         · rw [ifn h4, zcn, dcf h4]; simp only [cfa]; rw [zadh N (by omega) ht h4]; unfold zw5; rcases hks with h | h | h | h | h | h
           · rw [h]; rfl
           · have hb := zaaa N hN hu ht (.inl h); simp only [zie, obs] at hb; rw [ifn, ifp (.inl h), ← hb, h]; rfl
           · have hb := zaaa N hN hu ht (.inr h); simp only [zie, obs] at hb; rw [ifn, ifp (.inr h), ← hb, h]; rfl
           · rw [h] at hdt; cases hdt
           · rw [h]; rfl
           · rw [h] at hdt; cases hdt
       · rw [ifp ht, zd1, dct ht]; rfl
      | false =>
       simp only [cfa, Bool.false_eq_true, false_and, if_false, obs]; unfold zw5; rcases hks with h | h | h | h | h | h
       · rw [h] at hdt; cases hdt
       · rw [h] at hdt; cases hdt
       · rw [h] at hdt; cases hdt
       · rw [h]; rfl
       · rw [h] at hdt; cases hdt
       · rw [h, insL hu]; cases inB o.Target 0 ((p.zF.length : Int) - 1) <;> rfl
def zdr (o : zG) : Bool := decide (o.zK.Kind ≠ 0)
def zud (o b : zG) (c : Int) : Bool :=
 if c = 0 then isS o.Kind else if c = 1 then isD o.Kind else if c = 2 then isS o.Kind && zdr o else if c = 3 then isD o.Kind && zdr o
 else if c = 4 then isD o.Kind && (zdr o == zdr b) else if c = 5 then decide (o.Kind = 3) else decide (o.Kind = 5)
theorem zad0 (k : Int) : (isD k && !decide (k = 4)) = isS k := by
 unfold isD
 by_cases h : k = 4
 · subst h; rfl
 · rw [dcf h]; simp
theorem zae6 (o b : zG) {c : Int} (hc : 0 ≤ c ∧ c ≤ 6) : zoi o b c = some (zud o b c) := by
 have h : c = 0 ∨ c = 1 ∨ c = 2 ∨ c = 3 ∨ c = 4 ∨ c = 5 ∨ c = 6 := by omega
 unfold zoi
 rw [z1o]
 simp only [zia, zcn, zd1, obs]
 have hs := zad0 o.Kind
 unfold zud zdr
 rcases h with rfl | rfl | rfl | rfl | rfl | rfl | rfl
 · rw [← hs]; simp only [if_true]; cases isD o.Kind <;> cases decide (o.Kind = 4) <;> rfl
 · rw [ifn (by decide), ifp rfl]; cases isD o.Kind <;> rfl
 · rw [← hs, ifn (by decide), ifn (by decide), ifp rfl]; cases isD o.Kind <;> cases decide (o.Kind = 4) <;> cases decide (o.zK.Kind ≠ 0) <;> rfl
 · rw [ifn (by decide), ifn (by decide), ifn (by decide), ifp rfl]; cases isD o.Kind <;> cases decide (o.zK.Kind ≠ 0) <;> rfl
 · rw [ifn (by decide), ifn (by decide), ifn (by decide), ifn (by decide), ifp rfl]; cases isD o.Kind <;> cases decide (o.zK.Kind ≠ 0) <;> cases decide (b.zK.Kind ≠ 0) <;> rfl
 · rw [ifn (by decide), ifn (by decide), ifn (by decide), ifn (by decide), ifn (by decide), ifp rfl]; rfl
 · rw [ifn (by decide), ifn (by decide), ifn (by decide), ifn (by decide), ifn (by decide), ifn (by decide)]; rfl
def z4j : zG := ⟨⟨#[]⟩, 0, ⟨0, 0, 0⟩, ⟨0, ⟨#[]⟩⟩, ⟨#[]⟩, 0, 0⟩
def zr4 (p : zB) (x : zI) : Nat → zG
 | 0 => z4j
 | k + 1 => p.zA.getD ((x.Args.getD k 0).toNat) z4j
def zkd (op : Int) : List Int := zw7.getD op.toNat []
def gA (p : zB) (x : zI) (i : Nat) : Option Int :=
 (x.Args[i]?).bind fun a => if inB a 0 ((p.zA.length : Int) - 1) = true then (match p.zA[a.toNat]?, (zkd x.Op)[i]? with | some o, some c => if zud o (zr4 p x i) c = true then none else some 17 | _, _ => none) else some 3
def zwt (p : zB) (x : zI) : Int :=
 if inB x.Op 0 18 = false then 4 else if (x.Args.length : Int) ≠ ((zkd x.Op).length : Int) then 37
 else match (List.range x.Args.length).findSome? (gA p x) with | some e => e | none => 0
theorem zacd {k : Int} (h : inB k 0 18 = true) : ∃ n : Nat, k = (n : Int) ∧ n < 19 := by
 have := zbj.1 h
 exact ⟨k.toNat, by omega, by omega⟩
theorem zaf1 : ((List.range 19).all fun n => (match zw7[n]? with | some l => l.all (fun c => decide (0 ≤ c) && decide (c ≤ 6)) && (decide (l.length ≤ 3) && ((List.range l.length).all fun i => !(l.getD i 0 == 4) || (i == 1 && (l.getD 0 9 == 0 || l.getD 0 9 == 1)))) | none => false)) = true := by kernel_rfl
def z5w (c : Int) : Int := if c = 1 then 2 else if c = 2 then 1 else c
theorem zaew : ((List.range 19).all fun n => match zng (n : Int) with | some l => l == (zkd (n : Int)).map z5w | none => false) = true := by kernel_rfl
theorem z7x {k : Int} (h : inB k 0 18 = true) : idx zw7 k = some (zkd k) ∧ (zkd k).length ≤ 3 ∧ (∀ (i : Nat) (c : Int), (zkd k)[i]? = some c → (0 ≤ c ∧ c ≤ 6) ∧ (c = 4 → i = 1 ∧ ∃ d, (zkd k)[0]? = some d ∧ (d = 0 ∨ d = 1))) ∧ zng k = some ((zkd k).map z5w) := by
 obtain ⟨n, rfl, hn⟩ := zacd h
 have h1 := List.all_eq_true.1 zaf1 n (List.mem_range.2 hn)
 have h2 := List.all_eq_true.1 zaew n (List.mem_range.2 hn)
 have hlt : n < zw7.length := hn
 have hg : zw7[n]? = some (zkd (n : Int)) := by
  unfold zkd; rw [itn, gdd, lge hlt]; rfl
 rw [hg] at h1
 simp only [Bool.and_eq_true, List.all_eq_true, decide_eq_true_eq, List.mem_range, Bool.or_eq_true, Bool.not_eq_true', beq_iff_eq, beq_eq_false_iff_ne] at h1
 obtain ⟨a1, a2, a3⟩ := h1
 refine ⟨by rw [zai, hg], a2, fun i c hc => ⟨a1 c (lmg hc), fun h4 => ?_⟩, ?_⟩
 · have hi := (gei hc).1; have e : (zkd (n : Int)).getD i 0 = c := by rw [gdd, hc]; rfl
   rcases a3 i hi with h | ⟨h5, h6⟩
   · rw [e] at h; exact absurd h4 h
   · refine ⟨h5, ?_⟩; have h0 : 0 < (zkd (n : Int)).length := by omega
     refine ⟨_, lge h0, ?_⟩; rw [gdd, lge h0] at h6; exact h6
 · cases hr : zng (n : Int) with
   | none => rw [hr] at h2; cases h2
   | some l =>
    rw [hr] at h2; rw [eq_of_beq h2]
theorem opsL {p : zB} {i : Nat} (hu : Upto p i) : w6 ((p.zA.length : Int) - 1) = (p.zA.length : Int) - 1 := by
 have := hu.ops
 exact w6e
theorem z9w {p : zB} {a : Int} (h : inB a 0 ((p.zA.length : Int) - 1) = true) : ∃ o, p.zA[a.toNat]? = some o ∧ idx p.zA a = some o := by
 have := zbj.1 h
 refine ⟨_, lge (by omega), ?_⟩
 unfold idx
 rw [ifp, lge]
theorem zaga (N : Nat) (hN : 1100 < N) {p : zB} {i : Nat} (hu : Upto p i) (x : zI) : zav N p x = some (zwt p x) := by
 unfold zav zwt
 rw [z2j]
 simp only [obs]
 cases hop : inB x.Op 0 18 with
 | false => rfl
 | true =>
  obtain ⟨t1, t2, t3, _⟩ := z7x hop; rw [t1]; simp only [bnt, cfa, obs, zd1, Bool.true_eq_false, if_false]
  by_cases hl : (x.Args.length : Int) ≠ ((zkd x.Op).length : Int)
  · rw [ifp hl, dct hl]; rfl
  · rw [ifn hl, dcf hl]; simp only [cfa]; have l1 := zv3 (f := zav.r0 N) (fun i => (x.Args, (x.Args.length : Int), (i : Int), p, x, zr4 p x i)) (gA p x) x.Args.length
     (fun i hi hp => by
      have hx := lge hi; have hi2 : i < (zkd x.Op).length := by omega
      have hc := lge hi2; simp only [zav.r0, zav.b0, zai, hx, obs, dct (show (i : Int) < (x.Args.length : Int) by omega), ctr, opsL hu, z2j, gA, t1, hc]; cases hin : inB x.Args[i] 0 ((p.zA.length : Int) - 1) with
      | false => rfl
      | true =>
       obtain ⟨o, ho, ho2⟩ := z9w hin; simp only [bnt, cfa, ho, ho2, obs, if_true]; rw [zae6 _ _ (t3 i _ hc).1]; simp only [obs]; cases zud o (zr4 p x i) (zkd x.Op)[i] with
       | false => rfl
       | true =>
        simp only [bnt, cfa, if_true]; rw [w6e]; rw [show zr4 p x (i + 1) = o by
         show p.zA.getD ((x.Args.getD i 0).toNat) z4j = o; rw [gdd (l := x.Args), hx, Option.getD_some, gdd, ho]; rfl]
        rfl)
     (fun _ => by simp only [zav.r0, zav.b0, dcf (show ¬ (x.Args.length : Int) < (x.Args.length : Int) by omega), cfa]) (N := N) (by omega)
    simp only [nc0] at l1; rw [show (⟨(⟨#[]⟩ : ByteArray), 0, (⟨0, 0, 0⟩ : DataType), (⟨0, (⟨#[]⟩ : ByteArray)⟩ : Value), (⟨#[]⟩ : ByteArray), 0, 0⟩ : zG) = zr4 p x 0 from rfl, l1]; cases (List.range x.Args.length).findSome? (gA p x) <;> rfl
theorem z83 {p : zB} {j : Nat} {o : zG} (ho : p.zA[j]? = some o) (h : opE p j = 0) (hd : isD o.Kind = true) : inB o.zK.Kind 1 3 = zdr o := by
 obtain ⟨h1, h2⟩ := (op_v ho h).ty hd
 unfold zdr
 rcases zqg h1 with ⟨k, _⟩ | ⟨k | k, _⟩ | ⟨k, _⟩ | ⟨k, _⟩
 · rw [k]; rfl
 · rw [k]; rfl
 · rw [k]; rfl
 · rw [k]; rfl
 · exact absurd k h2
theorem zadm (N : Nat) (hN : 1100 < N) {p : zB} (hu : Upto p p.zA.length) (x : zI) : zba N p x = some (zwt p x) := by
 have hol := hu.ops
 unfold zba zwt
 rw [zie]
 simp only [obs]
 cases hop : inB x.Op 0 18 with
 | false => rfl
 | true =>
  obtain ⟨t1, t2, t3, t4⟩ := z7x hop; rw [t4]; simp only [bnt, cfa, obs, zd1, Bool.true_eq_false, if_false, lnm]
  by_cases hl : (x.Args.length : Int) ≠ ((zkd x.Op).length : Int)
  · rw [ifp hl, dct hl]; rfl
  · rw [ifn hl, dcf hl]; simp only [cfa]; have l1 := zv3 (f := zba.r0 N) (fun i => ((zkd x.Op).map z5w, (i : Int), p, x)) (gA p x) x.Args.length
     (fun i hi hp => by
      have hx := lge hi; have hi2 : i < (zkd x.Op).length := by omega
      have hc := lge hi2; simp only [zba.r0, zba.b0, zai, hx, obs, lnm, dct (show (i : Int) < ((zkd x.Op).length : Int) by omega), ctr, opsL hu, zie, gA, List.getElem?_map, hc, Option.map_some]; cases hin : inB x.Args[i] 0 ((p.zA.length : Int) - 1) with
      | false => rfl
      | true =>
       obtain ⟨o, ho, ho2⟩ := z9w hin; have hlt := (gei ho).1; obtain ⟨c1, c2⟩ := t3 i _ hc; have hbf : (zkd x.Op)[i] = 4 → ∃ a b, i = 1 ∧ x.Args[0]? = some a ∧ idx p.zA a = some b ∧ zr4 p x i = b ∧ inB b.zK.Kind 1 3 = zdr b := fun h4 => by
        obtain ⟨rfl, d, hd, hd2⟩ := c2 h4; have h0 := hp 0 (by omega); have hx0 := lge (show 0 < x.Args.length by omega); unfold gA at h0; rw [hx0, obs] at h0; split at h0
        · rename_i hin0; obtain ⟨b, hb, hb2⟩ := z9w hin0; rw [hb, hd] at h0; simp only at h0; split at h0
          · rename_i hcl; have hlt0 := (gei hb).1; refine ⟨_, b, rfl, hx0, hb2, ?_, z83 hb (hu.ok _ hlt0) ?_⟩
            · show p.zA.getD ((x.Args.getD 0 0).toNat) z4j = b; rw [gdd (l := x.Args), hx0, Option.getD_some, gdd, hb]; rfl
            · unfold zud at hcl; rcases hd2 with rfl | rfl
              · rw [ifp rfl] at hcl; unfold isD; rw [hcl]; rfl
              · rw [ifn (by decide), ifp rfl] at hcl; exact hcl
          · cases h0
        · cases h0
       have hnum : isD o.Kind = true → inB o.zK.Kind 1 3 = zdr o := z83 ho (hu.ok _ hlt); have hSD : isS o.Kind = true → isD o.Kind = true := fun h => by unfold isD; rw [h]; rfl
       simp only [bnt, cfa, ho, ho2, obs, if_true, z26, z61, zif, zvr, zcn]; generalize (zkd x.Op)[i] = c at c1 hbf ⊢; have fin : ∀ b : Bool, (cond (!b) (some (Round.result (17 : Int))) (some (Round.again ((zkd x.Op).map z5w, w6 ((i : Int) + 1), p, x)))) = some (cond b (Round.again ((zkd x.Op).map z5w, ((i + 1 : Nat) : Int), p, x)) (.result 17)) := fun b => by
        rw [w6e]; cases b <;> rfl
       have hcs : c = 0 ∨ c = 1 ∨ c = 2 ∨ c = 3 ∨ c = 4 ∨ c = 5 ∨ c = 6 := by omega
       rcases hcs with rfl | rfl | rfl | rfl | rfl | rfl | rfl <;> simp only [z5w, Int.reduceEq, reduceIte, decide_true, decide_false, ctr, cfa]
       · rw [show zud o (zr4 p x i) 0 = isS o.Kind from rfl]; rw [fin]; cases (isS o.Kind) <;> rfl
       · rw [show zud o (zr4 p x i) 1 = isD o.Kind from rfl]; rw [fin]; cases (isD o.Kind) <;> rfl
       · rw [show zud o (zr4 p x i) 2 = (isS o.Kind && inB o.zK.Kind 1 3) by
          show (isS o.Kind && zdr o) = _; cases hs : isS o.Kind with
          | false => rfl
          | true => rw [hnum (hSD hs)]]
         cases isS o.Kind
         · simp only [ctr, cfa, obs, Bool.true_and, Bool.false_and]; rfl
         · simp only [ctr, cfa, obs, Bool.true_and, Bool.false_and]; rw [fin]; cases (inB o.zK.Kind 1 3) <;> rfl
       · rw [show zud o (zr4 p x i) 3 = (isD o.Kind && inB o.zK.Kind 1 3) by
          show (isD o.Kind && zdr o) = _; cases hs : isD o.Kind with
          | false => rfl
          | true => rw [hnum hs]]
         cases isD o.Kind
         · simp only [ctr, cfa, obs, Bool.true_and, Bool.false_and]; rfl
         · simp only [ctr, cfa, obs, Bool.true_and, Bool.false_and]; rw [fin]; cases (inB o.zK.Kind 1 3) <;> rfl
       · obtain ⟨a, b, rfl, ha, hb, hbb, hbn⟩ := hbf rfl; rw [show zud o (zr4 p x 1) 4 = (isD o.Kind && (inB o.zK.Kind 1 3 == inB b.zK.Kind 1 3)) by
          show (isD o.Kind && (zdr o == zdr (zr4 p x 1))) = _; rw [hbb, hbn]; cases hs : isD o.Kind with
          | false => rfl
          | true => rw [hnum hs]]
         rw [show w6 (((1 : Nat) : Int) - 1) = ((0 : Nat) : Int) from rfl, zai, ha]; simp only [obs]; rw [hb]; cases isD o.Kind
         · simp only [ctr, cfa, obs, Bool.true_and, Bool.false_and]; rfl
         · simp only [ctr, cfa, obs, Bool.true_and, Bool.false_and]; rw [fin]; cases (inB o.zK.Kind 1 3 == inB b.zK.Kind 1 3) <;> rfl
       · rw [show zud o (zr4 p x i) 5 = decide (o.Kind = 3) from rfl]; rw [fin]; cases (decide (o.Kind = 3)) <;> rfl
       · rw [show zud o (zr4 p x i) 6 = decide (o.Kind = 5) from rfl]; rw [fin]; cases (decide (o.Kind = 5)) <;> rfl)
     (fun _ => by simp only [zba.r0, zba.b0, lnm, dcf (show ¬ (x.Args.length : Int) < ((zkd x.Op).length : Int) by omega), cfa]) (N := N) (by omega)
    simp only [nc0] at l1; rw [l1]; cases (List.range x.Args.length).findSome? (gA p x) <;> rfl
def zzr (p : zB) (m : zN) : Bool := decide (0 ≤ m.From) && (decide (m.From < m.To) && (decide (m.To ≤ (p.zF.length : Int)) && (inB m.Exception 0 999 && inB m.Handler 0 ((p.zF.length : Int) - 1))))
theorem zaf9 {p : zB} {i : Nat} (hu : Upto p i) (m : zN) : zi7 p m = some (cond (zzr p m) 0 3) := by
 unfold zi7 zzr
 rw [insL hu, z2j, z2j]
 simp only [obs, zxw, z2k, ge_iff_le]
 cases decide (0 ≤ m.From) <;> cases decide (m.From < m.To) <;> cases decide (m.To ≤ (p.zF.length : Int)) <;> cases inB m.Exception 0 999 <;> cases inB m.Handler 0 ((p.zF.length : Int) - 1) <;> rfl
theorem zagh (p : zB) (m : zN) : ((((decide (m.From < 0) || decide (m.From ≥ m.To)) || decide (m.To > (p.zF.length : Int))) || !inB m.Exception 0 999) || !inB m.Handler 0 ((p.zF.length : Int) - 1)) = !zzr p m := by
 unfold zzr
 rw [show decide (m.From < 0) = !decide (0 ≤ m.From) by rw [← decide_not]; congr 1; simp, show decide (m.From ≥ m.To) = !decide (m.From < m.To) by rw [← decide_not]; congr 1; simp, show decide (m.To > (p.zF.length : Int)) = !decide (m.To ≤ (p.zF.length : Int)) by rw [← decide_not]; congr 1; simp]
 simp only [Bool.not_and, Bool.or_assoc]
theorem z8p (N0 : Nat) (n : Nat) (hn : n ≤ 1000000) (v : Int) : ∀ (N k : Nat), 1 ≤ k → k ≤ n → n - k < N → zl (zch.r0 N0) N (List.replicate k v ++ List.replicate (n - k) 0, (k : Int)) = some (List.replicate n v, (n : Int))
 | 0, k, _, _, h => by omega
 | N + 1, k, h1, h2, h3 => by
  have hlen : (List.replicate k v ++ List.replicate (n - k) (0 : Int)).length = n := by rw [lna, lnr, lnr]; omega
  simp only [zl, zch.r0, zch.b0, hlen]
  by_cases hk : k < n
  · rw [dct (by omega), ctr, ifp, ifp, ifp]; simp only [obs]; have t1 : (List.replicate k v ++ List.replicate (n - k) (0 : Int)).take ((k : Int)).toNat = List.replicate k v := by
     rw [itn, List.take_append_of_le_length (by rw [lnr]; omega), List.take_replicate, Nat.min_self]
    have t2 : (((List.replicate k v ++ List.replicate (n - k) (0 : Int)).drop (0 : Int).toNat).take (((k : Int)).toNat - (0 : Int).toNat)) = List.replicate k v := t1; rw [t1, t2, lnr]; have e : ((k : Int)).toNat = k := itn k; rw [e, List.take_replicate, show min (min k (n - k)) k = min k (n - k) by omega, List.drop_append, List.drop_eq_nil_of_le (by rw [lnr]; omega), lnr, List.drop_replicate, List.nil_append]; rw [w6e]; have := z8p N0 n hn v N (k + min k (n - k)) (by omega) (by omega) (by omega); rw [← this, List.replicate_append_replicate, show n - k - (k + min k (n - k) - k) = n - (k + min k (n - k)) by omega]; rfl
  · obtain rfl : k = n := by omega
    rw [dcf (by omega), cfa, Nat.sub_self]; simp
theorem zaby (N : Nat) (n : Nat) (hn : n ≤ 100000) (hN : n < N) (v : Int) : zch N [v] (n : Int) = some (List.replicate n v) := by
 have wu : ∀ m : Nat, m ≤ 1000000 → IntKind.wrap .u64 (m : Int) = (m : Int) := fun m hm => by
  unfold IntKind.wrap; rw [show (2 : Int) ^ IntKind.u64.bits = 18446744073709551616 from rfl, show IntKind.u64.signed = false from rfl]; simp only [Bool.false_and, Bool.false_eq_true, if_false]; omega
 unfold zch zpi
 rw [show (([v] : List Int).length : Int) = ((1 : Nat) : Int) from rfl, wu 1 (by decide), wu n (by omega), z44 1 n (by decide) (by omega)]
 rw [show (1 * n) / 18446744073709551616 = 0 by omega, show (1 * n) % 18446744073709551616 = n by omega]
 simp only [obs]
 rw [dcf (by omega), dcf (by omega), dcf (by omega), w6e, ifp, ifp, itn, za3 (by omega)]
 simp only [cfa, ctr, obs, lnr]
 by_cases h0 : n = 0
 · subst h0; obtain ⟨M, rfl⟩ : ∃ M, N = M + 1 := ⟨N - 1, by omega⟩; rfl
 · have := z8p N n (by omega) v N 1 (by omega) (by omega) (by omega); rw [show min ([v] : List Int).length n = 1 by simp; omega]; rw [show ([v] : List Int).take 1 ++ (List.replicate n (0 : Int)).drop 1 = List.replicate 1 v ++ List.replicate (n - 1) 0 by rw [List.drop_replicate]; rfl, this]; rfl
def og (ops : List zG) (k : Nat) : zG := ops.getD k z4j
def pAt (ops : List zG) : Nat → Int
 | 0 => 0
 | k + 1 => pAt ops k + (if (og ops k).Kind = 3 then 16 else 0)
def zmx (ops : List zG) : Nat → Int
 | 0 => 0
 | k + 1 => zmx ops k + (if (og ops k).Kind = 0 then szE (og ops k).zK else 0)
def sAt (ops : List zG) (k : Nat) : Int := pAt ops ops.length + zmx ops k
def ze0 (ops : List zG) (i : Nat) : Int :=
 if (og ops i).Kind = 3 then pAt ops i else if (og ops i).Kind = 0 then sAt ops i else if (og ops i).Kind = 1 then sAt ops (nmI ops (og ops i).Base).toNat + (og ops i).Offset else -1
def zt8 (ops : List zG) : List Int := (List.range ops.length).map (ze0 ops)
def zme (ops : List zG) : Int := (sAt ops ops.length + 15) / 16
theorem zrf {ops : List zG} {k : Nat} (h : k < ops.length) : ops[k]? = some (og ops k) := by
 unfold og
 rw [gdd, lge h]
 rfl
theorem zsm (ops : List zG) : ∀ k, 0 ≤ pAt ops k ∧ pAt ops k ≤ 16 * (k : Int) ∧ pAt ops k % 16 = 0
 | 0 => ⟨Int.le_refl _, by show (0 : Int) ≤ 16 * ((0 : Nat) : Int); omega, rfl⟩
 | k + 1 => by
  obtain ⟨h1, h2, h3⟩ := zsm ops k; unfold pAt; split <;> omega
theorem z8z (ops : List zG) {j : Nat} : ∀ {k : Nat}, j ≤ k → pAt ops j ≤ pAt ops k
 | 0, h => by
  obtain rfl : j = 0 := by omega
  exact Int.le_refl _
 | k + 1, h => by
  by_cases e : j = k + 1
  · subst e; exact Int.le_refl _
  · have := z8z ops (show j ≤ k by omega); have e2 : pAt ops (k + 1) = pAt ops k + (if (og ops k).Kind = 3 then 16 else 0) := rfl; rw [e2]; split <;> omega
def zrk (p : zB) : Prop := Upto p p.zA.length
theorem zmq {p : zB} (h : zrk p) {k : Nat} (hk : k < p.zA.length) : OpV p k (og p.zA k) := op_v (zrf hk) (h.ok k hk)
theorem zw6 {p : zB} (h : zrk p) {k : Nat} (hk : k < p.zA.length) (h0 : (og p.zA k).Kind = 0) : zf2 (og p.zA k).zK = 0 := ((zmq h hk).ty (by rw [h0]; rfl)).1
theorem zqi {p : zB} (h : zrk p) : ∀ k, k ≤ p.zA.length → 0 ≤ zmx p.zA k ∧ zmx p.zA k ≤ 256 * (k : Int)
 | 0, _ => ⟨Int.le_refl _, by show (0 : Int) ≤ 256 * ((0 : Nat) : Int); omega⟩
 | k + 1, hk => by
  obtain ⟨h1, h2⟩ := zqi h k (by omega); unfold zmx; split
  · rename_i h0; have := zf3 (zw6 h (by omega) h0); omega
  · omega
theorem z6t {p : zB} (h : zrk p) {j : Nat} : ∀ {k : Nat}, k ≤ p.zA.length → j ≤ k → zmx p.zA j ≤ zmx p.zA k
 | 0, _, hj => by
  obtain rfl : j = 0 := by omega
  exact Int.le_refl _
 | k + 1, hk, hj => by
  by_cases e : j = k + 1
  · subst e; exact Int.le_refl _
  · have := z6t h (show k ≤ p.zA.length by omega) (show j ≤ k by omega); have e2 : zmx p.zA (k + 1) = zmx p.zA k + (if (og p.zA k).Kind = 0 then szE (og p.zA k).zK else 0) := rfl; rw [e2]; split
    · rename_i h0; have := zf3 (zw6 h (by omega) h0); omega
    · omega
theorem zt7 {n : Nat} (f : Nat → Int) {k : Nat} (v : Int) : ((List.range n).map f).set k v = (List.range n).map fun i => if i = k then v else f i := by
 apply List.ext_getElem?
 intro i
 rw [List.getElem?_set, List.getElem?_map, List.getElem?_map, lnm, List.length_range]
 by_cases hi : i < n
 · rw [List.getElem?_range hi]
   by_cases e : k = i
   · subst e; simp [hi]
   · simp [e, Ne.symm e]
 · rw [List.getElem?_eq_none (by simpa using hi)]
   by_cases e : k = i
   · subst e; simp [hi]
   · simp [e]
theorem zq6 {n : Nat} (f : Nat → Int) {k : Nat} (h : k < n) : ((List.range n).map f)[k]? = some (f k) := by
 rw [List.getElem?_map, List.getElem?_range h]
 rfl
theorem zhk {n : Nat} {f g : Nat → Int} (h : ∀ i, i < n → f i = g i) : (List.range n).map f = (List.range n).map g := List.map_congr_left fun i hi => h i (List.mem_range.1 hi)
theorem zaai (n : Nat) (v : Int) : List.replicate n v = (List.range n).map fun _ => v := by
 apply List.ext_getElem?
 intro i
 rw [List.getElem?_replicate, List.getElem?_map]
 by_cases hi : i < n
 · rw [ifp hi, List.getElem?_range hi]; rfl
 · rw [ifn hi, List.getElem?_eq_none (by simpa using hi)]; rfl
def A1 (ops : List zG) (k i : Nat) : Int := if i < k ∧ (og ops i).Kind = 3 then pAt ops i else -1
def B1 (ops : List zG) (k i : Nat) : Int := if i < k then (if (og ops i).Kind = 3 then pAt ops i else -1) else 0
def A2 (ops : List zG) (k i : Nat) : Int := if i < k ∧ (og ops i).Kind = 0 then sAt ops i else if (og ops i).Kind = 3 then pAt ops i else -1
def A3 (ops : List zG) (k i : Nat) : Int := if i < k ∧ (og ops i).Kind = 1 then sAt ops (nmI ops (og ops i).Base).toNat + (og ops i).Offset else A2 ops ops.length i
theorem z0x {p : zB} (h : zrk p) {i : Nat} (hi : i < p.zA.length) (hk : (og p.zA i).Kind = 1) : ∃ b : Nat, nmI p.zA (og p.zA i).Base = (b : Int) ∧ b < i ∧ (og p.zA b).Kind = 0 ∧ 0 ≤ (og p.zA i).Offset ∧ (og p.zA i).Offset ≤ szE (og p.zA b).zK - szE (og p.zA i).zK := by
 have hb := (zmq h hi).base (.inl hk)
 unfold zxh at hb
 by_cases hc : nmI p.zA (og p.zA i).Base < 0 ∨ (i : Int) ≤ nmI p.zA (og p.zA i).Base
 · rw [ifp hc] at hb; cases hb
 · rw [ifn hc] at hb; refine ⟨(nmI p.zA (og p.zA i).Base).toNat, by omega, by omega, ?_⟩; rw [zrf (by omega)] at hb; simp only at hb; rw [ifn] at hb; split at hb
   · cases hb
   · rename_i h0; split at hb
     · rename_i h1; have := zbj.1 h1; exact ⟨by omega, by omega, by omega⟩
     · cases hb
theorem z5k {p : zB} (h : zrk p) {i : Nat} (hi : i < p.zA.length) (hk : (og p.zA i).Kind = 2) : ∃ b : Nat, nmI p.zA (og p.zA i).Base = (b : Int) ∧ b < i ∧ (og p.zA b).Kind = 3 ∧ 0 ≤ (og p.zA i).Offset ∧ (og p.zA i).Offset ≤ 256 := by
 have hb := (zmq h hi).base (.inr hk)
 unfold zxh at hb
 by_cases hc : nmI p.zA (og p.zA i).Base < 0 ∨ (i : Int) ≤ nmI p.zA (og p.zA i).Base
 · rw [ifp hc] at hb; cases hb
 · rw [ifn hc] at hb; refine ⟨(nmI p.zA (og p.zA i).Base).toNat, by omega, by omega, ?_⟩; rw [zrf (by omega)] at hb; simp only at hb; rw [ifp hk] at hb; split at hb
   · cases hb
   · rename_i h0; split at hb
     · rename_i h1; have := zbj.1 h1; exact ⟨by omega, by omega, by omega⟩
     · cases hb
theorem z73 {p : zB} (h : zrk p) (k : Nat) {b : Nat} (hb : b < p.zA.length) (h0 : (og p.zA b).Kind = 0) : A3 p.zA k b = sAt p.zA b := by
 unfold A3 A2
 rw [ifn, ifp ⟨hb, h0⟩]
theorem zac4 (ops : List zG) : (List.range ops.length).map (A3 ops ops.length) = zt8 ops := by
 refine zhk fun i hi => ?_
 unfold A3 A2 ze0
 by_cases h1 : (og ops i).Kind = 1
 · rw [ifp ⟨hi, h1⟩, ifn, ifn, ifp h1]
 · rw [ifn]
   by_cases h0 : (og ops i).Kind = 0
   · rw [ifp ⟨hi, h0⟩, ifn, ifp h0]
   · rw [ifn]
     by_cases h3 : (og ops i).Kind = 3
     · rw [ifp h3, ifp h3]
     · rw [ifn h3, ifn h3, ifn h0, ifn h1]
section
variable {ops : List zG} {k : Nat}
theorem zaft : (List.range ops.length).map (A1 ops (k + 1)) = if (og ops k).Kind = 3 then ((List.range ops.length).map (A1 ops k)).set k (pAt ops k) else (List.range ops.length).map (A1 ops k) := by
 split
 · rename_i h; rw [zt7]; refine zhk fun i _ => ?_; unfold A1
   by_cases e : i = k
   · subst e; rw [ifp ⟨by omega, h⟩, ifp rfl]
   · rw [ifn e]
     by_cases h2 : i < k ∧ (og ops i).Kind = 3
     · rw [ifp h2, ifp ⟨by omega, h2.2⟩]
     · rw [ifn h2, ifn]
 · rename_i h; refine zhk fun i _ => ?_; unfold A1
   by_cases e : i = k
   · subst e; rw [ifn, ifn]
   · by_cases h2 : i < k ∧ (og ops i).Kind = 3
     · rw [ifp h2, ifp ⟨by omega, h2.2⟩]
     · rw [ifn h2, ifn]
theorem zafs : (List.range ops.length).map (B1 ops (k + 1)) = if (og ops k).Kind = 3 then (((List.range ops.length).map (B1 ops k)).set k (-1)).set k (pAt ops k) else ((List.range ops.length).map (B1 ops k)).set k (-1) := by
 split
 · rename_i h; rw [zt7, zt7]; refine zhk fun i _ => ?_; unfold B1
   by_cases e : i = k
   · subst e; rw [ifp, ifp h, ifp rfl]
   · rw [ifn e, ifn e]
     by_cases h2 : i < k
     · rw [ifp h2, ifp]
     · rw [ifn h2, ifn]
 · rename_i h; rw [zt7]; refine zhk fun i _ => ?_; unfold B1
   by_cases e : i = k
   · subst e; rw [ifp, ifn h, ifp rfl]
   · rw [ifn e]
     by_cases h2 : i < k
     · rw [ifp h2, ifp]
     · rw [ifn h2, ifn]
theorem zaas : (List.range ops.length).map (A2 ops (k + 1)) = if (og ops k).Kind = 0 then ((List.range ops.length).map (A2 ops k)).set k (sAt ops k) else (List.range ops.length).map (A2 ops k) := by
 split
 · rename_i h; rw [zt7]; refine zhk fun i _ => ?_; unfold A2
   by_cases e : i = k
   · subst e; rw [ifp ⟨by omega, h⟩, ifp rfl]
   · rw [ifn e]
     by_cases h2 : i < k ∧ (og ops i).Kind = 0
     · rw [ifp h2, ifp ⟨by omega, h2.2⟩]
     · rw [ifn h2, ifn (show ¬ (i < k + 1 ∧ (og ops i).Kind = 0) by omega)]
 · rename_i h; refine zhk fun i _ => ?_; unfold A2
   by_cases e : i = k
   · subst e; rw [ifn (show ¬ (i < i + 1 ∧ (og ops i).Kind = 0) by omega), ifn (show ¬ (i < i ∧ (og ops i).Kind = 0) by omega)]
   · by_cases h2 : i < k ∧ (og ops i).Kind = 0
     · rw [ifp h2, ifp ⟨by omega, h2.2⟩]
     · rw [ifn h2, ifn (show ¬ (i < k + 1 ∧ (og ops i).Kind = 0) by omega)]
theorem zaar : (List.range ops.length).map (A3 ops (k + 1)) = if (og ops k).Kind = 1 then ((List.range ops.length).map (A3 ops k)).set k (sAt ops (nmI ops (og ops k).Base).toNat + (og ops k).Offset) else (List.range ops.length).map (A3 ops k) := by
 split
 · rename_i h; rw [zt7]; refine zhk fun i _ => ?_; unfold A3
   by_cases e : i = k
   · subst e; rw [ifp ⟨by omega, h⟩, ifp rfl]
   · rw [ifn e]
     by_cases h2 : i < k ∧ (og ops i).Kind = 1
     · rw [ifp h2, ifp ⟨by omega, h2.2⟩]
     · rw [ifn h2, ifn]
 · rename_i h; refine zhk fun i _ => ?_; unfold A3
   by_cases e : i = k
   · subst e; rw [ifn, ifn]
   · by_cases h2 : i < k ∧ (og ops i).Kind = 1
     · rw [ifp h2, ifp ⟨by omega, h2.2⟩]
     · rw [ifn h2, ifn]
end
theorem z8r {a : Int} (h0 : 0 ≤ a) (h1 : a ≤ 1000000) : w6 ((w6 ((w6 (a + 16)) - 1)).tdiv 16) = (a + 15) / 16 := by
 rw [w6e (n := a + 16), w6e (n := a + 16 - 1), tde, show a + 16 - 1 = a + 15 by omega, w6e]
theorem z56 (n : Nat) (f : Nat → Int) : ((List.range n).map f).length = n := by rw [lnm, List.length_range]
theorem z63 (N : Nat) (hN : 1100 < N) {p : zB} (h : zrk p) : zm N p.zA = some (zt8 p.zA, zme p.zA) := by
 have hl := h.ops
 have hp := fun k => zsm p.zA k
 have hs := fun k hk => zqi h k hk
 unfold zm
 rw [zaby N _ (by omega) (by omega), zaai]
 simp only [obs]
 have l1 := za1 (f := zm.r0 N) (fun k => (p.zA, (List.range p.zA.length).map (A1 p.zA k), pAt p.zA k, p.zA, (p.zA.length : Int), (k : Int))) p.zA.length
  (fun k hk => by
   have h1 := hp k; simp only [zm.r0, zm.b0, zai, zrf hk, obs, dct (show (k : Int) < (p.zA.length : Int) by omega), ctr, z56, ifp (show (0 : Int) ≤ (k : Int) by omega), ifp (show (k : Int) < (p.zA.length : Int) by omega), itn, zq6 _ hk, zaft, zcn]; rw [w6e (n := (k : Int) + 1), w6e (n := pAt p.zA k + 16)]; rw [show pAt p.zA (k + 1) = pAt p.zA k + (if (og p.zA k).Kind = 3 then 16 else 0) from rfl]
   by_cases h3 : (og p.zA k).Kind = 3
   · rw [dct h3, ifp h3, ifp h3]; rfl
   · rw [dcf h3, ifn h3, ifn h3, Int.add_zero]; rfl)
  (by simp only [zm.r0, zm.b0, dcf (show ¬ (p.zA.length : Int) < (p.zA.length : Int) by omega), cfa]) (N := N) (by omega)
 simp only [nc0] at l1
 rw [show ((List.range p.zA.length).map fun _ => (-1 : Int)) = (List.range p.zA.length).map (A1 p.zA 0) from zhk fun i _ => by unfold A1; rw [ifn], show (0 : Int) = pAt p.zA 0 from rfl]
 rw [show pAt p.zA 0 = 0 from rfl] at l1 ⊢
 rw [l1]
 simp only [obs]
 have l2 := za1 (f := zm.r2 N) (fun k => (p.zA, (List.range p.zA.length).map (A2 p.zA k), sAt p.zA k, p.zA, (p.zA.length : Int), (k : Int))) p.zA.length
  (fun k hk => by
   have h1 := hp p.zA.length; have h2 := hs k (by omega); simp only [zm.r2, zm.b2, zai, zrf hk, obs, dct (show (k : Int) < (p.zA.length : Int) by omega), ctr, z56, ifp (show (0 : Int) ≤ (k : Int) by omega), ifp (show (k : Int) < (p.zA.length : Int) by omega), itn, zq6 _ hk, zaas, zcn]; rw [w6e (n := (k : Int) + 1)]; have e : sAt p.zA (k + 1) = sAt p.zA k + (if (og p.zA k).Kind = 0 then szE (og p.zA k).zK else 0) := by
    unfold sAt; rw [show zmx p.zA (k + 1) = zmx p.zA k + (if (og p.zA k).Kind = 0 then szE (og p.zA k).zK else 0) from rfl]; omega
   rw [e]
   by_cases h3 : (og p.zA k).Kind = 0
   · have hz := zf3 (zw6 h hk h3); rw [dct h3, ifp h3, ifp h3, ctr, z54 N (by omega) (zw6 h hk h3)]; simp only [obs]; rw [w6e (n := sAt p.zA k + szE (og p.zA k).zK) (by unfold sAt; omega) (by unfold sAt; omega)]; rfl
   · rw [dcf h3, ifn h3, ifn h3, Int.add_zero]; rfl)
  (by simp only [zm.r2, zm.b2, dcf (show ¬ (p.zA.length : Int) < (p.zA.length : Int) by omega), cfa]) (N := N) (by omega)
 simp only [nc0] at l2
 rw [show ((List.range p.zA.length).map (A1 p.zA p.zA.length)) = (List.range p.zA.length).map (A2 p.zA 0) from zhk fun i hi => by
  unfold A1 A2; rw [ifn (show ¬ (i < 0 ∧ (og p.zA i).Kind = 0) by omega)]
  by_cases h3 : (og p.zA i).Kind = 3
  · rw [ifp ⟨hi, h3⟩, ifp h3]
  · rw [ifn, ifn h3], show pAt p.zA p.zA.length = sAt p.zA 0 by unfold sAt; rw [show zmx p.zA 0 = 0 from rfl, Int.add_zero], l2]
 simp only [obs]
 have l3 := za1 (f := zm.r4 N) (fun k => (p.zA, (List.range p.zA.length).map (A3 p.zA k), sAt p.zA p.zA.length, p.zA, (p.zA.length : Int), (k : Int))) p.zA.length
  (fun k hk => by
   have h1 := hp p.zA.length; simp only [zm.r4, zm.b4, zai, zrf hk, obs, dct (show (k : Int) < (p.zA.length : Int) by omega), ctr, z56, ifp (show (0 : Int) ≤ (k : Int) by omega), ifp (show (k : Int) < (p.zA.length : Int) by omega), itn, zq6 _ hk, zaar, zcn]; rw [w6e (n := (k : Int) + 1)]
   by_cases h3 : (og p.zA k).Kind = 1
   · obtain ⟨b, e1, e2, e3, e4, e5⟩ := z0x h hk h3; have hz := zf3 (zw6 h (show b < p.zA.length by omega) e3); have hz2 := zf3 ((zmq h hk).ty (by rw [h3]; rfl)).1; have h2 := hs b (by omega); rw [dct h3, ifp h3, ctr, z34 N _ (by omega) (by omega), e1]; simp only [obs]; rw [ifp, ifp, itn, zq6 _ (by omega), z73 h k (by omega) e3]; simp only [obs]; rw [w6e (n := sAt p.zA b + (og p.zA k).Offset) (by unfold sAt; omega) (by unfold sAt; omega)]; rfl
   · rw [dcf h3, ifn h3]; rfl)
  (by simp only [zm.r4, zm.b4, dcf (show ¬ (p.zA.length : Int) < (p.zA.length : Int) by omega), cfa]) (N := N) (by omega)
 simp only [nc0] at l3
 rw [show ((List.range p.zA.length).map (A2 p.zA p.zA.length)) = (List.range p.zA.length).map (A3 p.zA 0) from zhk fun i hi => by
  unfold A3; rw [ifn (show ¬ (i < 0 ∧ (og p.zA i).Kind = 1) by omega)], l3]
 simp only [obs, zac4]
 have h1 := hp p.zA.length
 have h2 := hs p.zA.length (by omega)
 rw [z8r (by unfold sAt; omega) (by unfold sAt; omega)]
 rfl
theorem ze8 (N : Nat) (hN : 1100 < N) {p : zB} (h : zrk p) : zq N p = some (zt8 p.zA, zme p.zA) := by
 have hl := h.ops
 have hp := fun k => zsm p.zA k
 have hs := fun k hk => zqi h k hk
 unfold zq
 rw [ifp, ifp, itn, za3 (by omega), ctr, zaai]
 have l1 := za1 (f := zq.r0 N) (fun k => ((List.range p.zA.length).map (B1 p.zA k), pAt p.zA k, (k : Int), p)) p.zA.length
  (fun k hk => by
   have h1 := hp k; simp only [zq.r0, zq.b0, zai, zrf hk, obs, dct (show (k : Int) < (p.zA.length : Int) by omega), ctr, List.length_set, z56, ifp (show (0 : Int) ≤ (k : Int) by omega), ifp (show (k : Int) < (p.zA.length : Int) by omega), itn, zq6 _ hk, zafs, zcn]; rw [w6e (n := (k : Int) + 1), w6e (n := pAt p.zA k + 16)]; rw [show pAt p.zA (k + 1) = pAt p.zA k + (if (og p.zA k).Kind = 3 then 16 else 0) from rfl]
   by_cases h3 : (og p.zA k).Kind = 3
   · rw [dct h3, ifp h3, ifp h3, ctr, zt7, zq6 _ hk]; rfl
   · rw [dcf h3, ifn h3, ifn h3, Int.add_zero]; rfl)
  (by simp only [zq.r0, zq.b0, dcf (show ¬ (p.zA.length : Int) < (p.zA.length : Int) by omega), cfa]) (N := N) (by omega)
 simp only [nc0] at l1
 rw [show ((List.range p.zA.length).map fun _ => (0 : Int)) = (List.range p.zA.length).map (B1 p.zA 0) from zhk fun i _ => by unfold B1; rw [ifn]]
 rw [show pAt p.zA 0 = 0 from rfl] at l1
 rw [l1]
 simp only [obs]
 have l2 := za1 (f := zq.r2 N) (fun k => ((List.range p.zA.length).map (A2 p.zA k), sAt p.zA k, (k : Int), p)) p.zA.length
  (fun k hk => by
   have h1 := hp p.zA.length; have h2 := hs k (by omega); simp only [zq.r2, zq.b2, zai, zrf hk, obs, dct (show (k : Int) < (p.zA.length : Int) by omega), ctr, z56, ifp (show (0 : Int) ≤ (k : Int) by omega), ifp (show (k : Int) < (p.zA.length : Int) by omega), itn, zq6 _ hk, zaas, zcn]; rw [w6e (n := (k : Int) + 1)]; have e : sAt p.zA (k + 1) = sAt p.zA k + (if (og p.zA k).Kind = 0 then szE (og p.zA k).zK else 0) := by
    unfold sAt; rw [show zmx p.zA (k + 1) = zmx p.zA k + (if (og p.zA k).Kind = 0 then szE (og p.zA k).zK else 0) from rfl]; omega
   rw [e]
   by_cases h3 : (og p.zA k).Kind = 0
   · have hz := zf3 (zw6 h hk h3); rw [dct h3, ifp h3, ifp h3, ctr, zt3 (zw6 h hk h3)]; simp only [obs]; rw [w6e (n := sAt p.zA k + szE (og p.zA k).zK) (by unfold sAt; omega) (by unfold sAt; omega)]; rfl
   · rw [dcf h3, ifn h3, ifn h3, Int.add_zero]; rfl)
  (by simp only [zq.r2, zq.b2, dcf (show ¬ (p.zA.length : Int) < (p.zA.length : Int) by omega), cfa]) (N := N) (by omega)
 simp only [nc0] at l2
 rw [show ((List.range p.zA.length).map (B1 p.zA p.zA.length)) = (List.range p.zA.length).map (A2 p.zA 0) from zhk fun i hi => by
  unfold B1 A2; rw [ifn (show ¬ (i < 0 ∧ (og p.zA i).Kind = 0) by omega), ifp hi], show pAt p.zA p.zA.length = sAt p.zA 0 by unfold sAt; rw [show zmx p.zA 0 = 0 from rfl, Int.add_zero], l2]
 simp only [obs]
 have l3 := za1 (f := zq.r4 N) (fun k => ((List.range p.zA.length).map (A3 p.zA k), sAt p.zA p.zA.length, (k : Int), p)) p.zA.length
  (fun k hk => by
   have h1 := hp p.zA.length; simp only [zq.r4, zq.b4, zai, zrf hk, obs, dct (show (k : Int) < (p.zA.length : Int) by omega), ctr, z56, ifp (show (0 : Int) ≤ (k : Int) by omega), ifp (show (k : Int) < (p.zA.length : Int) by omega), itn, zq6 _ hk, zaar, zcn]; rw [w6e (n := (k : Int) + 1)]
   by_cases h3 : (og p.zA k).Kind = 1
   · obtain ⟨b, e1, e2, e3, e4, e5⟩ := z0x h hk h3; have hz := zf3 (zw6 h (show b < p.zA.length by omega) e3); have hz2 := zf3 ((zmq h hk).ty (by rw [h3]; rfl)).1; have h2 := hs b (by omega); rw [dct h3, ifp h3, ctr, z77 N p (by omega) (by omega), e1]; simp only [obs]; rw [ifp, ifp, itn, zq6 _ (by omega), z73 h k (by omega) e3]; simp only [obs]; rw [w6e (n := sAt p.zA b + (og p.zA k).Offset) (by unfold sAt; omega) (by unfold sAt; omega)]; rfl
   · rw [dcf h3, ifn h3]; rfl)
  (by simp only [zq.r4, zq.b4, dcf (show ¬ (p.zA.length : Int) < (p.zA.length : Int) by omega), cfa]) (N := N) (by omega)
 simp only [nc0] at l3
 rw [show ((List.range p.zA.length).map (A2 p.zA p.zA.length)) = (List.range p.zA.length).map (A3 p.zA 0) from zhk fun i hi => by
  unfold A3; rw [ifn (show ¬ (i < 0 ∧ (og p.zA i).Kind = 1) by omega)], l3]
 simp only [obs, zac4]
 have h1 := hp p.zA.length
 have h2 := hs p.zA.length (by omega)
 rw [z8r (by unfold sAt; omega) (by unfold sAt; omega)]
 rfl
def gO (p : zB) (i : Nat) : Option (zM × Int) := if opE p i = 0 then none else some (⟨1, i⟩, opE p i)
def gX (p : zB) (i : Nat) : Option (zM × Int) := (p.zF[i]?).bind fun x => if zwt p x = 0 then none else some (⟨2, i⟩, zwt p x)
def gMo (p : zB) (i : Nat) : Option (zM × Int) := (p.zL[i]?).bind fun m => if zzr p m = true then none else some (⟨3, i⟩, 3)
def zqb (p : zB) : zM × Int :=
 if p.zA.length > 24 ∨ p.zF.length > 40 ∨ p.zL.length > 6 then (⟨0, 0⟩, 2)
 else if p.zF.length = 0 then (⟨0, 0⟩, 1)
 else match (List.range p.zA.length).findSome? (gO p) with
  | some r => r
  | none => if zme p.zA > 24 then (⟨0, 0⟩, 30) else match (List.range p.zF.length).findSome? (gX p) with
   | some r => r
   | none => match (List.range p.zL.length).findSome? (gMo p) with
    | some r => r
    | none => (⟨0, 0⟩, 0)
theorem z6j {p : zB} {i : Nat} (h : gO p i = none) : opE p i = 0 := by
 unfold gO at h
 split at h
 · assumption
 · cases h
theorem z9c (p : zB) : ((decide ((p.zA.length : Int) > 24) || decide ((p.zF.length : Int) > 40)) || decide ((p.zL.length : Int) > 6)) = decide (p.zA.length > 24 ∨ p.zF.length > 40 ∨ p.zL.length > 6) := by
 rw [← Bool.decide_or, ← Bool.decide_or]
 congr 1
 apply propext
 omega
theorem z8y (N : Nat) (hN : 1100 < N) (p : zB) : ze N p = some (zqb p) := by
 unfold ze zqb
 simp only [orB, obs, z9c, z2k]
 rw [zy5 N _ (by simp; omega) (by simp)]
 simp only [obs]
 rw [z1z _ _ _ _ (by decide) (by decide)]
 by_cases hb : p.zA.length > 24 ∨ p.zF.length > 40 ∨ p.zL.length > 6
 · rw [ifp hb, dct hb]; rfl
 rw [ifn hb, dcf hb]
 by_cases h0 : p.zF.length = 0
 · rw [ifp h0, zcn, dct (by omega)]; rfl
 rw [ifn h0, zcn, dcf (by omega)]
 simp only [cfa, bsf]
 have mk : ∀ i, (∀ j, j < i → gO p j = none) → Upto p i := fun i h => { ops := by omega, ins := by omega, ok := fun j hj => z6j (h j hj) }
 have l1 := zv3 (f := ze.r0 N) (fun i => ((p.zA.length : Int), (i : Int), p, (⟨0, 0⟩ : zM))) (gO p) p.zA.length
  (fun i hi hp => by
   simp only [ze.r0, ze.b0, dct (show (i : Int) < (p.zA.length : Int) by omega), ctr]; rw [zahq N hN (mk i hp) hi, w6e]; unfold gO; simp only [obs, zd1]
   by_cases h : opE p i = 0
   · rw [ifp h, dcf (fun hh => hh h)]; rfl
   · rw [ifn h, dct h]; rfl)
  (fun _ => by simp only [ze.r0, ze.b0, dcf (show ¬ (p.zA.length : Int) < (p.zA.length : Int) by omega), cfa]) (N := N) (by omega)
 simp only [nc0] at l1
 rw [l1]
 cases hf : (List.range p.zA.length).findSome? (gO p) with
 | some r => rfl
 | none =>
  have hu : zrk p := mk _ (zm6.1 hf); simp only [obs, zb5]; rw [z63 N hN hu]; simp only [obs]
  by_cases hq : zme p.zA > 24
  · rw [ifp hq, dct hq]; rfl
  rw [ifn hq, dcf hq]; simp only [cfa]; have l2 := zbh (f := ze.r2 N) (fun i => (p.zF, (p.zF.length : Int), (i : Int), p, (⟨0, 0⟩ : zM))) (gX p) p.zF.length
   (fun i hi => by
    have hx := lge hi; simp only [ze.r2, ze.b2, dct (show (i : Int) < (p.zF.length : Int) by omega), ctr, zai, hx, obs, gX]; rw [zaga N hN hu, w6e]; simp only [obs, zd1]
    by_cases h : zwt p p.zF[i] = 0
    · rw [ifp h, dcf (fun hh => hh h)]; rfl
    · rw [ifn h, dct h]; rfl)
   (by simp only [ze.r2, ze.b2, dcf (show ¬ (p.zF.length : Int) < (p.zF.length : Int) by omega), cfa]) (N := N) (by omega)
  simp only [nc0] at l2; rw [l2]; cases (List.range p.zF.length).findSome? (gX p) with
  | some r => rfl
  | none =>
   simp only [obs, zb5]; have l3 := zbh (f := ze.r4 N) (fun i => (p.zL, (p.zL.length : Int), (i : Int), p, (⟨0, 0⟩ : zM))) (gMo p) p.zL.length
    (fun i hi => by
     have hx := lge hi; simp only [ze.r4, ze.b4, dct (show (i : Int) < (p.zL.length : Int) by omega), ctr, zai, hx, obs, gMo]; rw [zaf9 hu, w6e]; simp only [obs]; cases zzr p p.zL[i] <;> rfl)
    (by simp only [ze.r4, ze.b4, dcf (show ¬ (p.zL.length : Int) < (p.zL.length : Int) by omega), cfa]) (N := N) (by omega)
   simp only [nc0] at l3; rw [l3]; cases (List.range p.zL.length).findSome? (gMo p) <;> rfl
theorem zaa5 (N : Nat) (hN : 1100 < N) (p : zB) : zae N p = some (zqb p) := by
 unfold zae zqb
 simp only [orB, obs, z9c]
 by_cases hb : p.zA.length > 24 ∨ p.zF.length > 40 ∨ p.zL.length > 6
 · rw [ifp hb, dct hb]; rfl
 rw [ifn hb, dcf hb]
 by_cases h0 : p.zF.length = 0
 · rw [ifp h0, zcn, dct (by omega)]; rfl
 rw [ifn h0, zcn, dcf (by omega)]
 simp only [cfa]
 have mk : ∀ i, (∀ j, j < i → gO p j = none) → Upto p i := fun i h => { ops := by omega, ins := by omega, ok := fun j hj => z6j (h j hj) }
 have l1 := zv3 (f := zae.r0 N) (fun i => ((i : Int), p, (⟨0, 0⟩ : zM))) (gO p) p.zA.length
  (fun i hi hp => by
   simp only [zae.r0, zae.b0, dct (show (i : Int) < (p.zA.length : Int) by omega), ctr]; rw [zag7 N hN (mk i hp) hi, w6e]; unfold gO; simp only [obs, zd1]
   by_cases h : opE p i = 0
   · rw [ifp h, dcf (fun hh => hh h)]; rfl
   · rw [ifn h, dct h]; rfl)
  (fun _ => by simp only [zae.r0, zae.b0, dcf (show ¬ (p.zA.length : Int) < (p.zA.length : Int) by omega), cfa]) (N := N) (by omega)
 simp only [nc0] at l1
 rw [l1]
 cases hf : (List.range p.zA.length).findSome? (gO p) with
 | some r => rfl
 | none =>
  have hu : zrk p := mk _ (zm6.1 hf); simp only [obs, zb5]; rw [ze8 N hN hu]; simp only [obs]
  by_cases hq : zme p.zA > 24
  · rw [ifp hq, dct hq]; rfl
  rw [ifn hq, dcf hq]; simp only [cfa]; have l2 := zbh (f := zae.r2 N) (fun i => ((i : Int), p, (⟨0, 0⟩ : zM))) (gX p) p.zF.length
   (fun i hi => by
    have hx := lge hi; simp only [zae.r2, zae.b2, dct (show (i : Int) < (p.zF.length : Int) by omega), ctr, zai, hx, obs, gX]; rw [zadm N hN hu, w6e]; simp only [obs, zd1]
    by_cases h : zwt p p.zF[i] = 0
    · rw [ifp h, dcf (fun hh => hh h)]; rfl
    · rw [ifn h, dct h]; rfl)
   (by simp only [zae.r2, zae.b2, dcf (show ¬ (p.zF.length : Int) < (p.zF.length : Int) by omega), cfa]) (N := N) (by omega)
  simp only [nc0] at l2; rw [l2]; cases (List.range p.zF.length).findSome? (gX p) with
  | some r => rfl
  | none =>
   simp only [obs, zb5]; have l3 := zbh (f := zae.r4 N) (fun i => ((i : Int), p, (⟨0, 0⟩ : zM))) (gMo p) p.zL.length
    (fun i hi => by
     have hx := lge hi; simp only [zae.r4, zae.b4, dct (show (i : Int) < (p.zL.length : Int) by omega), ctr, zai, hx, obs, gMo, zie, orB, insL hu]; rw [zagh, w6e]; cases zzr p p.zL[i] <;> rfl)
    (by simp only [zae.r4, zae.b4, dcf (show ¬ (p.zL.length : Int) < (p.zL.length : Int) by omega), cfa]) (N := N) (by omega)
   simp only [nc0] at l3; rw [l3]; cases (List.range p.zL.length).findSome? (gMo p) <;> rfl
theorem zagb (N : Nat) (hN : 1100 < N) (p : zB) : zfp N p = some (zqb p).2 := by
 unfold zfp
 rw [z8y N hN]; rfl
theorem zado (N : Nat) (hN : 1100 < N) (p : zB) : zr8 N p = some (zqb p).2 := by
 unfold zr8
 rw [zaa5 N hN]; rfl
structure ProgV (p : zB) : Prop where
 ok : zrk p
 n24 : p.zA.length ≤ 24
 i40 : p.zF.length ≤ 40
 i0 : 0 < p.zF.length
 m6 : p.zL.length ≤ 6
 quads : zme p.zA ≤ 24
 ins : ∀ x ∈ p.zF, zwt p x = 0
 mon : ∀ m ∈ p.zL, zzr p m = true
theorem z8v {p : zB} (h : (zqb p).2 = 0) : ProgV p := by
 unfold zqb at h
 split at h
 · cases h
 split at h
 · cases h
 rename_i hb h0
 split at h
 · rename_i r hr
   exfalso
   obtain ⟨i, _, hi, _⟩ := zm5 hr; unfold gO at hi; split at hi
   · cases hi
   · rename_i hne; cases hi; exact hne h
 · rename_i hf; split at h
   · cases h
   rename_i hq; split at h
   · rename_i r hr
     exfalso
     obtain ⟨i, _, hi, _⟩ := zm5 hr; unfold gX at hi; rw [Option.bind_eq_some_iff] at hi; obtain ⟨x, _, hi⟩ := hi; split at hi
     · cases hi
     · rename_i hne; cases hi; exact hne h
   · rename_i hf2; split at h
     · rename_i r hr
       exfalso
       obtain ⟨i, _, hi, _⟩ := zm5 hr; unfold gMo at hi; rw [Option.bind_eq_some_iff] at hi; obtain ⟨x, _, hi⟩ := hi; split at hi
       · cases hi
       · cases hi; cases h
     · rename_i hf3; refine { ok := { ops := by omega, ins := by omega, ok := fun j hj => z6j (zm6.1 hf j hj) }, n24 := by omega, i40 := by omega, i0 := by omega, m6 := by omega, quads := by omega, ins := fun x hx => ?_, mon := fun m hm => ?_ }
       · obtain ⟨i, hi⟩ := List.getElem?_of_mem hx; have := zm6.1 hf2 i (gei hi).1; unfold gX at this; rw [hi, obs] at this; split at this
         · assumption
         · cases this
       · obtain ⟨i, hi⟩ := List.getElem?_of_mem hm; have := zm6.1 hf3 i (gei hi).1; unfold gMo at this; rw [hi, obs] at this; split at this
         · assumption
         · cases this
theorem zqm {b : Bool} {p q : Nat} {t : DataType} {half : Bool} (h : (zj9 b p q t half).2 = 0) : -((10 ^ t.Length.toNat : Nat) : Int) < (zj9 b p q t half).1.N ∧ (zj9 b p q t half).1.N < ((10 ^ t.Length.toNat : Nat) : Int) := by
 unfold zj9 at h ⊢
 have := zcz t.Length.toNat
 generalize (p * 10 ^ t.Scale.toNat / q + cond (half && decide (q ≤ p * 10 ^ t.Scale.toNat % q + p * 10 ^ t.Scale.toNat % q)) 1 0) = Q at *
 generalize 10 ^ t.Length.toNat = T at *
 split at h
 · cases h
 · rename_i hn; rw [ifn hn]; cases b
   · show -(T : Int) < (Q : Int) ∧ (Q : Int) < T; omega
   · show -(T : Int) < -(Q : Int) ∧ -(Q : Int) < T; omega
theorem zacc (b : Bool) (p q : Nat) (t : DataType) (half : Bool) : (zj9 b p q t half).1 = ⟨(zj9 b p q t half).1.N, ⟨#[]⟩⟩ := by
 unfold zj9
 split <;> rfl
theorem z8t (b : Bool) (p q : Nat) (t : DataType) (half : Bool) : (zj9 b p q t half).2 = 0 ∨ (zj9 b p q t half).2 = 19 := by
 unfold zj9
 split
 · exact .inr rfl
 · exact .inl rfl
theorem zagu (x : Number) (t : DataType) (half : Bool) : (zo6 x t half).1 = ⟨(zo6 x t half).1.N, ⟨#[]⟩⟩ := zacc _ _ _ _ _
theorem z9s (x : Number) (t : DataType) (half : Bool) : (zo6 x t half).2 = 0 ∨ (zo6 x t half).2 = 19 := z8t _ _ _ _ _
theorem zabj {x : Number} {t : DataType} {half : Bool} (h : (zo6 x t half).2 = 0) : -((10 ^ t.Length.toNat : Nat) : Int) < (zo6 x t half).1.N ∧ (zo6 x t half).1.N < ((10 ^ t.Length.toNat : Nat) : Int) := zqm h
theorem z94 {op : Int} {a b : Number} {t : DataType} {half : Bool} (h : (zmr op a b t half).2 = 0) : -((10 ^ t.Length.toNat : Nat) : Int) < (zmr op a b t half).1.N ∧ (zmr op a b t half).1.N < ((10 ^ t.Length.toNat : Nat) : Int) := by
 unfold zmr at h ⊢
 by_cases h1 : (op = 3 ∨ op = 4) ∧ b.N = 0
 · rw [ifp h1] at h; cases h
 · rw [ifn h1] at h ⊢
   by_cases h2 : op = 0
   · rw [ifp h2] at h ⊢; exact zqm h
   · rw [ifn h2] at h ⊢
     by_cases h3 : op = 1
     · rw [ifp h3] at h ⊢; exact zqm h
     · rw [ifn h3] at h ⊢
       by_cases h4 : op = 2
       · rw [ifp h4] at h ⊢; exact zqm h
       · rw [ifn h4] at h ⊢
         by_cases h5 : op = 3
         · rw [ifp h5] at h ⊢; exact zqm h
         · rw [ifn h5] at h ⊢; exact zqm h
theorem zafg (op : Int) (a b : Number) (t : DataType) (half : Bool) : (zmr op a b t half).1 = ⟨(zmr op a b t half).1.N, ⟨#[]⟩⟩ := by
 unfold zmr z1h
 repeat' split
 all_goals first | rfl | exact zacc _ _ _ _ _
theorem zacy (op : Int) (a b : Number) (t : DataType) (half : Bool) : (zmr op a b t half).2 = 0 ∨ (zmr op a b t half).2 = 19 ∨ (zmr op a b t half).2 = 20 := by
 have := fun b' p q => z8t b' p q t half
 unfold zmr z1h
 repeat' split
 all_goals first | exact .inr (.inr rfl) | exact (this _ _ _).elim (fun h => .inl h) (fun h => .inr (.inl h))
theorem zacv {t : DataType} (ht : zkz t) {b : ByteArray} (h4 : (b.size : Int) = szE t) : ∀ n, zqa t b = some n → -((10 ^ t.Length.toNat : Nat) : Int) < n ∧ n < ((10 ^ t.Length.toNat : Nat) : Int) := by
 intro n hn
 obtain ⟨⟨l1, l2⟩, l3, l4⟩ := zgq ht
 unfold zqa at hn
 split at hn
 · split at hn
   · rename_i hh; cases hn; exact hh
   · cases hn
 · rename_i hk3; have key : ∀ l : List Int, (∀ d ∈ l, 0 ≤ d ∧ d ≤ 15) → (List.range (l.length - 1)).any (zla l t.Length) = false → (l.length : Int) - 1 - t.Length ≤ 1 → 0 ≤ zgs (l.take (l.length - 1)) ∧ zgs (l.take (l.length - 1)) < ((10 ^ t.Length.toNat : Nat) : Int) := by
    intro l hr hg hle; rw [List.any_eq_false] at hg; have g9 : ∀ i, i < l.length - 1 → 0 ≤ l.getD i 0 ∧ l.getD i 0 ≤ 9 := fun i hi => by
     have h1 := hg i (List.mem_range.2 hi); unfold zla at h1; have hx : l[i]? = some (l.getD i 0) := by rw [gdd, lge (by omega)]; rfl
     have h2 := hr _ (lmg hx); rw [Bool.or_eq_true, decide_eq_true_eq] at h1; omega
    have step : ∀ i, i ≤ l.length - 1 → 0 ≤ zgs (l.take i) ∧ (zgs (l.take i) < ((10 ^ (i - ((l.length : Int) - 1 - t.Length).toNat) : Nat) : Int)) := by
     intro i
     induction i with
     | zero => intro _; rw [List.take_zero]; exact ⟨by decide, by simp [zgs]⟩
     | succ i ih =>
      intro hi; have hx : l[i]? = some (l.getD i 0) := by rw [gdd, lge (by omega)]; rfl
      obtain ⟨i1, i2⟩ := ih (by omega); have hd := g9 i (by omega); rw [ze4 l i hx, ztj]; refine ⟨by omega, ?_⟩
      by_cases hlead : (i : Int) < (l.length : Int) - 1 - t.Length
      · have h1 := hg i (List.mem_range.2 (by omega)); unfold zla at h1; rw [Bool.or_eq_true, Bool.and_eq_true, decide_eq_true_eq, decide_eq_true_eq, decide_eq_true_eq] at h1; have h0 : l.getD i 0 = 0 := by
         refine cbc fun h2 => h1 (.inr ⟨by omega, hlead⟩)
        rw [show i - ((l.length : Int) - 1 - t.Length).toNat = 0 by omega, Nat.pow_zero] at i2; rw [h0, show i + 1 - ((l.length : Int) - 1 - t.Length).toNat = 0 by omega, Nat.pow_zero]; omega
      · rw [show i + 1 - ((l.length : Int) - 1 - t.Length).toNat = (i - ((l.length : Int) - 1 - t.Length).toNat) + 1 by omega, Nat.pow_succ]; omega
    obtain ⟨s1, s2⟩ := step (l.length - 1) (Nat.le_refl _); refine ⟨s1, ?_⟩; have hpw : 10 ^ (l.length - 1 - ((l.length : Int) - 1 - t.Length).toNat) ≤ 10 ^ t.Length.toNat := zcv (by omega); omega
   have hbs := h4; rw [zwb ht] at hbs; obtain ⟨_, k1, k2⟩ := ht; have hlen : ((if t.Kind = 1 then zkt (bl b) else zez (bl b)).length : Int) - 1 - t.Length ≤ 1 := by
    by_cases hk1 : t.Kind = 1
    · rw [ifp hk1] at hbs; rw [ifp hk1, zt6, zax]; omega
    · rw [ifn hk1, ifn hk3] at hbs; rw [ifn hk1]; unfold zez zhf; rw [lna, lnm, zax, lns]; omega
   have hrange : ∀ d ∈ (if t.Kind = 1 then zkt (bl b) else zez (bl b)), 0 ≤ d ∧ d ≤ 15 := by
    split
    · exact zve.1
    · exact zve.2
   generalize (if t.Kind = 1 then zkt (bl b) else zez (bl b)) = l at *; unfold z14 at hn
   by_cases hbad : (List.range (l.length - 1)).any (zla l t.Length) = true ∨ zoa l < 10
   · rw [ifp hbad] at hn; cases hn
   · rw [ifn hbad] at hn; rw [not_or] at hbad; obtain ⟨q1, q2⟩ := key l hrange (by simpa using hbad.1) hlen; have hn2 := Option.some.inj hn; split at hn2 <;> omega
def mI (p : zB) (s : zC) (e : Int) : zD := ⟨p, s, zt8 p.zA, e⟩
def mS (s : zC) (t : Storage) : zC := ⟨t, s.At, s.Stack, s.Lines, s.Status, s.Exception, s.Steps⟩
def mK (s : zC) (l : List Int) : zC := ⟨s.Storage, s.At, l, s.Lines, s.Status, s.Exception, s.Steps⟩
def mL (s : zC) (l : List ByteArray) : zC := ⟨s.Storage, s.At, s.Stack, l, s.Status, s.Exception, s.Steps⟩
def mT (s : zC) (k : Int) : zC := ⟨s.Storage, s.At, s.Stack, s.Lines, k, s.Exception, s.Steps⟩
def mA (s : zC) (k : Int) : zC := ⟨s.Storage, k, s.Stack, s.Lines, s.Status, s.Exception, s.Steps⟩
def mE (s : zC) (k : Int) : zC := ⟨s.Storage, s.At, s.Stack, s.Lines, s.Status, k, s.Steps⟩
def mP (s : zC) (k : Int) : zC := ⟨s.Storage, s.At, s.Stack, s.Lines, s.Status, s.Exception, k⟩
theorem z7g (p : zB) (s : zC) (n : Int) : zw (mI p s 0) n = some (mI p s n) := rfl
theorem zvf (p : zB) (s : zC) {e : Int} (he : e ≠ 0) (n : Int) : zw (mI p s e) n = some (mI p s e) := by
 unfold zw
 rw [show (mI p s e).raised = e from rfl, zcn, dcf he]
 rfl
structure StoP (p : zB) (t : Storage) : Prop where
 sto : zqf t
 size : (t.Bytes.size : Int) = 16 * zme p.zA
section
variable {p : zB}
theorem z3p (h : ProgV p) : 0 ≤ sAt p.zA p.zA.length ∧ sAt p.zA p.zA.length ≤ 16 * zme p.zA := by
 have h1 := zsm p.zA p.zA.length
 have h2 := zqi h.ok p.zA.length (Nat.le_refl _)
 unfold zme
 have : sAt p.zA p.zA.length = pAt p.zA p.zA.length + zmx p.zA p.zA.length := rfl
 omega
theorem zpm {i : Nat} (hi : i < p.zA.length) : idx (zt8 p.zA) (i : Int) = some (ze0 p.zA i) := by
 rw [zai]
 exact zq6 _ hi
theorem zx5 (h : ProgV p) {i : Nat} (hi : i < p.zA.length) (h3 : (og p.zA i).Kind = 3) {t : Storage} (hs : StoP p t) : zus t (ze0 p.zA i) = true ∧ 0 ≤ ze0 p.zA i ∧ ze0 p.zA i % 16 = 0 ∧ ze0 p.zA i + 16 ≤ (t.Bytes.size : Int) := by
 have e : ze0 p.zA i = pAt p.zA i := by unfold ze0; rw [ifp h3]
 have b1 := zsm p.zA i
 have b2 := z8z p.zA (show i + 1 ≤ p.zA.length by omega)
 have e2 : pAt p.zA (i + 1) = pAt p.zA i + 16 := by
  show pAt p.zA i + (if (og p.zA i).Kind = 3 then 16 else 0) = _; rw [ifp h3]
 have b3 := zqi h.ok p.zA.length (Nat.le_refl _)
 have b4 := z3p h
 have e4 : sAt p.zA p.zA.length = pAt p.zA p.zA.length + zmx p.zA p.zA.length := rfl
 have hz := hs.size
 rw [e]
 refine ⟨?_, b1.1, b1.2.2, by omega⟩
 unfold zus
 rw [dct b1.1, dct b1.2.2, dct (by omega)]
 rfl
theorem zady (h : ProgV p) {i : Nat} (hi : i < p.zA.length) (hk : (og p.zA i).Kind = 0 ∨ (og p.zA i).Kind = 1) {t : Storage} (hs : StoP p t) : 0 ≤ ze0 p.zA i ∧ ze0 p.zA i + szE (og p.zA i).zK ≤ (t.Bytes.size : Int) := by
 have b1 := zsm p.zA p.zA.length
 have b4 := z3p h
 have hz := hs.size
 have key : ∀ j, j < p.zA.length → (og p.zA j).Kind = 0 → 0 ≤ sAt p.zA j ∧ sAt p.zA j + szE (og p.zA j).zK ≤ (t.Bytes.size : Int) := by
  intro j hj h0; have b2 := zqi h.ok j (by omega); have b3 := z6t h.ok (Nat.le_refl p.zA.length) (show j + 1 ≤ p.zA.length by omega); have e2 : zmx p.zA (j + 1) = zmx p.zA j + szE (og p.zA j).zK := by
   show zmx p.zA j + (if (og p.zA j).Kind = 0 then szE (og p.zA j).zK else 0) = _; rw [ifp h0]
  have e4 : sAt p.zA p.zA.length = pAt p.zA p.zA.length + zmx p.zA p.zA.length := rfl; have e5 : sAt p.zA j = pAt p.zA p.zA.length + zmx p.zA j := rfl; omega
 unfold ze0
 rcases hk with h0 | h1
 · rw [ifn, ifp h0]; exact key i hi h0
 · obtain ⟨b, e1, e2, e3, e4, e5⟩ := z0x h.ok hi h1; have := key b (by omega) e3; rw [ifn, ifn, ifp h1, e1, itn]; have hz := zf3 ((zmq h.ok hi).ty (by rw [h1]; rfl)).1; omega
theorem z9f (N : Nat) (l : List zG) (h : l.length < N) (hl : l.length < 1000000000) (o : zG) : zi N l o = some (nmI l o.Base) := by
 unfold zi nmI
 have l1 := zbh (f := zi.r0 N) (fun i => (l, (l.length : Int), (i : Int), o)) (gNm l o.Base) l.length
  (fun i hi => by
   have hx := lge hi; simp only [zi.r0, zi.b0, zfh, zai, hx, obs, dct (show (i : Int) < (l.length : Int) by omega), ctr, gNm]; rw [w6e]; cases (l[i].Name.toList == o.Base.toList) <;> rfl)
  (by simp only [zi.r0, zi.b0, dcf (show ¬ (l.length : Int) < (l.length : Int) by omega), cfa]) h
 simp only [nc0] at l1
 rw [l1]
 cases (List.range l.length).findSome? (gNm l o.Base) <;> rfl
theorem z6d (N : Nat) (hN : 10 < N) {o : zG} (h : zf2 o.zK = 0) : zd4 N o = some (szE o.zK) := by
 unfold zd4 zjg
 rw [zsn N hN, h]
 simp [z2m h]
theorem zv6 (N : Nat) (hN : 2000 < N) (h : ProgV p) {s : zC} (hs : StoP p s.Storage) {i : Nat} (hi : i < p.zA.length) (h3 : (og p.zA i).Kind = 3) (e : Int) :
 zb3 N (mI p s e) (i : Int) = some (match ldV s.Storage (ze0 p.zA i) with | some o => (zka o, ze0 p.zA i, mI p s e) | none => (z4i, ze0 p.zA i, mI p s (if e = 0 then 4 else e))) := by
 unfold zb3
 rw [show (mI p s e).layout = zt8 p.zA from rfl, zpm hi, show (mI p s e).zC.Storage = s.Storage from rfl]
 simp only [obs]
 rw [zaet N hN hs.sto (zx5 h hi h3 hs).1]
 cases ldV s.Storage (ze0 p.zA i) with
 | some o => rfl
 | none =>
  simp only [obs]
  by_cases he : e = 0
  · subst he; rfl
  · rw [zvf p s he, ifn he]; rfl
def adI (p : zB) (t : Storage) (i : Nat) : Except Int Int :=
 if (og p.zA i).Kind = 2 then (match ldV t (ze0 p.zA (nmI p.zA (og p.zA i).Base).toNat) with
  | none => .error 4
  | some o => if o + (og p.zA i).Offset > (t.Bytes.size : Int) - szE (og p.zA i).zK then .error 5 else .ok (o + (og p.zA i).Offset))
 else .ok (ze0 p.zA i)
theorem zjb {i : Nat} (hi : i < p.zA.length) : idx p.zA (i : Int) = some (og p.zA i) := by
 rw [zai, zrf hi]
theorem zacn {k : Int} (h : isS k = true) : k = 0 ∨ k = 1 ∨ k = 2 := by
 unfold isS at h
 simp only [Bool.or_eq_true, decide_eq_true_eq] at h
 omega
theorem zuw {k : Int} (h : isS k = true) : isD k = true := by unfold isD; rw [h]; rfl
theorem z6p (N : Nat) (hN : 2000 < N) (h : ProgV p) {s : zC} (hs : StoP p s.Storage) {i : Nat} (hi : i < p.zA.length) (hk : isS (og p.zA i).Kind = true) :
 (∃ e j k, (e = 4 ∨ e = 5) ∧ adI p s.Storage i = .error e ∧ za5 N (mI p s 0) (i : Int) = some (j, mI p s e) ∧ zcc N p s (i : Int) = some (k, e)) ∨
 ∃ a, adI p s.Storage i = .ok a ∧ za5 N (mI p s 0) (i : Int) = some (a, mI p s 0) ∧ zcc N p s (i : Int) = some (a, 0) ∧ 0 ≤ a ∧ a + szE (og p.zA i).zK ≤ (s.Storage.Bytes.size : Int) := by
 have hl := hs.sto.le
 have n24 := h.n24
 have hty := ((zmq h.ok hi).ty (zuw hk)).1
 have hsz := zf3 hty
 unfold za5 zcc adI
 rw [show (mI p s 0).zB = p from rfl, zjb hi, ze8 N (by omega) h.ok]
 simp only [obs, zd1]
 by_cases h2 : (og p.zA i).Kind = 2
 · rw [ifp h2, dcf (fun hh => hh h2)]; obtain ⟨b, e1, e2, e3, e4, e5⟩ := z5k h.ok hi h2; have hb : b < p.zA.length := by omega
   simp only [cfa]; rw [z9f N _ (by omega) (by omega), z77 N p (by omega) (by omega), e1]; simp only [obs, itn]; rw [zv6 N hN h hs hb e3, zpm hb]; simp only [obs]; rw [z50 N hN hs.sto (zx5 h hb e3 hs).1]; cases hld : ldV s.Storage (ze0 p.zA b) with
   | none => exact .inl ⟨4, _, _, .inl rfl, rfl, rfl, rfl⟩
   | some o =>
    have ho := z1x hs.sto hld; simp only [obs, show (zka o).Address.Offset = o from rfl, show (mI p s 0).raised = 0 from rfl, show (mI p s 0).zC = s from rfl, bsf, bst, ctr, cfa]; rw [z6d N (by omega) hty, zt3 hty]; simp only [obs]; rw [w6e (n := o + (og p.zA i).Offset), w6e (n := (s.Storage.Bytes.size : Int) - szE (og p.zA i).zK)]; unfold zph; rw [zie, zie, w6e (n := (s.Storage.Bytes.size : Int) - (o + (og p.zA i).Offset))]; simp only [obs]
    by_cases hgt : o + (og p.zA i).Offset > (s.Storage.Bytes.size : Int) - szE (og p.zA i).zK
    · left; rw [dct hgt, ifp hgt]; refine ⟨5, _, 0, .inr rfl, rfl, rfl, ?_⟩
      by_cases h1 : inB (o + (og p.zA i).Offset) 0 (s.Storage.Bytes.size : Int) = true
      · rw [h1, ctr]; rw [show inB (szE (og p.zA i).zK) 0 ((s.Storage.Bytes.size : Int) - (o + (og p.zA i).Offset)) = false by
         cases hh : inB (szE (og p.zA i).zK) 0 ((s.Storage.Bytes.size : Int) - (o + (og p.zA i).Offset)) with
         | false => rfl
         | true => have := zbj.1 hh; omega]
        rfl
      · rw [show inB (o + (og p.zA i).Offset) 0 (s.Storage.Bytes.size : Int) = false by simpa using h1]; rfl
    · right; rw [dcf hgt, ifn hgt]; refine ⟨_, rfl, rfl, ?_, by omega, by omega⟩; rw [show inB (o + (og p.zA i).Offset) 0 (s.Storage.Bytes.size : Int) = true from zbj.2 ⟨by omega, by omega⟩, ctr, show inB (szE (og p.zA i).zK) 0 ((s.Storage.Bytes.size : Int) - (o + (og p.zA i).Offset)) = true from zbj.2 ⟨by omega, by omega⟩]; rfl
 · have hk2 := zacn hk; have hd := zady h hi (by omega) hs; rw [ifn h2, dct h2, show (mI p s 0).layout = zt8 p.zA from rfl, zpm hi]; exact .inr ⟨_, rfl, rfl, rfl, hd.1, hd.2⟩
theorem z71 (N : Nat) (hN : 2000 < N) (h : ProgV p) {s : zC} (hs : StoP p s.Storage) {i : Nat} (hi : i < p.zA.length) (hk : isS (og p.zA i).Kind = true) {e : Int} (he : e ≠ 0) :
 ∃ j, za5 N (mI p s e) (i : Int) = some (j, mI p s e) := by
 have n24 := h.n24
 unfold za5
 rw [show (mI p s e).zB = p from rfl, zjb hi]
 simp only [obs, zd1]
 by_cases h2 : (og p.zA i).Kind = 2
 · rw [dcf (fun hh => hh h2)]; obtain ⟨b, e1, e2, e3, e4, e5⟩ := z5k h.ok hi h2; have hb : b < p.zA.length := by omega
   simp only [cfa]; rw [z9f N _ (by omega) (by omega), e1]; simp only [obs]; rw [zv6 N hN h hs hb e3]; cases hld : ldV s.Storage (ze0 p.zA b) with
   | none =>
    simp only [obs, ifn he]; rw [show (mI p s e).raised = e from rfl, zcn, dcf he]; exact ⟨_, rfl⟩
   | some o =>
    simp only [obs]; rw [show (mI p s e).raised = e from rfl, zcn, dcf he]; exact ⟨_, rfl⟩
 · rw [dct h2, show (mI p s e).layout = zt8 p.zA from rfl, zpm hi]; exact ⟨_, rfl⟩
end
def z39 (o : zG) : ByteArray := if o.zK.Kind = 0 then o.Value.S else zz6 o.zK o.Value.N
theorem zabh (N : Nat) (n len : Nat) (hn : n ≤ 1000000000000000000) (hl : len ≤ 300) (hN : len < N) : ∃ l, zbg N (n : Int) (len : Int) = some l := by
 unfold zbg
 rw [ifp, ifp, itn, za3 (by omega), ctr, w6e]
 obtain ⟨s', h1, _⟩ := zzh (f := zbg.r0 N) (fun i s => ∃ q P, s = (((q : Nat) : Int), P, (len : Int) - 1 - (i : Int)) ∧ q ≤ n ∧ P.length = len) len
  (fun i s hi hs => by
   obtain ⟨q, P, rfl, h1, h2⟩ := hs; obtain ⟨x, hx⟩ : ∃ x, P[((len : Int) - 1 - (i : Int)).toNat]? = some x := ⟨_, lge (by omega)⟩; simp only [zbg.r0, zbg.b0, dct (show (len : Int) - 1 - (i : Int) ≥ 0 by omega), ctr, h2]; rw [ifp, ifp, hx]; simp only [obs]; rw [tde, w6e (n := (q : Int) / 10), w6e (n := (len : Int) - 1 - (i : Int) - 1)]; exact ⟨_, rfl, q / 10, _, by rw [show (q : Int) / 10 = ((q / 10 : Nat) : Int) by omega, show (len : Int) - 1 - (i : Int) - 1 = (len : Int) - 1 - ((i + 1 : Nat) : Int) by omega], by omega, by rw [List.length_set]; exact h2⟩)
  (fun s hs => by
   obtain ⟨q, P, rfl, h1, h2⟩ := hs; exact ⟨_, by simp only [zbg.r0, zbg.b0, dcf (show ¬ (len : Int) - 1 - (len : Int) ≥ 0 by omega), cfa], q, P, rfl, h1, h2⟩) (N := N) hN (s := ((n : Int), List.replicate len 0, (len : Int) - 1)) ⟨n, _, by rw [show (len : Int) - 1 - ((0 : Nat) : Int) = (len : Int) - 1 by omega], Nat.le_refl _, by rw [lnr]⟩
 rw [h1]
 exact ⟨_, rfl⟩
theorem zaes {t : DataType} {v : Value} (ht : zkz t) (hv : zhx t v = 0) : v = ⟨v.N, ⟨#[]⟩⟩ ∧ -((10 ^ t.Length.toNat : Nat) : Int) < v.N ∧ v.N < ((10 ^ t.Length.toNat : Nat) : Int) := by
 obtain ⟨_, k1, k2⟩ := ht
 unfold zhx at hv
 rw [ifn] at hv
 split at hv
 · cases hv
 · rename_i h1; split at hv
   · rename_i h2; have := zbj.1 h2; unfold zrg at this; have h3 : v.S = e0 := cbc h1; obtain ⟨n, s⟩ := v; simp only at h3; subst h3; exact ⟨rfl, by omega, by omega⟩
   · cases hv
theorem zaaf (N : Nat) (hN : 400 < N) {o : zG} (ht : zf2 o.zK = 0) (h4 : o.zK.Kind ≠ 4) (hv : zhx o.zK o.Value = 0) : zdi N o.zK o.Value = some (z39 o, 0) ∧ zaf N o.zK o.Value = some (z39 o) ∧ ((z39 o).size : Int) = szE o.zK := by
 by_cases h0 : o.zK.Kind = 0
 · unfold z39; rw [ifp h0]; have hv' := hv; unfold zhx at hv'; rw [ifp h0] at hv'; have hn : o.Value.N = 0 := by
    refine cbc fun h => ?_; rw [ifp h] at hv'; cases hv'
   rw [ifn (fun h => h hn)] at hv'; have hsz : (o.Value.S.size : Int) = o.zK.Length := by
    refine cbc fun h => ?_; rw [ifp h] at hv'; cases hv'
   have hlen : 1 ≤ o.zK.Length ∧ o.zK.Length ≤ 256 := by
    rcases zqg ht with ⟨_, h⟩ | ⟨h | h, _⟩ | ⟨h, _⟩ | ⟨h, _⟩
    · exact h
    all_goals omega
   refine ⟨?_, ?_, ?_⟩
   · unfold zdi; rw [z84 N (by omega) ht h4, hv]; simp only [obs, bsf, cfa]; unfold zad; obtain ⟨l, hl⟩ := zabh N 0 o.zK.Length.toNat (by decide) (by omega) (by omega); rw [hn, show (if w6 (0 - 0) > 0 then w6 (0 - 0) else 0) = ((0 : Nat) : Int) from rfl, show o.zK.Length = ((o.zK.Length.toNat : Nat) : Int) by omega, hl, h0]; rfl
   · unfold zaf; rw [h0]; rfl
   · unfold szE; rw [ifn, ifn, ifn]; exact hsz
 · have hn := z4u ht h0 h4; obtain ⟨e1, e2, e3⟩ := zaes hn hv; unfold z39; rw [ifn h0]; rw [e1]; exact ⟨z68 N (by omega) hn _ ⟨e2, e3⟩, z8n N (by omega) hn _ ⟨e2, e3⟩, z7l hn _⟩
section
variable {p : zB}
theorem z7f {k : Int} (h : isD k = true) : isS k = true ∨ k = 4 := by
 unfold isD at h
 rw [Bool.or_eq_true, decide_eq_true_eq] at h
 exact h
def byI (p : zB) (t : Storage) (i : Nat) : Except Int ByteArray :=
 if (og p.zA i).Kind = 4 then .ok (z39 (og p.zA i)) else match adI p t i with
  | .error e => .error e
  | .ok a => .ok (t.Bytes.extract a.toNat (a + szE (og p.zA i).zK).toNat)
theorem zye (N : Nat) (hN : 2000 < N) (h : ProgV p) {s : zC} (hs : StoP p s.Storage) {i : Nat} (hi : i < p.zA.length) (hk : isD (og p.zA i).Kind = true) :
 (∃ e k, (e = 4 ∨ e = 5) ∧ byI p s.Storage i = .error e ∧ zah N (mI p s 0) (i : Int) = some (⟨#[]⟩, mI p s e) ∧ zet N p s (i : Int) = some (k, e)) ∨
 ∃ b, byI p s.Storage i = .ok b ∧ zah N (mI p s 0) (i : Int) = some (b, mI p s 0) ∧ zet N p s (i : Int) = some (b, 0) ∧ (b.size : Int) = szE (og p.zA i).zK := by
 have ho := zmq h.ok hi
 obtain ⟨hty, hk4⟩ := ho.ty hk
 have hsz := zf3 hty
 have hl := hs.sto.le
 unfold byI zah zet
 rw [show (mI p s 0).zB = p from rfl, zjb hi]
 simp only [obs, zcn]
 by_cases h4 : (og p.zA i).Kind = 4
 · obtain ⟨e1, e2, e3⟩ := zaaf N (by omega) hty hk4 (ho.val (.inr h4)); rw [ifp h4, dct h4, ctr, ctr, e1, e2]; exact .inr ⟨_, rfl, rfl, rfl, e3⟩
 · rw [ifn h4, dcf h4, cfa, cfa]; have hS := (z7f hk).resolve_right h4; rcases z6p N hN h hs hi hS with ⟨e, j, k, he, h1, h2, h3⟩ | ⟨a, h1, h2, h3, h4, h5⟩
   · left; rw [h1, h2, h3]; refine ⟨e, ⟨#[]⟩, he, rfl, ?_, ?_⟩
     · rcases he with rfl | rfl <;> rfl
     · rcases he with rfl | rfl <;> rfl
   · right; rw [h1, h2, h3]; simp only [obs, show (mI p s 0).raised = 0 from rfl, bsf, cfa]; rw [z6d N (by omega) hty, zt3 hty]; simp only [obs, show (mI p s 0).zC = s from rfl]; have c1 : 0 ≤ a + szE (og p.zA i).zK ∧ a + szE (og p.zA i).zK ≤ (s.Storage.Bytes.size : Int) := by omega
     have c2 : 0 ≤ a ∧ a ≤ a + szE (og p.zA i).zK := by omega
     rw [w6e]; simp only [ifp c1, ifp c2]; refine ⟨_, rfl, rfl, rfl, ?_⟩; rw [zdc _ _ _ (by omega) (by omega)]; omega
theorem z7z (N : Nat) (hN : 2000 < N) (h : ProgV p) {s : zC} (hs : StoP p s.Storage) {i : Nat} (hi : i < p.zA.length) (hk : isD (og p.zA i).Kind = true) {e : Int} (he : e ≠ 0) :
 ∃ b, zah N (mI p s e) (i : Int) = some (b, mI p s e) ∧ b.size ≤ 256 := by
 have ho := zmq h.ok hi
 obtain ⟨hty, hk4⟩ := ho.ty hk
 have hsz := zf3 hty
 unfold zah
 rw [show (mI p s e).zB = p from rfl, zjb hi]
 simp only [obs, zcn]
 by_cases h4 : (og p.zA i).Kind = 4
 · obtain ⟨e1, e2, e3⟩ := zaaf N (by omega) hty hk4 (ho.val (.inr h4)); rw [dct h4, ctr, e1]; exact ⟨_, rfl, by show (z39 (og p.zA i)).size ≤ 256; omega⟩
 · rw [dcf h4, cfa]; obtain ⟨j, hj⟩ := z71 N hN h hs hi ((z7f hk).resolve_right h4) he; rw [hj]; simp only [obs, show (mI p s e).raised = e from rfl, zd1, dct he, ctr]; exact ⟨_, rfl, by decide⟩
def nuI (p : zB) (t : Storage) (i : Nat) : Except Int Number :=
 match byI p t i with | .error e => .error e | .ok b => match zqa (og p.zA i).zK b with | none => .error 1 | some n => .ok ⟨n, (og p.zA i).zK.Scale⟩
theorem z1q (h : ProgV p) {i : Nat} (hi : i < p.zA.length) (hk : isD (og p.zA i).Kind = true) (hn : zdr (og p.zA i) = true) : zkz (og p.zA i).zK := by
 obtain ⟨hty, hk4⟩ := (zmq h.ok hi).ty hk
 unfold zdr at hn
 exact z4u hty (of_decide_eq_true hn) hk4
theorem zagg {t : DataType} (ht : zkz t) {n : Int} (h : -((10 ^ t.Length.toNat : Nat) : Int) < n ∧ n < ((10 ^ t.Length.toNat : Nat) : Int)) : zd6 ⟨n, t.Scale⟩ := by
 obtain ⟨⟨l1, l2⟩, l3, l4⟩ := zgq ht
 have hpw : 10 ^ t.Length.toNat ≤ 10 ^ 15 := zcv (by omega)
 refine ⟨⟨?_, ?_⟩, l3, ?_⟩
 · show -999999999999999 ≤ n; omega
 · show n ≤ 999999999999999; omega
 · show t.Scale ≤ 15; omega
theorem zsr (N : Nat) (hN : 2000 < N) (h : ProgV p) {s : zC} (hs : StoP p s.Storage) {i : Nat} (hi : i < p.zA.length) (hk : isD (og p.zA i).Kind = true) (hn : zdr (og p.zA i) = true) :
 (∃ e k, (e = 4 ∨ e = 5 ∨ e = 1) ∧ nuI p s.Storage i = .error e ∧ zp N (mI p s 0) (i : Int) = some (⟨0, 0⟩, mI p s e) ∧ zb9 N p s (i : Int) = some (k, e)) ∨
 ∃ n, nuI p s.Storage i = .ok n ∧ zp N (mI p s 0) (i : Int) = some (n, mI p s 0) ∧ zb9 N p s (i : Int) = some (n, 0) ∧ zd6 n := by
 have ht := z1q h hi hk hn
 unfold nuI zp zb9
 rcases zye N hN h hs hi hk with ⟨e, k, he, h1, h2, h3⟩ | ⟨b, h1, h2, h3, h4⟩
 · left; rw [h1, h2, h3]; refine ⟨e, ⟨0, 0⟩, by omega, rfl, ?_, ?_⟩
   · rcases he with rfl | rfl <;> rfl
   · rcases he with rfl | rfl <;> rfl
 · obtain ⟨v1, a1, e1, g1, g2⟩ := zacj N hN ht h4; obtain ⟨v2, a2, e2, g3, g4⟩ := zab7 N hN ht h4; rw [h1, h2, h3]; simp only [obs, show (mI p s 0).raised = 0 from rfl, show (mI p s 0).zB = p from rfl, bsf, cfa]; rw [zjb hi]; simp only [obs]; rw [g1, g3]; simp only [obs, z7g]; have hb := zacv ht h4; cases hdv : zqa (og p.zA i).zK b with
   | none =>
    rw [hdv] at g2 g4; simp only [] at g2 g4; left; refine ⟨1, ⟨0, 0⟩, by omega, rfl, ?_, ?_⟩
    · rw [zd1, dct g2]; rfl
    · rw [zd1, dct g4]; rfl
   | some n =>
    rw [hdv] at g2 g4; simp only [] at g2 g4; right; refine ⟨⟨n, (og p.zA i).zK.Scale⟩, rfl, ?_, ?_, zagg ht (hb n hdv)⟩
    · rw [g2.2, g2.1]; rfl
    · rw [g4.2, g4.1]; rfl
theorem z66 (N : Nat) (hN : 2000 < N) (h : ProgV p) {s : zC} (hs : StoP p s.Storage) {i : Nat} (hi : i < p.zA.length) (hk : isD (og p.zA i).Kind = true) {e : Int} (he : e ≠ 0) :
 zp N (mI p s e) (i : Int) = some (⟨0, 0⟩, mI p s e) := by
 unfold zp
 obtain ⟨b, hb, _⟩ := z7z N hN h hs hi hk he
 rw [hb]
 simp only [obs, show (mI p s e).raised = e from rfl, zd1, dct he, ctr]
def wrI (p : zB) (s : zC) (i : Nat) (d : ByteArray) : Except Int zC :=
 match adI p s.Storage i with | .error e => .error e | .ok a => .ok (mS s (wrV s.Storage a.toNat d))
theorem z96 (N : Nat) (hN : 2000 < N) (h : ProgV p) {s : zC} (hs : StoP p s.Storage) {i : Nat} (hi : i < p.zA.length) (hk : isS (og p.zA i).Kind = true) {d : ByteArray} (hd : (d.size : Int) = szE (og p.zA i).zK) :
 (∃ e k, (e = 4 ∨ e = 5) ∧ wrI p s i d = .error e ∧ zaz N (mI p s 0) (i : Int) d = some (mI p s e) ∧ zcc N p s (i : Int) = some (k, e)) ∨
 ∃ a : Nat, wrI p s i d = .ok (mS s (wrV s.Storage a d)) ∧ zaz N (mI p s 0) (i : Int) d = some (mI p (mS s (wrV s.Storage a d)) 0) ∧ zcc N p s (i : Int) = some ((a : Int), 0) ∧ zb1 N s.Storage (a : Int) d = some (wrV s.Storage a d) ∧ StoP p (wrV s.Storage a d) := by
 have hty := ((zmq h.ok hi).ty (zuw hk)).1
 have hsz := zf3 hty
 unfold wrI zaz
 rcases z6p N hN h hs hi hk with ⟨e, j, k, he, h1, h2, h3⟩ | ⟨a, h1, h2, h3, h4, h5⟩
 · left; rw [h1, h2, h3]; refine ⟨e, k, he, rfl, ?_, rfl⟩; rcases he with rfl | rfl <;> rfl
 · right; obtain ⟨a, rfl⟩ : ∃ k : Nat, a = (k : Int) := ⟨a.toNat, by omega⟩; rw [h1, h2, h3]; have hw : a + d.size ≤ s.Storage.Bytes.size := by omega
   have hw0 : 0 < d.size := by omega
   refine ⟨a, rfl, ?_, rfl, z8i N hN hs.sto hw hw0, ⟨zabq hs.sto hw hw0, by rw [z3i hw]; exact hs.size⟩⟩; simp only [obs, show (mI p s 0).raised = 0 from rfl, show (mI p s 0).zC = s from rfl, bst, ctr]; rw [zac6 N hN hs.sto hw hw0]; rfl
end
theorem z9e (b : ByteArray) (hb : b.size ≤ 5000) (n : Nat) (hn : n ≤ 5000) : zfe b (n : Int) = some ⟨(bl b ++ List.replicate (n - b.size) 32).toArray⟩ := by
 have hmax : IntKind.i64.max = 9223372036854775807 := by decide
 unfold zfe znn
 rw [w6e]
 have e : (if (0 : Int) > (n : Int) - (b.size : Int) then 0 else (n : Int) - (b.size : Int)) = ((n - b.size : Nat) : Int) := by split <;> omega
 have hs1 : (⟨#[32]⟩ : ByteArray).size = 1 := rfl
 rw [e, ifp ⟨by omega, by omega, by rw [hs1]; omega⟩, obs, itn, zxr, hmax]
 have hs : (⟨(List.replicate (n - b.size) (32 : UInt8)).toArray⟩ : ByteArray).size = n - b.size := by
  show (List.replicate (n - b.size) (32 : UInt8)).length = _; rw [lnr]
 rw [ifn (by rw [hs]; omega)]
 refine congrArg some (zjv ?_)
 rw [zd2]
 rfl
def cmpT (a b : ByteArray) : Int := z16 (bl (zs6 a (max a.size b.size))) (bl (zs6 b (max a.size b.size)))
theorem z9g {R : Type} (a b : ByteArray) (ha : a.size ≤ 5000) (hb : b.size ≤ 5000) (k : Int → Option R) : ((zfe a (b.size : Int)).bind fun r8 => (zfe b (a.size : Int)).bind fun r9 => (zku r8 r9).bind k) = k (cmpT a b) := by
 unfold zku zes
 rw [z9e a ha b.size hb, z9e b hb a.size ha]
 simp only [obs]
 rw [z7i, z7i, Nat.max_comm b.size a.size, zagv (by rw [z1p, z1p])]
 rfl
theorem zaf7 {R : Type} (N : Nat) (hN : 10000 < N) (a b : ByteArray) (ha : a.size ≤ 5000) (hb : b.size ≤ 5000) (k : Int → Option R) :
 ((zgg N a (if (b.size : Int) > (a.size : Int) then (b.size : Int) else (a.size : Int))).bind fun r12 => (zgg N b (if (b.size : Int) > (a.size : Int) then (b.size : Int) else (a.size : Int))).bind fun r13 =>
 (zao (!((Op.bytesLess r12.toList r13.toList) || (r12.toList == r13.toList)))).bind fun r14 => (zao (Op.bytesLess r12.toList r13.toList)).bind fun r15 => k (w6 (r14 - r15))) = k (cmpT a b) := by
 have e : (if (b.size : Int) > (a.size : Int) then (b.size : Int) else (a.size : Int)) = ((max a.size b.size : Nat) : Int) := by split <;> omega
 rw [e, z05 N hN a ha _ (by omega), z05 N hN b hb _ (by omega)]
 simp only [obs]
 rw [zol, zol, zjs, zjs]
 simp only [obs]
 unfold cmpT z16
 generalize bl (zs6 a (max a.size b.size)) = x
 generalize bl (zs6 b (max a.size b.size)) = y
 cases hx : Op.bytesLess x y with
 | true => rfl
 | false =>
  rw [ifn (by decide)]; simp only [Bool.false_or, cfa]
  by_cases hxy : x = y
  · rw [hxy, ifp rfl]; simp only [bst, bnt, cfa]; rfl
  · rw [ifn hxy, show (x == y) = false from beq_eq_false_iff_ne.2 hxy]; rfl
theorem zzu (N : Nat) (hN : 100 < N) {x : Number} (hx : zd6 x) : zbx N x = some (zgu x) := by
 have hx' := hx
 obtain ⟨⟨h1, h2⟩, h3, h4⟩ := hx'
 unfold zbx
 obtain ⟨k, hk⟩ : ∃ k : Nat, x.Scale = (k : Int) := ⟨x.Scale.toNat, by omega⟩
 have := za1 (f := zbx.r0 N) (fun i => (x.Scale, (i : Int), (⟨x.N.tdiv (10 ^ i), x.Scale⟩ : Number))) k
  (fun i hi => by
   have hb := Int.natAbs_tdiv_le_natAbs x.N (10 ^ i); have hb2 := Int.natAbs_tdiv_le_natAbs (x.N.tdiv (10 ^ i)) 10; simp only [zbx.r0, zbx.b0, hk, dct (show (i : Int) < (k : Int) by omega), ctr]; rw [w6e (n := (i : Int) + 1), w6e, zaf0]; rfl)
  (by simp only [zbx.r0, zbx.b0, hk, dcf (show ¬ (k : Int) < (k : Int) by omega), cfa]) (N := N) (by omega)
 simp only [nc0, Int.pow_zero, Int.tdiv_one, eN] at this
 rw [this]
 show some (x.N.tdiv (10 ^ k)) = some (zgu x)
 unfold zgu
 rw [hk, itn]
theorem z4o (N : Nat) (hN : 100 < N) {x : Number} (hx : zd6 x) : zkh N x = some (zgu x) := by
 have hw := zwl hx
 obtain ⟨⟨h1, h2⟩, h3, h4⟩ := hx
 unfold zkh
 have hp := z3u N hN x.Scale.toNat (by omega)
 rw [Int.toNat_of_nonneg h3] at hp
 have hpos := zcz x.Scale.toNat
 rw [hp, obs, ifn, show ((10 ^ x.Scale.toNat : Nat) : Int) = 10 ^ x.Scale.toNat by rw [Int.natCast_pow]; rfl]
 show some (w6 (zgu x)) = _
 rw [w6e]
theorem z2o (n lo hi : Int) : zda n lo hi = some (inB n lo hi) := by
 unfold zda inB
 cases decide (lo ≤ n) <;> rfl
section
variable {p : zB}
def zre (p : zB) (s : zC) (i : Nat) (r : Value × Int) : Except Int zC :=
 if r.2 = 20 then .error 3 else if r.2 = 19 then .error 2 else wrI p s i (zz6 (og p.zA i).zK r.1.N)
def zu4 (N : Nat) (p : zB) (s : zC) (i : Nat) (r : Value × Int) : Option (Int × zC) :=
 cond (r.2 == 20) (some (3, s)) (cond (r.2 != 0) (some (2, s)) ((zcc N p s (i : Int)).bind fun r19 => cond (r19.2 != 0) (some (r19.2, s)) ((zaf N (og p.zA i).zK r.1).bind fun r20 =>
  (zb1 N s.Storage r19.1 r20).bind fun r21 => some (0, mS s r21))))
theorem zadr (N : Nat) (hN : 2000 < N) (h : ProgV p) {s : zC} (hs : StoP p s.Storage) {i : Nat} (hi : i < p.zA.length) (hk : isS (og p.zA i).Kind = true) (hn : zdr (og p.zA i) = true)
 {r : Value × Int} (hr : r.2 = 0 ∨ r.2 = 19 ∨ r.2 = 20) (hS : r.1 = ⟨r.1.N, ⟨#[]⟩⟩) (hb : r.2 = 0 → -((10 ^ (og p.zA i).zK.Length.toNat : Nat) : Int) < r.1.N ∧ r.1.N < ((10 ^ (og p.zA i).zK.Length.toNat : Nat) : Int)) :
 (∃ e, (2 ≤ e ∧ e ≤ 5) ∧ zre p s i r = .error e ∧ zas N (mI p s 0) (i : Int) r.1 r.2 = some (mI p s e) ∧ zu4 N p s i r = some (e, s)) ∨
 ∃ t, zre p s i r = .ok (mS s t) ∧ zas N (mI p s 0) (i : Int) r.1 r.2 = some (mI p (mS s t) 0) ∧ zu4 N p s i r = some (0, mS s t) ∧ StoP p t := by
 have ht := z1q h hi (zuw hk) hn
 unfold zre zas zu4
 rcases hr with h0 | h0 | h0
 · obtain ⟨b1, b2⟩ := hb h0; have hz := z7l ht r.1.N; rw [h0, ifn (by decide), ifn (by decide)]; simp only [show ((0 : Int) == 20) = false from rfl, show ((0 : Int) == 19) = false from rfl, bsf, cfa, show (mI p s 0).raised = 0 from rfl, bst, ctr, show (mI p s 0).zB = p from rfl]; rw [zjb hi, hS]; simp only [obs]; rw [z68 N (by omega) ht _ ⟨b1, b2⟩, z8n N (by omega) ht _ ⟨b1, b2⟩]; simp only [obs]; rcases z96 N hN h hs hi hk hz with ⟨e, k, he, h1, h2, h3⟩ | ⟨a, h1, h2, h3, h4, h5⟩
   · left; rw [h1, h2, h3]; refine ⟨e, by omega, rfl, rfl, ?_⟩; rcases he with rfl | rfl <;> rfl
   · right; rw [h1, h2, h3]; refine ⟨_, rfl, rfl, ?_, h5⟩; simp only [obs, bsf, cfa]; rw [h4]; rfl
 · left; rw [h0]; exact ⟨2, by decide, rfl, rfl, rfl⟩
 · left; rw [h0]; exact ⟨3, by decide, rfl, rfl, rfl⟩
theorem zaa6 (N : Nat) (s : zC) (i : Int) (v : Value) (c : Int) {e : Int} (he : e ≠ 0) : zas N (mI p s e) i v c = some (mI p s e) := by
 have hf : ((mI p s e).raised == 0) = false := by rw [show (mI p s e).raised = e from rfl, zcn]; exact dcf he
 unfold zas
 rw [zvf p s he, zvf p s he]
 simp only [obs, hf, cfa]
 cases (c == 20) <;> cases (c == 19) <;> rfl
structure StI (p : zB) (s : zC) : Prop where
 sto : StoP p s.Storage
 at0 : 0 ≤ s.At
 at1 : s.At < (p.zF.length : Int)
 stk : s.Stack.length ≤ 6
 calls : ∀ i ∈ s.Stack, (0 ≤ i ∧ i < (p.zF.length : Int)) ∧ ∃ x, p.zF[i.toNat]? = some x ∧ x.Op = 13
 lines : s.Lines.length ≤ 40
 long : ∀ l ∈ s.Lines, l.size ≤ 256
 st0 : 0 ≤ s.Status
 st1 : s.Status ≤ 3
 ex0 : 0 ≤ s.Exception
 ex1 : s.Exception ≤ 999
 sp0 : 0 ≤ s.Steps
 sp1 : s.Steps ≤ 300
theorem StI.S {s : zC} (h : StI p s) {t : Storage} (ht : StoP p t) : StI p (mS s t) := { sto := ht, at0 := h.at0, at1 := h.at1, stk := h.stk, calls := h.calls, lines := h.lines, long := h.long, st0 := h.st0, st1 := h.st1, ex0 := h.ex0, ex1 := h.ex1, sp0 := h.sp0, sp1 := h.sp1 }
theorem StI.K {s : zC} (h : StI p s) {l : List Int} (h1 : l.length ≤ 6) (h2 : ∀ i ∈ l, (0 ≤ i ∧ i < (p.zF.length : Int)) ∧ ∃ x, p.zF[i.toNat]? = some x ∧ x.Op = 13) : StI p (mK s l) := { sto := h.sto, at0 := h.at0, at1 := h.at1, stk := h1, calls := h2, lines := h.lines, long := h.long, st0 := h.st0, st1 := h.st1, ex0 := h.ex0, ex1 := h.ex1, sp0 := h.sp0, sp1 := h.sp1 }
theorem StI.T {s : zC} (h : StI p s) {k : Int} (h1 : 0 ≤ k) (h2 : k ≤ 3) : StI p (mT s k) := { sto := h.sto, at0 := h.at0, at1 := h.at1, stk := h.stk, calls := h.calls, lines := h.lines, long := h.long, st0 := h1, st1 := h2, ex0 := h.ex0, ex1 := h.ex1, sp0 := h.sp0, sp1 := h.sp1 }
theorem StI.A {s : zC} (h : StI p s) {k : Int} (h1 : 0 ≤ k) (h2 : k < (p.zF.length : Int)) : StI p (mA s k) := { sto := h.sto, at0 := h1, at1 := h2, stk := h.stk, calls := h.calls, lines := h.lines, long := h.long, st0 := h.st0, st1 := h.st1, ex0 := h.ex0, ex1 := h.ex1, sp0 := h.sp0, sp1 := h.sp1 }
theorem StI.E {s : zC} (h : StI p s) {k : Int} (h1 : 0 ≤ k) (h2 : k ≤ 999) : StI p (mE s k) := { sto := h.sto, at0 := h.at0, at1 := h.at1, stk := h.stk, calls := h.calls, lines := h.lines, long := h.long, st0 := h.st0, st1 := h.st1, ex0 := h1, ex1 := h2, sp0 := h.sp0, sp1 := h.sp1 }
theorem StI.P {s : zC} (h : StI p s) {k : Int} (h1 : 0 ≤ k) (h2 : k ≤ 300) : StI p (mP s k) := { sto := h.sto, at0 := h.at0, at1 := h.at1, stk := h.stk, calls := h.calls, lines := h.lines, long := h.long, st0 := h.st0, st1 := h.st1, ex0 := h.ex0, ex1 := h.ex1, sp0 := h1, sp1 := h2 }
theorem StI.L {s : zC} (h : StI p s) {l : ByteArray} (h1 : s.Lines.length < 40) (h2 : l.size ≤ 256) : StI p (mL s (s.Lines ++ [l])) := {
 sto := h.sto, at0 := h.at0, at1 := h.at1, stk := h.stk, calls := h.calls
 lines := by show (s.Lines ++ [l]).length ≤ 40; rw [lna, lns]; omega
 long := fun y hy => by
  rcases List.mem_append.1 (show y ∈ s.Lines ++ [l] from hy) with h3 | h3
  · exact h.long y h3
  · rw [List.mem_singleton.1 h3]; exact h2
 st0 := h.st0, st1 := h.st1, ex0 := h.ex0, ex1 := h.ex1, sp0 := h.sp0, sp1 := h.sp1 }
def ai (x : zI) (k : Nat) : Nat := (x.Args.getD k 0).toNat
def oa (p : zB) (x : zI) (k : Nat) : zG := og p.zA (ai x k)
def zq0 (s : zC) (r : Except Int zC) : Except Int (Int × zC) := match r with | .error e => .error e | .ok t => .ok (s.At + 1, t)
def zaa9 (p : zB) (s : zC) (x : zI) (half : Bool) : Except Int zC := match nuI p s.Storage (ai x 1) with | .error e => .error e | .ok n => zre p s (ai x 0) (zo6 n (oa p x 0).zK half)
def zaej (p : zB) (s : zC) (x : zI) : Except Int zC := match byI p s.Storage (ai x 1) with | .error e => .error e | .ok b => wrI p s (ai x 0) (zs6 b (oa p x 0).zK.Length.toNat)
def z0h (p : zB) (s : zC) (x : zI) : Except Int zC := match nuI p s.Storage (ai x 1) with | .error e => .error e | .ok a => match nuI p s.Storage (ai x 2) with | .error e => .error e | .ok b => zre p s (ai x 0) (zmr (x.Op - 2) a b (oa p x 0).zK false)
def z2l (p : zB) (s : zC) (x : zI) : Except Int Int :=
 if zdr (oa p x 0) = true then (match nuI p s.Storage (ai x 0) with | .error e => .error e | .ok a => match nuI p s.Storage (ai x 1) with | .error e => .error e | .ok b => .ok (z81 (zap a (zg a b)) (zap b (zg a b))))
 else match byI p s.Storage (ai x 0) with | .error e => .error e | .ok a => match byI p s.Storage (ai x 1) with | .error e => .error e | .ok b => .ok (cmpT a b)
def zu0 (op o : Int) : Bool := if op = 7 then decide (o = 0) else decide (o < 0)
def z4k (p : zB) (s : zC) (i : Nat) : Except Int ByteArray :=
 if zdr (og p.zA i) = true then (match nuI p s.Storage i with | .error e => .error e | .ok n => .ok (zw4 n)) else byI p s.Storage i
def zhz (p : zB) (s : zC) (x : zI) : Except Int (Int × zC) :=
 match x.Op.toNat with
 | 0 => zq0 s (if zdr (oa p x 0) = true then zaa9 p s x false else zaej p s x)
 | 1 => zq0 s (zaa9 p s x true)
 | 2 => zq0 s (z0h p s x)
 | 3 => zq0 s (z0h p s x)
 | 4 => zq0 s (z0h p s x)
 | 5 => zq0 s (z0h p s x)
 | 6 => zq0 s (z0h p s x)
 | 7 => (match z2l p s x with | .error e => .error e | .ok o => .ok (cond (zu0 7 o) (oa p x 2).Target (s.At + 1), s))
 | 8 => (match z2l p s x with | .error e => .error e | .ok o => .ok (cond (zu0 8 o) (oa p x 2).Target (s.At + 1), s))
 | 9 => .ok ((oa p x 0).Target, s)
 | 10 => zq0 s (match adI p s.Storage (ai x 1) with | .error e => .error e | .ok a => .ok (mS s (stV s.Storage (ze0 p.zA (ai x 0)).toNat a.toNat)))
 | 11 => zq0 s (match ldV s.Storage (ze0 p.zA (ai x 1)) with | none => .error 4 | some o => .ok (mS s (stV s.Storage (ze0 p.zA (ai x 0)).toNat o.toNat)))
 | 12 => zq0 s (match ldV s.Storage (ze0 p.zA (ai x 0)) with
  | none => .error 4
  | some o => match nuI p s.Storage (ai x 1) with
   | .error e => .error e
   | .ok n => if inB (o + zgu n) 0 16777215 = true then .ok (mS s (stV s.Storage (ze0 p.zA (ai x 0)).toNat (o + zgu n).toNat)) else .error 5)
 | 13 => if 6 ≤ s.Stack.length then .error 6 else .ok ((oa p x 0).Target, mK s (s.Stack ++ [s.At]))
 | 14 => if s.Stack.length = 0 then .ok (s.At, mT s 1) else .ok (s.Stack.getD (s.Stack.length - 1) 0 + 1, mK s (s.Stack.take (s.Stack.length - 1)))
 | 15 => (match nuI p s.Storage (ai x 0) with | .error e => .error e | .ok n => if inB (zgu n) 100 999 = true then .error (zgu n) else .error 2)
 | 16 => zq0 s (zre p s (ai x 0) (zo6 ⟨s.Exception, 0⟩ (oa p x 0).zK false))
 | 17 => (match z4k p s (ai x 0) with | .error e => .error e | .ok l => if s.Lines.length = 40 then .ok (s.At + 1, mT s 3) else .ok (s.At + 1, mL s (s.Lines ++ [l])))
 | _ => .ok (s.At + 1, mT s 1)
def ziw (N : Nat) (p : zB) (s : zC) (x : zI) : Prop :=
 (∃ e nx ny t, zhz p s x = .error e ∧ (1 ≤ e ∧ e ≤ 999) ∧ zd N (mI p s 0) x = some (nx, mI p s e) ∧ zab N p s = some (ny, e, t)) ∨
 ∃ n k t, zhz p s x = .ok (n, t) ∧ zd N (mI p s 0) x = some (n, mI p t 0) ∧ zab N p s = some (k, 0, t) ∧ (t.Status = 0 → k = n ∧ 0 ≤ n ∧ n ≤ (p.zF.length : Int)) ∧ StI p t ∧ t.At = s.At ∧ t.Steps = s.Steps ∧ t.Exception = s.Exception
theorem zge (h : ProgV p) {x : zI} (hx : x ∈ p.zF) {k : Nat} {c : Int} (hc : (zkd x.Op)[k]? = some c) :
 idx x.Args (k : Int) = some ((ai x k : Nat) : Int) ∧ ai x k < p.zA.length ∧ zud (oa p x k) (zr4 p x k) c = true := by
 have hi := h.ins x hx
 unfold zwt at hi
 split at hi
 · cases hi
 split at hi
 · cases hi
 rename_i h1 h2
 have hk := (gei hc).1
 have hkl : k < x.Args.length := by omega
 have hx := lge hkl
 have he : gA p x k = none := by
  cases hf : (List.range x.Args.length).findSome? (gA p x) with
  | none => exact zm6.1 hf k hkl
  | some r =>
   exfalso
   rw [hf] at hi; simp only at hi; subst hi; obtain ⟨i, _, hi, _⟩ := zm5 hf; unfold gA at hi; rw [Option.bind_eq_some_iff] at hi; obtain ⟨a, _, ha⟩ := hi; split at ha
   · split at ha
     · split at ha <;> cases ha
     · cases ha
   · cases ha
 unfold gA at he
 rw [hx, obs] at he
 split at he
 · rename_i hin; have := zbj.1 hin; have hai : ai x k = (x.Args[k]).toNat := by
    unfold ai; rw [gdd, hx]; rfl
   have hlt : ai x k < p.zA.length := by omega
   have ho := zrf hlt; rw [← hai, ho, hc] at he; simp only at he; refine ⟨by rw [zai, hx, hai]; congr 1; omega, hlt, ?_⟩; split at he
   · assumption
   · cases he
 · cases he
theorem zago (h : ProgV p) {x : zI} (hx : x ∈ p.zF) : 0 ≤ x.Op ∧ x.Op ≤ 18 := by
 have hi := h.ins x hx
 unfold zwt at hi
 split at hi
 · cases hi
 · rename_i h1; have := zbj.1 (show inB x.Op 0 18 = true by simpa using h1); exact this
end
section
variable {p : zB} {s : zC}
theorem zzw (o : zG) : zdk o = some (zdr o) := by
 unfold zdk zdr
 rw [zd1]
theorem zvt (h : ProgV p) {i : Nat} (hi : i < p.zA.length) (hk : isD (og p.zA i).Kind = true) : zfi p (i : Int) = some (zdr (og p.zA i)) := by
 unfold zfi
 rw [zjb hi]
 simp only [obs, zvr]
 rw [z83 (zrf hi) (h.ok.ok i hi) hk]
theorem zacb (N : Nat) (hN : 4000 < N) (h : ProgV p) {i : Nat} (hi : i < p.zA.length) (ht : zkz (og p.zA i).zK) {x : Number} (hx : zd6 x) (half : Bool) : zlg N p s (i : Int) x half = zu4 N p s i (zo6 x (og p.zA i).zK half) := by
 unfold zlg zu4
 rw [zjb hi]
 simp only [obs]
 rw [zae0 N hN hx ht]
 simp only [obs]
 rcases z9s x (og p.zA i).zK half with h0 | h0 <;> rw [h0] <;> rfl
theorem ztv : zd6 ⟨0, 0⟩ := ⟨⟨by decide, by decide⟩, by decide, by decide⟩
def zu3 (N : Nat) (p : zB) (s : zC) (m : Except Int zC) (prog : Option zD) (rf : Option (Int × zC)) : Prop :=
 (∃ e u, (1 ≤ e ∧ e ≤ 5) ∧ m = .error e ∧ prog = some (mI p s e) ∧ rf = some (e, u)) ∨ ∃ t, m = .ok (mS s t) ∧ prog = some (mI p (mS s t) 0) ∧ rf = some (0, mS s t) ∧ StoP p t
theorem zu3.mk (N : Nat) {m : Except Int zC} {r : Value × Int} {i : Nat} (hN : 2000 < N) (h : ProgV p) (hs : StoP p s.Storage) (hi : i < p.zA.length) (hk : isS (og p.zA i).Kind = true) (hn : zdr (og p.zA i) = true)
 (hr : r.2 = 0 ∨ r.2 = 19 ∨ r.2 = 20) (hS : r.1 = ⟨r.1.N, ⟨#[]⟩⟩) (hb : r.2 = 0 → -((10 ^ (og p.zA i).zK.Length.toNat : Nat) : Int) < r.1.N ∧ r.1.N < ((10 ^ (og p.zA i).zK.Length.toNat : Nat) : Int)) (hm : m = zre p s i r) :
 zu3 N p s m (zas N (mI p s 0) (i : Int) r.1 r.2) (zu4 N p s i r) := by
 subst hm
 rcases zadr N hN h hs hi hk hn hr hS hb with ⟨e, he, h1, h2, h3⟩ | ⟨t, h1, h2, h3, h4⟩
 · exact .inl ⟨e, s, by omega, h1, h2, h3⟩
 · exact .inr ⟨t, h1, h2, h3, h4⟩
theorem z7q (N : Nat) (hN : 4000 < N) (h : ProgV p) (hs : StoP p s.Storage) {i : Nat} (hi : i < p.zA.length) (hk : isS (og p.zA i).Kind = true) (hn : zdr (og p.zA i) = true) {x : Number} (hx : zd6 x) (half : Bool) :
 zu3 N p s (zre p s i (zo6 x (og p.zA i).zK half)) ((zef N x (og p.zA i).zK half).bind fun r4 => (zas N (mI p s 0) (i : Int) r4.1 r4.2).bind fun r5 => some r5) (zlg N p s (i : Int) x half) := by
 have ht := z1q h hi (zuw hk) hn
 rw [zaag N (by omega) hx ht, zacb N hN h hi ht hx]
 have := zu3.mk (m := zre p s i (zo6 x (og p.zA i).zK half)) N (by omega) h hs hi hk hn (by rcases z9s x (og p.zA i).zK half with h | h; exact .inl h; exact .inr (.inl h)) (zagu x _ half) (fun h0 => zabj h0) rfl
 simp only [obs]
 rcases this with ⟨e, u, he, h1, h2, h3⟩ | ⟨t, h1, h2, h3, h4⟩
 · exact .inl ⟨e, u, he, h1, by rw [h2]; rfl, h3⟩
 · exact .inr ⟨t, h1, by rw [h2]; rfl, h3, h4⟩
theorem z9a (N : Nat) (hN : 4000 < N) (h : ProgV p) (hs : StoP p s.Storage) {i j : Nat} (hi : i < p.zA.length) (hk : isS (og p.zA i).Kind = true) (hn : zdr (og p.zA i) = true) (hj : j < p.zA.length) (hkj : isD (og p.zA j).Kind = true) (hnj : zdr (og p.zA j) = true) (half : Bool) :
 zu3 N p s (match nuI p s.Storage j with | .error e => .error e | .ok n => zre p s i (zo6 n (og p.zA i).zK half)) (zd0 N (mI p s 0) (i : Int) (j : Int) half)
  ((zb9 N p s (j : Int)).bind fun r11 => cond (r11.2 != 0) (some (r11.2, s)) ((zlg N p s (i : Int) r11.1 half).bind fun r13 => some (r13.1, r13.2))) := by
 have ht := z1q h hi (zuw hk) hn
 unfold zd0
 rw [show (mI p s 0).zB = p from rfl, zjb hi]
 simp only [obs, zzw, hn, ctr]
 rcases zsr N (by omega) h hs hj hkj hnj with ⟨e, k, he, h1, h2, h3⟩ | ⟨n, h1, h2, h3, h4⟩
 · left; rw [h1, h2, h3]; simp only [obs]; rw [zaag N (by omega) ztv ht]; simp only [obs]; rw [zaa6 N s (i : Int) _ _ (show e ≠ 0 by omega), zd1, dct (show e ≠ 0 by omega)]; exact ⟨e, s, by omega, rfl, rfl, rfl⟩
 · rw [h1, h2, h3]; simp only [obs, bsf, cfa]; have := z7q N hN h hs hi hk hn h4 half; rcases this with ⟨e, u, he, g1, g2, g3⟩ | ⟨t, g1, g2, g3, g4⟩
   · exact .inl ⟨e, u, he, g1, g2, by rw [g3]; rfl⟩
   · exact .inr ⟨t, g1, g2, by rw [g3]; rfl, g4⟩
theorem zacl (N : Nat) (hN : 20000 < N) (h : ProgV p) (hs : StoP p s.Storage) {i j : Nat} (hi : i < p.zA.length) (hk : isS (og p.zA i).Kind = true) (hn : zdr (og p.zA i) = false) (hj : j < p.zA.length) (hkj : isD (og p.zA j).Kind = true) :
 zu3 N p s (match byI p s.Storage j with | .error e => .error e | .ok b => wrI p s i (zs6 b (og p.zA i).zK.Length.toNat)) (zd0 N (mI p s 0) (i : Int) (j : Int) false)
  ((zet N p s (j : Int)).bind fun r5 => cond (r5.2 != 0) (some (r5.2, s)) ((zcc N p s (i : Int)).bind fun r6 => cond (r6.2 != 0) (some (r6.2, s))
   ((zgg N r5.1 (og p.zA i).zK.Length).bind fun r8 => (zb1 N s.Storage r6.1 r8).bind fun r9 => some (0, mS s r9)))) := by
 have hty := ((zmq h.ok hi).ty (zuw hk)).1
 have hsz := zf3 hty
 have h0 : (og p.zA i).zK.Kind = 0 := by
  unfold zdr at hn; have := of_decide_eq_false hn; omega
 have hle : szE (og p.zA i).zK = (og p.zA i).zK.Length := by unfold szE; rw [ifn, ifn, ifn]
 have hL : (og p.zA i).zK.Length = (((og p.zA i).zK.Length.toNat : Nat) : Int) := by omega
 have tail : ∀ b : ByteArray, b.size ≤ 5000 → ∀ M : zD, ((zd4 N (og p.zA i)).bind fun r7 => (zfe b r7).bind fun r8 => (zd4 N (og p.zA i)).bind fun r9 =>
  if 0 ≤ r9 ∧ r9 ≤ (r8.size : Int) then (if 0 ≤ (0 : Int) ∧ (0 : Int) ≤ r9 then ((zaz N M (i : Int) (r8.extract (0 : Int).toNat r9.toNat)).bind fun r10 => some r10) else none) else none) = zaz N M (i : Int) (zs6 b (og p.zA i).zK.Length.toNat) := by
  intro b hb M; rw [z6d N (by omega) hty, hle]; simp only [obs]; have hpad := z9e b hb (og p.zA i).zK.Length.toNat (by omega); rw [← hL] at hpad; rw [hpad, obs]; have hps : (⟨(bl b ++ List.replicate ((og p.zA i).zK.Length.toNat - b.size) 32).toArray⟩ : ByteArray).size = b.size + ((og p.zA i).zK.Length.toNat - b.size) := by
   show (bl b ++ List.replicate ((og p.zA i).zK.Length.toNat - b.size) 32).length = _; rw [lna, lnr, zax]
  rw [ifp ⟨by omega, by rw [hps]; omega⟩, ifp, show (0 : Int).toNat = 0 from rfl, zacp]; cases zaz N M (i : Int) (zs6 b (og p.zA i).zK.Length.toNat) <;> rfl
 unfold zd0
 rw [show (mI p s 0).zB = p from rfl, zjb hi]
 simp only [obs, zzw, hn, cfa]
 rcases zye N (by omega) h hs hj hkj with ⟨e, k, he, h1, h2, h3⟩ | ⟨b, h1, h2, h3, h4⟩
 · left; rw [h1, h2, h3]; simp only [obs]; rw [tail _ (by decide), zd1, dct (show e ≠ 0 by omega)]; unfold zaz; obtain ⟨j', hj'⟩ := z71 N (by omega) h hs hi hk (show e ≠ 0 by omega); rw [hj']; simp only [obs, show (mI p s e).raised = e from rfl, zcn, dcf (show e ≠ 0 by omega), cfa]; exact ⟨e, s, by omega, rfl, rfl, rfl⟩
 · have hzb := zf3 ((zmq h.ok hj).ty hkj).1; have hrp : zgg N b (og p.zA i).zK.Length = some (zs6 b (og p.zA i).zK.Length.toNat) := by
    have h := z05 N (by omega) b (by omega) (og p.zA i).zK.Length.toNat (by omega); rw [← hL] at h; exact h
   rw [h1, h2, h3]; simp only [obs, bsf, cfa]; rw [tail b (by omega), hrp]; simp only [obs]; rcases z96 N (by omega) h hs hi hk (d := zs6 b (og p.zA i).zK.Length.toNat) (by rw [z1p]; omega) with ⟨e, k, he, g1, g2, g3⟩ | ⟨a, g1, g2, g3, g4, g5⟩
   · left; rw [g2, g3]; simp only [obs, zd1, dct (show e ≠ 0 by omega), ctr]; exact ⟨e, s, by omega, g1, rfl, rfl⟩
   · right; rw [g2, g3]; simp only [obs, bsf, cfa]; rw [g4]; exact ⟨_, g1, rfl, rfl, g5⟩
theorem zacx (N : Nat) (hN : 4000 < N) (h : ProgV p) (hs : StoP p s.Storage) {op : Int} (hop : 0 ≤ op ∧ op ≤ 4) {i : Nat} (hi : i < p.zA.length) (hk : isS (og p.zA i).Kind = true) (hn : zdr (og p.zA i) = true) {a b : Number} (ha : zd6 a) (hb : zd6 b) :
 zu3 N p s (zre p s i (zmr op a b (og p.zA i).zK false)) ((zhd N op a b (og p.zA i).zK false).bind fun r7 => (zas N (mI p s 0) (i : Int) r7.1 r7.2).bind fun r9 => some r9)
  ((zg9 N (⟨op, (og p.zA i).zK, false⟩ : zS) a b).bind fun r18 => zu4 N p s i r18) := by
 have ht := z1q h hi (zuw hk) hn
 rw [zae8 N (by omega) hop ha hb ht, zae1 N hN hop ha hb ht]
 have := zu3.mk (m := zre p s i (zmr op a b (og p.zA i).zK false)) N (by omega) h hs hi hk hn (zacy _ _ _ _ _) (zafg _ _ _ _ _) (fun h0 => z94 h0) rfl
 simp only [obs]
 rcases this with ⟨e, u, he, h1, h2, h3⟩ | ⟨t, h1, h2, h3, h4⟩
 · exact .inl ⟨e, u, he, h1, by rw [h2]; rfl, h3⟩
 · exact .inr ⟨t, h1, by rw [h2]; rfl, h3, h4⟩
theorem zvl (N : Nat) (h : ProgV p) (hs : StI p s) {x : zI} {m : Except Int zC} {prog : Option zD} {rf : Option (Int × zC)} (hp : zu3 N p s m prog rf) (hx : zhz p s x = zq0 s m)
 (h1 : zd N (mI p s 0) x = prog.bind fun r => some (w6 (s.At + 1), r)) (h2 : zab N p s = rf.bind fun r => some (w6 (s.At + 1), r.1, r.2)) : ziw N p s x := by
 have a0 := hs.at0
 have a1 := hs.at1
 have i40 := h.i40
 have wn1 : w6 (s.At + 1) = s.At + 1 := w6e
 unfold ziw
 rw [hx, h1, h2, wn1]
 rcases hp with ⟨e, u, he, g1, g2, g3⟩ | ⟨t, g1, g2, g3, g4⟩
 · rw [g1, g2, g3]; exact .inl ⟨e, _, _, u, rfl, by omega, rfl, rfl⟩
 · rw [g1, g2, g3]; exact .inr ⟨_, _, _, rfl, rfl, rfl, fun _ => ⟨rfl, by omega, by omega⟩, hs.S g4, rfl, rfl, rfl⟩
theorem znf (hs : StI p s) {x : zI} (hx : p.zF[s.At.toNat]? = some x) : idx p.zF s.At = some x := by
 unfold idx
 rw [ifp hs.at0, hx]
theorem zagy (N : Nat) (hN : 20000 < N) (h : ProgV p) (hs : StI p s) {x : zI} (hx : p.zF[s.At.toNat]? = some x) (hop : x.Op = 0) : ziw N p s x := by
 have hm := lmg hx
 have hi := znf hs hx
 obtain ⟨a0, b0, c0⟩ := zge h hm (k := 0) (c := 0) (by rw [hop]; rfl)
 obtain ⟨a1, b1, c1⟩ := zge h hm (k := 1) (c := 4) (by rw [hop]; rfl)
 have c0 : isS (og p.zA (ai x 0)).Kind = true := c0
 have c1 : (isD (og p.zA (ai x 1)).Kind && (zdr (og p.zA (ai x 1)) == zdr (og p.zA (ai x 0)))) = true := c1
 rw [Bool.and_eq_true] at c1
 have cn := eq_of_beq c1.2
 have a0 : idx x.Args 0 = some ((ai x 0 : Nat) : Int) := a0
 have a1 : idx x.Args 1 = some ((ai x 1 : Nat) : Int) := a1
 have hex : zhz p s x = zq0 s (if zdr (og p.zA (ai x 0)) = true then zaa9 p s x false else zaej p s x) := by unfold zhz; rw [hop]; rfl
 cases hn : zdr (og p.zA (ai x 0)) with
 | true =>
  rw [hn] at hex cn; refine zvl N h hs (z9a N (by omega) h hs.sto b0 c0 hn b1 c1.1 cn false) hex ?_ ?_
  · unfold zd; simp only [hop, Int.reduceBEq, ctr, cfa, obs, a0, a1]; rfl
  · unfold zab ziz; rw [hi, ze8 N (by omega) h.ok]; simp only [hop, Int.reduceBEq, ctr, cfa, obs, a0, a1, zvt h b0 (zuw c0), hn, bnt]
 | false =>
  rw [hn] at hex; refine zvl N h hs (zacl N (by omega) h hs.sto b0 c0 hn b1 c1.1) hex ?_ ?_
  · unfold zd; simp only [hop, Int.reduceBEq, ctr, cfa, obs, a0, a1]; rfl
  · unfold zab ziz; rw [hi, ze8 N (by omega) h.ok]; simp only [hop, Int.reduceBEq, ctr, cfa, obs, a0, a1, zvt h b0 (zuw c0), hn, Bool.not_false, zjb b0]; rfl
theorem zagx (N : Nat) (hN : 20000 < N) (h : ProgV p) (hs : StI p s) {x : zI} (hx : p.zF[s.At.toNat]? = some x) (hop : x.Op = 1) : ziw N p s x := by
 have hm := lmg hx
 have hi := znf hs hx
 obtain ⟨a0, b0, c0⟩ := zge h hm (k := 0) (c := 2) (by rw [hop]; rfl)
 obtain ⟨a1, b1, c1⟩ := zge h hm (k := 1) (c := 3) (by rw [hop]; rfl)
 have c0 : (isS (og p.zA (ai x 0)).Kind && zdr (og p.zA (ai x 0))) = true := c0
 have c1 : (isD (og p.zA (ai x 1)).Kind && zdr (og p.zA (ai x 1))) = true := c1
 rw [Bool.and_eq_true] at c0 c1
 have a0 : idx x.Args 0 = some ((ai x 0 : Nat) : Int) := a0
 have a1 : idx x.Args 1 = some ((ai x 1 : Nat) : Int) := a1
 refine zvl N h hs (z9a N (by omega) h hs.sto b0 c0.1 c0.2 b1 c1.1 c1.2 true) (by unfold zhz; rw [hop]; rfl) ?_ ?_
 · unfold zd; simp only [hop, Int.reduceBEq, ctr, cfa, obs, a0, a1]; rfl
 · unfold zab ziz; rw [hi, ze8 N (by omega) h.ok]; simp only [hop, Int.reduceBEq, ctr, cfa, obs, a0, a1]
theorem zacz (N : Nat) (hN : 20000 < N) (h : ProgV p) (hs : StI p s) {x : zI} (hx : p.zF[s.At.toNat]? = some x) (hop : 2 ≤ x.Op ∧ x.Op ≤ 6) : ziw N p s x := by
 have hm := lmg hx
 have hi := znf hs hx
 have hcls : zkd x.Op = [2, 3, 3] := by
  rcases (by omega : x.Op = 2 ∨ x.Op = 3 ∨ x.Op = 4 ∨ x.Op = 5 ∨ x.Op = 6) with e | e | e | e | e <;> rw [e] <;> rfl
 obtain ⟨a0, b0, c0⟩ := zge h hm (k := 0) (c := 2) (by rw [hcls]; rfl)
 obtain ⟨a1, b1, c1⟩ := zge h hm (k := 1) (c := 3) (by rw [hcls]; rfl)
 obtain ⟨a2, b2, c2⟩ := zge h hm (k := 2) (c := 3) (by rw [hcls]; rfl)
 have c0 : (isS (og p.zA (ai x 0)).Kind && zdr (og p.zA (ai x 0))) = true := c0
 have c1 : (isD (og p.zA (ai x 1)).Kind && zdr (og p.zA (ai x 1))) = true := c1
 have c2 : (isD (og p.zA (ai x 2)).Kind && zdr (og p.zA (ai x 2))) = true := c2
 rw [Bool.and_eq_true] at c0 c1 c2
 have a0 : idx x.Args 0 = some ((ai x 0 : Nat) : Int) := a0
 have a1 : idx x.Args 1 = some ((ai x 1 : Nat) : Int) := a1
 have a2 : idx x.Args 2 = some ((ai x 2 : Nat) : Int) := a2
 have w1 : w6 (x.Op - 2) = x.Op - 2 := w6e
 have w2 : w6 (x.Op - 2 + 0) = x.Op - 2 := by rw [Int.add_zero]; exact w1
 have hel : (([0, 1, 2, 3, 4] : List Int)[(x.Op - 2).toNat]?) = some (x.Op - 2) := by
  rcases (by omega : x.Op = 2 ∨ x.Op = 3 ∨ x.Op = 4 ∨ x.Op = 5 ∨ x.Op = 6) with e | e | e | e | e <;> rw [e] <;> rfl
 have hpart : zu3 N p s (z0h p s x) (zed N (mI p s 0) (x.Op - 2) x.Args)
  ((zb9 N p s ((ai x 1 : Nat) : Int)).bind fun r11 => cond (r11.2 != 0) (some (r11.2, s)) ((zb9 N p s ((ai x 2 : Nat) : Int)).bind fun r15 => cond (r15.2 != 0) (some (r15.2, s))
   ((zg9 N (⟨x.Op - 2, (og p.zA (ai x 0)).zK, false⟩ : zS) r11.1 r15.1).bind fun r18 => zu4 N p s (ai x 0) r18))) := by
  unfold z0h zed; rw [a0, a1, a2]; simp only [obs]; rcases zsr N (by omega) h hs.sto b1 c1.1 c1.2 with ⟨e, k, he, h1, h2, h3⟩ | ⟨n, h1, h2, h3, h4⟩
  · left; rw [h1, h2, h3]; simp only [obs]; rw [z66 N (by omega) h hs.sto b2 c2.1 (show e ≠ 0 by omega)]; simp only [obs, show (mI p s e).raised = e from rfl, zd1, dct (show e ≠ 0 by omega), ctr]; exact ⟨e, s, by omega, rfl, rfl, rfl⟩
  · rw [h1, h2, h3]; simp only [obs, bsf, cfa]; rcases zsr N (by omega) h hs.sto b2 c2.1 c2.2 with ⟨e, k, he, g1, g2, g3⟩ | ⟨n2, g1, g2, g3, g4⟩
    · left; rw [g1, g2, g3]; simp only [obs, show (mI p s e).raised = e from rfl, zd1, dct (show e ≠ 0 by omega), ctr]; exact ⟨e, s, by omega, rfl, rfl, rfl⟩
    · rw [g1, g2, g3]; simp only [obs, show (mI p s 0).raised = 0 from rfl, show (mI p s 0).zB = p from rfl, bsf, cfa]; rw [zjb b0]; simp only [obs]; exact zacx N (by omega) h hs.sto (by omega) b0 c0.1 c0.2 h4 g4
 refine zvl N h hs hpart ?_ ?_ ?_
 · unfold zhz; rcases (by omega : x.Op = 2 ∨ x.Op = 3 ∨ x.Op = 4 ∨ x.Op = 5 ∨ x.Op = 6) with e | e | e | e | e <;> rw [e] <;> rfl
 · unfold zd; rw [w1, w2]; rcases (by omega : x.Op = 2 ∨ x.Op = 3 ∨ x.Op = 4 ∨ x.Op = 5 ∨ x.Op = 6) with e | e | e | e | e <;> simp only [e, Int.reduceBEq, ctr, cfa, obs] <;> rfl
 · unfold zab ziz; rw [hi, ze8 N (by omega) h.ok]; simp only [obs, a0, a1, a2, w1, hel, ifp (show 0 ≤ x.Op - 2 by omega), ifp (show x.Op - 2 < (([0, 1, 2, 3, 4] : List Int).length : Int) by show x.Op - 2 < 5; omega), zjb b0]; rcases (by omega : x.Op = 2 ∨ x.Op = 3 ∨ x.Op = 4 ∨ x.Op = 5 ∨ x.Op = 6) with e | e | e | e | e <;> simp only [e, Int.reduceBEq, ctr, cfa, obs] <;> rfl
end
section
variable {p : zB} {s : zC}
theorem zadv (N : Nat) (hN : 20000 < N) (h : ProgV p) (hs : StoP p s.Storage) {x : zI} (hop : x.Op = 7 ∨ x.Op = 8) (a0 : idx x.Args 0 = some ((ai x 0 : Nat) : Int)) (a1 : idx x.Args 1 = some ((ai x 1 : Nat) : Int))
 (b0 : ai x 0 < p.zA.length) (b1 : ai x 1 < p.zA.length) (c0 : isD (og p.zA (ai x 0)).Kind = true) (c1 : isD (og p.zA (ai x 1)).Kind = true) (cn : zdr (og p.zA (ai x 1)) = zdr (og p.zA (ai x 0))) :
 (∃ e o k, (1 ≤ e ∧ e ≤ 5) ∧ z2l p s x = .error e ∧ zdn N (mI p s 0) ((ai x 0 : Nat) : Int) ((ai x 1 : Nat) : Int) = some (o, mI p s e) ∧ zi0 N p s x = some (k, e)) ∨
 ∃ o, z2l p s x = .ok o ∧ zdn N (mI p s 0) ((ai x 0 : Nat) : Int) ((ai x 1 : Nat) : Int) = some (o, mI p s 0) ∧ zi0 N p s x = some (zu0 x.Op o, 0) := by
 have hcond : ∀ o : Int, (cond (x.Op == 7) (some ((o == 0), (0 : Int))) (some (decide (o < 0), 0))) = some (zu0 x.Op o, 0) := fun o => by
  unfold zu0; rcases hop with e | e <;> rw [e]
  · rw [ifp rfl, zcn o]; rfl
  · rw [ifn (by decide)]; rfl
 unfold z2l zdn zi0
 rw [show (mI p s 0).zB = p from rfl, zjb b0, a0, a1]
 simp only [obs, zzw]
 rw [zvt h b0 c0]
 simp only [obs]
 show (∃ e o k, _ ∧ (if zdr (og p.zA (ai x 0)) = true then _ else _) = _ ∧ _ ∧ _) ∨ ∃ o, (if zdr (og p.zA (ai x 0)) = true then _ else _) = _ ∧ _ ∧ _
 cases hn : zdr (og p.zA (ai x 0)) with
 | true =>
  rw [hn] at cn; simp only [if_true, ctr]; rcases zsr N (by omega) h hs b0 c0 hn with ⟨e, k, he, h1, h2, h3⟩ | ⟨n, h1, h2, h3, h4⟩
  · left; rw [h1, h2, h3]; simp only [obs]; rw [z66 N (by omega) h hs b1 c1 (show e ≠ 0 by omega)]; simp only [obs]; rw [zxt N (by omega) ztv ztv, zd1, dct (show e ≠ 0 by omega)]; exact ⟨e, _, false, by omega, rfl, rfl, rfl⟩
  · rw [h1, h2, h3]; simp only [obs, bsf, cfa]; rcases zsr N (by omega) h hs b1 c1 cn with ⟨e, k, he, g1, g2, g3⟩ | ⟨n2, g1, g2, g3, g4⟩
    · left; rw [g1, g2, g3]; simp only [obs]; rw [zxt N (by omega) h4 ztv, zd1, dct (show e ≠ 0 by omega)]; exact ⟨e, _, false, by omega, rfl, rfl, rfl⟩
    · right; rw [g1, g2, g3]; simp only [obs, bsf, cfa]; rw [zxt N (by omega) h4 g4, zadp N (by omega) h4 g4]; simp only [obs, hcond]; exact ⟨_, rfl, rfl, rfl⟩
 | false =>
  simp only [Bool.false_eq_true, if_false, cfa]; have z0 := zf3 ((zmq h.ok b0).ty c0).1; have z1 := zf3 ((zmq h.ok b1).ty c1).1; rcases zye N (by omega) h hs b0 c0 with ⟨e, k, he, h1, h2, h3⟩ | ⟨b, h1, h2, h3, h4⟩
  · left; obtain ⟨b', g1, g2⟩ := z7z N (by omega) h hs b1 c1 (show e ≠ 0 by omega); rw [h1, h2, h3]; simp only [obs]; rw [g1]; simp only [obs]; rw [z9g _ _ (by decide) (by omega), zd1, dct (show e ≠ 0 by omega)]; exact ⟨e, _, false, by omega, rfl, rfl, rfl⟩
  · rw [h1, h2, h3]; simp only [obs, bsf, cfa]; rcases zye N (by omega) h hs b1 c1 with ⟨e, k, he, g1, g2, g3⟩ | ⟨b2, g1, g2, g3, g4⟩
    · left; rw [g1, g2, g3]; simp only [obs]; rw [z9g _ _ (by omega) (by decide), zd1, dct (show e ≠ 0 by omega)]; exact ⟨e, _, false, by omega, rfl, rfl, rfl⟩
    · right; rw [g1, g2, g3]; simp only [obs, bsf, cfa]; rw [z9g _ _ (by omega) (by omega), zaf7 N (by omega) b b2 (by omega) (by omega) (fun o => cond (x.Op == 7) (some ((o == 0), (0 : Int))) (some (decide (o < 0), 0))), hcond]; exact ⟨_, rfl, rfl, rfl⟩
theorem z9d (h : ProgV p) {i : Nat} (hi : i < p.zA.length) (hk : (og p.zA i).Kind = 5) : 0 ≤ (og p.zA i).Target ∧ (og p.zA i).Target < (p.zF.length : Int) := (zmq h.ok hi).tg hk
theorem zzv (i : Nat) (hi : i < p.zA.length) (e : Int) : zc0 (mI p s e) (i : Int) = some (og p.zA i).Target := by
 unfold zc0
 rw [show (mI p s e).zB = p from rfl, zjb hi]
 rfl
theorem zafi (N : Nat) (hN : 20000 < N) (h : ProgV p) (hs : StI p s) {x : zI} (hx : p.zF[s.At.toNat]? = some x) (hop : x.Op = 7 ∨ x.Op = 8) : ziw N p s x := by
 have hm := lmg hx
 have hi := znf hs hx
 have q0 := hs.at0
 have q1 := hs.at1
 have i40 := h.i40
 have wn1 : w6 (s.At + 1) = s.At + 1 := w6e
 have hcls : zkd x.Op = [1, 4, 6] := by rcases hop with e | e <;> rw [e] <;> rfl
 obtain ⟨a0, b0, c0⟩ := zge h hm (k := 0) (c := 1) (by rw [hcls]; rfl)
 obtain ⟨a1, b1, c1⟩ := zge h hm (k := 1) (c := 4) (by rw [hcls]; rfl)
 obtain ⟨a2, b2, c2⟩ := zge h hm (k := 2) (c := 6) (by rw [hcls]; rfl)
 have c0 : isD (og p.zA (ai x 0)).Kind = true := c0
 have c1 : (isD (og p.zA (ai x 1)).Kind && (zdr (og p.zA (ai x 1)) == zdr (og p.zA (ai x 0)))) = true := c1
 have c2 : decide ((og p.zA (ai x 2)).Kind = 5) = true := c2
 rw [Bool.and_eq_true] at c1
 have cn := eq_of_beq c1.2
 have lt := z9d h b2 (of_decide_eq_true c2)
 have a0 : idx x.Args 0 = some ((ai x 0 : Nat) : Int) := a0
 have a1 : idx x.Args 1 = some ((ai x 1 : Nat) : Int) := a1
 have a2 : idx x.Args 2 = some ((ai x 2 : Nat) : Int) := a2
 have hex : zhz p s x = (match z2l p s x with | .error e => .error e | .ok o => .ok (cond (zu0 x.Op o) (oa p x 2).Target (s.At + 1), s)) := by
  unfold zhz; rcases hop with e | e <;> rw [e] <;> rfl
 have hpr : zd N (mI p s 0) x = (zdn N (mI p s 0) ((ai x 0 : Nat) : Int) ((ai x 1 : Nat) : Int)).bind fun r10 => cond (zu0 x.Op r10.1) ((zc0 r10.2 ((ai x 2 : Nat) : Int)).bind fun r15 => some (r15, r10.2)) (some (s.At + 1, r10.2)) := by
  unfold zd zu0; rcases hop with e | e <;> simp only [e, Int.reduceBEq, ctr, cfa, obs, a0, a1, a2, show (mI p s 0).zC = s from rfl, wn1]
  · congr 1
    funext r
    rw [ifp trivial, zcn]; cases decide (r.1 = 0) <;> rfl
  · congr 1
 have hrf : zab N p s = (zi0 N p s x).bind fun r6 => cond (r6.2 != 0) (some (0, r6.2, s)) (cond r6.1 (some ((og p.zA (ai x 2)).Target, 0, s)) (some (s.At + 1, 0, s))) := by
  unfold zab; rw [hi, ze8 N (by omega) h.ok]; rcases hop with e | e <;> simp only [e, Int.reduceBEq, ctr, cfa, obs, a2, zjb b2, wn1]
 unfold ziw
 rw [hex, hpr, hrf]
 rcases zadv N hN h hs.sto hop a0 a1 b0 b1 c0 c1.1 cn with ⟨e, o, k, he, h1, h2, h3⟩ | ⟨o, h1, h2, h3⟩
 · left; rw [h1, h2, h3]; simp only [obs, zd1, dct (show e ≠ 0 by omega), ctr]; rw [zzv _ b2]; cases zu0 x.Op o
   · exact ⟨e, _, _, _, rfl, by omega, rfl, rfl⟩
   · exact ⟨e, _, _, _, rfl, by omega, rfl, rfl⟩
 · right; rw [h1, h2, h3]; simp only [obs, bsf, cfa]; rw [zzv _ b2]; cases zu0 x.Op o
   · exact ⟨_, _, _, rfl, rfl, rfl, fun _ => ⟨rfl, by show 0 ≤ s.At + 1; omega, by show s.At + 1 ≤ _; omega⟩, hs, rfl, rfl, rfl⟩
   · exact ⟨_, _, _, rfl, rfl, rfl, fun _ => ⟨rfl, by show 0 ≤ (og p.zA (ai x 2)).Target; omega, by show (og p.zA (ai x 2)).Target ≤ _; omega⟩, hs, rfl, rfl, rfl⟩
theorem zagw (N : Nat) (hN : 20000 < N) (h : ProgV p) (hs : StI p s) {x : zI} (hx : p.zF[s.At.toNat]? = some x) (hop : x.Op = 9) : ziw N p s x := by
 have hm := lmg hx
 have hi := znf hs hx
 obtain ⟨a0, b0, c0⟩ := zge h hm (k := 0) (c := 6) (by rw [hop]; rfl)
 have c0 : decide ((og p.zA (ai x 0)).Kind = 5) = true := c0
 have lt := z9d h b0 (of_decide_eq_true c0)
 have a0 : idx x.Args 0 = some ((ai x 0 : Nat) : Int) := a0
 right
 refine ⟨(og p.zA (ai x 0)).Target, (og p.zA (ai x 0)).Target, s, by unfold zhz; rw [hop]; rfl, ?_, ?_, fun _ => ⟨rfl, by omega, by omega⟩, hs, rfl, rfl, rfl⟩
 · unfold zd; simp only [hop, Int.reduceBEq, ctr, cfa, obs, a0]; rw [zzv _ b0]; rfl
 · unfold zab; rw [hi, ze8 N (by omega) h.ok]; simp only [hop, Int.reduceBEq, ctr, cfa, obs, a0, zjb b0]
theorem zyg (N : Nat) (hN : 2000 < N) (h : ProgV p) (hs : StoP p s.Storage) {i : Nat} (hi : i < p.zA.length) (h3 : (og p.zA i).Kind = 3) (o : Nat) (ho : o ≤ 16777215) :
 zc1 N s.Storage (ze0 p.zA i) (zka o) = some (stV s.Storage (ze0 p.zA i).toNat o, 0) ∧ zhm N s.Storage (ze0 p.zA i) (zka o) = some (stV s.Storage (ze0 p.zA i).toNat o) ∧ StoP p (stV s.Storage (ze0 p.zA i).toNat o) := by
 obtain ⟨q, l0, l1, l2⟩ := zx5 h hi h3 hs
 refine ⟨zac7 N hN hs.sto q o ho, zadi N hN hs.sto q o ho, ⟨zaf2 hs.sto (by omega) (by omega) ho, by rw [zadb (by omega)]; exact hs.size⟩⟩
theorem zafr (N : Nat) (hN : 20000 < N) (h : ProgV p) (hs : StI p s) {x : zI} (hx : p.zF[s.At.toNat]? = some x) (hop : x.Op = 10) : ziw N p s x := by
 have hm := lmg hx
 have hi := znf hs hx
 have q0 := hs.at0
 have q1 := hs.at1
 have i40 := h.i40
 have wn1 : w6 (s.At + 1) = s.At + 1 := w6e
 have hl := hs.sto.sto.le
 obtain ⟨a0, b0, c0⟩ := zge h hm (k := 0) (c := 5) (by rw [hop]; rfl)
 obtain ⟨a1, b1, c1⟩ := zge h hm (k := 1) (c := 0) (by rw [hop]; rfl)
 have c0 : decide ((og p.zA (ai x 0)).Kind = 3) = true := c0
 have c0 := of_decide_eq_true c0
 have c1 : isS (og p.zA (ai x 1)).Kind = true := c1
 have a0 : idx x.Args 0 = some ((ai x 0 : Nat) : Int) := a0
 have a1 : idx x.Args 1 = some ((ai x 1 : Nat) : Int) := a1
 have hz := zf3 ((zmq h.ok b1).ty (zuw c1)).1
 have hex : zhz p s x = zq0 s (match adI p s.Storage (ai x 1) with | .error e => .error e | .ok a => .ok (mS s (stV s.Storage (ze0 p.zA (ai x 0)).toNat a.toNat))) := by unfold zhz; rw [hop]; rfl
 have hpr : zd N (mI p s 0) x = (zem N (mI p s 0) x.Args).bind fun r => some (s.At + 1, r) := by
  unfold zd; simp only [hop, Int.reduceBEq, ctr, cfa, obs, show (mI p s 0).zC = s from rfl, wn1]
 have hrf : zab N p s = (zcc N p s ((ai x 1 : Nat) : Int)).bind fun r12 => cond (r12.2 != 0) (some (0, r12.2, s)) ((zhm N s.Storage (ze0 p.zA (ai x 0)) (⟨0, (⟨1, r12.1⟩ : Address), 0⟩ : Pointer)).bind fun r15 => some (s.At + 1, 0, mS s r15)) := by
  unfold zab; rw [hi, ze8 N (by omega) h.ok]; simp only [hop, Int.reduceBEq, ctr, cfa, obs, a0, a1, zpm b0, wn1]; rfl
 unfold ziw
 rw [hex, hpr, hrf]
 unfold zem
 rw [a0, a1]
 simp only [obs]
 rcases z6p N (by omega) h hs.sto b1 c1 with ⟨e, j, k, he, h1, h2, h3⟩ | ⟨a, h1, h2, h3, h4, h5⟩
 · left; rw [h1, h2, h3]; simp only [obs, show (mI p s e).raised = e from rfl, zcn, zd1, dct (show e ≠ 0 by omega), dcf (show ¬ e = 0 by omega), ctr, cfa]; exact ⟨e, _, _, _, rfl, by omega, rfl, rfl⟩
 · right; obtain ⟨a, rfl⟩ : ∃ k : Nat, a = (k : Int) := ⟨a.toNat, by omega⟩; obtain ⟨g1, g2, g3⟩ := zyg N (by omega) h hs.sto b0 c0 a (by omega); rw [h1, h2, h3]; simp only [obs, show (mI p s 0).raised = 0 from rfl, show (mI p s 0).layout = zt8 p.zA from rfl, show (mI p s 0).zC = s from rfl, bst, bsf, ctr, cfa]; rw [zpm b0]; simp only [obs]; rw [show (⟨0, (⟨1, (a : Int)⟩ : Address), 0⟩ : Pointer) = zka a from rfl, g1, g2]; exact ⟨_, _, _, rfl, rfl, rfl, fun _ => ⟨rfl, by omega, by omega⟩, hs.S g3, rfl, rfl, rfl⟩
theorem zafq (N : Nat) (hN : 20000 < N) (h : ProgV p) (hs : StI p s) {x : zI} (hx : p.zF[s.At.toNat]? = some x) (hop : x.Op = 11) : ziw N p s x := by
 have hm := lmg hx
 have hi := znf hs hx
 have q0 := hs.at0
 have q1 := hs.at1
 have i40 := h.i40
 have wn1 : w6 (s.At + 1) = s.At + 1 := w6e
 obtain ⟨a0, b0, c0⟩ := zge h hm (k := 0) (c := 5) (by rw [hop]; rfl)
 obtain ⟨a1, b1, c1⟩ := zge h hm (k := 1) (c := 5) (by rw [hop]; rfl)
 have c0 : decide ((og p.zA (ai x 0)).Kind = 3) = true := c0
 have c0 := of_decide_eq_true c0
 have c1 : decide ((og p.zA (ai x 1)).Kind = 3) = true := c1
 have c1 := of_decide_eq_true c1
 have a0 : idx x.Args 0 = some ((ai x 0 : Nat) : Int) := a0
 have a1 : idx x.Args 1 = some ((ai x 1 : Nat) : Int) := a1
 have hex : zhz p s x = zq0 s (match ldV s.Storage (ze0 p.zA (ai x 1)) with | none => .error 4 | some o => .ok (mS s (stV s.Storage (ze0 p.zA (ai x 0)).toNat o.toNat))) := by unfold zhz; rw [hop]; rfl
 have hpr : zd N (mI p s 0) x = (zds N (mI p s 0) x.Args).bind fun r => some (s.At + 1, r) := by
  unfold zd; simp only [hop, Int.reduceBEq, ctr, cfa, obs, show (mI p s 0).zC = s from rfl, wn1]
 have hrf : zab N p s = (zfw N s.Storage (ze0 p.zA (ai x 1))).bind fun r18 => cond (r18.2 != 0) (some (0, 4, s)) ((zhm N s.Storage (ze0 p.zA (ai x 0)) r18.1).bind fun r21 => some (s.At + 1, 0, mS s r21)) := by
  unfold zab; rw [hi, ze8 N (by omega) h.ok]; simp only [hop, Int.reduceBEq, ctr, cfa, obs, a0, a1, zpm b0, zpm b1, wn1]; rfl
 unfold ziw
 rw [hex, hpr, hrf]
 unfold zds
 rw [a0, a1]
 simp only [obs]
 rw [zv6 N (by omega) h hs.sto b1 c1, z50 N (by omega) hs.sto.sto (zx5 h b1 c1 hs.sto).1]
 cases hld : ldV s.Storage (ze0 p.zA (ai x 1)) with
 | none => exact .inl ⟨4, _, _, _, rfl, by decide, rfl, rfl⟩
 | some o =>
  right; have ho := z1x hs.sto.sto hld; obtain ⟨o, rfl⟩ : ∃ k : Nat, o = (k : Int) := ⟨o.toNat, by omega⟩; obtain ⟨g1, g2, g3⟩ := zyg N (by omega) h hs.sto b0 c0 o (by omega); simp only [obs, show (mI p s 0).raised = 0 from rfl, show (mI p s 0).layout = zt8 p.zA from rfl, show (mI p s 0).zC = s from rfl, bst, bsf, ctr, cfa]; rw [zpm b0]; simp only [obs]; rw [g1, g2]; exact ⟨_, _, _, rfl, rfl, rfl, fun _ => ⟨rfl, by omega, by omega⟩, hs.S g3, rfl, rfl, rfl⟩
theorem zafp (N : Nat) (hN : 20000 < N) (h : ProgV p) (hs : StI p s) {x : zI} (hx : p.zF[s.At.toNat]? = some x) (hop : x.Op = 12) : ziw N p s x := by
 have hm := lmg hx
 have hi := znf hs hx
 have q0 := hs.at0
 have q1 := hs.at1
 have i40 := h.i40
 have wn1 : w6 (s.At + 1) = s.At + 1 := w6e
 obtain ⟨a0, b0, c0⟩ := zge h hm (k := 0) (c := 5) (by rw [hop]; rfl)
 obtain ⟨a1, b1, c1⟩ := zge h hm (k := 1) (c := 3) (by rw [hop]; rfl)
 have c0 : decide ((og p.zA (ai x 0)).Kind = 3) = true := c0
 have c0 := of_decide_eq_true c0
 have c1 : (isD (og p.zA (ai x 1)).Kind && zdr (og p.zA (ai x 1))) = true := c1
 rw [Bool.and_eq_true] at c1
 have a0 : idx x.Args 0 = some ((ai x 0 : Nat) : Int) := a0
 have a1 : idx x.Args 1 = some ((ai x 1 : Nat) : Int) := a1
 have hex : zhz p s x = zq0 s (match ldV s.Storage (ze0 p.zA (ai x 0)) with
  | none => .error 4
  | some o => match nuI p s.Storage (ai x 1) with
   | .error e => .error e
   | .ok n => if inB (o + zgu n) 0 16777215 = true then .ok (mS s (stV s.Storage (ze0 p.zA (ai x 0)).toNat (o + zgu n).toNat)) else .error 5) := by unfold zhz; rw [hop]; rfl
 have hpr : zd N (mI p s 0) x = (zev N (mI p s 0) x.Args).bind fun r => some (s.At + 1, r) := by
  unfold zd; simp only [hop, Int.reduceBEq, ctr, cfa, obs, show (mI p s 0).zC = s from rfl, wn1]
 have hrf : zab N p s = (zfw N s.Storage (ze0 p.zA (ai x 0))).bind fun r24 => cond (r24.2 != 0) (some (0, 4, s)) ((zb9 N p s ((ai x 1 : Nat) : Int)).bind fun r26 => cond (r26.2 != 0) (some (0, r26.2, s)) ((zkh N r26.1).bind fun r27 =>
  cond (!inB (w6 (r24.1.Address.Offset + r27)) 0 16777215) (some (0, 5, s)) ((zhm N s.Storage (ze0 p.zA (ai x 0)) (⟨r24.1.Kind, (⟨r24.1.Address.zT, (w6 (r24.1.Address.Offset + r27))⟩ : Address), r24.1.Authority⟩ : Pointer)).bind fun r31 => some (s.At + 1, 0, mS s r31)))) := by
  unfold zab; rw [hi, ze8 N (by omega) h.ok]; simp only [hop, Int.reduceBEq, ctr, cfa, obs, a0, a1, zpm b0, wn1, zie]; rfl
 unfold ziw
 rw [hex, hpr, hrf]
 unfold zev
 rw [a0, a1]
 simp only [obs]
 rw [zv6 N (by omega) h hs.sto b0 c0, z50 N (by omega) hs.sto.sto (zx5 h b0 c0 hs.sto).1]
 cases hld : ldV s.Storage (ze0 p.zA (ai x 0)) with
 | none => exact .inl ⟨4, _, _, _, rfl, by decide, rfl, rfl⟩
 | some o =>
  have ho := z1x hs.sto.sto hld; simp only [obs, show (mI p s 0).raised = 0 from rfl, bsf, cfa]; rcases zsr N (by omega) h hs.sto b1 c1.1 c1.2 with ⟨e, k, he, h1, h2, h3⟩ | ⟨n, h1, h2, h3, h4⟩
  · left; rw [h1, h2, h3]; simp only [obs]; rw [zzu N (by omega) ztv]; simp only [obs, show (mI p s e).raised = e from rfl, zd1, dct (show e ≠ 0 by omega), ctr]; exact ⟨e, _, _, _, rfl, by omega, rfl, rfl⟩
  · have hw := zwl h4; rw [h1, h2, h3]; simp only [obs, show (mI p s 0).raised = 0 from rfl, bsf, cfa]; rw [zzu N (by omega) h4, z4o N (by omega) h4]; simp only [obs, z2o, show (zka o).Address.Offset = o from rfl]; rw [w6e (n := o + zgu n)]; cases hin : inB (o + zgu n) 0 16777215 with
    | false => exact .inl ⟨5, _, _, _, rfl, by decide, rfl, rfl⟩
    | true =>
     right; have hr := zbj.1 hin; obtain ⟨q, hq⟩ : ∃ k : Nat, o + zgu n = (k : Int) := ⟨(o + zgu n).toNat, by omega⟩; obtain ⟨g1, g2, g3⟩ := zyg N (by omega) h hs.sto b0 c0 q (by omega); simp only [bnt, cfa, if_true, show (mI p s 0).zC = s from rfl]; rw [hq, show (⟨(zka o).Kind, (⟨(zka o).Address.zT, (q : Int)⟩ : Address), (zka o).Authority⟩ : Pointer) = zka q from rfl, g1, g2]; exact ⟨_, _, _, rfl, rfl, rfl, fun _ => ⟨rfl, by omega, by omega⟩, hs.S g3, rfl, rfl, rfl⟩
end
section
variable {p : zB} {s : zC}
theorem zafo (N : Nat) (hN : 20000 < N) (h : ProgV p) (hs : StI p s) {x : zI} (hx : p.zF[s.At.toNat]? = some x) (hop : x.Op = 13) : ziw N p s x := by
 have hm := lmg hx
 have hi := znf hs hx
 have q0 := hs.at0
 have q1 := hs.at1
 have st := hs.stk
 obtain ⟨a0, b0, c0⟩ := zge h hm (k := 0) (c := 6) (by rw [hop]; rfl)
 have c0 : decide ((og p.zA (ai x 0)).Kind = 5) = true := c0
 have lt := z9d h b0 (of_decide_eq_true c0)
 have a0 : idx x.Args 0 = some ((ai x 0 : Nat) : Int) := a0
 have hex : zhz p s x = if 6 ≤ s.Stack.length then .error 6 else .ok ((og p.zA (ai x 0)).Target, mK s (s.Stack ++ [s.At])) := by unfold zhz; rw [hop]; rfl
 have hpr : zd N (mI p s 0) x = (zgb (mI p s 0) (og p.zA (ai x 0)).Target).bind fun r => some (r.1, r.2) := by
  unfold zd; simp only [hop, Int.reduceBEq, ctr, cfa, obs, a0, zzv _ b0]
 have hrf : zab N p s = cond ((s.Stack.length : Int) == 6) (some (0, 6, s)) (cond (Nat.ble ((s.Stack.length + ([s.At] : List Int).length) * 8) zbr) (some ((og p.zA (ai x 0)).Target, 0, mK s (s.Stack ++ [s.At]))) none) := by
  unfold zab; rw [hi, ze8 N (by omega) h.ok]; simp only [hop, Int.reduceBEq, ctr, cfa, obs, a0, zjb b0]; rfl
 unfold ziw
 rw [hex, hpr, hrf]
 unfold zgb zki
 simp only [show (mI p s 0).zC = s from rfl, lns, zcn]
 by_cases h6 : 6 ≤ s.Stack.length
 · left; rw [ifp h6, dct (show (s.Stack.length : Int) ≥ 6 by omega), dct (show (s.Stack.length : Int) = 6 by omega)]; exact ⟨6, _, _, _, rfl, by decide, rfl, rfl⟩
 · right; rw [ifn h6, dcf (show ¬ (s.Stack.length : Int) ≥ 6 by omega), dcf (show ¬ (s.Stack.length : Int) = 6 by omega), za3 (by omega), za3 (by omega)]; simp only [cfa, ctr, obs]; rw [za3 (by omega)]; refine ⟨_, _, _, rfl, rfl, rfl, fun _ => ⟨rfl, by omega, by omega⟩, hs.K (by rw [lna, lns]; omega) (fun i hi => ?_), rfl, rfl, rfl⟩; rcases List.mem_append.1 hi with g | g
   · exact hs.calls i g
   · rw [List.mem_singleton.1 g]; exact ⟨⟨q0, q1⟩, x, hx, hop⟩
theorem zafn (N : Nat) (hN : 20000 < N) (h : ProgV p) (hs : StI p s) {x : zI} (hx : p.zF[s.At.toNat]? = some x) (hop : x.Op = 14) : ziw N p s x := by
 have hi := znf hs hx
 have q0 := hs.at0
 have q1 := hs.at1
 have st := hs.stk
 have i40 := h.i40
 have hex : zhz p s x = if s.Stack.length = 0 then .ok (s.At, mT s 1) else .ok (s.Stack.getD (s.Stack.length - 1) 0 + 1, mK s (s.Stack.take (s.Stack.length - 1))) := by unfold zhz; rw [hop]; rfl
 have hpr : zd N (mI p s 0) x = (zgc (mI p s 0)).bind fun r => some (r.1, r.2) := by
  unfold zd; simp only [hop, Int.reduceBEq, ctr, cfa, obs]
 unfold ziw zab
 rw [hex, hpr, hi, ze8 N (by omega) h.ok]
 simp only [hop, Int.reduceBEq, ctr, cfa, obs]
 unfold zgc
 simp only [show (mI p s 0).zC = s from rfl, zcn]
 right
 by_cases h0 : s.Stack.length = 0
 · rw [ifp h0, dct (show (s.Stack.length : Int) = 0 by omega)]; exact ⟨_, _, _, rfl, rfl, rfl, fun h => (by cases h), hs.T (by decide) (by decide), rfl, rfl, rfl⟩
 · rw [ifn h0, dcf (show ¬ (s.Stack.length : Int) = 0 by omega)]; simp only [cfa]; have wl : w6 ((s.Stack.length : Int) - 1) = ((s.Stack.length - 1 : Nat) : Int) := by rw [w6e]; omega
   have hg : s.Stack[s.Stack.length - 1]? = some (s.Stack.getD (s.Stack.length - 1) 0) := by
    rw [gdd, lge (by omega)]; rfl
   have hc := hs.calls _ (lmg hg); have wn : w6 (s.Stack.getD (s.Stack.length - 1) 0 + 1) = s.Stack.getD (s.Stack.length - 1) 0 + 1 := w6e; have k1 : 0 ≤ ((s.Stack.length - 1 : Nat) : Int) ∧ ((s.Stack.length - 1 : Nat) : Int) ≤ (s.Stack.length : Int) := by omega
   have k2 : 0 ≤ (0 : Int) ∧ (0 : Int) ≤ ((s.Stack.length - 1 : Nat) : Int) := by omega
   have k3 : 0 ≤ ((s.Stack.length - 1 : Nat) : Int) := by omega
   have k4 : ((s.Stack.length - 1 : Nat) : Int) < (s.Stack.length : Int) := by omega
   simp only [wl, zai, itn, hg, obs, ifp k1, ifp k2, ifp k3, ifp k4, wn]; unfold zki; rw [show (s.Stack.take (s.Stack.length - 1)).drop (0 : Int).toNat = s.Stack.take (s.Stack.length - 1) from rfl, za3 (by rw [lnt]; omega)]; refine ⟨_, _, _, rfl, rfl, rfl, fun _ => ⟨rfl, by omega, by omega⟩, hs.K (by rw [lnt]; omega) (fun i hi => hs.calls i (List.mem_of_mem_take hi)), rfl, rfl, rfl⟩
theorem zafm (N : Nat) (hN : 20000 < N) (h : ProgV p) (hs : StI p s) {x : zI} (hx : p.zF[s.At.toNat]? = some x) (hop : x.Op = 15) : ziw N p s x := by
 have hm := lmg hx
 have hi := znf hs hx
 obtain ⟨a0, b0, c0⟩ := zge h hm (k := 0) (c := 3) (by rw [hop]; rfl)
 have c0 : (isD (og p.zA (ai x 0)).Kind && zdr (og p.zA (ai x 0))) = true := c0
 rw [Bool.and_eq_true] at c0
 have a0 : idx x.Args 0 = some ((ai x 0 : Nat) : Int) := a0
 have hex : zhz p s x = (match nuI p s.Storage (ai x 0) with | .error e => .error e | .ok n => if inB (zgu n) 100 999 = true then .error (zgu n) else .error 2) := by unfold zhz; rw [hop]; rfl
 have hpr : zd N (mI p s 0) x = (zfg N (mI p s 0) ((ai x 0 : Nat) : Int)).bind fun r => some (w6 (s.At + 1), r) := by
  unfold zd; simp only [hop, Int.reduceBEq, ctr, cfa, obs, a0]; rfl
 have hrf : zab N p s = (zb9 N p s ((ai x 0 : Nat) : Int)).bind fun r36 => cond (r36.2 != 0) (some (0, r36.2, s)) ((zkh N r36.1).bind fun r37 => cond (inB r37 100 999) (some (0, r37, s)) (some (0, 2, s))) := by
  unfold zab; rw [hi, ze8 N (by omega) h.ok]; simp only [hop, Int.reduceBEq, ctr, cfa, obs, a0, zie]
 unfold ziw
 rw [hex, hpr, hrf]
 unfold zfg
 left
 rcases zsr N (by omega) h hs.sto b0 c0.1 c0.2 with ⟨e, k, he, h1, h2, h3⟩ | ⟨n, h1, h2, h3, h4⟩
 · rw [h1, h2, h3]; simp only [obs]; rw [zzu N (by omega) ztv]; simp only [obs, z2o]; rw [zvf p s (show e ≠ 0 by omega), zvf p s (show e ≠ 0 by omega), zd1, dct (show e ≠ 0 by omega)]; exact ⟨e, _, _, _, rfl, by omega, by cases inB (zgu ⟨0, 0⟩) 100 999 <;> rfl, rfl⟩
 · have hw := zwl h4; rw [h1, h2, h3]; simp only [obs, bsf, cfa]; rw [zzu N (by omega) h4, z4o N (by omega) h4]; simp only [obs, z2o, z7g]; cases hin : inB (zgu n) 100 999 with
   | true =>
    have := zbj.1 hin; exact ⟨zgu n, _, _, _, rfl, by omega, rfl, rfl⟩
   | false => exact ⟨2, _, _, _, rfl, by omega, rfl, rfl⟩
theorem zafl (N : Nat) (hN : 20000 < N) (h : ProgV p) (hs : StI p s) {x : zI} (hx : p.zF[s.At.toNat]? = some x) (hop : x.Op = 16) : ziw N p s x := by
 have hm := lmg hx
 have hi := znf hs hx
 have e0 := hs.ex0
 have e1 := hs.ex1
 obtain ⟨a0, b0, c0⟩ := zge h hm (k := 0) (c := 2) (by rw [hop]; rfl)
 have c0 : (isS (og p.zA (ai x 0)).Kind && zdr (og p.zA (ai x 0))) = true := c0
 rw [Bool.and_eq_true] at c0
 have a0 : idx x.Args 0 = some ((ai x 0 : Nat) : Int) := a0
 have hn : zd6 ⟨s.Exception, 0⟩ := ⟨⟨by show -999999999999999 ≤ s.Exception; omega, by show s.Exception ≤ 999999999999999; omega⟩, (by show (0 : Int) ≤ 0; decide), (by show (0 : Int) ≤ 15; decide)⟩
 refine zvl N h hs (z7q N (by omega) h hs.sto b0 c0.1 c0.2 hn false) (by unfold zhz; rw [hop]; rfl) ?_ ?_
 · unfold zd; simp only [hop, Int.reduceBEq, ctr, cfa, obs, a0, show (mI p s 0).zC = s from rfl, show (mI p s 0).zB = p from rfl, zjb b0]; cases zef N (⟨s.Exception, 0⟩ : Number) (og p.zA (ai x 0)).zK false with
   | none => rfl
   | some r =>
    simp only [obs]; cases zas N (mI p s 0) ((ai x 0 : Nat) : Int) r.1 r.2 <;> rfl
 · unfold zab; rw [hi, ze8 N (by omega) h.ok]; simp only [hop, Int.reduceBEq, ctr, cfa, obs, a0]
theorem zabt (N : Nat) (hN : 20000 < N) (h : ProgV p) (hs : StoP p s.Storage) {i : Nat} (hi : i < p.zA.length) (hk : isD (og p.zA i).Kind = true) :
 (∃ e l k, (1 ≤ e ∧ e ≤ 5) ∧ z4k p s i = .error e ∧ zeu N (mI p s 0) (i : Int) = some (l, mI p s e) ∧ zm2 N p s (i : Int) = some (k, e)) ∨
 ∃ l, z4k p s i = .ok l ∧ zeu N (mI p s 0) (i : Int) = some (l, mI p s 0) ∧ zm2 N p s (i : Int) = some (l, 0) ∧ l.size ≤ 256 := by
 unfold z4k zeu zm2
 rw [show (mI p s 0).zB = p from rfl, zjb hi, zvt h hi hk]
 simp only [obs, zzw]
 cases hn : zdr (og p.zA i) with
 | true =>
  simp only [if_true, bnt, cfa]; rcases zsr N (by omega) h hs hi hk hn with ⟨e, k, he, h1, h2, h3⟩ | ⟨n, h1, h2, h3, h4⟩
  · left; rw [h1, h2, h3]; simp only [obs]; rw [z67 ztv, zd1, dct (show e ≠ 0 by omega)]; exact ⟨e, _, _, by omega, rfl, rfl, rfl⟩
  · right; rw [h1, h2, h3]; simp only [obs, bsf, cfa]; rw [z67 h4, zaex N (by omega) h4]; exact ⟨_, rfl, rfl, rfl, zaaw h4⟩
 | false =>
  simp only [Bool.false_eq_true, if_false, Bool.not_false, ctr]; have hz := zf3 ((zmq h.ok hi).ty hk).1; rcases zye N (by omega) h hs hi hk with ⟨e, k, he, h1, h2, h3⟩ | ⟨b, h1, h2, h3, h4⟩
  · left; rw [h1, h2, h3]; exact ⟨e, _, _, by omega, rfl, rfl, rfl⟩
  · right; rw [h1, h2, h3]; exact ⟨_, rfl, rfl, rfl, by omega⟩
theorem zafk (N : Nat) (hN : 20000 < N) (h : ProgV p) (hs : StI p s) {x : zI} (hx : p.zF[s.At.toNat]? = some x) (hop : x.Op = 17) : ziw N p s x := by
 have hm := lmg hx
 have hi := znf hs hx
 have q0 := hs.at0
 have q1 := hs.at1
 have i40 := h.i40
 have ln := hs.lines
 have wn1 : w6 (s.At + 1) = s.At + 1 := w6e
 obtain ⟨a0, b0, c0⟩ := zge h hm (k := 0) (c := 1) (by rw [hop]; rfl)
 have c0 : isD (og p.zA (ai x 0)).Kind = true := c0
 have a0 : idx x.Args 0 = some ((ai x 0 : Nat) : Int) := a0
 have hex : zhz p s x = (match z4k p s (ai x 0) with | .error e => .error e | .ok l => if s.Lines.length = 40 then .ok (s.At + 1, mT s 3) else .ok (s.At + 1, mL s (s.Lines ++ [l]))) := by unfold zhz; rw [hop]; rfl
 have hpr : zd N (mI p s 0) x = (zfq N (mI p s 0) ((ai x 0 : Nat) : Int)).bind fun r => some (s.At + 1, r) := by
  unfold zd; simp only [hop, Int.reduceBEq, ctr, cfa, obs, a0, show (mI p s 0).zC = s from rfl, wn1]
 have hrf : zab N p s = (zm2 N p s ((ai x 0 : Nat) : Int)).bind fun r42 => cond (r42.2 != 0) (some (0, r42.2, s)) (cond ((s.Lines.length : Int) == 40) (some (s.At + 1, 0, mT s 3))
  (cond (Nat.ble ((s.Lines.length + ([r42.1] : List ByteArray).length) * 16) zbr) (some (s.At + 1, 0, mL s (s.Lines ++ [r42.1]))) none)) := by
  unfold zab; rw [hi, ze8 N (by omega) h.ok]; simp only [hop, Int.reduceBEq, ctr, cfa, obs, a0, wn1]; rfl
 unfold ziw
 rw [hex, hpr, hrf]
 unfold zfq
 rcases zabt N hN h hs.sto b0 c0 with ⟨e, l, k, he, h1, h2, h3⟩ | ⟨l, h1, h2, h3, h4⟩
 · left; rw [h1, h2, h3]; simp only [obs, show (mI p s e).raised = e from rfl, zd1, dct (show e ≠ 0 by omega), ctr]; exact ⟨e, _, _, _, rfl, by omega, rfl, rfl⟩
 · right; rw [h1, h2, h3]; simp only [obs, show (mI p s 0).raised = 0 from rfl, show (mI p s 0).zC = s from rfl, bsf, cfa, zcn]
   by_cases h40 : s.Lines.length = 40
   · rw [ifp h40, dct (show (s.Lines.length : Int) = 40 by omega)]; exact ⟨_, _, _, rfl, rfl, rfl, fun h => (by cases h), hs.T (by decide) (by decide), rfl, rfl, rfl⟩
   · rw [ifn h40, dcf (show ¬ (s.Lines.length : Int) = 40 by omega)]; unfold zki; rw [za3 (by omega)]; simp only [ctr, cfa, obs, lns]; rw [za3 (by omega)]; exact ⟨_, _, _, rfl, rfl, rfl, fun _ => ⟨rfl, by omega, by omega⟩, hs.L (by omega) h4, rfl, rfl, rfl⟩
theorem zafj (N : Nat) (hN : 20000 < N) (h : ProgV p) (hs : StI p s) {x : zI} (hx : p.zF[s.At.toNat]? = some x) (hop : x.Op = 18) : ziw N p s x := by
 have hi := znf hs hx
 have q0 := hs.at0
 have q1 := hs.at1
 have i40 := h.i40
 have wn1 : w6 (s.At + 1) = s.At + 1 := w6e
 right
 refine ⟨s.At + 1, s.At + 1, mT s 1, by unfold zhz; rw [hop]; rfl, ?_, ?_, fun h => (by cases h), hs.T (by decide) (by decide), rfl, rfl, rfl⟩
 · unfold zd; simp only [hop, Int.reduceBEq, ctr, cfa, obs, show (mI p s 0).zC = s from rfl, wn1]; rfl
 · unfold zab; rw [hi, ze8 N (by omega) h.ok]; simp only [hop, Int.reduceBEq, ctr, cfa, obs, wn1]; rfl
theorem zaed (N : Nat) (hN : 20000 < N) (h : ProgV p) (hs : StI p s) {x : zI} (hx : p.zF[s.At.toNat]? = some x) : ziw N p s x := by
 have ho := zago h (lmg hx)
 rcases (by omega : x.Op = 0 ∨ x.Op = 1 ∨ (2 ≤ x.Op ∧ x.Op ≤ 6) ∨ (x.Op = 7 ∨ x.Op = 8) ∨ x.Op = 9 ∨ x.Op = 10 ∨ x.Op = 11 ∨ x.Op = 12 ∨ x.Op = 13 ∨ x.Op = 14 ∨ x.Op = 15 ∨ x.Op = 16 ∨ x.Op = 17 ∨ x.Op = 18) with e | e | e | e | e | e | e | e | e | e | e | e | e | e
 · exact zagy N hN h hs hx e
 · exact zagx N hN h hs hx e
 · exact zacz N hN h hs hx e
 · exact zafi N hN h hs hx e
 · exact zagw N hN h hs hx e
 · exact zafr N hN h hs hx e
 · exact zafq N hN h hs hx e
 · exact zafp N hN h hs hx e
 · exact zafo N hN h hs hx e
 · exact zafn N hN h hs hx e
 · exact zafm N hN h hs hx e
 · exact zafl N hN h hs hx e
 · exact zafk N hN h hs hx e
 · exact zafj N hN h hs hx e
end
section
variable {p : zB} {s : zC}
def zti (t : zN) (a e : Int) : Bool := inB a t.From (t.To - 1) && (decide (t.Exception = 0) || decide (t.Exception = e))
def z6e (p : zB) (a e : Int) : Option Nat := (List.range p.zL.length).findSome? fun i => (p.zL[i]?).bind fun t => if zti t a e = true then some i else none
def zix (p : zB) (a e : Int) : Int := match z6e p a e with | some i => (p.zL.getD i ⟨0, 0, 0, 0⟩).Handler | none => -1
theorem z7h {a e : Int} {i : Nat} (h : z6e p a e = some i) : ∃ t, p.zL[i]? = some t ∧ zti t a e = true := by
 obtain ⟨j, _, hj⟩ := eof h
 rw [Option.bind_eq_some_iff] at hj
 obtain ⟨t, ht, hj⟩ := hj
 split at hj
 · rename_i hh; cases hj; exact ⟨t, ht, hh⟩
 · cases hj
theorem z7c (h : ProgV p) {t : zN} (ht : t ∈ p.zL) : 0 ≤ t.From ∧ t.From < t.To ∧ t.To ≤ (p.zF.length : Int) ∧ 0 ≤ t.Handler ∧ t.Handler < (p.zF.length : Int) := by
 have := h.mon t ht
 unfold zzr at this
 simp only [Bool.and_eq_true, decide_eq_true_eq] at this
 obtain ⟨h1, h2, h3, h4, h5⟩ := this
 have := zbj.1 h5
 omega
theorem z6f (h : ProgV p) (a e : Int) : zix p a e = -1 ∨ (0 ≤ zix p a e ∧ zix p a e < (p.zF.length : Int)) := by
 unfold zix
 cases hi : z6e p a e with
 | none => exact .inl rfl
 | some i =>
  obtain ⟨t, ht, _⟩ := z7h hi; right; simp only []; rw [gdd, ht]; exact (z7c h (lmg ht)).2.2.2
theorem zaaj {β : Type} (f : Nat → β) (a e : Int) : (List.range p.zL.length).findSome? (fun i => ((p.zL[i]?).bind fun t => if zti t a e = true then some i else none).map f) = (z6e p a e).map f := by
 have key : ∀ l : List Nat, l.findSome? (fun i => ((p.zL[i]?).bind fun t => if zti t a e = true then some i else none).map f) = (l.findSome? (fun i => (p.zL[i]?).bind fun t => if zti t a e = true then some i else none)).map f := by
  intro l
  induction l with
  | nil => rfl
  | cons i l ih =>
   rw [List.findSome?_cons, List.findSome?_cons]; cases (p.zL[i]?).bind fun t => if zti t a e = true then some i else none with
   | none => exact ih
   | some j => rfl
 exact key _
theorem zabe (N : Nat) (hN : 20000 < N) (h : ProgV p) (a e : Int) : zjx N p a e = some (zix p a e) := by
 have m6 := h.m6
 have i40 := h.i40
 unfold zjx zo
 have l1 := zbh (f := zo.r0 N) (fun i => (p.zL, (p.zL.length : Int), (i : Int), a, e)) (fun i => ((p.zL[i]?).bind fun t => if zti t a e = true then some i else none).map fun i : Nat => (i : Int)) p.zL.length
  (fun i hi => by
   have hx := lge hi; have hf := z7c h (List.getElem_mem hi); simp only [zo.r0, zo.b0, zai, hx, obs, dct (show (i : Int) < (p.zL.length : Int) by omega), ctr]; have e1 : zhv p.zL[i] a e = some (zti p.zL[i] a e) := by
    unfold zhv zti; rw [w6e, z2o, zcn, zcn]; simp only [obs]; cases inB a p.zL[i].From (p.zL[i].To - 1) <;> cases decide (p.zL[i].Exception = 0) <;> cases decide (p.zL[i].Exception = e) <;> rfl
   rw [e1, w6e]; cases zti p.zL[i] a e <;> rfl)
  (by simp only [zo.r0, zo.b0, dcf (show ¬ (p.zL.length : Int) < (p.zL.length : Int) by omega), cfa]) (N := N) (by omega)
 simp only [nc0] at l1
 rw [l1, zaaj]
 unfold zix
 cases hi : z6e p a e with
 | none => rfl
 | some i =>
  obtain ⟨t, ht, _⟩ := z7h hi; simp only [Option.map_some, zb5, obs]; rw [dcf (show ¬ ((i : Nat) : Int) < 0 by omega), cfa, zai, ht, gdd, ht]; rfl
theorem z8m (N : Nat) (hN : 20000 < N) (h : ProgV p) (a e : Int) : zc4 N p a e = some (zix p a e) := by
 have m6 := h.m6
 unfold zc4
 have l1 := zbh (f := zc4.r0 N) (fun i => (a, e, (i : Int), p)) (fun i => ((p.zL[i]?).bind fun t => if zti t a e = true then some i else none).map fun i : Nat => (p.zL.getD i ⟨0, 0, 0, 0⟩).Handler) p.zL.length
  (fun i hi => by
   have hx := lge hi; simp only [zc4.r0, zc4.b0, zai, hx, obs, dct (show (i : Int) < (p.zL.length : Int) by omega), ctr]; have e1 : ((cond (decide (p.zL[i].From ≤ a)) (some (decide (a < p.zL[i].To))) (some false)).bind fun g1002 => (cond g1002 ((cond (p.zL[i].Exception == 0) (some true) (some (p.zL[i].Exception == e))).bind fun g1003 => some g1003) (some false))) = some (zti p.zL[i] a e) := by
    unfold zti inB; rw [zcn, zcn, show decide (a ≤ p.zL[i].To - 1) = decide (a < p.zL[i].To) by rw [decide_eq_decide]; omega]; cases decide (p.zL[i].From ≤ a) <;> cases decide (a < p.zL[i].To) <;> cases decide (p.zL[i].Exception = 0) <;> cases decide (p.zL[i].Exception = e) <;> rfl
   rw [← Option.bind_assoc, e1, w6e]; simp only [obs]; cases zti p.zL[i] a e with
   | false => rfl
   | true =>
    simp only [ctr, if_true, Option.map_some]; rw [gdd, hx]; rfl)
  (by simp only [zc4.r0, zc4.b0, dcf (show ¬ (p.zL.length : Int) < (p.zL.length : Int) by omega), cfa]) (N := N) (by omega)
 simp only [nc0] at l1
 rw [l1, zaaj]
 unfold zix
 cases z6e p a e <;> rfl
def zlw (p : zB) (e : Int) : Nat → zC → zC
 | 0, s => s
 | k + 1, s => if 0 ≤ zix p s.At e then mA s (zix p s.At e) else if s.Stack.length = 0 then mT s 2
  else zlw p e k (mK (mA s (s.Stack.getD (s.Stack.length - 1) 0)) (s.Stack.take (s.Stack.length - 1)))
theorem z28 (N : Nat) (hN : 20000 < N) (h : ProgV p) (e : Int) (he : e ≠ 0) (z : zC) : ∀ (k : Nat) (s : zC), StI p s → s.Stack.length < k → ∀ K : Nat, k ≤ K →
 zj (za2.r0 N) K (mI p s e) = some (.inl (mI p (zlw p e k s) e)) ∧ zj (zen.r0 N) K (e, p, s, z) = some (.inl (zlw p e k s)) ∧ StI p (zlw p e k s) ∧ (zlw p e k s).Steps = s.Steps ∧ (zlw p e k s).Exception = s.Exception ∧
 (zlw p e k s).Storage = s.Storage ∧ (zlw p e k s).Lines = s.Lines ∧ (s.Status = 0 → (zlw p e k s).Status = 0 ∨ (zlw p e k s).Status = 2)
 | 0, s, _, h, _, _ => by omega
 | k + 1, s, hs, hk, K, hK => by
  obtain ⟨K, rfl⟩ : ∃ J, K = J + 1 := ⟨K - 1, by omega⟩; have hh := zabe N hN h s.At e; have hr := z8m N hN h s.At e; have rg := z6f h s.At e; have h6 := hs.stk; simp only [zj, za2.r0, za2.b0, zen.r0, zen.b0]; simp only [show (mI p s e).zB = p from rfl, show (mI p s e).zC = s from rfl, show (mI p s e).raised = e from rfl, show (mI p s e).layout = zt8 p.zA from rfl]; rw [hh, hr]; simp only [obs]; unfold zlw
  by_cases h0 : 0 ≤ zix p s.At e
  · rw [ifp h0, dct (show zix p s.At e ≥ 0 by omega), zd1, dct (show zix p s.At e ≠ -1 by omega)]; exact ⟨rfl, rfl, hs.A h0 (by omega), rfl, rfl, rfl, rfl, fun h => .inl h⟩
  · rw [ifn h0, dcf (show ¬ zix p s.At e ≥ 0 by omega), zd1, dcf (show ¬ zix p s.At e ≠ -1 by omega), zcn]
    by_cases hz : s.Stack.length = 0
    · rw [ifp hz, dct (show (s.Stack.length : Int) = 0 by omega)]; exact ⟨rfl, rfl, hs.T (by omega) (by omega), rfl, rfl, rfl, rfl, fun _ => .inr rfl⟩
    · have wl : w6 ((s.Stack.length : Int) - 1) = ((s.Stack.length - 1 : Nat) : Int) := by rw [w6e]; omega
      have hg : s.Stack[s.Stack.length - 1]? = some (s.Stack.getD (s.Stack.length - 1) 0) := by rw [gdd, lge (by omega)]; rfl
      obtain ⟨hrr, _⟩ := hs.calls _ (lmg hg); have k1 : 0 ≤ ((s.Stack.length - 1 : Nat) : Int) ∧ ((s.Stack.length - 1 : Nat) : Int) ≤ (s.Stack.length : Int) := by omega
      have k2 : 0 ≤ (0 : Int) ∧ (0 : Int) ≤ ((s.Stack.length - 1 : Nat) : Int) := by omega
      rw [ifn hz, dcf (show ¬ (s.Stack.length : Int) = 0 by omega)]; simp only [cfa, wl, zai, hg, obs, ifp k1, ifp k2, itn]; unfold zki; rw [show (s.Stack.take (s.Stack.length - 1)).drop (0 : Int).toNat = s.Stack.take (s.Stack.length - 1) from rfl, za3 (by rw [lnt]; omega)]; simp only [ctr, obs]; have hs2 : StI p (mK (mA s (s.Stack.getD (s.Stack.length - 1) 0)) (s.Stack.take (s.Stack.length - 1))) := (hs.A hrr.1 hrr.2).K (by rw [lnt]; omega) fun i hi2 => hs.calls i (List.mem_of_mem_take hi2); exact z28 N hN h e he z k _ hs2 (by show (s.Stack.take (s.Stack.length - 1)).length < k; rw [lnt]; omega) K (by omega)
def zz2 (s : zC) : zC := if s.Status = 0 ∧ s.Steps = 300 then mT s 3 else s
def z6c (p : zB) (s : zC) : zI := p.zF.getD s.At.toNat ⟨0, []⟩
def zyl (p : zB) (s : zC) : zC :=
 match zhz p (mP s (s.Steps + 1)) (z6c p s) with
 | .error e => zz2 (zlw p e (s.Stack.length + 1) (mE (mP s (s.Steps + 1)) e))
 | .ok (n, t) => if t.Status ≠ 0 then t else if n = (p.zF.length : Int) then mT t 1 else zz2 (mA t n)
theorem z6k (t : zC) : ((cond (t.Status == 0) (some (t.Steps == 300)) (some false)).bind fun g => cond g (some (⟨t.Storage, t.At, t.Stack, t.Lines, 3, t.Exception, t.Steps⟩ : zC)) (some t)) = some (zz2 t) := by
 unfold zz2
 rw [zcn, zcn]
 by_cases h1 : t.Status = 0
 · rw [dct h1]
   by_cases h2 : t.Steps = 300
   · rw [dct h2, ifp ⟨h1, h2⟩]; rfl
   · rw [dcf h2, ifn (fun h => h2 h.2)]; rfl
 · rw [dcf h1, ifn (fun h => h1 h.1)]; rfl
theorem zaal (t : zC) (e : Int) : ((cond (t.Status == 0) (some (t.Steps == 300)) (some false)).bind fun g => cond g ((zat (mI p t e) 3).bind fun r => some r.zC) (some t)) = some (zz2 t) := z6k t
theorem zaak {t : zC} (h : StI p t) : StI p (zz2 t) ∧ (zz2 t).Steps = t.Steps ∧ ((zz2 t).Status = 0 → t.Steps ≠ 300) := by
 unfold zz2
 split
 · exact ⟨h.T (by omega) (by omega), rfl, fun h => by have h' : (3 : Int) = 0 := h; omega⟩
 · rename_i hn; exact ⟨h, rfl, fun h1 h2 => hn ⟨h1, h2⟩⟩
theorem z93 (h : StI p s) : zkl s = some s := by
 have h2 := h.stk
 have h3 := h.lines
 have h4 := h.sto.sto.le
 have h5 := h.sto.sto.tags
 unfold zkl ziv zkf
 rw [zaae (by omega), obs, za3 (by omega), ctr, obs, za3 (by omega)]
 rfl
theorem z6r (N : Nat) (hN : 20000 < N) (h : ProgV p) (hs : StI p s) (hrun : s.Status = 0) (h3 : s.Steps < 300) :
 zji N p s (zt8 p.zA) = some (zyl p s) ∧ zql N p s = some (zyl p s) ∧ StI p (zyl p s) ∧ (zyl p s).Steps = s.Steps + 1 ∧ ((zyl p s).Status = 0 → s.Steps + 1 < 300) := by
 have a0 := hs.at0
 have a1 := hs.at1
 have p0 := hs.sp0
 have hx : p.zF[s.At.toNat]? = some (z6c p s) := by
  unfold z6c; rw [gdd, lge (by omega)]; rfl
 have hi : idx p.zF s.At = some (z6c p s) := by unfold idx; rw [ifp a0, hx]
 have hs1 : StI p (mP s (s.Steps + 1)) := hs.P (by omega) (by omega)
 have hb := zaed N hN h hs1 (x := z6c p s) hx
 unfold zji zql
 rw [hi, z93 hs]
 simp only [obs]
 rw [w6e (n := s.Steps + 1)]
 show ((zd N (mI p (mP s (s.Steps + 1)) 0) (z6c p s)).bind _) = _ ∧ ((zab N p (mP s (s.Steps + 1))).bind _) = _ ∧ _
 unfold zyl
 rcases hb with ⟨e, nx, ny, t, g1, g2, g3, g4⟩ | ⟨n, k, t, g1, g3, g4, g5, g6, g7, g8, g9⟩
 · rw [g1, g3, g4]; simp only [obs]; have hse : StI p (mE (mP s (s.Steps + 1)) e) := hs1.E (by omega) (by omega); obtain ⟨k1, k2, k3, k4, k5, k6, k7, k8⟩ := z28 N hN h e (by omega) ⟨⟨⟨#[]⟩, []⟩, 0, [], [], 0, 0, 0⟩ (s.Stack.length + 1) _ hse (Nat.lt_succ_self _) N (by have := hs.stk; omega); rw [show (mI p (mP s (s.Steps + 1)) e).raised = e from rfl, zd1, dct (show e ≠ 0 by omega)]; simp only [ctr]; have hf := zaak k3; have k4' : (zlw p e (s.Stack.length + 1) (mE (mP s (s.Steps + 1)) e)).Steps = s.Steps + 1 := k4; refine ⟨?_, ?_, hf.1, hf.2.1.trans k4, fun h => ?_⟩
   · unfold za2; show ((((zj (za2.r0 N) N (mI p (mE (mP s (s.Steps + 1)) e) e)).bind _)).bind _) = _; rw [k1]; exact zaal _ e
   · unfold zen; show ((((zj (zen.r0 N) N (e, p, mE (mP s (s.Steps + 1)) e, _)).bind _)).bind _) = _; rw [k2]; exact z6k _
   · have := hf.2.2 h; omega
 · rw [g1, g3, g4]; simp only [obs, bsf, cfa, show (mI p t 0).raised = 0 from rfl, show (mI p t 0).zC = t from rfl]; have g8' : t.Steps = s.Steps + 1 := g8; have e0 : (t.Status != 0) = decide (t.Status ≠ 0) := zd1 _ _; have e1 : (t.Status == 0) = decide (t.Status = 0) := zcn _ _; rw [e0, e1]
   by_cases hst : t.Status = 0
   · obtain ⟨j1, j2, j3⟩ := g5 hst; subst j1; rw [dct hst, dcf (show ¬ t.Status ≠ 0 by omega), ifn (show ¬ t.Status ≠ 0 by omega)]; simp only [ctr, cfa, zcn]
     by_cases hl : k = (p.zF.length : Int)
     · rw [dct hl, ifp hl]; exact ⟨rfl, rfl, g6.T (by omega) (by omega), g8', fun h => by have h' : (1 : Int) = 0 := h; omega⟩
     · rw [dcf hl, ifn hl]; have hta : StI p (mA t k) := g6.A (by omega) (by omega); have hf := zaak hta; have f1 := z6k (mA t k); have f2 := zaal (p := p) (mA t k) 0; rw [zcn, zcn] at f1 f2; have e2 : (mA t k).Status = t.Status := rfl; rw [e2, dct hst] at f1 f2; refine ⟨f2, f1, hf.1, hf.2.1.trans g8', fun h => ?_⟩; have := hf.2.2 h; have e3 : (mA t k).Steps = t.Steps := rfl; have := g6.sp1; omega
   · rw [dcf hst, dct (show t.Status ≠ 0 from hst), ifp (show t.Status ≠ 0 from hst)]; exact ⟨rfl, rfl, g6, g8', fun h => absurd h hst⟩
end
end
end Go.Proofs.YtmifhmfokbigiaaGreatDoor.M
