/- The plain law of HardwareLarger: part 1. -/
import Derived.Test.YtppbpnknfigboaaGreatDoorPHardwareLargerx0
namespace Go.Proofs.YtppbpnknfigboaaGreatDoor.M
open Go Go.Amx
set_option linter.unusedVariables false
set_option linter.unusedSimpArgs false
set_option maxRecDepth 100000
noncomputable section
def ldV (s : Storage) (at_ : Int) : Option Int := if s.Tags[(at_ / 16).toNat]? = some true then some (znu (zmp s (at_ / 16).toNat)).1.Address.Offset else none
theorem zv3 {s : Storage} (h : zih s) {at_ o : Int} (hl : ldV s at_ = some o) : 0 ≤ o ∧ o ≤ 16777215 := by
 unfold ldV at hl
 split at hl
 · rename_i ht; obtain ⟨off, h1, h2⟩ := h.ptr _ ht; rw [h2] at hl; cases hl; exact h1
 · cases hl
theorem zjw {s : Storage} {a : Int} (h : zer s a = true) : 0 ≤ a ∧ a % 16 = 0 ∧ a < (s.Bytes.size : Int) := by
 unfold zer at h
 simpa using h
theorem zabn (N : Nat) (hN : 2000 < N) {s : Storage} (h : zih s) {a : Int} (ha : zer s a = true) :
 ze8 N s a = some (match ldV s a with | some o => (zh6 o, 0) | none => (zy0, 22)) := by
 obtain ⟨a1, a2, a3⟩ := zjw ha
 have hl := h.le
 have hq := h.quad
 have ht := h.tags
 unfold ze8 zhs
 rw [(zq0 N hN s).1, h.err]
 simp only [obs, bsf, cfa]
 rw [dcf (show ¬ a < 0 by omega), dcf (show ¬ a ≥ (s.Bytes.size : Int) by omega), tme a1, a2]
 simp only [bsf, cfa, obs]
 have ed : w6 (a.tdiv 16) = (((a / 16).toNat : Nat) : Int) := by
  rw [tde a1, w6e]; omega
 have hi : (a / 16).toNat < s.Tags.length := by omega
 rw [ed, zbc, lge hi]
 simp only [obs]
 unfold ldV
 rw [lge hi]
 cases hb : s.Tags[(a / 16).toNat] with
 | false => rfl
 | true =>
  simp only [bnt, cfa, if_true]; rw [w6e, ifp, ifp]; have e : s.Bytes.extract a.toNat (a + 16).toNat = s.Bytes.extract (16 * (a / 16).toNat) (16 * (a / 16).toNat + 16) := by
   rw [show a.toNat = 16 * (a / 16).toNat by omega, show (a + 16).toNat = 16 * (a / 16).toNat + 16 by omega]
  rw [e, z7r N (by omega) _ (by rw [zc2 _ _ _ (by omega) (by omega)]; omega), zns]; obtain ⟨off, _, h2⟩ := h.ptr (a / 16).toNat (by rw [lge hi, hb]); rw [h2]; rfl
theorem zal {n : Nat} (h : n ≤ 1000000) : Nat.ble n zac = true := by
 rw [Nat.ble_eq]; unfold zac; omega
def spl (l : List UInt8) (a : Nat) (d : List UInt8) : List UInt8 := l.take a ++ d ++ l.drop (a + d.length)
theorem zabo {l : List UInt8} {a : Nat} {d : List UInt8} (h : a + d.length ≤ l.length) : (spl l a d).length = l.length := by
 unfold spl
 simp only [lna, lnt, List.length_drop]
 omega
def clr (t : List Bool) (a n : Nat) : List Bool := (List.range t.length).map fun k => if 16 * k < a + n ∧ a < 16 * k + 16 then false else t.getD k false
theorem zw1 (t : List Bool) (a n : Nat) : (clr t a n).length = t.length := by simp [clr]
theorem zw2 (t : List Bool) (a n k : Nat) : (clr t a n)[k]? = if 16 * k < a + n ∧ a < 16 * k + 16 then (if k < t.length then some false else none) else t[k]? := by
 unfold clr
 rw [List.getElem?_map]
 by_cases h : k < t.length
 · rw [lge (by simpa using h)]; simp only [List.getElem_range, Option.map_some]; split
   · simp [h]
   · rw [lge h, gdd, lge h]; rfl
 · rw [List.getElem?_eq_none (by simpa using h), List.getElem?_eq_none (by simpa using h)]; simp [h]
def wrV (s : Storage) (a : Nat) (d : ByteArray) : Storage := ⟨⟨(spl (bl s.Bytes) a (bl d)).toArray⟩, clr s.Tags a d.size⟩
theorem zti {s : Storage} {a : Nat} {d : ByteArray} (h : a + d.size ≤ s.Bytes.size) : (wrV s a d).Bytes.size = s.Bytes.size := zabo (l := bl s.Bytes) (d := bl d) h
theorem zaar {l : List UInt8} {a : Nat} {d : List UInt8} (h : a + d.length ≤ l.length) (i n : Nat) (hi : i + n ≤ a ∨ a + d.length ≤ i) : ((spl l a d).drop i).take n = (l.drop i).take n := by
 refine List.ext_getElem? fun k => ?_
 rw [List.getElem?_take, List.getElem?_take]
 by_cases hk : k < n
 · rw [ifp hk, ifp hk, List.getElem?_drop, List.getElem?_drop]; unfold spl; rcases hi with hi | hi
   · rw [List.append_assoc, List.getElem?_append_left (by rw [lnt]; omega), List.getElem?_take, ifp]
   · rw [List.getElem?_append_right (by rw [lna, lnt]; omega), lna, lnt, List.getElem?_drop]
     congr 1
     omega
 · rw [ifn hk, ifn hk]
theorem zadj {l : List UInt8} {a : Nat} {d : List UInt8} (h : a + d.length ≤ l.length) : ((spl l a d).drop a).take d.length = d := by
 unfold spl
 rw [List.append_assoc, List.drop_append_of_le_length (by rw [lnt]; omega), List.drop_of_length_le (by rw [lnt]; omega), List.nil_append, List.take_append_of_le_length (Nat.le_refl _), List.take_length]
theorem z2b {s : Storage} (h : zih s) {a : Nat} {d : ByteArray} (hd : a + d.size ≤ s.Bytes.size) (hd0 : 0 < d.size) : zih (wrV s a d) := by
 have hs := zti hd
 refine ⟨by rw [hs]; exact h.le, by rw [hs]; exact h.quad, by rw [hs]; exact (zw1 _ _ _).trans h.tags, fun i hi => ?_⟩
 have hi' : (clr s.Tags a d.size)[i]? = some true := hi
 rw [zw2] at hi'
 split at hi'
 · split at hi' <;> cases hi'
 · rename_i hn; obtain ⟨off, h1, h2⟩ := h.ptr i hi'; refine ⟨off, h1, ?_⟩; have : zmp (wrV s a d) i = zmp s i := zaar (l := bl s.Bytes) (d := bl d) hd _ _ (by rw [zak]; omega); rw [this]; exact h2
theorem zrp (b : ByteArray) : b.toList = bl b := ByteArray.toList_eq b
theorem z7q {s : Storage} (h : zih s) {a : Nat} {d : ByteArray} (hd : a + d.size ≤ s.Bytes.size) (hd0 : 0 < d.size) : zjl s (a : Int) d = some (wrV s a d) := by
 have hl := h.le
 have hq := h.quad
 have ht := h.tags
 have hmax : IntKind.i64.max = 9223372036854775807 := by decide
 unfold zjl
 rw [hmax]
 have z1 : (s.Bytes.extract (0 : Int).toNat (a : Int).toNat).size = a := by rw [zc2 _ _ _ (by omega) (by omega)]; omega
 rw [ifp, ifp, ifn (by rw [z1]; omega), w6e (n := (a : Int) + (d.size : Int)), ifp]
 have z2 : (s.Bytes.extract ((a : Int) + (d.size : Int)).toNat s.Bytes.size).size = s.Bytes.size - (a + d.size) := by rw [zc2 _ _ _ (by omega) (by omega)]; omega
 rw [ifn (by rw [z2, bsa, z1]; omega)]
 have hc : zda 1 s.Tags = some s.Tags := by unfold zda; rw [zal (by omega)]; rfl
 rw [hc]
 simp only [obs]
 have hne : (d.toList == (⟨#[]⟩ : ByteArray).toList) = false := by
  rw [zrp, zrp]; refine beq_eq_false_iff_ne.2 fun h => ?_; have := congrArg List.length h; rw [zak, zak] at this; have : d.size = 0 := this; omega
 rw [hne]
 simp only [Bool.not_false, ctr]
 have e1 : w6 ((w6 ((w6 ((a : Int) + (d.size : Int) - 1)).tdiv 16)) + 1) = (((a + d.size - 1) / 16 + 1 : Nat) : Int) := by
  rw [w6e (n := (a : Int) + (d.size : Int) - 1), tde, w6e (n := ((a : Int) + (d.size : Int) - 1) / 16), w6e]; omega
 have e2 : w6 ((a : Int).tdiv 16) = ((a / 16 : Nat) : Int) := by
  rw [tde, w6e]; omega
 rw [e1, e2, ifp, ifp]
 simp only [itn]
 have f1 : ((s.Bytes.extract (0 : Int).toNat a) ++ d) ++ (s.Bytes.extract ((a : Int) + (d.size : Int)).toNat s.Bytes.size) = (wrV s a d).Bytes := by
  refine zgu ?_; rw [zcq, zcq, zei, zei, show (0 : Int).toNat = 0 from rfl, dr0, show ((a : Int) + (d.size : Int)).toNat = a + d.size by omega, ← zak s.Bytes, List.take_length]; rfl
 have f2 : s.Tags.take (a / 16) ++ List.replicate ((a + d.size - 1) / 16 + 1 - a / 16) false ++ s.Tags.drop (a / 16 + ((a + d.size - 1) / 16 + 1 - a / 16)) = (wrV s a d).Tags := by
  refine List.ext_getElem? fun k => ?_; show _ = (clr s.Tags a d.size)[k]?; rw [zw2]
  by_cases h1 : k < a / 16
  · rw [List.append_assoc, List.getElem?_append_left (by rw [lnt]; omega), List.getElem?_take, ifp h1, ifn]
  · by_cases h2 : k < (a + d.size - 1) / 16 + 1
    · rw [List.append_assoc, List.getElem?_append_right (by rw [lnt]; omega), List.getElem?_append_left (by rw [lnt, lnr]; omega), List.getElem?_replicate, ifp (by rw [lnt]; omega), ifp, ifp]
    · rw [List.getElem?_append_right (by rw [lna, lnt, lnr]; omega), lna, lnt, lnr, List.getElem?_drop, ifn]
      congr 1
      omega
 rw [f1, f2]
theorem z2e (N : Nat) (hN : 2000 < N) {s : Storage} (h : zih s) {a : Nat} {d : ByteArray} (hd : a + d.size ≤ s.Bytes.size) (hd0 : 0 < d.size) : zgv N s (a : Int) d = some (wrV s a d, 0) := by
 have hl := h.le
 unfold zgv zk0
 rw [(zq0 N hN s).1, h.err]
 simp only [obs, bsf, cfa]
 rw [dcf (show ¬ (a : Int) < 0 by omega), dcf (show ¬ (d.size : Int) < 0 by omega), dcf (show ¬ (a : Int) > (s.Bytes.size : Int) by omega), w6e, dcf (show ¬ (d.size : Int) > (s.Bytes.size : Int) - (a : Int) by omega)]
 simp only [cfa, obs, bsf]
 rw [z7q h hd hd0]
 rfl
def pbV (off : Nat) : ByteArray := zct (za6 0 1 ++ za6 0 1 ++ za6 0 2 ++ za6 1 6 ++ za6 off 6)
theorem zge (l : List Int) : bl (zct l) = l.map fun n => UInt8.ofNat n.toNat := rfl
theorem zkx (off : Nat) : (pbV off).size = 16 := by
 show (bl (pbV off)).length = 16
 unfold pbV
 rw [zge]
 simp only [lnm, lna, zyz]
theorem z4k (v k : Nat) : beV ((za6 v k).map fun n => UInt8.ofNat n.toNat) = v % 256 ^ k := by
 induction k generalizing v with
 | zero => rw [Nat.pow_zero, Nat.mod_one]; rfl
 | succ k ih =>
  have e : za6 v (k + 1) = za6 (v / 256) k ++ [((v % 256 : Nat) : Int)] := by
   unfold za6; rw [List.range_succ, List.map_append]
   congr 1
   · refine List.map_congr_left fun j hj => ?_; have := List.mem_range.1 hj; rw [Nat.div_div_eq_div_mul, ← Nat.pow_succ', show k + 1 - 1 - j = k - 1 - j + 1 by omega]
   · simp
  rw [e, List.map_append, List.map_singleton, zrm, ih, itn, UInt8.toNat_ofNat', show 256 ^ (k + 1) = 256 * 256 ^ k from Nat.pow_succ', Nat.mod_mul]; omega
theorem zab4 (off : Nat) (h : off ≤ 16777215) : znu (bl (pbV off)) = (zh6 off, 0) := by
 have e : bl (pbV off) = (za6 0 1).map (fun n => UInt8.ofNat n.toNat) ++ ((za6 0 1).map (fun n => UInt8.ofNat n.toNat) ++ ((za6 0 2).map (fun n => UInt8.ofNat n.toNat) ++ ((za6 1 6).map (fun n => UInt8.ofNat n.toNat) ++ (za6 off 6).map (fun n => UInt8.ofNat n.toNat)))) := by
  unfold pbV; rw [zge]; simp only [List.map_append, List.append_assoc]
 have l6 : ∀ v, ((za6 v 6).map (fun n => UInt8.ofNat n.toNat)).length = 6 := fun v => by simp [zyz]
 have e2 : bl (pbV off) = 0 :: 0 :: 0 :: 0 :: ((za6 1 6).map (fun n => UInt8.ofNat n.toNat) ++ (za6 off 6).map (fun n => UInt8.ofNat n.toNat)) := e
 have hp : zt1 (bl (pbV off)) = zh6 off := by
  unfold zt1 zh6; rw [e2]; simp only [List.drop_succ_cons, dr0, List.take_succ_cons, List.take_zero, List.getD_cons_zero]; rw [List.take_append_of_le_length (by rw [l6]; omega), List.take_of_length_le (by rw [l6]; omega), z4k, List.drop_append_of_le_length (by rw [l6]; omega), List.drop_of_length_le (by rw [l6]; omega), List.nil_append, List.take_of_length_le (by rw [l6]; omega), z4k, mel (show off < 256 ^ 6 by omega)]; rfl
 have h1 : ((bl (pbV off)).getD 1 0).toNat = 0 := by rw [e2]; rfl
 have hc : zp7 (zh6 off) = 0 := by
  unfold zp7 zh6; rw [show inB (off : Int) 0 16777215 = true from zaz.2 ⟨by omega, by omega⟩]; rfl
 unfold znu
 rw [ifn (by rw [h1]; exact fun h => h rfl), hp, hc]
 rfl
def stV (s : Storage) (a : Nat) (off : Nat) : Storage := ⟨(wrV s a (pbV off)).Bytes, (wrV s a (pbV off)).Tags.set (a / 16) true⟩
theorem zx1 {s : Storage} {a off : Nat} (h : a + 16 ≤ s.Bytes.size) : (stV s a off).Bytes.size = s.Bytes.size := zti (d := pbV off) (by rw [zkx]; exact h)
theorem z2h {s : Storage} (h : zih s) {a off : Nat} (ha : a + 16 ≤ s.Bytes.size) (hq : a % 16 = 0) (ho : off ≤ 16777215) : zih (stV s a off) := by
 have hw := z2b h (a := a) (d := pbV off) (by rw [zkx]; exact ha) (by rw [zkx]; omega)
 refine ⟨hw.le, hw.quad, ?_, fun i hi => ?_⟩
 · show ((wrV s a (pbV off)).Tags.set (a / 16) true).length = _; rw [List.length_set]; exact hw.tags
 · have hi' : ((wrV s a (pbV off)).Tags.set (a / 16) true)[i]? = some true := hi; rw [List.getElem?_set] at hi'; split at hi'
   · rename_i he; refine ⟨off, ⟨by omega, by omega⟩, ?_⟩; have : zmp (stV s a off) i = bl (pbV off) := by
      have := zadj (l := bl s.Bytes) (a := a) (d := bl (pbV off)) (by rw [zak, zak, zkx]; exact ha); rw [zak, zkx] at this; unfold zmp; rw [← he, show 16 * (a / 16) = a by omega]; exact this
     rw [this]; exact zab4 off ho
   · obtain ⟨o, h1, h2⟩ := hw.ptr i hi'; exact ⟨o, h1, h2⟩
theorem z59 (N : Nat) (hN : 100 < N) (off : Nat) (h : off ≤ 16777215) : zis N (zh6 off) = some (pbV off) := by
 unfold zis zh6
 have b := fun v k hk => zadf N (by omega) v k hk
 rw [show zbt N 0 1 = _ from b 0 1 (by decide), show zbt N 0 2 = _ from b 0 2 (by decide), show zbt N 1 6 = _ from b 1 6 (by decide), show zbt N (off : Int) 6 = _ from b off 6 (by decide)]
 simp only [obs]
 unfold zax
 obtain ⟨n, rfl⟩ : ∃ n, N = n + 10 := ⟨N - 10, by omega⟩
 have c1 : zr (zax.r0 (n + 10)) (n + 10) ([za6 0 1, za6 0 1, za6 0 2, za6 1 6, za6 off 6], 0, [za6 0 1, za6 0 1, za6 0 2, za6 1 6, za6 off 6], (([za6 0 1, za6 0 1, za6 0 2, za6 1 6, za6 off 6] : List (List Int)).length : Int), 0) = some ([za6 0 1, za6 0 1, za6 0 2, za6 1 6, za6 off 6], 16, [za6 0 1, za6 0 1, za6 0 2, za6 1 6, za6 off 6], 5, 5) := by rfl
 rw [c1]
 simp only [obs]
 have c2 : zi3 () 16 = some [] := by rfl
 rw [c2]
 simp only [obs]
 have c3 : zr (zax.r2 (n + 10)) (n + 10) ([], [za6 0 1, za6 0 1, za6 0 2, za6 1 6, za6 off 6], (([za6 0 1, za6 0 1, za6 0 2, za6 1 6, za6 off 6] : List (List Int)).length : Int), 0) = some ((((([] ++ za6 0 1) ++ za6 0 1) ++ za6 0 2) ++ za6 1 6) ++ za6 off 6, [za6 0 1, za6 0 1, za6 0 2, za6 1 6, za6 off 6], 5, 5) := by rfl
 rw [c3]
 rfl
theorem zacp (off : Nat) (h : off ≤ 16777215) : zp7 (zh6 off) = 0 := by
 unfold zp7 zh6
 rw [show inB (off : Int) 0 16777215 = true from zaz.2 ⟨by omega, by omega⟩]
 rfl
theorem zxx (N : Nat) (hN : 2000 < N) {s : Storage} (h : zih s) {a : Int} (ha : zer s a = true) (off : Nat) (ho : off ≤ 16777215) : zb4 N s a (zh6 off) = some (stV s a.toNat off, 0) := by
 obtain ⟨a1, a2, a3⟩ := zjw ha
 have hl := h.le
 have hq := h.quad
 have ht := h.tags
 have hA : a = ((a.toNat : Nat) : Int) := by omega
 have hw : a.toNat + (pbV off).size ≤ s.Bytes.size := by rw [zkx]; omega
 unfold zb4 zhs
 rw [(zq0 N hN s).1, h.err]
 simp only [obs, bsf, cfa]
 rw [dcf (show ¬ a < 0 by omega), dcf (show ¬ a ≥ (s.Bytes.size : Int) by omega), tme a1, a2]
 simp only [bsf, cfa, obs]
 rw [z00, zacp off ho]
 simp only [obs, bsf, cfa]
 rw [z59 N (by omega) off ho]
 simp only [obs, eS]
 have hp := z7q h hw (by rw [zkx]; omega)
 rw [← hA] at hp
 rw [hp]
 simp only [obs]
 have ed : w6 (a.tdiv 16) = ((a.toNat / 16 : Nat) : Int) := by
  rw [tde a1, w6e]; omega
 have hlen : (wrV s a.toNat (pbV off)).Tags.length = s.Tags.length := zw1 _ _ _
 rw [ed, ifp, ifp (by rw [hlen]; omega), itn, lge (by rw [hlen]; omega)]
 rfl
def ze0 (l : List Int) : Int := l.foldl (fun n d => n * 10 + d) 0
theorem zn1 (l : List Int) (x : Int) : ze0 (l ++ [x]) = ze0 l * 10 + x := by
 unfold ze0; rw [List.foldl_append]; rfl
theorem zmj : ∀ (l r : List Int), l = r.reverse → (∀ d ∈ l, 0 ≤ d ∧ d ≤ 15) → 0 ≤ ze0 l ∧ ze0 l ≤ 2 * (10 ^ l.length : Nat) - 2 := by
 intro l r
 induction r generalizing l with
 | nil => intro h _; subst h; decide
 | cons x r ih =>
  intro h hd; rw [List.reverse_cons] at h; subst h; have h1 := ih _ rfl fun d hd' => hd d (List.mem_append_left _ hd'); have h2 := hd x (List.mem_append_right _ List.mem_cons_self); rw [zn1, lna, lns, Nat.pow_succ]; omega
def zhx (l : List UInt8) : List Int := l.flatMap fun b => [((b.toNat / 16 : Nat) : Int), ((b.toNat % 16 : Nat) : Int)]
def zfe (l : List UInt8) : List Int := l.map fun b => ((b.toNat % 16 : Nat) : Int)
def zdv (l : List UInt8) : List Int := zfe l ++ [(((l.getD (l.length - 1) 0).toNat / 16 : Nat) : Int)]
def zig (l : List Int) (len : Int) (i : Nat) : Bool := decide (l.getD i 0 > 9) || (decide (l.getD i 0 > 0) && decide ((i : Int) < (l.length : Int) - 1 - len))
def zkb (l : List Int) : Int := l.getD (l.length - 1) 0
def zwc (l : List Int) (len : Int) : Option Int :=
 if (List.range (l.length - 1)).any (zig l len) = true ∨ zkb l < 10 then none
 else some (if zkb l = 11 ∨ zkb l = 13 then -ze0 (l.take (l.length - 1)) else ze0 (l.take (l.length - 1)))
def zlg (l : List UInt8) : Int := if 128 ≤ (l.getD 0 0).toNat then (beV l : Int) - (256 ^ l.length : Nat) else (beV l : Int)
def zly (t : DataType) (b : ByteArray) : Option Int :=
 if t.Kind = 3 then (if -((10 ^ t.Length.toNat : Nat) : Int) < zlg (bl b) ∧ zlg (bl b) < ((10 ^ t.Length.toNat : Nat) : Int) then some (zlg (bl b)) else none)
 else zwc (if t.Kind = 1 then zhx (bl b) else zdv (bl b)) t.Length
theorem zoq (l : List UInt8) : (zhx l).length = 2 * l.length := by
 unfold zhx
 induction l with
 | nil => rfl
 | cons x l ih => simp only [List.flatMap_cons, lna, lnc, ln0, ih]; omega
theorem zpw {l : List UInt8} : (∀ d ∈ zhx l, 0 ≤ d ∧ d ≤ 15) ∧ (∀ d ∈ zdv l, 0 ≤ d ∧ d ≤ 15) := by
 constructor
 · intro d hd; obtain ⟨b, _, hb⟩ := List.mem_flatMap.1 hd; have := b.toNat_lt; rcases List.mem_cons.1 hb with rfl | hb
   · omega
   · rcases List.mem_cons.1 hb with rfl | hb
     · omega
     · cases hb
 · intro d hd; rcases List.mem_append.1 hd with hd | hd
   · obtain ⟨b, _, rfl⟩ := List.mem_map.1 hd; omega
   · rcases List.mem_cons.1 hd with rfl | hd
     · have := (l.getD (l.length - 1) 0).toNat_lt; omega
     · cases hd
theorem zabg (x : UInt8) : zh .u8 (x.toNat : Int) 15 = ((x.toNat % 16 : Nat) : Int) := by
 have hx := x.toNat_lt
 unfold zh
 have e : (BitVec.ofInt IntKind.u8.bits (x.toNat : Int) &&& BitVec.ofInt IntKind.u8.bits 15).toNat = x.toNat % 16 := by
  show (BitVec.ofInt 8 (x.toNat : Int) &&& BitVec.ofInt 8 ((15 : Nat) : Int)).toNat = _; rw [BitVec.toNat_and, BitVec.ofInt_natCast, BitVec.ofInt_natCast, BitVec.toNat_ofNat, BitVec.toNat_ofNat, mel (by omega), mel (by omega)]; exact Nat.and_two_pow_sub_one_eq_mod _ 4
 rw [e]
 exact zkz (by omega) (by omega)
theorem z88 (x : UInt8) : ((x.toNat : Int).fdiv (2 ^ (min (4 : Int).toNat 8))) = ((x.toNat / 16 : Nat) : Int) := zuh x.toNat 16
def zvv (n : Nat) : List Int := (List.range n).flatMap fun (i : Nat) => [(i : Int), (i : Int)]
def zt0 (n : Nat) : List Int := (List.range n).map fun (i : Nat) => (i : Int)
theorem z26 (n : Nat) : (zvv n).length = 2 * n := by
 unfold zvv
 induction n with
 | zero => rfl
 | succ n ih => rw [List.range_succ, List.flatMap_append, lna, ih]; simp; omega
theorem z8m (N : Nat) (hN : 2000 < N) (t : DataType) (hk : t.Kind = 1 ∨ t.Kind = 2) (b : ByteArray) (hb : 0 < b.size) (hb2 : b.size ≤ 1000) :
 ∃ pl, za1 N t b = some (if t.Kind = 1 then zhx (bl b) else zdv (bl b), pl) ∧ pl.length = (if t.Kind = 1 then zhx (bl b) else zdv (bl b)).length := by
 unfold za1
 rcases hk with hk | hk
 · have := zbm (f := za1.r0 N) (fun i => (b, zhx ((bl b).take i), zvv i, (b.size : Int), (i : Int), t)) b.size
    (fun i hi => by
     obtain ⟨x, hx⟩ : ∃ x, (bl b)[i]? = some x := zeg (by rw [zak]; exact hi); simp only [za1.r0, za1.b0, dct (show (i : Int) < (b.size : Int) by omega), ctr, zhg, hx, obs, hk, bst, z88, zabg]; have hl := zoq ((bl b).take i); rw [lnt, zak] at hl; rw [zal (by rw [hl]; simp only [lnc, ln0]; omega), zal (by rw [z26]; simp only [lnc, ln0]; omega)]; simp only [ctr]; rw [w6e, zdw _ _ hx]; have e1 : zhx ((bl b).take i ++ [x]) = zhx ((bl b).take i) ++ [((x.toNat / 16 : Nat) : Int), ((x.toNat % 16 : Nat) : Int)] := by
      unfold zhx; rw [List.flatMap_append]; rfl
     have e2 : zvv (i + 1) = zvv i ++ [(i : Int), (i : Int)] := by
      unfold zvv; rw [List.range_succ, List.flatMap_append]; rfl
     rw [e1, e2]; rfl)
    (by simp only [za1.r0, za1.b0, dcf (show ¬ (b.size : Int) < (b.size : Int) by omega), cfa]) (N := N) (by omega)
   simp only [List.take_zero, nc0] at this; rw [show zhx [] = [] from rfl, show zvv 0 = [] from rfl] at this; rw [this]; simp only [obs, hk, if_true]; refine ⟨zvv b.size, ?_, by rw [z26, zoq, zak]⟩; rw [show ((1 : Int) == 2) = false from rfl, cfa, ← zak, List.take_length]
 · have := zbm (f := za1.r0 N) (fun i => (b, zfe ((bl b).take i), zt0 i, (b.size : Int), (i : Int), t)) b.size
    (fun i hi => by
     obtain ⟨x, hx⟩ : ∃ x, (bl b)[i]? = some x := zeg (by rw [zak]; exact hi); simp only [za1.r0, za1.b0, dct (show (i : Int) < (b.size : Int) by omega), ctr, zhg, hx, obs, hk, show ((2 : Int) == 1) = false from rfl, cfa, zabg]; have hl : (zfe ((bl b).take i)).length = i := by unfold zfe; rw [lnm, lnt, zak]; omega
     have hl2 : (zt0 i).length = i := by simp [zt0]
     rw [zal (by rw [hl]; simp only [lnc, ln0]; omega), zal (by rw [hl2]; simp only [lnc, ln0]; omega)]; simp only [ctr]; rw [w6e, zdw _ _ hx]; have e1 : zfe ((bl b).take i ++ [x]) = zfe ((bl b).take i) ++ [((x.toNat % 16 : Nat) : Int)] := by
      unfold zfe; rw [List.map_append]; rfl
     have e2 : zt0 (i + 1) = zt0 i ++ [(i : Int)] := by
      unfold zt0; rw [List.range_succ, List.map_append]; rfl
     rw [e1, e2]; rfl)
    (by simp only [za1.r0, za1.b0, dcf (show ¬ (b.size : Int) < (b.size : Int) by omega), cfa]) (N := N) (by omega)
   simp only [List.take_zero, nc0] at this; rw [show zfe [] = [] from rfl, show zt0 0 = [] from rfl] at this; rw [this]; have hx : (bl b)[b.size - 1]? = some ((bl b).getD (b.size - 1) 0) := zqz (by rw [zak]; omega); have hl : (zfe (bl b)).length = b.size := by unfold zfe; rw [lnm, zak]
   have hl2 : (zt0 b.size).length = b.size := by simp [zt0]
   simp only [obs, hk, bst, ctr]; rw [← zak, List.take_length, zak, w6e, show (b.size : Int) - 1 = ((b.size - 1 : Nat) : Int) by omega, zhg, hx]; simp only [obs, z88]; rw [zal (by rw [hl]; simp only [lnc, ln0]; omega), zal (by rw [hl2]; simp only [lnc, ln0]; omega)]; simp only [ctr]; rw [ifn]; refine ⟨_, rfl, ?_⟩; unfold zdv; rw [lna, lna, hl, hl2]; rfl
theorem z6u (N : Nat) (hN : 2000 < N) (t : DataType) (hk : t.Kind = 1 ∨ t.Kind = 2) (b : ByteArray) (hb : 0 < b.size) (hb2 : (if t.Kind = 1 then zhx (bl b) else zdv (bl b)).length ≤ 17) (hb3 : b.size ≤ 16) (hlen : 0 ≤ t.Length ∧ t.Length ≤ 15) :
 ∃ n a e, zbi N t b = some (n, a, e) ∧ (match zly t b with | some v => n = v ∧ e = 0 | none => e ≠ 0) := by
 obtain ⟨pl, h1, h2⟩ := z8m N hN t hk b hb (by omega)
 have hr : ∀ d ∈ (if t.Kind = 1 then zhx (bl b) else zdv (bl b)), 0 ≤ d ∧ d ≤ 15 := by
  split
  · exact zpw.1
  · exact zpw.2
 have hpos : 0 < (if t.Kind = 1 then zhx (bl b) else zdv (bl b)).length := by
  split
  · rw [zoq, zak]; omega
  · unfold zdv; rw [lna, lns]; omega
 have hd : zly t b = zwc (if t.Kind = 1 then zhx (bl b) else zdv (bl b)) t.Length := by
  unfold zly; rw [ifn]
 rw [hd]
 unfold zbi
 rw [h1]
 simp only [obs]
 generalize (if t.Kind = 1 then zhx (bl b) else zdv (bl b)) = l at *
 have hi2 : w6 ((l.length : Int) - 1) = ((l.length - 1 : Nat) : Int) := by rw [w6e]; omega
 rw [hi2, ifp, ifp]
 rw [show (0 : Int).toNat = 0 from rfl, dr0, itn]
 have hlt : (l.take (l.length - 1)).length = l.length - 1 := by rw [lnt]; omega
 have lp := zcc (f := zbi.r0 N) (fun i => (l, pl, ((l.length - 1 : Nat) : Int), ze0 (l.take i), l.take (l.length - 1), ((l.length - 1 : Nat) : Int), (i : Int), t))
  (fun i => if zig l t.Length i = true then some ((0 : Int), pl.getD i 0, (21 : Int)) else none) (l.length - 1)
  (fun i hi => by
   have hx : l[i]? = some (l.getD i 0) := by rw [gdd, lge (by omega)]; rfl
   have hx2 : (l.take (l.length - 1))[i]? = some (l.getD i 0) := by rw [List.getElem?_take, ifp hi, hx]
   have hp : pl[i]? = some (pl.getD i 0) := by rw [gdd, lge (by omega)]; rfl
   have hxr := hr (l.getD i 0) (lmg hx); have hf := zmj (l.take i) _ (List.reverse_reverse _).symm fun d hd => hr d (List.mem_of_mem_take hd); have hpow : 10 ^ (l.take i).length ≤ 10 ^ 16 := zby (by rw [lnt]; omega); simp only [zbi.r0, zbi.b0, dct (show (i : Int) < ((l.length - 1 : Nat) : Int) by omega), ctr, zbc, hx2, hp, obs]; rw [w6e (n := ((l.length - 1 : Nat) : Int) - t.Length), w6e (n := (i : Int) + 1), w6e (n := l.getD i 0), w6e (n := ze0 (l.take i) * 10), w6e]; have e : (cond (decide (l.getD i 0 > 9)) (some true) ((cond (decide (l.getD i 0 > 0)) (some (decide ((i : Int) < ((l.length - 1 : Nat) : Int) - t.Length))) (some false)).bind fun g1002 => some g1002)) = some (zig l t.Length i) := by
    unfold zig; rw [show ((l.length - 1 : Nat) : Int) = (l.length : Int) - 1 by omega]; cases decide (l.getD i 0 > 9) <;> cases decide (l.getD i 0 > 0) <;> rfl
   rw [e]; simp only [obs]; rw [zdw l i hx, zn1]; cases zig l t.Length i with
   | true => rfl
   | false => simp)
  (by simp only [zbi.r0, zbi.b0, dcf (show ¬ ((l.length - 1 : Nat) : Int) < ((l.length - 1 : Nat) : Int) by omega), cfa]) (N := N) (by omega)
 simp only [List.take_zero, nc0] at lp
 rw [show ze0 [] = 0 from rfl] at lp
 rw [hlt, lp]
 simp only [obs]
 have hany : (List.range (l.length - 1)).any (zig l t.Length) = ((List.range (l.length - 1)).findSome? (fun i => if zig l t.Length i = true then some ((0 : Int), pl.getD i 0, (21 : Int)) else none)).isSome := by
  rw [Bool.eq_iff_iff, List.any_eq_true, List.findSome?_isSome_iff]; constructor
  · rintro ⟨x, hx, hb⟩
    exact ⟨x, hx, by rw [ifp hb]; rfl⟩
  · rintro ⟨x, hx, hb⟩
    refine ⟨x, hx, ?_⟩; split at hb
    · assumption
    · cases hb
 unfold zwc
 rw [hany]
 cases hf : (List.range (l.length - 1)).findSome? (fun i => if zig l t.Length i = true then some ((0 : Int), pl.getD i 0, (21 : Int)) else none) with
 | some r =>
  obtain ⟨i, _, hi⟩ := eof hf; split at hi
  · cases hi; exact ⟨_, _, _, rfl, by simp⟩
  · cases hi
 | none =>
  have hx : l[l.length - 1]? = some (zkb l) := by unfold zkb; rw [gdd, lge (by omega)]; rfl
  have hp : pl[l.length - 1]? = some (pl.getD (l.length - 1) 0) := by rw [gdd, lge (by omega)]; rfl
  have hb := zmj (l.take (l.length - 1)) _ (List.reverse_reverse _).symm fun d hd => hr d (List.mem_of_mem_take hd); have hpow : 10 ^ (l.take (l.length - 1)).length ≤ 10 ^ 16 := zby (by omega); simp only [zb2, zbc, hx, hp, obs, Option.isSome_none, Bool.false_eq_true, false_or]
  by_cases hs : zkb l < 10
  · rw [dct hs, ifp hs]; exact ⟨_, _, _, rfl, by decide⟩
  · rw [dcf hs, ifn hs, cfa, w6e, zao, zao]
    by_cases h11 : zkb l = 11
    · rw [dct h11, ifp (.inl h11)]; exact ⟨_, _, _, rfl, by omega, rfl⟩
    · rw [dcf h11]
      by_cases h13 : zkb l = 13
      · rw [dct h13, ifp (.inr h13)]; exact ⟨_, _, _, rfl, by omega, rfl⟩
      · rw [dcf h13, ifn]; exact ⟨_, _, _, rfl, rfl, rfl⟩
theorem zaai (N : Nat) (hN : 100 < N) (k : Nat) (hk : k ≤ 18) : zcb N (k : Int) = some ((10 ^ k : Nat) : Int) := by
 unfold zcb
 have := zbm (f := zcb.r0 N) (fun i => (((10 ^ i : Nat) : Int), (k : Int), (i : Int))) k
  (fun i hi => by
   have : 10 ^ (i + 1) ≤ 10 ^ 18 := zby (by omega); rw [Nat.pow_succ] at this; simp only [zcb.r0, zcb.b0, dct (show (i : Int) < (k : Int) by omega), ctr]; rw [w6e (n := ((10 ^ i : Nat) : Int) * 10), w6e, Nat.pow_succ]; simp only [Int.natCast_add, Int.natCast_mul, Int.natCast_one]; rfl)
  (by simp only [zcb.r0, zcb.b0, dcf (show ¬ (k : Int) < (k : Int) by omega), cfa]) (N := N) (by omega)
 simp only [Nat.pow_zero, nc0] at this
 rw [ifn, show (1 : Int) = ((1 : Nat) : Int) from rfl, this]
 rfl
theorem zut (N : Nat) (hN : 100 < N) {t : DataType} (ht : zif t) (n : Int) : zdo N t ⟨n, ⟨#[]⟩⟩ = some (if -((10 ^ t.Length.toNat : Nat) : Int) < n ∧ n < ((10 ^ t.Length.toNat : Nat) : Int) then 0 else 19) := by
 have f2 : ∀ a b : Int, zp N [a, b] = some (zef [a, b]) := fun a b => zoo N _ (by simp; omega) (by simp)
 obtain ⟨⟨l1, l2⟩, l3, l4⟩ := zga ht
 have hp := zaai N hN t.Length.toNat (by omega)
 rw [Int.toNat_of_nonneg (by omega)] at hp
 have hp2 : 10 ^ t.Length.toNat ≤ 10 ^ 15 := zby (by omega)
 have hp3 := zb6 t.Length.toNat
 obtain ⟨h0, h1, h2⟩ := ht
 unfold zdo
 rw [zqw N (by omega), h0, zao, zao, dcf (show ¬ t.Kind = 4 by omega), dcf (show ¬ t.Kind = 0 by omega)]
 simp only [zop, cfa, obs, f2, show zef [0, 0] = 0 from rfl, bsf]
 rw [hp]
 simp only [obs, bst, bnt, cfa, z11, zop]
 generalize 10 ^ t.Length.toNat = P at *
 rw [w6e (n := (P : Int) - 1), w6e]
 by_cases h : -(P : Int) < n ∧ n < (P : Int)
 · rw [ifp h, show inB n (0 - ((P : Int) - 1)) ((P : Int) - 1) = true from zaz.2 ⟨by omega, by omega⟩]; rfl
 · rw [ifn h, show inB n (0 - ((P : Int) - 1)) ((P : Int) - 1) = false by
    cases hb : inB n (0 - ((P : Int) - 1)) ((P : Int) - 1) with
    | false => rfl
    | true => have := zaz.1 hb; omega]
   rfl
theorem z9k {l : List UInt8} (h : l ≠ []) (x : UInt8) : zlg (l ++ [x]) = zlg l * 256 + x.toNat := by
 cases l with
 | nil => exact absurd rfl h
 | cons y l =>
  unfold zlg; rw [List.cons_append, List.getD_cons_zero, List.getD_cons_zero, ← List.cons_append, zrm, lna, lns, Nat.pow_succ]; split
  · simp only [Int.natCast_add, Int.natCast_mul]; omega
  · simp only [Int.natCast_add, Int.natCast_mul]; omega
theorem z7f {l : List UInt8} (h : l.length ≤ 4) : -4294967296 ≤ zlg l ∧ zlg l < 4294967296 := by
 have h1 := zz7 l
 have h2 : 256 ^ l.length ≤ 256 ^ 4 := Nat.pow_le_pow_right (by decide) h
 unfold zlg
 split <;> omega
theorem z8r (N : Nat) (hN : 100 < N) (b : ByteArray) (h0 : 0 < b.size) (h4 : b.size ≤ 4) : zbr N b = some (zlg (bl b)) := by
 obtain ⟨x0, hx0⟩ : ∃ x, (bl b)[0]? = some x := zeg (by rw [zak]; exact h0)
 have i0 : zgs b 0 = some x0 := by rw [show (0 : Int) = ((0 : Nat) : Int) from rfl, zhg, hx0]
 have hL : zji (b.extract (1 : Int).toNat b.size) = ((bl b).drop 1).map fun x => (x.toNat : Int) := by
  unfold zji; have := zei b 1 b.size; unfold bl at this ⊢; rw [show (1 : Int).toNat = 1 from rfl, this]
  congr 2
  exact List.take_of_length_le (Nat.le_of_eq rfl)
 have hlen : (((bl b).drop 1).map fun x => (x.toNat : Int)).length = b.size - 1 := by rw [lnm, List.length_drop, zak]
 have hx00 := x0.toNat_lt
 unfold zbr
 rw [i0]
 simp only [obs]
 rw [ifp, hL, hlen]
 have hw : w6 (IntKind.wrap .i8 (x0.toNat : Int)) = zlg ((bl b).take 1) := by
  have e : (bl b).take 1 = [x0] := by rw [zdw _ _ hx0]; rfl
  have e8 : (2 : Int) ^ (IntKind.i8.bits) = 256 := by decide
  have e8' : (2 : Int) ^ (IntKind.i8.bits - 1) = 128 := by decide
  have : IntKind.wrap .i8 (x0.toNat : Int) = if 128 ≤ x0.toNat then (x0.toNat : Int) - 256 else x0.toNat := by
   unfold IntKind.wrap; simp only [e8, e8', show IntKind.i8.signed = true from rfl, Bool.true_and, decide_eq_true_eq, ge_iff_le]
   repeat' split
   all_goals omega
  rw [this, e, w6e (by split <;> omega) (by split <;> omega)]; unfold zlg; rw [List.getD_cons_zero, show beV [x0] = x0.toNat by unfold beV; simp]; rfl
 rw [hw]
 have := zbm (f := zbr.r0 N) (fun i => (zlg ((bl b).take (i + 1)), ((bl b).drop 1).map (fun x => (x.toNat : Int)), ((b.size - 1 : Nat) : Int), (i : Int))) (b.size - 1)
  (fun i hi => by
   obtain ⟨x, hx⟩ : ∃ x, (bl b)[i + 1]? = some x := zeg (by rw [zak]; omega); have hm : (((bl b).drop 1).map (fun x => (x.toNat : Int)))[i]? = some (x.toNat : Int) := by
    rw [List.getElem?_map, List.getElem?_drop, Nat.add_comm 1 i, hx]; rfl
   have hb := z7f (l := (bl b).take (i + 1)) (by rw [lnt]; omega); have hxl := x.toNat_lt; simp only [zbr.r0, zbr.b0, dct (show (i : Int) < ((b.size - 1 : Nat) : Int) by omega), ctr, hlen]; rw [ifp, ifp, itn, hm]; simp only [obs]; rw [show (2 : Int) ^ (min (8 : Int).toNat 64) = 256 from rfl, w6e (n := zlg ((bl b).take (i + 1)) * 256), w6e (n := (x.toNat : Int)), w6e (n := (i : Int) + 1), or8 _ _ (by omega) (by omega) hxl, zdw _ _ hx, z9k]
   · rfl
   · intro h; have := congrArg List.length h; rw [lnt, zak] at this; simp only [ln0] at this; omega)
  (by simp only [zbr.r0, zbr.b0, dcf (show ¬ ((b.size - 1 : Nat) : Int) < ((b.size - 1 : Nat) : Int) by omega), cfa]) (N := N) (by omega)
 simp only [Nat.zero_add, nc0] at this
 rw [this, show b.size - 1 + 1 = (bl b).length by rw [zak]; omega, List.take_length]
 rfl
theorem zqt {t : DataType} (ht : zif t) : szE t = (if t.Kind = 1 then t.Length / 2 + 1 else if t.Kind = 3 then (if t.Length = 9 then 4 else 2) else t.Length) := by
 obtain ⟨_, h1, h2⟩ := ht
 unfold szE
 split
 · rfl
 · split
   · rfl
   · rw [ifn]
theorem z8q (N : Nat) (hN : 2000 < N) {t : DataType} (ht : zif t) {b : ByteArray} (hb : (b.size : Int) = szE t) :
 ∃ v a e, ziw N t b = some (v, a, e) ∧ (match zly t b with | some n => v.N = n ∧ e = 0 | none => e ≠ 0) := by
 have f2 : ∀ a b : Int, zp N [a, b] = some (zef [a, b]) := fun a b => zoo N _ (by simp; omega) (by simp)
 obtain ⟨⟨l1, l2⟩, l3, l4⟩ := zga ht
 have hsz := zqt ht
 have ht' := ht
 obtain ⟨h0, h1, h2⟩ := ht'
 unfold ziw
 rw [zqw N (by omega), h0, zao, zao, zao, dcf (show ¬ t.Kind = 4 by omega), dcf (show ¬ t.Kind = 0 by omega)]
 simp only [zop, cfa, obs, f2, show zef [0, 0] = 0 from rfl, bst, ctr]
 rw [z0m h0]
 simp only [obs]
 rw [hb]
 simp only [bsf, cfa, eD]
 by_cases hk : t.Kind = 3
 · rw [dct hk, ctr]; have hs4 : b.size ≤ 4 ∧ 0 < b.size := by
    rw [hsz, ifn, ifp hk] at hb; split at hb <;> omega
   rw [z8r N (by omega) b hs4.2 hs4.1]; simp only [obs]; rw [zut N (by omega) ht]; simp only [obs]; unfold zly; rw [ifp hk]
   by_cases hr : -((10 ^ t.Length.toNat : Nat) : Int) < zlg (bl b) ∧ zlg (bl b) < ((10 ^ t.Length.toNat : Nat) : Int)
   · rw [ifp hr, ifp hr]; exact ⟨_, _, _, rfl, rfl, rfl⟩
   · rw [ifn hr, ifn hr]; exact ⟨_, _, _, rfl, by decide⟩
 · rw [dcf hk, cfa]; have hs : 0 < b.size ∧ b.size ≤ 15 ∧ (t.Kind = 1 → b.size ≤ 8) := by
    rw [hsz] at hb
    by_cases h1 : t.Kind = 1
    · rw [ifp h1] at hb; omega
    · rw [ifn h1, ifn hk] at hb; omega
   have hn : (if t.Kind = 1 then zhx (bl b) else zdv (bl b)).length ≤ 17 := by
    split
    · rename_i hk1; have := hs.2.2 hk1; rw [zoq, zak]; omega
    · unfold zdv zfe; rw [lna, lnm, lns, zak]; omega
   obtain ⟨n, a, e, g1, g2⟩ := z6u N hN t (by omega) b hs.1 hn (by omega) ⟨by omega, l2⟩; rw [g1]; exact ⟨_, _, _, rfl, g2⟩
def zri (n len : Nat) : List Int := (List.range len).map fun j => ((n / 10 ^ (len - 1 - j) % 10 : Nat) : Int)
theorem zul (n len : Nat) : (zri n len).length = len := by simp [zri]
theorem zuk {n len : Nat} : ∀ d ∈ zri n len, 0 ≤ d ∧ d ≤ 9 := by
 intro d hd
 obtain ⟨j, _, rfl⟩ := List.mem_map.1 hd
 omega
def z2a (l : List Int) (neg : Bool) : List Int := (l.take (l.length - 1)).map (· + 240) ++ [l.getD (l.length - 1) 0 + cond neg 208 240]
def zjn : List Int → List Int
 | a :: b :: l => (16 * a + b) :: zjn l
 | _ => []
def z69 (n : Int) (k : Nat) : List Int := (List.range k).map fun j => n / 256 ^ (k - 1 - j) % 256
def zsl (t : DataType) (n : Int) : List Int := (if t.Length % 2 = 0 then [0] else []) ++ zri n.natAbs t.Length.toNat ++ [if n < 0 then 13 else 15]
def zov (t : DataType) (n : Int) : ByteArray :=
 zct (if t.Kind = 3 then z69 n (szE t).toNat else if t.Kind = 2 then z2a (zri n.natAbs t.Length.toNat) (decide (n < 0)) else zjn (zsl t n))
theorem z8p (N : Nat) (hN : 100 < N) (n len : Nat) (hn : n ≤ 1000000000000000000) (hl : len ≤ 20) : zb0 N (n : Int) (len : Int) = some (zri n len) := by
 unfold zb0
 have := zbm (f := zb0.r0 N) (fun i => (((n / 10 ^ i : Nat) : Int), zgn (fun e => ((n / 10 ^ e % 10 : Nat) : Int)) len i, (len : Int) - 1 - (i : Int))) len
  (fun i hi => by
   have hl2 : n / 10 ^ i ≤ n := Nat.div_le_self _ _; have hl : (zgn (fun e => ((n / 10 ^ e % 10 : Nat) : Int)) len i).length = len := zq8 _ _ _; have e1 : n / 10 ^ (i + 1) = n / 10 ^ i / 10 := by rw [Nat.pow_succ, ← Nat.div_div_eq_div_mul]
   have e2 : (zgn (fun e => ((n / 10 ^ e % 10 : Nat) : Int)) len i).set (len - 1 - i) ((n / 10 ^ i % 10 : Nat) : Int) = zgn (fun e => ((n / 10 ^ e % 10 : Nat) : Int)) len (i + 1) := zpp _ len i hi; rw [e1, ← e2]; generalize (zgn (fun e => ((n / 10 ^ e % 10 : Nat) : Int)) len i) = P at *; generalize n / 10 ^ i = q at *; simp only [zb0.r0, zb0.b0, dct (show (len : Int) - 1 - (i : Int) ≥ 0 by omega), ctr, hl]; rw [ifp, ifp]; obtain ⟨x, hx⟩ : ∃ x, P[((len : Int) - 1 - (i : Int)).toNat]? = some x := zeg (by omega); rw [hx]; simp only [obs]
   rw [tde, tme, w6e (n := (q : Int) / 10), w6e (n := (len : Int) - 1 - (i : Int) - 1), zkz (by omega) (by omega), show ((len : Int) - 1 - (i : Int)).toNat = len - 1 - i by omega, show (q : Int) % 10 = ((q % 10 : Nat) : Int) by omega, show (q : Int) / 10 = ((q / 10 : Nat) : Int) by omega, show (len : Int) - 1 - (i : Int) - 1 = (len : Int) - 1 - ((i + 1 : Nat) : Int) by omega])
  (by simp only [zb0.r0, zb0.b0, dcf (show ¬ (len : Int) - 1 - (len : Int) ≥ 0 by omega), cfa]) (N := N) (by omega)
 rw [ifp, ifp, zal (by omega), ctr, itn, w6e]
 simp only [Nat.pow_zero, Nat.div_one, zpo, nc0, Int.sub_zero, zpq] at this
 rw [this]
 rfl
theorem or4 (x y : Nat) (hx : x < 16) (hy : y < 16) : orI .u8 (IntKind.wrap .u8 ((x : Int) * 2 ^ (min (4 : Int).toNat 8))) (y : Int) = ((16 * x + y : Nat) : Int) := by
 rw [show (2 : Int) ^ (min (4 : Int).toNat 8) = 16 from rfl, zkz (by omega) (by omega)]
 unfold orI
 have e : (BitVec.ofInt IntKind.u8.bits ((x : Int) * 16) ||| BitVec.ofInt IntKind.u8.bits (y : Int)).toNat = 16 * x + y := by
  show (BitVec.ofInt 8 ((x : Int) * 16) ||| BitVec.ofInt 8 (y : Int)).toNat = _; rw [show (x : Int) * 16 = ((16 * x : Nat) : Int) by omega, BitVec.toNat_or, BitVec.ofInt_natCast, BitVec.ofInt_natCast, BitVec.toNat_ofNat, BitVec.toNat_ofNat, mel (by omega), mel (by omega)]; exact (Nat.two_pow_add_eq_or_of_lt (i := 4) (b := y) hy x).symm
 rw [e]
 exact zkz (by omega) (by omega)
theorem zt2 : ∀ (n : Nat) (l : List Int) (x y : Int), l.length = 2 * n → zjn (l ++ [x, y]) = zjn l ++ [16 * x + y]
 | 0, l, x, y, h => by
  obtain rfl := List.length_eq_zero_iff.1 (by omega : l.length = 0); rfl
 | n + 1, [], x, y, h => by simp at h
 | n + 1, [a], x, y, h => by simp at h; omega
 | n + 1, a :: b :: l, x, y, h => by
  simp only [List.cons_append, zjn]; rw [zt2 n l x y (by simp only [lnc] at h; omega)]
theorem zpu : ∀ (n : Nat) (l : List Int), l.length = 2 * n → (zjn l).length = n
 | 0, l, h => by
  obtain rfl := List.length_eq_zero_iff.1 (by omega : l.length = 0); rfl
 | n + 1, [], h => by simp at h
 | n + 1, [a], h => by simp at h; omega
 | n + 1, a :: b :: l, h => by
  simp only [zjn, lnc]; rw [zpu n l (by simp only [lnc] at h; omega)]
theorem z8k (N : Nat) (hN : 100 < N) (l : List Int) (n : Nat) (hl : l.length = 2 * n) (hn : n ≤ 20) (hd : ∀ d ∈ l, 0 ≤ d ∧ d < 16) : zbb N l = some (zct (zjn l)) := by
 unfold zbb
 have := zbm (f := zbb.r0 N) (fun i => (l, zjn (l.take (2 * i)), 2 * (i : Int))) n
  (fun i hi => by
   obtain ⟨x, hx⟩ : ∃ x, l[2 * i]? = some x := zeg (by omega); obtain ⟨y, hy⟩ : ∃ y, l[2 * i + 1]? = some y := zeg (by omega); obtain ⟨x1, x2⟩ := hd x (lmg hx); obtain ⟨y1, y2⟩ := hd y (lmg hy); have hlt : (l.take (2 * i)).length = 2 * i := by rw [lnt]; omega
   simp only [zbb.r0, zbb.b0, dct (show 2 * (i : Int) < (l.length : Int) by omega), ctr]; rw [w6e (n := 2 * (i : Int) + 1), w6e (n := 2 * (i : Int) + 2), show 2 * (i : Int) = ((2 * i : Nat) : Int) by omega, show ((2 * i : Nat) : Int) + 1 = ((2 * i + 1 : Nat) : Int) by omega, zbc, zbc, hx, hy]; simp only [obs]; obtain ⟨u, rfl⟩ : ∃ u : Nat, x = (u : Int) := ⟨x.toNat, by omega⟩; obtain ⟨v, rfl⟩ : ∃ v : Nat, y = (v : Int) := ⟨y.toNat, by omega⟩; rw [or4 u v (by omega) (by omega), zal (by rw [zpu i _ hlt]; simp only [lnc, ln0]; omega), ctr]; rw [show 2 * (i + 1) = 2 * i + 1 + 1 by omega, zdw _ _ hy, zdw _ _ hx, List.append_assoc, show ([(u : Int)] ++ [(v : Int)] : List Int) = [(u : Int), (v : Int)] from rfl, zt2 i _ _ _ hlt]
   congr 4)
  (by simp only [zbb.r0, zbb.b0, dcf (show ¬ 2 * (n : Int) < (l.length : Int) by omega), cfa]) (N := N) (by omega)
 simp only [Nat.mul_zero, List.take_zero, nc0, Int.mul_zero] at this
 rw [show zjn [] = [] from rfl] at this
 rw [this, obs, ← hl, List.take_length]
theorem zabp (f : Int → Int) (l : List Int) (i : Nat) {x : Int} (hx : l[i]? = some x) : ((l.take i).map f ++ l.drop i)[i]? = some x ∧ ((l.take i).map f ++ l.drop i).set i (f x) = (l.take (i + 1)).map f ++ l.drop (i + 1) := by
 obtain ⟨h1, h2⟩ := gei hx
 have hl : ((l.take i).map f).length = i := by rw [lnm, lnt]; omega
 have hd : l.drop i = x :: l.drop (i + 1) := by rw [List.drop_eq_getElem_cons h1, h2]
 constructor
 · rw [List.getElem?_append_right (by omega), hl, Nat.sub_self, hd]; rfl
 · rw [List.set_append_right _ _ (by omega), hl, Nat.sub_self, hd, zdw l i hx, List.map_append, List.append_assoc]; rfl
theorem z6y {l : List Int} (h : 0 < l.length) : l = l.take (l.length - 1) ++ [l.getD (l.length - 1) 0] := by
 have hx : l[l.length - 1]? = some (l.getD (l.length - 1) 0) := by rw [gdd, lge (by omega)]; rfl
 have := zdw l (l.length - 1) hx
 rw [show l.length - 1 + 1 = l.length by omega, List.take_length] at this
 exact this
theorem zabj (z : Int) : IntKind.wrap .u8 z = z % 256 := by
 have e : (2 : Int) ^ (IntKind.u8.bits) = 256 := by decide
 unfold IntKind.wrap
 simp only [e, show IntKind.u8.signed = false from rfl, Bool.false_and]
 simp only [Bool.false_eq_true, if_false]
theorem zqd {l : List Int} (h : 0 < l.length) : l.map (· + 240) = z2a l false := by
 conv => lhs; rw [z6y h]
 rw [List.map_append]
 rfl
theorem zn8 {n : Int} (h1 : -9223372036854775807 ≤ n) (h2 : n ≤ 9223372036854775807) : (if w6 (0 - n) > n then w6 (0 - n) else n) = ((n.natAbs : Nat) : Int) := by
 rw [w6e]
 split <;> omega
theorem zt3 {t : DataType} (h1 : 1 ≤ t.Length) (n : Int) : (zsl t n).length = 2 * (t.Length.toNat / 2 + 1) ∧ ∀ d ∈ zsl t n, 0 ≤ d ∧ d < 16 := by
 unfold zsl
 constructor
 · rw [lna, lna, zul, lns]; split
   · rw [lns]; omega
   · rw [ln0]; omega
 · intro d hd; rcases List.mem_append.1 hd with hd | hd
   · rcases List.mem_append.1 hd with hd | hd
     · split at hd
       · rcases List.mem_cons.1 hd with rfl | hd
         · omega
         · cases hd
       · cases hd
     · have := zuk d hd; omega
   · rcases List.mem_cons.1 hd with rfl | hd
     · split <;> omega
     · cases hd
theorem z6t (N : Nat) (hN : 100 < N) {t : DataType} (ht : zif t) (n : Int) (hn : -((10 ^ t.Length.toNat : Nat) : Int) < n ∧ n < ((10 ^ t.Length.toNat : Nat) : Int)) : zaf N t ⟨n, ⟨#[]⟩⟩ = some (zov t n) := by
 obtain ⟨⟨l1, l2⟩, l3, l4⟩ := zga ht
 have hp2 : 10 ^ t.Length.toNat ≤ 10 ^ 15 := zby (by omega)
 have hsz := zqt ht
 have ht' := ht
 obtain ⟨h0, h1, h2⟩ := ht'
 have hd := z8p N hN n.natAbs t.Length.toNat (by omega) (by omega)
 rw [Int.toNat_of_nonneg (by omega)] at hd
 unfold zaf zov
 try simp only [eD]
 rw [zn8 (by omega) (by omega), hd]
 simp only [obs]
 have hlen := zul n.natAbs t.Length.toNat
 have hrange := zuk (n := n.natAbs) (len := t.Length.toNat)
 have hpac := zt3 (t := t) l1 n
 have epac : zsl t n = (if t.Length % 2 = 0 then [0] else []) ++ zri n.natAbs t.Length.toNat ++ [if n < 0 then 13 else 15] := rfl
 generalize zri n.natAbs t.Length.toNat = d at *
 simp only [zao]
 by_cases k2 : t.Kind = 2
 · rw [dct k2, ctr, ifn, ifp k2]; have lp := zbm (f := zaf.r1 N) (fun i => ((d.take i).map (· + 240) ++ d.drop i, (d.length : Int), (i : Int), (⟨n, ⟨#[]⟩⟩ : Value))) d.length
    (fun i hi => by
     obtain ⟨x, hx⟩ : ∃ x, d[i]? = some x := zeg hi; obtain ⟨e1, e2⟩ := zabp (· + 240) d i hx; have hxr := hrange x (lmg hx); have hl : ((d.take i).map (· + 240) ++ d.drop i).length = d.length := by rw [lna, lnm, lnt, List.length_drop]; omega
     simp only [zaf.r1, zaf.b1, dct (show (i : Int) < (d.length : Int) by omega), ctr, hl]; rw [ifp, ifp, itn, e1]; simp only [obs]; rw [ifp, ifp, zkz (by omega) (by omega), w6e, e2]; rfl)
    (by simp only [zaf.r1, zaf.b1, dcf (show ¬ (d.length : Int) < (d.length : Int) by omega), cfa]) (N := N) (by omega)
   simp only [List.take_zero, nc0, dr0, List.map_nil, List.nil_append, List.take_length, List.drop_length, List.append_nil] at lp; rw [lp]; simp only [obs, lnm]
   by_cases hneg : n < 0
   · rw [dct hneg, ctr, w6e, ifp, ifp]; have hi : (d.length : Int) - 1 = ((d.length - 1 : Nat) : Int) := by omega
     have hx : d[d.length - 1]? = some (d.getD (d.length - 1) 0) := by rw [gdd, lge (by omega)]; rfl
     have hxr := hrange _ (lmg hx); rw [hi, itn, List.getElem?_map, hx]; simp only [Option.map_some, obs]; rw [ifp, ifp, zkz (by omega) (by omega)]
     congr 2
     conv => lhs; rw [show d.map (· + 240) = (d.take (d.length - 1)).map (· + 240) ++ [d.getD (d.length - 1) 0 + 240] from zqd (by omega)]
     have hl : ((d.take (d.length - 1)).map (· + 240)).length = d.length - 1 := by rw [lnm, lnt]; omega
     rw [List.set_append_right _ _ (by omega), hl, Nat.sub_self]; unfold z2a
     congr 1
     show [_] = [_]
     congr 1
     simp only [ctr]; omega
   · rw [dcf hneg, cfa, zqd (by omega)]
 · rw [dcf k2, cfa, ifn (c := t.Kind = 2) k2]
   by_cases k1 : t.Kind = 1
   · rw [dct k1, ctr, ifn]; have pk := z8k N hN (zsl t n) _ hpac.1 (by omega) hpac.2; have ev : decide ((d.length : Int).tmod 2 = 0) = decide (t.Length % 2 = 0) := by
      rw [tme]; simp only [decide_eq_decide]; omega
     rw [ev]; rw [epac] at pk ⊢
     by_cases hneg : n < 0
     · rw [dct hneg, ctr]; rw [ifp hneg] at pk ⊢
       by_cases he : t.Length % 2 = 0
       · rw [dct he, ctr]; rw [ifp he] at pk ⊢; rw [zal (by simp only [lnc, ln0]; omega), ctr, zal (by simp only [lna, lnc, ln0]; omega), ctr, pk]; rfl
       · rw [dcf he, cfa]; rw [ifn he, List.nil_append] at pk ⊢; rw [zal (by simp only [lnc, ln0]; omega), ctr, pk]; rfl
     · rw [dcf hneg, cfa]; rw [ifn hneg] at pk ⊢
       by_cases he : t.Length % 2 = 0
       · rw [dct he, ctr]; rw [ifp he] at pk ⊢; rw [zal (by simp only [lnc, ln0]; omega), ctr, zal (by simp only [lna, lnc, ln0]; omega), ctr, pk]; rfl
       · rw [dcf he, cfa]; rw [ifn he, List.nil_append] at pk ⊢; rw [zal (by simp only [lnc, ln0]; omega), ctr, pk]; rfl
   · have k3 : t.Kind = 3 := by omega
     rw [dcf k1, cfa, dct k3, ctr, ifp k3, z0m h0]; have hs : (szE t).toNat ≤ 4 ∧ 0 < (szE t).toNat ∧ szE t = ((szE t).toNat : Int) := by
      rw [hsz, ifn k1, ifp k3]; split <;> decide
     obtain ⟨s1, s2, s3⟩ := hs; generalize (szE t).toNat = k at *; rw [s3]; simp only [obs]; rw [ifp, ifp, zal (by omega), ctr, itn, lnr, w6e]; have lp := zbm (f := zaf.r3 N) (fun i => (zgn (fun e => n / 256 ^ e % 256) k i, (k : Int) - 1 - (i : Int), n / 256 ^ i)) k
      (fun i hi => by
       have e2 : (zgn (fun e => n / 256 ^ e % 256) k i).set (k - 1 - i) (n / 256 ^ i % 256) = zgn (fun e => n / 256 ^ e % 256) k (i + 1) := zpp _ k i hi; have hl : (zgn (fun e => n / 256 ^ e % 256) k i).length = k := zq8 _ _ _; have e1 : n / 256 ^ (i + 1) = n / 256 ^ i / 256 := by rw [Int.pow_succ, Int.ediv_ediv_of_nonneg (Int.le_of_lt (Int.pow_pos (by decide)))]
       rw [e1, ← e2]; generalize zgn (fun e => n / 256 ^ e % 256) k i = P at *; simp only [zaf.r3, zaf.b3, dct (show (k : Int) - 1 - (i : Int) ≥ 0 by omega), ctr, hl]; rw [ifp, ifp]; obtain ⟨x, hx⟩ : ∃ x, P[((k : Int) - 1 - (i : Int)).toNat]? = some x := zeg (by omega); rw [hx]; simp only [obs]; rw [zabj, w6e, show (2 : Int) ^ (min (8 : Int).toNat 64) = 256 from rfl, Int.fdiv_eq_ediv_of_nonneg _ (by decide), show ((k : Int) - 1 - (i : Int)).toNat = k - 1 - i by omega, show (k : Int) - 1 - (i : Int) - 1 = (k : Int) - 1 - ((i + 1 : Nat) : Int) by omega])
      (by simp only [zaf.r3, zaf.b3, dcf (show ¬ (k : Int) - 1 - (k : Int) ≥ 0 by omega), cfa]) (N := N) (by omega)
     simp only [Int.pow_zero, Int.ediv_one, zpo, nc0, Int.sub_zero, zpq] at lp; rw [lp]; rfl
theorem z8o (N : Nat) (hN : 100 < N) {t : DataType} (ht : zif t) (n : Int) (hn : -((10 ^ t.Length.toNat : Nat) : Int) < n ∧ n < ((10 ^ t.Length.toNat : Nat) : Int)) : ziv N t ⟨n, ⟨#[]⟩⟩ = some (zov t n, 0) := by
 unfold ziv
 rw [zut N hN ht, ifp hn]
 simp only [obs, bsf, cfa, eD]
 rw [z6t N hN ht n hn]
 rfl
theorem z9b {t : DataType} (ht : zif t) (n : Int) : ((zov t n).size : Int) = szE t := by
 obtain ⟨⟨l1, l2⟩, l3, l4⟩ := zga ht
 have hsz := zqt ht
 obtain ⟨h0, h1, h2⟩ := ht
 rw [← zak]
 unfold zov
 rw [zge, lnm]
 by_cases k3 : t.Kind = 3
 · rw [ifp k3]; unfold z69; rw [lnm, List.length_range]; rw [hsz, ifn, ifp k3]; split <;> rfl
 · rw [ifn k3]
   by_cases k2 : t.Kind = 2
   · rw [ifp k2]; unfold z2a; rw [lna, lnm, lnt, zul, lns, hsz, ifn, ifn k3]; omega
   · rw [ifn k2, zpu _ _ (zt3 l1 n).1, hsz, ifp]; omega
theorem z2u (N : Nat) (hN : 100 < N) (k : Nat) (hk : k ≤ 18) : zfs N (k : Int) = some ((10 ^ k : Nat) : Int) := by
 unfold zfs
 have := zbm (f := zfs.r0 N) (fun i => ((k : Int), ((10 ^ i : Nat) : Int), (i : Int))) k
  (fun i hi => by
   have : 10 ^ (i + 1) ≤ 10 ^ 18 := zby (by omega); rw [Nat.pow_succ] at this; simp only [zfs.r0, zfs.b0, dct (show (i : Int) < (k : Int) by omega), ctr]; rw [w6e (n := ((10 ^ i : Nat) : Int) * 10), w6e, Nat.pow_succ]; simp only [Int.natCast_add, Int.natCast_mul, Int.natCast_one]; rfl)
  (by simp only [zfs.r0, zfs.b0, dcf (show ¬ (k : Int) < (k : Int) by omega), cfa]) (N := N) (by omega)
 simp only [Nat.pow_zero, nc0] at this
 rw [show (1 : Int) = ((1 : Nat) : Int) from rfl, this]
 rfl
theorem z78 (N : Nat) (hN : 100 < N) (n len : Nat) (hn : n ≤ 1000000000000000000) (hl : len ≤ 20) : zem N (n : Int) (len : Int) = some (zri n len) := by
 unfold zem
 have := zbm (f := zem.r0 N) (fun i => (((n / 10 ^ i : Nat) : Int), zgn (fun e => ((n / 10 ^ e % 10 : Nat) : Int)) len i, (len : Int) - 1 - (i : Int))) len
  (fun i hi => by
   have hl2 : n / 10 ^ i ≤ n := Nat.div_le_self _ _; have hl : (zgn (fun e => ((n / 10 ^ e % 10 : Nat) : Int)) len i).length = len := zq8 _ _ _; have e1 : n / 10 ^ (i + 1) = n / 10 ^ i / 10 := by rw [Nat.pow_succ, ← Nat.div_div_eq_div_mul]
   have e2 : (zgn (fun e => ((n / 10 ^ e % 10 : Nat) : Int)) len i).set (len - 1 - i) ((n / 10 ^ i % 10 : Nat) : Int) = zgn (fun e => ((n / 10 ^ e % 10 : Nat) : Int)) len (i + 1) := zpp _ len i hi; rw [e1, ← e2]; generalize (zgn (fun e => ((n / 10 ^ e % 10 : Nat) : Int)) len i) = P at *; generalize n / 10 ^ i = q at *; simp only [zem.r0, zem.b0, dct (show (len : Int) - 1 - (i : Int) ≥ 0 by omega), ctr, hl]; rw [ifp, ifp]; obtain ⟨x, hx⟩ : ∃ x, P[((len : Int) - 1 - (i : Int)).toNat]? = some x := zeg (by omega); rw [hx]; simp only [obs]; rw [tde, tme, w6e (n := (q : Int) / 10), w6e (n := (len : Int) - 1 - (i : Int) - 1), show ((len : Int) - 1 - (i : Int)).toNat = len - 1 - i by omega, show (q : Int) % 10 = ((q % 10 : Nat) : Int) by omega, show (q : Int) / 10 = ((q / 10 : Nat) : Int) by omega, show (len : Int) - 1 - (i : Int) - 1 = (len : Int) - 1 - ((i + 1 : Nat) : Int) by omega])
  (by simp only [zem.r0, zem.b0, dcf (show ¬ (len : Int) - 1 - (len : Int) ≥ 0 by omega), cfa]) (N := N) (by omega)
 rw [ifp, ifp, zal (by omega), ctr, itn, w6e]
 simp only [Nat.pow_zero, Nat.div_one, zpo, nc0, Int.sub_zero, zpq] at this
 rw [this]
 rfl
theorem zsh (N : Nat) (hN : 100 < N) (v k : Nat) (hv : v < 9223372036854775807) (hk : k ≤ 8) : za7 N (v : Int) (k : Int) = some (zct (za6 v k)) := by
 unfold za7
 have := zbm (f := za7.r0 N) (fun i => (((v / 256 ^ i : Nat) : Int), (k : Int), zgn (fun e => ((v / 256 ^ e % 256 : Nat) : Int)) k i, (i : Int))) k
  (fun i hi => by
   have hl2 : v / 256 ^ i ≤ v := Nat.div_le_self _ _; have hl : (zgn (fun e => ((v / 256 ^ e % 256 : Nat) : Int)) k i).length = k := zq8 _ _ _; have e1 : v / 256 ^ (i + 1) = v / 256 ^ i / 256 := by rw [Nat.pow_succ, ← Nat.div_div_eq_div_mul]
   have e2 : (zgn (fun e => ((v / 256 ^ e % 256 : Nat) : Int)) k i).set (k - 1 - i) ((v / 256 ^ i % 256 : Nat) : Int) = zgn (fun e => ((v / 256 ^ e % 256 : Nat) : Int)) k (i + 1) := zpp _ k i hi; rw [e1, ← e2]; generalize (zgn (fun e => ((v / 256 ^ e % 256 : Nat) : Int)) k i) = P at *; generalize v / 256 ^ i = q at *; simp only [za7.r0, za7.b0, dct (show (i : Int) < (k : Int) by omega), ctr, hl]; rw [w6e (n := (k : Int) - 1), w6e (n := (k : Int) - 1 - (i : Int)), ifp, ifp]; obtain ⟨x, hx⟩ : ∃ x, P[((k : Int) - 1 - (i : Int)).toNat]? = some x := zeg (by omega); rw [hx]; simp only [obs]; rw [tde, tme, w6e (n := (q : Int) / 256), w6e (n := (i : Int) + 1), zkz (by omega) (by omega), show ((k : Int) - 1 - (i : Int)).toNat = k - 1 - i by omega, show (q : Int) % 256 = ((q % 256 : Nat) : Int) by omega, show (q : Int) / 256 = ((q / 256 : Nat) : Int) by omega]; rfl)
  (by simp only [za7.r0, za7.b0, dcf (show ¬ (k : Int) < (k : Int) by omega), cfa]) (N := N) (by omega)
 rw [ifp, ifp, zal (by omega), ctr, itn]
 simp only [Nat.pow_zero, Nat.div_one, zpo, nc0] at this
 rw [this, obs, zpq]
 rfl
theorem z9z (f : Int → Int) (l : List Int) (m i : Nat) {x : Int} (hx : l[i]? = some x) (hm : i < m) : ((l.take i).map f ++ List.replicate (m - i) 0)[i]? = some 0 ∧ ((l.take i).map f ++ List.replicate (m - i) 0).set i (f x) = (l.take (i + 1)).map f ++ List.replicate (m - (i + 1)) 0 := by
 obtain ⟨h1, h2⟩ := gei hx
 have hl : ((l.take i).map f).length = i := by rw [lnm, lnt]; omega
 have hd : List.replicate (m - i) (0 : Int) = 0 :: List.replicate (m - (i + 1)) 0 := by rw [show m - i = m - (i + 1) + 1 by omega, List.replicate_succ]
 constructor
 · rw [List.getElem?_append_right (by omega), hl, Nat.sub_self, hd]; rfl
 · rw [List.set_append_right _ _ (by omega), hl, Nat.sub_self, hd, zdw l i hx, List.map_append, List.append_assoc]; rfl
theorem z32 (n : Int) (k : Nat) (m : Nat) (h : (m : Int) = n ∨ (m : Int) = n + (256 ^ k : Nat)) : za6 m k = z69 n k := by
 unfold za6 z69
 refine List.map_congr_left fun j hj => ?_
 have hjk := List.mem_range.1 hj
 have hc : (256 : Int) ^ (k - 1 - j) = ((256 ^ (k - 1 - j) : Nat) : Int) := by rw [Int.natCast_pow]; rfl
 rw [hc]
 rcases h with h | h
 · rw [← h]; rfl
 · have hk : (256 ^ k : Nat) = 256 ^ (k - 1 - j) * (256 * 256 ^ j) := by
    rw [← Nat.pow_succ', ← Nat.pow_add]; congr 1; omega
   have hp : ((256 ^ (k - 1 - j) : Nat) : Int) ≠ 0 := by
    have : 0 < 256 ^ (k - 1 - j) := Nat.pow_pos (by decide); omega
   have e : ((m / 256 ^ (k - 1 - j) % 256 : Nat) : Int) = (m : Int) / ((256 ^ (k - 1 - j) : Nat) : Int) % 256 := rfl; rw [e, h, hk, Int.natCast_mul, Int.add_mul_ediv_left _ _ hp, Int.natCast_mul]; exact Int.add_mul_emod_self_left _ _ _
theorem zaaa (N : Nat) (hN : 100 < N) {t : DataType} (ht : zif t) (n : Int) (hn : -((10 ^ t.Length.toNat : Nat) : Int) < n ∧ n < ((10 ^ t.Length.toNat : Nat) : Int)) : zbg N t ⟨n, ⟨#[]⟩⟩ = some (zov t n) := by
 obtain ⟨⟨l1, l2⟩, l3, l4⟩ := zga ht
 have hp2 : 10 ^ t.Length.toNat ≤ 10 ^ 15 := zby (by omega)
 have hsz := zqt ht
 have ht' := ht
 obtain ⟨h0, h1, h2⟩ := ht'
 have hd := z78 N hN n.natAbs t.Length.toNat (by omega) (by omega)
 rw [Int.toNat_of_nonneg (by omega)] at hd
 unfold zbg zov zkd
 simp only [eD, zao]
 rw [dcf (show ¬ t.Kind = 0 by omega), cfa]
 by_cases k3 : t.Kind = 3
 · rw [dct k3, ctr, ifp k3, zjh h0]; have hs : (szE t).toNat ≤ 4 ∧ 0 < (szE t).toNat ∧ szE t = ((szE t).toNat : Int) ∧ ((szE t).toNat = 2 ∨ (szE t).toNat = 4) ∧ ((szE t).toNat = 2 → t.Length = 4) := by
    have h9 := h0; unfold zdf at h9; rw [ifn, ifn, ifp k3] at h9; rw [hsz, ifn, ifp k3]; split at h9
    · split
      · exact ⟨by decide, by decide, by decide, by decide, fun h => by cases h⟩
      · exact ⟨by decide, by decide, by decide, by decide, fun _ => by omega⟩
    · cases h9
   obtain ⟨s1, s2, s3, s4, s5⟩ := hs; generalize (szE t).toNat = k at *; rw [s3]; simp only [obs]
   by_cases hneg : n < 0
   · rw [dct hneg, ctr, w6e (n := 8 * (k : Int)), ifn]; have hpow : (1 : Int) * 2 ^ (min (8 * (k : Int)).toNat 64) = ((256 ^ k : Nat) : Int) := by
      rcases s4 with rfl | rfl <;> decide
     have hlow : -((256 ^ k : Nat) : Int) ≤ n := by
      rcases s4 with rfl | rfl
      · have := s5 rfl; rw [this] at hn; have : (10 ^ (4 : Int).toNat : Nat) = 10000 := by decide
        rw [this] at hn; have : (256 ^ 2 : Nat) = 65536 := by decide
        omega
      · have hl9 : 10 ^ t.Length.toNat ≤ 10 ^ 9 := by
         refine zby ?_; unfold zdf at h0; rw [ifn, ifn, ifp k3] at h0; split at h0
         · omega
         · cases h0
        have : (256 ^ 4 : Nat) = 4294967296 := by decide
        omega
     have hup : 256 ^ k ≤ 4294967296 := by rcases s4 with rfl | rfl <;> decide
     rw [hpow, w6e (n := ((256 ^ k : Nat) : Int)), w6e]; obtain ⟨m, hm⟩ : ∃ m : Nat, (m : Int) = n + (256 ^ k : Nat) := ⟨(n + (256 ^ k : Nat)).toNat, by omega⟩; rw [← hm, zsh N hN m k (by omega) (by omega), z32 n k m (.inr hm)]; rfl
   · rw [dcf hneg, cfa]; obtain ⟨m, hm⟩ : ∃ m : Nat, (m : Int) = n := ⟨n.toNat, by omega⟩; rw [← hm, zsh N hN m k (by omega) (by omega), z32 (m : Int) k m (.inl rfl)]; rfl
 · rw [dcf k3, cfa, ifn k3, zn8 (by omega) (by omega)]; simp only [obs]; rw [hd]; simp only [obs]; have hlen := zul n.natAbs t.Length.toNat; have hrange := zuk (n := n.natAbs) (len := t.Length.toNat); have hpac := zt3 (t := t) l1 n; have epac : zsl t n = (if t.Length % 2 = 0 then [0] else []) ++ zri n.natAbs t.Length.toNat ++ [if n < 0 then 13 else 15] := rfl; generalize zri n.natAbs t.Length.toNat = d at *
   by_cases k2 : t.Kind = 2
   · rw [dct k2, ctr, ifp k2, ifp, ifp, zal (by omega), ctr]; have lp := zbm (f := zbg.r1 N) (fun i => (d, (d.take i).map (· + 240) ++ List.replicate (d.length - i) 0, (i : Int), t, (⟨n, ⟨#[]⟩⟩ : Value))) d.length
      (fun i hi => by
       obtain ⟨x, hx⟩ : ∃ x, d[i]? = some x := zeg hi; obtain ⟨e1, e2⟩ := z9z (· + 240) d d.length i hx hi; have hxr := hrange x (lmg hx); have hl : ((d.take i).map (· + 240) ++ List.replicate (d.length - i) 0).length = d.length := by rw [lna, lnm, lnt, lnr]; omega
       simp only [zbg.r1, zbg.b1, dct (show (i : Int) < t.Length by omega), ctr, hl]; rw [ifp, ifp, itn, hx]; simp only [obs]; rw [ifp, ifp, e1]; simp only [obs]; rw [w6e (n := 240 + x), zkz (by omega) (by omega), w6e, Int.add_comm 240 x, e2]; rfl)
      (by simp only [zbg.r1, zbg.b1, dcf (show ¬ (d.length : Int) < t.Length by omega), cfa]) (N := N) (by omega)
     simp only [List.take_zero, nc0, List.map_nil, List.nil_append, List.take_length, Nat.sub_self, Nat.sub_zero, List.replicate_zero, List.append_nil] at lp; rw [← hlen, lp]; simp only [obs, lnm]
     by_cases hneg : n < 0
     · rw [dct hneg, ctr, w6e (n := t.Length - 1), ifp, ifp]; have hi : t.Length - 1 = ((d.length - 1 : Nat) : Int) := by omega
       have hx : d[d.length - 1]? = some (d.getD (d.length - 1) 0) := by rw [gdd, lge (by omega)]; rfl
       have hxr := hrange _ (lmg hx); rw [hi, itn, hx]; simp only [obs]; rw [ifp, ifp, List.getElem?_map, hx]; simp only [Option.map_some, obs]; rw [w6e, zkz (by omega) (by omega)]
       congr 2
       conv => lhs; rw [show d.map (· + 240) = (d.take (d.length - 1)).map (· + 240) ++ [d.getD (d.length - 1) 0 + 240] from zqd (by omega)]
       have hl : ((d.take (d.length - 1)).map (· + 240)).length = d.length - 1 := by rw [lnm, lnt]; omega
       rw [List.set_append_right _ _ (by omega), hl, Nat.sub_self]; unfold z2a
       congr 1
       show [_] = [_]
       congr 1
       simp only [ctr]; omega
     · rw [dcf hneg, cfa, zqd (by omega)]
   · rw [dcf k2, cfa, ifn k2]; have lp : ∀ (l : List Int) (m : Nat), l.length = 2 * m → m ≤ 20 → (∀ d ∈ l, 0 ≤ d ∧ d < 16) → zr (zbg.r3 N) N (l, List.replicate m 0, 0) = some (l, zjn l, (m : Int)) := fun l m hl hm hr => by
      have := zbm (f := zbg.r3 N) (fun i => (l, zjn (l.take (2 * i)) ++ List.replicate (m - i) 0, (i : Int))) m
       (fun i hi => by
        obtain ⟨x, hx⟩ : ∃ x, l[2 * i]? = some x := zeg (by omega); obtain ⟨y, hy⟩ : ∃ y, l[2 * i + 1]? = some y := zeg (by omega); obtain ⟨x1, x2⟩ := hr x (lmg hx); obtain ⟨y1, y2⟩ := hr y (lmg hy); have hlt : (l.take (2 * i)).length = 2 * i := by rw [lnt]; omega
        have hpl := zpu i _ hlt; have hl2 : (zjn (l.take (2 * i)) ++ List.replicate (m - i) 0).length = m := by rw [lna, hpl, lnr]; omega
        have hd : List.replicate (m - i) (0 : Int) = 0 :: List.replicate (m - (i + 1)) 0 := by rw [show m - i = m - (i + 1) + 1 by omega, List.replicate_succ]
        have e1 : (zjn (l.take (2 * i)) ++ List.replicate (m - i) 0)[i]? = some 0 := by rw [List.getElem?_append_right (by omega), hpl, Nat.sub_self, hd]; rfl
        have e2 : (zjn (l.take (2 * i)) ++ List.replicate (m - i) 0).set i (16 * x + y) = zjn (l.take (2 * (i + 1))) ++ List.replicate (m - (i + 1)) 0 := by
         rw [List.set_append_right _ _ (by omega), hpl, Nat.sub_self, hd, show 2 * (i + 1) = 2 * i + 1 + 1 by omega, zdw _ _ hy, zdw _ _ hx, List.append_assoc, show ([x] ++ [y] : List Int) = [x, y] from rfl, zt2 i _ _ _ hlt, List.append_assoc]; rfl
        simp only [zbg.r3, zbg.b3, hl2, dct (show (i : Int) < (m : Int) by omega), ctr]; rw [w6e (n := 2 * (i : Int)), w6e (n := 2 * (i : Int) + 1), ifp, ifp, show (2 * (i : Int)).toNat = 2 * i by omega, hx]; simp only [obs]; rw [ifp, ifp, show (2 * (i : Int) + 1).toNat = 2 * i + 1 by omega, hy]; simp only [obs]; rw [ifp, ifp, itn, e1]; simp only [obs]; rw [w6e (n := 16 * x), w6e (n := 16 * x + y), zkz (by omega) (by omega), w6e, e2]; rfl)
       (by simp only [zbg.r3, zbg.b3]; rw [lna, zpu m _ (by rw [lnt]; omega), Nat.sub_self, lnr, Nat.add_zero, dcf (show ¬ (m : Int) < (m : Int) by omega), cfa]) (N := N) (by omega)
      simp only [Nat.mul_zero, List.take_zero, nc0, Nat.sub_zero, Nat.sub_self, List.replicate_zero, List.append_nil] at this; rw [show zjn [] = [] from rfl, List.nil_append, ← hl, List.take_length] at this; exact this
     have lpp := lp (zsl t n) _ hpac.1 (by omega) hpac.2; have hpl := hpac.1; rw [zhc, show decide (t.Length.tmod 2 = 0) = decide (t.Length % 2 = 0) by rw [tme]]; simp only [obs]; have hsg : w6 (15 - w6 (2 * cond (decide (n < 0)) 1 0)) = if n < 0 then 13 else 15 := by
      by_cases hneg : n < 0
      · rw [dct hneg, ifp hneg]; decide
      · rw [dcf hneg, ifn hneg]; decide
     rw [hsg]
     by_cases he : t.Length % 2 = 0
     · rw [ifp he] at epac; rw [dct he, ctr, zal (by simp only [lnc, ln0]; omega), ctr, ← epac, zal (by simp only [lna, lnc, ln0]; omega), ctr, tde, w6e, ifp, ifp, zal (by omega), ctr, show ((zsl t n).length : Int) / 2 = ((t.Length.toNat / 2 + 1 : Nat) : Int) by omega, itn, lpp]; rfl
     · rw [ifn he, List.nil_append] at epac; rw [dcf he, cfa, zal (by simp only [lnc, ln0]; omega), ctr, ← epac, tde, w6e, ifp, ifp, zal (by omega), ctr, show ((zsl t n).length : Int) / 2 = ((t.Length.toNat / 2 + 1 : Nat) : Int) by omega, itn, lpp]; rfl
theorem z3d : ∀ (l : List UInt8) (i : Nat) (x : UInt8), l[i / 2]? = some x → (zhx l)[i]? = some (((if i % 2 = 1 then x.toNat % 16 else x.toNat / 16 : Nat) : Nat) : Int)
 | [], i, x, h => by simp at h
 | y :: l, 0, x, h => by
  simp only [Nat.zero_div, List.getElem?_cons_zero, Option.some.injEq] at h; subst h; rfl
 | y :: l, 1, x, h => by
  simp only [show 1 / 2 = 0 from rfl, List.getElem?_cons_zero, Option.some.injEq] at h; subst h; rfl
 | y :: l, i + 2, x, h => by
  rw [show (i + 2) / 2 = i / 2 + 1 by omega, List.getElem?_cons_succ] at h; have := z3d l i x h; have e : zhx (y :: l) = ((y.toNat / 16 : Nat) : Int) :: ((y.toNat % 16 : Nat) : Int) :: zhx l := rfl; rw [e, List.getElem?_cons_succ, List.getElem?_cons_succ, this]
  congr 3
  rw [show (i + 2) % 2 = i % 2 by omega]
theorem z04 (n h : Int) (hn : -9223372036854775807 ≤ n ∧ n ≤ 9223372036854775807) : zi6 n h = some (if h = 11 ∨ h = 13 then -n else n, decide (h ≥ 10)) := by
 unfold zi6
 rw [w6e, zao, zao]
 by_cases h1 : h = 11
 · rw [dct h1, ifp (.inl h1), Int.zero_sub]; rfl
 · rw [dcf h1]
   by_cases h2 : h = 13
   · rw [dct h2, ifp (.inr h2), Int.zero_sub]; rfl
   · rw [dcf h2, ifn]; rfl
theorem z4m (n : Nat) (bad : Nat → Bool) (f : Nat → Value × Int × Int) : (List.range n).any bad = ((List.range n).findSome? (fun i => if bad i = true then some (f i) else none)).isSome := by
 rw [Bool.eq_iff_iff, List.any_eq_true, List.findSome?_isSome_iff]
 constructor
 · rintro ⟨x, hx, hb⟩
   exact ⟨x, hx, by rw [ifp hb]; rfl⟩
 · rintro ⟨x, hx, hb⟩
   refine ⟨x, hx, ?_⟩; split at hb
   · assumption
   · cases hb
def zo3 : Value := ⟨0, ⟨#[]⟩⟩
theorem z95 (N : Nat) (hN : 2000 < N) (t : DataType) (hk : t.Kind = 2) (b : ByteArray) (hb : 0 < b.size) (hb3 : b.size ≤ 15) (hl : (b.size : Int) = t.Length) :
 ∃ v a e, zca N b = some (v, a, e) ∧ (match zly t b with | some n => v.N = n ∧ e = 0 | none => e ≠ 0) := by
 have hd : zly t b = zwc (zdv (bl b)) t.Length := by unfold zly; rw [ifn, ifn]
 have hzl : (zdv (bl b)).length = b.size + 1 := by unfold zdv zfe; rw [lna, lnm, lns, zak]
 have hzs : zkb (zdv (bl b)) = (((bl b).getD (b.size - 1) 0).toNat / 16 : Nat) := by
  unfold zkb; rw [hzl, Nat.add_sub_cancel]; unfold zdv; have hl2 : (zfe (bl b)).length = b.size := by unfold zfe; rw [lnm, zak]
  rw [gdd, List.getElem?_append_right (by omega), hl2, Nat.sub_self]; rfl
 have hzd : ∀ i, i < b.size → ∀ x, (bl b)[i]? = some x → (zdv (bl b)).getD i 0 = ((x.toNat % 16 : Nat) : Int) := fun i hi x hx => by
  have hl2 : (zfe (bl b)).length = b.size := by unfold zfe; rw [lnm, zak]
  unfold zdv; rw [gdd, List.getElem?_append_left (by omega)]; unfold zfe; rw [List.getElem?_map, hx]; rfl
 have hzt : (zdv (bl b)).take b.size = zfe (bl b) := by
  have hl2 : (zfe (bl b)).length = b.size := by unfold zfe; rw [lnm, zak]
  unfold zdv; rw [List.take_append_of_le_length (by omega), List.take_of_length_le (by omega)]
 have hx1 : (bl b)[b.size - 1]? = some ((bl b).getD (b.size - 1) 0) := zqz (by rw [zak]; omega)
 have hlb := ((bl b).getD (b.size - 1) 0).toNat_lt
 generalize hS : ((bl b).getD (b.size - 1) 0).toNat / 16 = S at *
 have hS16 : S < 16 := by omega
 rw [hd]
 unfold zca
 have lp := zcc (f := zca.r0 N) (fun i => (b, ze0 ((zfe (bl b)).take i), (if i = b.size then (S : Int) else 15), (i : Int), zo3))
  (fun i => if (decide ((zdv (bl b)).getD i 0 > 9) || (decide (i = b.size - 1) && decide ((S : Int) < 10))) = true then some (zo3, (i : Int), (21 : Int)) else none) b.size
  (fun i hi => by
   obtain ⟨x, hx⟩ : ∃ x, (bl b)[i]? = some x := zeg (by rw [zak]; exact hi); have hxl := x.toNat_lt; have hnx : (zfe (bl b))[i]? = some ((x.toNat % 16 : Nat) : Int) := by unfold zfe; rw [List.getElem?_map, hx]; rfl
   have hf := zmj ((zfe (bl b)).take i) _ (List.reverse_reverse _).symm fun d hd => by
    obtain ⟨y, _, rfl⟩ := List.mem_map.1 (List.mem_of_mem_take hd); omega
   have hpow : 10 ^ ((zfe (bl b)).take i).length ≤ 10 ^ 15 := zby (by rw [lnt]; omega); have hm : (w6 (x.toNat : Int)).tmod 16 = ((x.toNat % 16 : Nat) : Int) := by rw [w6e, tme]; omega
   have hm2 : ((x.toNat : Int).tmod 16) = ((x.toNat % 16 : Nat) : Int) := by rw [tme]; omega
   have hdv : w6 ((w6 (x.toNat : Int)).tdiv 16) = ((x.toNat / 16 : Nat) : Int) := by rw [w6e (n := (x.toNat : Int)), tde, w6e]; omega
   have hnext : ze0 ((zfe (bl b)).take (i + 1)) = 10 * ze0 ((zfe (bl b)).take i) + ((x.toNat % 16 : Nat) : Int) := by rw [zdw _ _ hnx, zn1]; omega
   rw [hnext]; generalize ze0 ((zfe (bl b)).take i) = F at *; rw [hzd i hi x hx]; simp only [zca.r0, zca.b0, dct (show (i : Int) < (b.size : Int) by omega), ctr, zhg, hx, obs, hm, hm2, hdv]; rw [w6e (n := (b.size : Int) - 1), w6e (n := (i : Int) + 1), w6e (n := 10 * F), w6e (n := 10 * F + ((x.toNat % 16 : Nat) : Int)), zao]
   by_cases hi1 : i = b.size - 1
   · have hxe : x = (bl b).getD (b.size - 1) 0 := by rw [hi1] at hx; rw [hx1] at hx; exact (Option.some.inj hx).symm
     have hxS : x.toNat / 16 = S := by rw [hxe]; exact hS
     rw [dct (show (i : Int) = (b.size : Int) - 1 by omega), dct hi1, hxS, ifn (show ¬ i = b.size by omega), ifp (show i + 1 = b.size by omega)]; simp only [ctr, Bool.true_and]; cases h1 : decide ((S : Int) < 10) <;> cases h2 : decide (((x.toNat % 16 : Nat) : Int) > 9) <;> rfl
   · rw [dcf (show ¬ (i : Int) = (b.size : Int) - 1 by omega), dcf hi1, ifn (show ¬ i = b.size by omega), ifn (show ¬ i + 1 = b.size by omega)]; simp only [cfa, Bool.false_and, Bool.or_false]; cases h2 : decide (((x.toNat % 16 : Nat) : Int) > 9) <;> rfl)
  (by simp only [zca.r0, zca.b0, dcf (show ¬ (b.size : Int) < (b.size : Int) by omega), cfa]) (N := N) (by omega)
 simp only [List.take_zero, nc0] at lp
 rw [show ze0 [] = 0 from rfl, ifn (show ¬ 0 = b.size by omega)] at lp
 rw [show (⟨0, (⟨#[]⟩ : ByteArray)⟩ : Value) = zo3 from rfl, lp]
 simp only [obs]
 have ha := z4m b.size (fun i => decide ((zdv (bl b)).getD i 0 > 9) || (decide (i = b.size - 1) && decide ((S : Int) < 10))) (fun i => (zo3, (i : Int), (21 : Int)))
 have hc : (List.range b.size).any (fun i => decide ((zdv (bl b)).getD i 0 > 9) || (decide (i = b.size - 1) && decide ((S : Int) < 10))) = ((List.range ((zdv (bl b)).length - 1)).any (zig (zdv (bl b)) t.Length) || decide (zkb (zdv (bl b)) < 10)) := by
  rw [hzl, Nat.add_sub_cancel, hzs, Bool.eq_iff_iff, Bool.or_eq_true, List.any_eq_true, List.any_eq_true]; constructor
  · rintro ⟨i, hi, hb⟩
    rw [Bool.or_eq_true, Bool.and_eq_true] at hb; rcases hb with hb | ⟨_, hb⟩
    · exact .inl ⟨i, hi, by unfold zig; rw [hb, Bool.true_or]⟩
    · exact .inr hb
  · rintro (⟨i, hi, hb⟩ | hb)
    · refine ⟨i, hi, ?_⟩; unfold zig at hb; rw [Bool.or_eq_true] at hb; rcases hb with hb | hb
      · rw [hb, Bool.true_or]
      · rw [Bool.and_eq_true] at hb; have h2 := of_decide_eq_true hb.2; rw [hzl] at h2; omega
    · exact ⟨b.size - 1, by rw [List.mem_range]; omega, by rw [hb]; simp⟩
 rw [ha] at hc
 unfold zwc
 cases hf : (List.range b.size).findSome? (fun i => if (decide ((zdv (bl b)).getD i 0 > 9) || (decide (i = b.size - 1) && decide ((S : Int) < 10))) = true then some (zo3, (i : Int), (21 : Int)) else none) with
 | some r =>
  obtain ⟨i, _, hi⟩ := eof hf; split at hi
  · cases hi; rw [hf] at hc; have hc' : ((List.range ((zdv (bl b)).length - 1)).any (zig (zdv (bl b)) t.Length) || decide (zkb (zdv (bl b)) < 10)) = true := hc.symm; rw [Bool.or_eq_true, decide_eq_true_eq] at hc'; rw [ifp hc']; exact ⟨_, _, _, rfl, by decide⟩
  · cases hi
 | none =>
  rw [hf] at hc; have hc' : ((List.range ((zdv (bl b)).length - 1)).any (zig (zdv (bl b)) t.Length) || decide (zkb (zdv (bl b)) < 10)) = false := hc.symm; rw [Bool.or_eq_false_iff, decide_eq_false_iff_not] at hc'; have hf := zmj (zfe (bl b)) _ (List.reverse_reverse _).symm fun d hd => by
   obtain ⟨y, _, rfl⟩ := List.mem_map.1 hd; omega
  have hpow : 10 ^ (zfe (bl b)).length ≤ 10 ^ 15 := zby (by unfold zfe; rw [lnm, zak]; omega); have hnc : ¬ ((List.range ((zdv (bl b)).length - 1)).any (zig (zdv (bl b)) t.Length) = true ∨ zkb (zdv (bl b)) < 10) := by rw [hc'.1]; simpa using hc'.2
  rw [ifn hnc, hzl, Nat.add_sub_cancel, hzt, hzs]; simp only [zb2, if_true]; rw [show (zfe (bl b)).take b.size = zfe (bl b) from List.take_of_length_le (by unfold zfe; rw [lnm, zak]; omega), z04 _ _ ⟨by omega, by omega⟩]; refine ⟨_, _, _, rfl, ?_, rfl⟩
  by_cases h1 : (S : Int) = 11 ∨ (S : Int) = 13
  · rw [ifp h1]
  · rw [ifn h1]
theorem z77 (N : Nat) (hN : 2000 < N) (t : DataType) (hk : t.Kind = 1) (b : ByteArray) (hl1 : 1 ≤ t.Length ∧ t.Length ≤ 15) (hl : (b.size : Int) = t.Length / 2 + 1) :
 ∃ v a e, zb1 N t b = some (v, a, e) ∧ (match zly t b with | some n => v.N = n ∧ e = 0 | none => e ≠ 0) := by
 have hd : zly t b = zwc (zhx (bl b)) t.Length := by unfold zly; rw [ifn, ifp hk]
 have hzl : (zhx (bl b)).length = 2 * b.size := by rw [zoq, zak]
 have hr := (zpw (l := bl b)).1
 rw [hd]
 have zc := z3d (bl b)
 generalize zhx (bl b) = l at *
 have hS : zkb l = l.getD (2 * b.size - 1) 0 := by unfold zkb; rw [hzl]
 generalize zkb l = S at *
 unfold zb1
 have lp := zcc (f := zb1.r0 N) (fun i => (b, (if i = 2 * b.size then (if S = 11 ∨ S = 13 then -ze0 (l.take (2 * b.size - 1)) else ze0 (l.take (2 * b.size - 1))) else ze0 (l.take i)), (i : Int), t, zo3))
  (fun i => if (if i = 2 * b.size - 1 then decide (S < 10) else (decide (l.getD i 0 > 9) || (decide (i = 0) && (decide (t.Length % 2 = 0) && decide (l.getD i 0 ≠ 0))))) = true then some (zo3, ((i / 2 : Nat) : Int), (21 : Int)) else none) (2 * b.size)
  (fun i hi => by
   obtain ⟨x, hx⟩ : ∃ x, (bl b)[i / 2]? = some x := zeg (by rw [zak]; omega); have hxl := x.toNat_lt; have hxi := zc i x hx; have hxd : l.getD i 0 = ((if i % 2 = 1 then x.toNat % 16 else x.toNat / 16 : Nat) : Int) := by rw [gdd, hxi]; rfl
   have hf := zmj (l.take i) _ (List.reverse_reverse _).symm fun d hd => hr d (List.mem_of_mem_take hd); have hpow : 10 ^ (l.take i).length ≤ 10 ^ 16 := zby (by rw [lnt]; omega); have hm : ((w6 (x.toNat : Int)).tmod 16) = ((x.toNat % 16 : Nat) : Int) := by rw [w6e, tme]; omega
   have hdv : w6 ((w6 (x.toNat : Int)).tdiv 16) = ((x.toNat / 16 : Nat) : Int) := by rw [w6e (n := (x.toNat : Int)), tde, w6e]; omega
   have hnext : ze0 (l.take (i + 1)) = 10 * ze0 (l.take i) + l.getD i 0 := by rw [zdw _ _ hxi, zn1, hxd]; omega
   have hidx : w6 ((i : Int).tdiv 2) = ((i / 2 : Nat) : Int) := by rw [tde, w6e]; omega
   have hpar : ((i : Int).tmod 2 == 1) = decide (i % 2 = 1) := by rw [tme, zao]; simp only [decide_eq_decide]; omega
   have hev : (t.Length.tmod 2 == 0) = decide (t.Length % 2 = 0) := by rw [tme, zao]
   have hw1 : w6 (2 * (b.size : Int)) = ((2 * b.size : Nat) : Int) := by rw [w6e]; omega
   have hw2 : w6 (((2 * b.size : Nat) : Int) - 1) = ((2 * b.size - 1 : Nat) : Int) := by rw [w6e]; omega
   have hi0 : ((i : Int) == 0) = decide (i = 0) := by rw [zao]; simp only [decide_eq_decide]; omega
   have hil : ((i : Int) == ((2 * b.size - 1 : Nat) : Int)) = decide (i = 2 * b.size - 1) := by rw [zao]; simp only [decide_eq_decide]; omega
   have sg := z04 (ze0 (l.take i)) (l.getD i 0) ⟨by omega, by omega⟩; rw [hxd] at hnext sg ⊢; simp only [zb1.r0, zb1.b0, hw1, hw2, dct (show (i : Int) < ((2 * b.size : Nat) : Int) by omega), ctr, hidx, zhg, hx, obs, hm, hdv, hpar, hev, hi0, hil]; rw [w6e (n := (i : Int) + 1), ifn (show ¬ i = 2 * b.size by omega)]
   by_cases hp : i % 2 = 1
   · rw [ifp hp] at hnext sg; rw [dct hp, ctr]; simp only [ifp hp]; have hH : x.toNat % 16 < 16 := by omega
     by_cases hl : i = 2 * b.size - 1
     · have hSx : S = ((x.toNat % 16 : Nat) : Int) := by rw [hS, ← hl, hxd, ifp hp]
       rw [dct hl, ifp hl, ifp (show i + 1 = 2 * b.size by omega), ← hl, hSx, sg, dcf (show ¬ i = 0 by omega)]; simp only [ctr, cfa, obs]; cases h1 : decide (((x.toNat % 16 : Nat) : Int) < 10) <;> rfl
     · rw [dcf hl, ifn hl, ifn (show ¬ i + 1 = 2 * b.size by omega), hnext, dcf (show ¬ i = 0 by omega)]; generalize x.toNat % 16 = h at *; generalize ze0 (l.take i) = F at *; simp only [ctr, cfa, obs, Bool.false_and, Bool.or_false]; rw [w6e (n := 10 * F), w6e (n := 10 * F + (h : Int))]; cases h1 : decide ((h : Int) > 9) <;> rfl
   · rw [ifn hp] at hnext sg; rw [dcf hp, cfa]; simp only [ifn hp]; have hl : ¬ i = 2 * b.size - 1 := by omega
     have hH : x.toNat / 16 < 16 := by omega
     rw [dcf hl, ifn hl, ifn (show ¬ i + 1 = 2 * b.size by omega), hnext]; generalize x.toNat / 16 = h at *; generalize ze0 (l.take i) = F at *; simp only [ctr, cfa, obs]; rw [w6e (n := 10 * F), w6e (n := 10 * F + (h : Int)), zcz]; cases h1 : decide ((h : Int) > 9) <;> cases h2 : decide (i = 0) <;> cases h3 : decide (t.Length % 2 = 0) <;> cases h4 : decide ((h : Int) ≠ 0) <;> rfl)
  (by
   have hw1 : w6 (2 * (b.size : Int)) = ((2 * b.size : Nat) : Int) := by rw [w6e]; omega
   simp only [zb1.r0, zb1.b0, hw1, dcf (show ¬ ((2 * b.size : Nat) : Int) < ((2 * b.size : Nat) : Int) by omega), cfa]) (N := N) (by omega)
 simp only [List.take_zero, nc0, if_true] at lp
 rw [show ze0 [] = 0 from rfl, ifn (show ¬ 0 = 2 * b.size by omega)] at lp
 rw [show (⟨0, (⟨#[]⟩ : ByteArray)⟩ : Value) = zo3 from rfl, lp]
 simp only [obs]
 have ha := z4m (2 * b.size) (fun i => (if i = 2 * b.size - 1 then decide (S < 10) else (decide (l.getD i 0 > 9) || (decide (i = 0) && (decide (t.Length % 2 = 0) && decide (l.getD i 0 ≠ 0)))))) (fun i => (zo3, ((i / 2 : Nat) : Int), (21 : Int)))
 have hc : (List.range (2 * b.size)).any (fun i => (if i = 2 * b.size - 1 then decide (S < 10) else (decide (l.getD i 0 > 9) || (decide (i = 0) && (decide (t.Length % 2 = 0) && decide (l.getD i 0 ≠ 0)))))) = ((List.range (l.length - 1)).any (zig l t.Length) || decide (S < 10)) := by
  rw [hzl, Bool.eq_iff_iff, Bool.or_eq_true, List.any_eq_true, List.any_eq_true]; have key : ∀ i, i < 2 * b.size - 1 → (decide (l.getD i 0 > 9) || (decide (i = 0) && (decide (t.Length % 2 = 0) && decide (l.getD i 0 ≠ 0)))) = zig l t.Length i := by
   intro i hi; unfold zig; have hxi : l[i]? = some (l.getD i 0) := by rw [gdd, lge (by omega)]; rfl
   have := hr _ (lmg hxi); rw [hzl]; rw [Bool.eq_iff_iff]; simp only [Bool.or_eq_true, Bool.and_eq_true, decide_eq_true_eq]; omega
  constructor
  · rintro ⟨i, hi, hb⟩
    have hi' := List.mem_range.1 hi; split at hb
    · exact .inr hb
    · rw [key i (by omega)] at hb; exact .inl ⟨i, List.mem_range.2 (by omega), hb⟩
  · rintro (⟨i, hi, hb⟩ | hb)
    · have hi' := List.mem_range.1 hi; refine ⟨i, List.mem_range.2 (by omega), ?_⟩; rw [ifn, key i hi']; exact hb
    · exact ⟨2 * b.size - 1, List.mem_range.2 (by omega), by rw [ifp rfl]; exact hb⟩
 rw [ha] at hc
 unfold zwc
 rw [show zkb l = S by unfold zkb; rw [hzl]; exact hS.symm]
 cases hf : (List.range (2 * b.size)).findSome? (fun i => if (if i = 2 * b.size - 1 then decide (S < 10) else (decide (l.getD i 0 > 9) || (decide (i = 0) && (decide (t.Length % 2 = 0) && decide (l.getD i 0 ≠ 0))))) = true then some (zo3, ((i / 2 : Nat) : Int), (21 : Int)) else none) with
 | some r =>
  obtain ⟨i, _, hi⟩ := eof hf
  by_cases hq : (if i = 2 * b.size - 1 then decide (S < 10) else (decide (l.getD i 0 > 9) || (decide (i = 0) && (decide (t.Length % 2 = 0) && decide (l.getD i 0 ≠ 0))))) = true
  · rw [ifp hq] at hi; cases hi; rw [hf] at hc; have hc' : ((List.range (l.length - 1)).any (zig l t.Length) || decide (S < 10)) = true := hc.symm; rw [Bool.or_eq_true, decide_eq_true_eq] at hc'; rw [ifp hc']; exact ⟨_, _, _, rfl, by decide⟩
  · rw [ifn hq] at hi; cases hi
 | none =>
  rw [hf] at hc; have hc' : ((List.range (l.length - 1)).any (zig l t.Length) || decide (S < 10)) = false := hc.symm; rw [Bool.or_eq_false_iff, decide_eq_false_iff_not] at hc'; have hnc : ¬ ((List.range (l.length - 1)).any (zig l t.Length) = true ∨ S < 10) := by rw [hc'.1]; simpa using hc'.2
  rw [ifn hnc, hzl]; exact ⟨_, _, _, rfl, rfl, rfl⟩
theorem z79 (N : Nat) (hN : 2000 < N) {t : DataType} (ht : zif t) {b : ByteArray} (hb : (b.size : Int) = szE t) :
 ∃ v a e, zq6 N t b = some (v, a, e) ∧ (match zly t b with | some n => v.N = n ∧ e = 0 | none => e ≠ 0) := by
 obtain ⟨⟨l1, l2⟩, l3, l4⟩ := zga ht
 have hsz := zqt ht
 have ht' := ht
 obtain ⟨h0, h1, h2⟩ := ht'
 unfold zq6
 rw [z0d, h0]
 simp only [obs, bsf, cfa, zao]
 rw [dcf (show ¬ t.Kind = 4 by omega), dcf (show ¬ t.Kind = 0 by omega), zjh h0]
 simp only [obs, cfa]
 rw [hb]
 simp only [bsf, cfa]
 by_cases hk : t.Kind = 3
 · rw [dct hk, ctr]; have hs4 : b.size ≤ 4 ∧ 0 < b.size := by
    rw [hsz, ifn, ifp hk] at hb; split at hb <;> omega
   have hbig : zc4 N b 0 (szE t) = some ((beV (bl b) : Nat) : Int) := by
    have := zwt N (by omega) b 0 b.size (by omega) (by omega) (by omega); rw [dr0, ← zak, List.take_length, zak, hb] at this; exact this
   obtain ⟨x0, hx0⟩ : ∃ x, (bl b)[0]? = some x := zeg (by rw [zak]; omega); have i0 : zgs b 0 = some x0 := by rw [show (0 : Int) = ((0 : Nat) : Int) from rfl, zhg, hx0]
   have hx00 : (bl b).getD 0 0 = x0 := by rw [gdd, hx0]; rfl
   have hp := z2u N (by omega) t.Length.toNat (by omega); rw [Int.toNat_of_nonneg (by omega)] at hp; have hp2 : 10 ^ t.Length.toNat ≤ 10 ^ 15 := zby (by omega); have hp3 := zb6 t.Length.toNat; have hv := zz7 (bl b); have hv2 : 256 ^ (bl b).length ≤ 256 ^ 4 := Nat.pow_le_pow_right (by decide) (by rw [zak]; omega); rw [hbig, i0]; simp only [obs, znq, hp]; have hbd : zlg (bl b) = if 128 ≤ x0.toNat then (beV (bl b) : Int) - (256 ^ (bl b).length : Nat) else (beV (bl b) : Int) := by unfold zlg; rw [hx00]
   unfold zly; rw [ifp hk, hbd]; have hsz8 : w6 (8 * szE t) = ((8 * b.size : Nat) : Int) := by rw [← hb, w6e]; omega
   rw [hsz8]; have hpow : (1 : Int) * 2 ^ (min (((8 * b.size : Nat) : Int)).toNat 64) = ((256 ^ (bl b).length : Nat) : Int) := by
    rw [itn, Nat.min_eq_left (by omega), Int.one_mul, zak, show (256 : Nat) = 2 ^ 8 from rfl, ← Nat.pow_mul, Int.natCast_pow]; rfl
   rw [hpow]; generalize 256 ^ (bl b).length = P at *; generalize 10 ^ t.Length.toNat = T at *; rw [w6e (n := (T : Int) - 1), w6e (n := 0 - ((T : Int) - 1)), w6e (n := (P : Int))]
   by_cases hx : 128 ≤ x0.toNat
   · rw [dct (show (x0.toNat : Int) ≥ 128 by omega), ctr, ifn, ifp hx, w6e, zh0]; simp only [obs]
     by_cases hr : -(T : Int) < (beV (bl b) : Int) - (P : Int) ∧ (beV (bl b) : Int) - (P : Int) < (T : Int)
     · rw [ifp hr, zaz.2 ⟨by omega, by omega⟩]; exact ⟨_, _, _, rfl, rfl, rfl⟩
     · rw [ifn hr, show inB ((beV (bl b) : Int) - (P : Int)) (0 - ((T : Int) - 1)) ((T : Int) - 1) = false by
        cases hb : inB ((beV (bl b) : Int) - (P : Int)) (0 - ((T : Int) - 1)) ((T : Int) - 1) with
        | false => rfl
        | true => have := zaz.1 hb; omega]
       exact ⟨_, _, _, rfl, by decide⟩
   · rw [dcf (show ¬ (x0.toNat : Int) ≥ 128 by omega), cfa, ifn hx, zh0]; simp only [obs]
     by_cases hr : -(T : Int) < (beV (bl b) : Int) ∧ (beV (bl b) : Int) < (T : Int)
     · rw [ifp hr, zaz.2 ⟨by omega, by omega⟩]; exact ⟨_, _, _, rfl, rfl, rfl⟩
     · rw [ifn hr, show inB ((beV (bl b) : Int)) (0 - ((T : Int) - 1)) ((T : Int) - 1) = false by
        cases hb : inB ((beV (bl b) : Int)) (0 - ((T : Int) - 1)) ((T : Int) - 1) with
        | false => rfl
        | true => have := zaz.1 hb; omega]
       exact ⟨_, _, _, rfl, by decide⟩
 · rw [dcf hk, cfa]
   by_cases hk2 : t.Kind = 2
   · rw [dct hk2, ctr]; have hl : (b.size : Int) = t.Length := by rw [hb, hsz, ifn, ifn hk]
     obtain ⟨v, a, e, g1, g2⟩ := z95 N hN t hk2 b (by omega) (by omega) hl; rw [g1]; exact ⟨_, _, _, rfl, g2⟩
   · rw [dcf hk2, cfa]; have hk1 : t.Kind = 1 := by omega
     obtain ⟨v, a, e, g1, g2⟩ := z77 N hN t hk1 b ⟨l1, l2⟩ (by rw [hb, hsz, ifp hk1]); rw [g1]; exact ⟨_, _, _, rfl, g2⟩
set_option exponentiation.threshold 3000
theorem zne (l : List Int) (x : Int) : dv (l ++ [x]) = dv l + 10 ^ l.length * x.toNat := by
 rw [zr7]; simp [dv]
theorem zta (l : List Int) (i : Nat) {x : Int} (h : l[i]? = some x) : dv (l.take (i + 1)) = dv (l.take i) + 10 ^ i * x.toNat := by
 have hl := (gei h).1
 rw [zdw l i h, zne, lnt, Nat.min_eq_left (Nat.le_of_lt hl)]
theorem zow (l : List Int) (i : Nat) {x : Int} (h : l[i]? = some x) : dv (l.drop i) = x.toNat + 10 * dv (l.drop (i + 1)) := by
 obtain ⟨h1, h2⟩ := gei h
 rw [List.drop_eq_getElem_cons h1, h2]; rfl
theorem zox {l : List Int} (h : dok l) {x : Int} (h0 : 0 ≤ x) (h1 : x < 10) : dok (l ++ [x]) := zuj h fun d hd => by
 rcases List.mem_cons.1 hd with rfl | hd
 · exact ⟨h0, h1⟩
 · cases hd
theorem z5x {l : List Int} (h : dok l) (hc : zm1 l) (hl : l ≠ []) : 10 ^ (l.length - 1) ≤ dv l := by
 refine cbc fun hn => ?_
 have := (zg9 (dv l) (l.length - 1)).2 (by omega)
 rw [zz3 h hc] at this
 have : l.length ≠ 0 := fun h => hl (List.length_eq_zero_iff.1 h)
 omega
theorem z7a {l : List Int} (h : dok l) (hg : l ≠ [] → 10 ^ (l.length - 1) ≤ dv l) : zm1 l := by
 unfold zm1
 intro hlast
 have hne : l ≠ [] := by intro h; rw [h] at hlast; cases hlast
 have hg' := hg hne
 have hlen : l.length ≠ 0 := fun h => hne (List.length_eq_zero_iff.1 h)
 have hx : l[l.length - 1]? = some 0 := by rw [← List.getLast?_eq_getElem?]; exact hlast
 have := zta l (l.length - 1) hx
 rw [show l.length - 1 + 1 = l.length by omega, List.take_length] at this
 have hlt := zz1 (zyv h (l.length - 1))
 rw [lnt, Nat.min_eq_left (by omega)] at hlt
 simp only [Int.toNat_zero, Nat.mul_zero, Nat.add_zero] at this
 omega
theorem zp2 {l : List Int} (h : dok l) {i : Nat} {x : Int} (hx : l[i]? = some x) : 0 ≤ x ∧ x < 10 := h x (lmg hx)
theorem zqu (N : Nat) (l : List Int) (h : dok l) (hN : l.length < N) (hl : l.length < 1000000) : zdz N l = some (dg (dv l)) := by
 unfold zdz
 obtain ⟨s', h1, h2⟩ := zko (f := zdz.r0 N) (fun s => dok s ∧ dv s = dv l ∧ s.length < 1000000) (fun s => s.length) (fun s => s = dg (dv l))
  (fun s hs => by
   obtain ⟨s1, s2, s3⟩ := hs; simp only [zdz.r0, zdz.b0]
   by_cases h0 : s.length = 0
   · have hn : s = [] := List.length_eq_zero_iff.1 h0; right; rw [dcf (by omega)]; refine ⟨s, rfl, ?_⟩; rw [← s2, hn]; exact zkj.symm
   · obtain ⟨x, hx⟩ : ∃ x, s[s.length - 1]? = some x := zeg (by omega); rw [dct (show (s.length : Int) > 0 by omega), w6e, show (s.length : Int) - 1 = ((s.length - 1 : Nat) : Int) by omega, zbc, hx]; simp only [ctr, obs]
     by_cases hz : x = 0
     · left; rw [zao, dct hz, ctr, ifp, ifp]; refine ⟨_, rfl, ⟨?_, ?_, ?_⟩, ?_⟩
       · rw [itn, show (0 : Int).toNat = 0 from rfl, dr0]; exact zyv s1 _
       · rw [itn, show (0 : Int).toNat = 0 from rfl, dr0, ← s2]; have := zta s (s.length - 1) hx; rw [show s.length - 1 + 1 = s.length by omega, List.take_length, hz] at this; simp only [Int.toNat_zero, Nat.mul_zero, Nat.add_zero] at this; exact this.symm
       · rw [itn, show (0 : Int).toNat = 0 from rfl, dr0, lnt]; omega
       · rw [itn, show (0 : Int).toNat = 0 from rfl, dr0, lnt]; omega
     · right; rw [zao, dcf hz, cfa]; refine ⟨s, rfl, ?_⟩; rw [← s2]; refine (zz3 s1 ?_).symm; unfold zm1; rw [List.getLast?_eq_getElem?, hx]; intro h; exact hz (Option.some.inj h))
  (N := N) (s := l) ⟨h, rfl, hl⟩ hN
 rw [h1, h2]
 rfl
theorem z6x {n : Nat} (h : n ≠ 0) : (dg n).length = (dg (n / 10)).length + 1 := by rw [zn4 h, lnc]
theorem zvl (N : Nat) (hN : 1000 < N) (n : Int) (hn : -1000000000000000 ≤ n ∧ n ≤ 1000000000000000) (z : Nat) (hz : z < 100) : zen N n (z : Int) = some ⟨decide (n < 0), dg (n.natAbs * 10 ^ z)⟩ := by
 unfold zen zkd
 rw [ifp, ifp, zal (by omega), ctr, zn8 (by omega) (by omega), itn]
 simp only [obs]
 have hd19 : (dg n.natAbs).length ≤ 18 := (zg9 _ 18).2 (by omega)
 obtain ⟨s', h1, h2⟩ := zko (f := zen.r0 N) (fun s => ∃ (l : List Int) (x : Nat), s = (n, l, (x : Int), (⟨false, []⟩ : zK)) ∧ dok l ∧ dv l + 10 ^ l.length * x = n.natAbs * 10 ^ z ∧ l.length + (dg x).length ≤ 200 ∧ x ≤ 1000000000000000)
  (fun s => (dg s.2.2.1.toNat).length) (fun s => ∃ l : List Int, s = (n, l, 0, (⟨false, []⟩ : zK)) ∧ dok l ∧ dv l = n.natAbs * 10 ^ z ∧ l.length ≤ 200)
  (fun s hs => by
   obtain ⟨l, x, rfl, s1, s2, s3, s4⟩ := hs; simp only [zen.r0, zen.b0]
   by_cases h0 : x = 0
   · right; subst h0; refine ⟨_, rfl, l, rfl, s1, by rw [← s2]; simp, by omega⟩
   · left; have hl := z6x h0; rw [dct (show (x : Int) > 0 by omega), ctr, zal (by simp only [lnc, ln0]; omega), ctr, tme, tde, w6e]; refine ⟨_, rfl, ⟨l ++ [((x % 10 : Nat) : Int)], x / 10, ?_, zox s1 (by omega) (by omega), ?_, ?_, by omega⟩, ?_⟩
     · rw [show (x : Int) % 10 = ((x % 10 : Nat) : Int) by omega, show (x : Int) / 10 = ((x / 10 : Nat) : Int) by omega]
     · rw [zne, itn, lna, lns, Nat.pow_succ, ← s2, Nat.mul_assoc, Nat.add_assoc, ← Nat.mul_add]
       congr 2
       omega
     · rw [lna, lns]; omega
     · show (dg ((x : Int) / 10).toNat).length < (dg ((x : Int)).toNat).length; rw [itn, show ((x : Int) / 10).toNat = x / 10 by omega]; omega)
  (N := N) (s := (n, List.replicate z 0, ((n.natAbs : Nat) : Int), (⟨false, []⟩ : zK))) ⟨List.replicate z 0, n.natAbs, rfl, zp1 z, by rw [zrh, lnr, Nat.zero_add, Nat.mul_comm], by rw [lnr]; omega, by omega⟩ (by show (dg (((n.natAbs : Nat) : Int)).toNat).length < N; rw [itn]; omega)
 obtain ⟨l, rfl, l1, l2, l3⟩ := h2
 rw [h1]
 simp only [obs]
 rw [zqu N l l1 (by omega) (by omega), l2]
 rfl
theorem zh9 {l : List Int} {i : Nat} (h : l.length ≤ i) : dv (l.drop i) = 0 := by rw [List.drop_of_length_le h]; rfl
theorem zaae (O c x y A B T P : Nat) (hP : O + P * (c + (x + 10 * A) + (y + 10 * B)) = T) : O + P * ((c + x + y) % 10) + P * 10 * ((c + x + y) / 10 + A + B) = T := by
 rw [← hP, Nat.mul_assoc, Nat.add_assoc, ← Nat.mul_add]
 congr 2
 omega
theorem z5m (N : Nat) (hN : 4000 < N) {a b : List Int} (ha : dok a) (hb : dok b) (la : a.length ≤ 1000) (lb : b.length ≤ 1000) :
 ∃ r, zey N a b = some r ∧ dok r ∧ dv r = dv a + dv b ∧ r.length ≤ max a.length b.length + 1 ∧ (zm1 a → zm1 b → r = dg (dv a + dv b)) := by
 unfold zey
 obtain ⟨s', h1, h2⟩ := zko (f := zey.r0 N)
  (fun s => ∃ (o : List Int) (c i : Nat), s = (a, b, o, (c : Int), (i : Int)) ∧ o.length = i ∧ dok o ∧ c ≤ 1 ∧ dv o + 10 ^ i * (c + dv (a.drop i) + dv (b.drop i)) = dv a + dv b ∧ (i ≤ max a.length b.length ∨ (i = max a.length b.length + 1 ∧ c = 0 ∧ 10 ^ (max a.length b.length) ≤ dv o)))
  (fun s => 2 * (max a.length b.length - s.2.2.2.2.toNat) + s.2.2.2.1.toNat) (fun s => ∃ (o : List Int), s.2.2.1 = o ∧ dok o ∧ dv o = dv a + dv b ∧ o.length ≤ max a.length b.length + 1 ∧ (o.length ≤ max a.length b.length ∨ 10 ^ (o.length - 1) ≤ dv o) ∧ max a.length b.length ≤ o.length)
  (fun s hs => by
   obtain ⟨o, c, i, rfl, s1, s2, s3, s4, s5⟩ := hs; simp only [zey.r0, zey.b0]; have hg : ((cond (decide ((i : Int) < (a.length : Int))) (some true) (some (decide ((i : Int) < (b.length : Int))))).bind fun g1001 => (cond g1001 (some true) (some (decide ((c : Int) > 0))))) = some (decide (i < a.length ∨ i < b.length ∨ 0 < c)) := by
    by_cases h1 : i < a.length
    · rw [dct (show (i : Int) < (a.length : Int) by omega), dct (show i < a.length ∨ i < b.length ∨ 0 < c by omega)]; rfl
    · rw [dcf (show ¬ (i : Int) < (a.length : Int) by omega)]
      by_cases h2 : i < b.length
      · rw [dct (show (i : Int) < (b.length : Int) by omega), dct (show i < a.length ∨ i < b.length ∨ 0 < c by omega)]; rfl
      · rw [dcf (show ¬ (i : Int) < (b.length : Int) by omega)]
        by_cases h3 : 0 < c
        · rw [dct (show (c : Int) > 0 by omega), dct (show i < a.length ∨ i < b.length ∨ 0 < c by omega)]; rfl
        · rw [dcf (show ¬ (c : Int) > 0 by omega), dcf (by omega)]; rfl
   rw [← Option.bind_assoc, hg]; simp only [obs]
   by_cases hgo : i < a.length ∨ i < b.length ∨ 0 < c
   · left; rw [dct hgo, ctr]; have hi : i ≤ max a.length b.length := by
      rcases s5 with s5 | ⟨s5, s6, _⟩ <;> omega
     have hroom : ∀ x : Int, Nat.ble ((o.length + ([x] : List Int).length) * 8) zac = true := fun x => zal (by simp only [lnc, ln0]; omega); obtain ⟨x, A, hx1, hx2⟩ : ∃ (x A : Nat), dv (a.drop i) = x + 10 * A ∧ (dv (a.drop (i + 1)) = A ∧ x < 10 ∧ (if i < a.length then a[i]? = some (x : Int) else x = 0)) := by
      by_cases h : i < a.length
      · obtain ⟨x, hx⟩ : ∃ x, a[i]? = some x := zeg h; have hb := zp2 ha hx; have hdr := zow a i hx; exact ⟨x.toNat, dv (a.drop (i + 1)), hdr, rfl, by omega, by rw [ifp h, hx]; congr 1; omega⟩
      · exact ⟨0, 0, by rw [zh9 (by omega)], by rw [zh9 (by omega)], by omega, by rw [ifn h]⟩
     obtain ⟨y, B, hy1, hy2⟩ : ∃ (y B : Nat), dv (b.drop i) = y + 10 * B ∧ (dv (b.drop (i + 1)) = B ∧ y < 10 ∧ (if i < b.length then b[i]? = some (y : Int) else y = 0)) := by
      by_cases h : i < b.length
      · obtain ⟨x, hx⟩ : ∃ x, b[i]? = some x := zeg h; have hb := zp2 hb hx; have hdr := zow b i hx; exact ⟨x.toNat, dv (b.drop (i + 1)), hdr, rfl, by omega, by rw [ifp h, hx]; congr 1; omega⟩
      · exact ⟨0, 0, by rw [zh9 (by omega)], by rw [zh9 (by omega)], by omega, by rw [ifn h]⟩
     obtain ⟨hA, hx3, hx4⟩ := hx2; obtain ⟨hB, hy3, hy4⟩ := hy2; rw [hx1, hy1] at s4; have alg := zaae _ _ _ _ _ _ _ _ s4; refine ⟨(a, b, o ++ [(((c + x + y) % 10 : Nat) : Int)], (((c + x + y) / 10 : Nat) : Int), ((i + 1 : Nat) : Int)), ?_, ⟨o ++ [(((c + x + y) % 10 : Nat) : Int)], (c + x + y) / 10, i + 1, rfl, by rw [lna, lns, s1], zox s2 (by omega) (by omega), by omega, ?_, ?_⟩, ?_⟩
     · have fin : ∀ v : Int, v = ((c + x + y : Nat) : Int) → (cond (Nat.ble ((o.length + ([v.tmod 10] : List Int).length) * 8) zac) (some (Stp.again (a, b, o ++ [v.tmod 10], w6 (v.tdiv 10), w6 ((i : Int) + 1)))) none) = some (.again (a, b, o ++ [(((c + x + y) % 10 : Nat) : Int)], (((c + x + y) / 10 : Nat) : Int), ((i + 1 : Nat) : Int))) := by
        intro v hv; rw [hroom, ctr, hv, tme, tde, w6e, w6e]
        congr 1
       by_cases h1 : i < a.length
       · rw [ifp h1] at hx4; rw [dct (show (i : Int) < (a.length : Int) by omega), ctr, zbc, hx4, obs]
         by_cases h2 : i < b.length
         · rw [ifp h2] at hy4; rw [dct (show (i : Int) < (b.length : Int) by omega), ctr, zbc, hy4, obs]; refine fin _ ?_; rw [w6e (n := (c : Int) + (x : Int)), w6e]; omega
         · rw [ifn h2] at hy4; rw [dcf (show ¬ (i : Int) < (b.length : Int) by omega), cfa]; refine fin _ ?_; rw [w6e]; omega
       · rw [ifn h1] at hx4; rw [dcf (show ¬ (i : Int) < (a.length : Int) by omega), cfa]
         by_cases h2 : i < b.length
         · rw [ifp h2] at hy4; rw [dct (show (i : Int) < (b.length : Int) by omega), ctr, zbc, hy4, obs]; refine fin _ ?_; rw [w6e]; omega
         · rw [ifn h2] at hy4; rw [dcf (show ¬ (i : Int) < (b.length : Int) by omega), cfa]; refine fin _ ?_; omega
     · rw [zne, s1, itn, hA, hB, Nat.pow_succ]; exact alg
     · by_cases him : i = max a.length b.length
       · right; have hx0 : x = 0 := by rw [ifn] at hx4; exact hx4
         have hy0 : y = 0 := by rw [ifn] at hy4; exact hy4
         have hc1 : c = 1 := by omega
         refine ⟨by omega, by omega, ?_⟩; rw [zne, s1, itn, hx0, hy0, hc1, him]; omega
       · left; omega
     · show 2 * (max a.length b.length - ((i + 1 : Nat) : Int).toNat) + (((c + x + y) / 10 : Nat) : Int).toNat < 2 * (max a.length b.length - (i : Int).toNat) + (c : Int).toNat; simp only [itn]
       by_cases him : i = max a.length b.length
       · have hx0 : x = 0 := by rw [ifn] at hx4; exact hx4
         have hy0 : y = 0 := by rw [ifn] at hy4; exact hy4
         omega
       · omega
   · right; rw [dcf hgo, cfa]; rw [zh9 (by omega), zh9 (by omega), show c = 0 by omega] at s4; refine ⟨_, rfl, o, rfl, s2, by omega, ?_, ?_, by omega⟩
     · rcases s5 with s5 | ⟨s5, _, _⟩ <;> omega
     · rcases s5 with s5 | ⟨s5, _, s7⟩
       · left; omega
       · right; rw [s1, s5, Nat.add_sub_cancel]; exact s7)
  (N := N) (s := (a, b, [], 0, 0)) ⟨[], 0, 0, rfl, rfl, fun d hd => (List.not_mem_nil hd).elim, by omega, by simp [dv], .inl (by omega)⟩ (by show 2 * (max a.length b.length - (0 : Int).toNat) + (0 : Int).toNat < N; simp only [Int.toNat_zero]; omega)
 obtain ⟨o, ho, o1, o2, o3, o4, o5⟩ := h2
 rw [h1]
 simp only [obs, ho]
 refine ⟨o, rfl, o1, o2, o3, fun hca hcb => ?_⟩
 rw [← o2]
 refine (zz3 o1 (z7a o1 fun hne => ?_)).symm
 rcases o4 with o4 | o4
 · have hol : o.length ≠ 0 := fun h => hne (List.length_eq_zero_iff.1 h); have hm : o.length = a.length ∨ o.length = b.length := by omega
   rcases hm with hm | hm
   · have := z5x ha hca (fun h => by rw [h] at hm; exact hol hm); rw [hm, o2]; omega
   · have := z5x hb hcb (fun h => by rw [h] at hm; exact hol hm); rw [hm, o2]; omega
 · exact o4
theorem zye (N : Nat) (hN : 4000 < N) (a b : Nat) (ha : a < 10 ^ 900) (hb : b < 10 ^ 900) : zey N (dg a) (dg b) = some (dg (a + b)) := by
 obtain ⟨r, h1, _, _, _, h2⟩ := z5m N hN (zjq a) (zjq b) (Nat.le_trans ((zg9 a 900).2 ha) (by decide)) (Nat.le_trans ((zg9 b 900).2 hb) (by decide))
 rw [h1, h2 (z5y a) (z5y b), zj6, zj6]
theorem zyf (N : Nat) (hN : 4000 < N) (a b : Nat) (ha : a < 10 ^ 900) (hb : b < 10 ^ 900) : zfj N (dg a) (dg b) = some (zhu a b) := by
 have la : (dg a).length ≤ 900 := (zg9 a 900).2 ha
 have lb : (dg b).length ≤ 900 := (zg9 b 900).2 hb
 unfold zfj
 by_cases hl : (dg a).length = (dg b).length
 · rw [zcz, dcf (by omega), cfa]; have key := z8y (f := zfj.r0 N) (fun s => ∃ i : Nat, s = (dg a, dg b, (i : Int) - 1) ∧ i ≤ (dg a).length ∧ (dg a).drop i = (dg b).drop i) (fun s => (s.2.2 + 1).toNat) (fun r => r = zhu a b) (fun s => dg a = dg b)
    (fun s hs => by
     obtain ⟨i, rfl, s1, s2⟩ := hs; simp only [zfj.r0, zfj.b0]; cases i with
     | zero =>
      right; left; refine ⟨_, rfl, ?_⟩; rw [dr0, dr0] at s2; exact s2
     | succ i =>
      obtain ⟨x, hx⟩ : ∃ x, (dg a)[i]? = some x := zeg (by omega); obtain ⟨y, hy⟩ : ∃ y, (dg b)[i]? = some y := zeg (by omega); rw [dct (show ((i + 1 : Nat) : Int) - 1 ≥ 0 by omega), ctr, show ((i + 1 : Nat) : Int) - 1 = (i : Int) by omega, zbc, zbc, hx, hy]; simp only [obs, zhc]; obtain ⟨hxl, hxe⟩ := gei hx; obtain ⟨hyl, hye⟩ := gei hy
      by_cases hxy : x = y
      · left; rw [zcz, dcf (by omega), cfa, w6e]; refine ⟨_, rfl, ⟨i, rfl, by omega, ?_⟩, ?_⟩
        · rw [List.drop_eq_getElem_cons hxl, List.drop_eq_getElem_cons hyl, hxe, hye, hxy, s2]
        · show ((i : Int) - 1 + 1).toNat < ((i : Int) + 1).toNat; omega
      · right; right; rw [zcz, dct hxy, ctr]; refine ⟨_, rfl, ?_⟩; unfold zhu
        by_cases hlt : x < y
        · have := z9e (zjq a) (zjq b) i hxl hyl s2 (by rw [hxe, hye]; exact hlt); rw [zj6, zj6] at this; rw [dcf (by omega), ifp this]; decide
        · have := z9e (zjq b) (zjq a) i hyl hxl s2.symm (by rw [hxe, hye]; omega); rw [zj6, zj6] at this; rw [dct (by omega), ifn, ifp this]; decide)
    (N := N) (s := (dg a, dg b, ((dg a).length : Int) - 1)) ⟨(dg a).length, rfl, Nat.le_refl _, by rw [List.drop_of_length_le (Nat.le_refl _), List.drop_of_length_le (by omega)]⟩ (by show (((dg a).length : Int) - 1 + 1).toNat < N; omega)
   rw [w6e]; rcases key with ⟨s', h1, h2⟩ | ⟨r, h1, h2⟩
   · have e := congrArg dv h2; rw [zj6, zj6] at e; rw [h1, e]; unfold zhu; rw [ifn, ifn]; rfl
   · rw [h1, h2]; rfl
 · rw [zcz, dct (by omega), ctr, zhc]; simp only [obs]; unfold zhu
   by_cases hlt : (dg a).length < (dg b).length
   · rw [dcf (by omega), ifp (zz2 hlt)]; rfl
   · have h2 := zz2 (a := b) (b := a) (by omega); rw [dct (by omega), ifn, ifp h2]; rfl
theorem zyg (N : Nat) (hN : 4000 < N) (a b : Nat) (ha : a < 10 ^ 900) (hba : b ≤ a) : zfk N (dg a) (dg b) = some (dg (a - b)) := by
 have la : (dg a).length ≤ 900 := (zg9 a 900).2 ha
 have lab : (dg b).length ≤ (dg a).length := (zg9 b _).2 (Nat.lt_of_le_of_lt hba ((zg9 a _).1 (Nat.le_refl _)))
 have hA := zjq a
 have hB := zjq b
 have vA := zj6 a
 have vB := zj6 b
 unfold zfk
 generalize dg a = A at *
 generalize dg b = B at *
 obtain ⟨s', h1, h2⟩ := zko (f := zfk.r0 N)
  (fun s => ∃ (o : List Int) (c i : Nat), s = (A, B, o, (c : Int), (i : Int)) ∧ o.length = i ∧ i ≤ A.length ∧ dok o ∧ c ≤ 1 ∧ dv o + dv (B.take i) = dv (A.take i) + 10 ^ i * c)
  (fun s => A.length - s.2.2.2.2.toNat) (fun s => ∃ c : Nat, dok s.2.2.1 ∧ s.2.2.1.length = A.length ∧ dv s.2.2.1 + b = a + 10 ^ A.length * c)
  (fun s hs => by
   obtain ⟨o, c, i, rfl, s1, s2, s3, s4, s5⟩ := hs; simp only [zfk.r0, zfk.b0]
   by_cases hi : i < A.length
   · left; obtain ⟨x, hx⟩ : ∃ x, A[i]? = some x := zeg hi; obtain ⟨x0, x1⟩ := zp2 hA hx; have tA := zta A i hx; have hroom : ∀ x : Int, Nat.ble ((o.length + ([x] : List Int).length) * 8) zac = true := fun x => zal (by simp only [lnc, ln0]; omega); rw [dct (show (i : Int) < (A.length : Int) by omega), ctr, zbc, hx]; simp only [obs, zhc]; obtain ⟨y, hy1, hy2, hy3⟩ : ∃ y : Int, (0 ≤ y ∧ y < 10) ∧ dv (B.take (i + 1)) = dv (B.take i) + 10 ^ i * y.toNat ∧ (if i < B.length then B[i]? = some y else y = 0) := by
      by_cases h : i < B.length
      · obtain ⟨y, hy⟩ : ∃ y, B[i]? = some y := zeg h; exact ⟨y, zp2 hB hy, zta B i hy, by rw [ifp h]; exact hy⟩
      · exact ⟨0, by omega, by rw [List.take_of_length_le (by omega), List.take_of_length_le (by omega)]; simp, by rw [ifn h]⟩
     have fin : ∀ v : Int, v = x - (c : Int) - y → (cond (Nat.ble ((o.length + ([w6 (v + w6 (10 * cond (decide (v < 0)) 1 0))] : List Int).length) * 8) zac) (some (Stp.again (A, B, o ++ [w6 (v + w6 (10 * cond (decide (v < 0)) 1 0))], cond (decide (v < 0)) (1 : Int) 0, w6 ((i : Int) + 1)))) none) = some (Stp.again (A, B, o ++ [if v < 0 then v + 10 else v], ((if v < 0 then 1 else 0 : Nat) : Int), ((i + 1 : Nat) : Int))) := by
      intro v hv; rw [hroom, ctr, w6e (n := (i : Int) + 1)]
      by_cases hneg : v < 0
      · rw [dct hneg, ifp hneg, ifp hneg, ctr, w6e (n := 10 * 1) (by decide) (by decide), w6e]; rfl
      · rw [dcf hneg, ifn hneg, ifn hneg, cfa, w6e (n := 10 * 0) (by decide) (by decide), w6e, Int.mul_zero, Int.add_zero]; rfl
     refine ⟨(A, B, o ++ [if x - (c : Int) - y < 0 then x - (c : Int) - y + 10 else x - (c : Int) - y], ((if x - (c : Int) - y < 0 then 1 else 0 : Nat) : Int), ((i + 1 : Nat) : Int)), ?_, ⟨_, _, _, rfl, by rw [lna, lns, s1], by omega, zox s3 (by split <;> omega) (by split <;> omega), zzu _, ?_⟩, ?_⟩
     · by_cases h : i < B.length
       · rw [ifp h] at hy3; rw [dct (show (i : Int) < (B.length : Int) by omega), ctr, zbc, hy3, obs, w6e (n := x - (c : Int)), w6e (n := x - (c : Int) - y)]; exact fin _ rfl
       · rw [ifn h] at hy3; rw [dcf (show ¬ (i : Int) < (B.length : Int) by omega), cfa, w6e (n := x - (c : Int))]; have := fin (x - (c : Int)) (by omega); rw [this, hy3, Int.sub_zero]
     · rw [zne, hy2, tA, s1, Nat.pow_succ]; generalize 10 ^ i = P at *; have e : ∀ u : Nat, P * 10 * u = P * (10 * u) := fun u => Nat.mul_assoc _ _ _; rw [e]; have lin : (if x - (c : Int) - y < 0 then x - (c : Int) - y + 10 else x - (c : Int) - y).toNat + y.toNat + c = x.toNat + 10 * (if x - (c : Int) - y < 0 then 1 else 0) := by split <;> omega
       have := congrArg (P * ·) lin; simp only [Nat.mul_add] at this; generalize P * (if x - (c : Int) - y < 0 then x - (c : Int) - y + 10 else x - (c : Int) - y).toNat = U at *; generalize P * (10 * (if x - (c : Int) - y < 0 then 1 else 0)) = V at *; omega
     · show A.length - ((i + 1 : Nat) : Int).toNat < A.length - (i : Int).toNat; simp only [itn]; omega
   · right; rw [dcf (show ¬ (i : Int) < (A.length : Int) by omega), cfa]; rw [List.take_of_length_le (by omega), List.take_of_length_le (by omega), vA, vB] at s5; exact ⟨_, rfl, c, s3, (show o.length = A.length by omega), by rw [show A.length = i by omega]; exact s5⟩)
  (N := N) (s := (A, B, [], 0, 0)) ⟨[], 0, 0, rfl, rfl, by omega, fun d hd => (List.not_mem_nil hd).elim, by omega, by simp [dv]⟩ (by show A.length - (0 : Int).toNat < N; omega)
 obtain ⟨c, o1, o2, o3⟩ := h2
 have hlt := zz1 o1
 rw [o2] at hlt
 have hc : c = 0 := by
  refine cbc fun h => ?_; have := Nat.mul_le_mul_left (10 ^ A.length) (show 1 ≤ c by omega); rw [Nat.mul_one] at this; clear ha; generalize 10 ^ A.length * c = M at *; generalize 10 ^ A.length = P at *; omega
 rw [h1]
 simp only [obs]
 rw [zqu N _ o1 (by omega) (by omega), show dv s'.2.2.1 = a - b by rw [hc] at o3; omega]
 rfl
def sgn (s : Bool) (m : Nat) : Int := cond s (-(m : Int)) m
theorem zqx (m : Nat) : decide (((dg m).length : Int) > 0) = decide (m ≠ 0) := by
 simp only [decide_eq_decide]
 constructor
 · intro h h2; rw [h2, zkj] at h; simp at h
 · intro h; rw [zn4 h, lnc]; omega
theorem z3l (m : Nat) : (((dg m).length : Int) == 0) = decide (m = 0) := by
 rw [zao]
 simp only [decide_eq_decide]
 constructor
 · intro h; refine cbc fun h2 => ?_; rw [zn4 h2, lnc] at h; omega
 · intro h; rw [h, zkj]; rfl
theorem z2t (N : Nat) (hN : 4000 < N) (s u : Bool) (p q : Nat) (hp : p < 10 ^ 800) (hq : q < 10 ^ 800) : ∃ v m, zpn N ⟨s, dg p⟩ ⟨u, dg q⟩ = some ⟨v, dg m⟩ ∧ sgn v m = sgn s p + sgn u q ∧ m ≤ p + q := by
 have h89 : (10 : Nat) ^ 800 < 10 ^ 900 := by decide
 unfold zpn
 rw [zye N hN p q (by omega) (by omega), zyf N hN p q (by omega) (by omega)]
 simp only [obs]
 by_cases hsu : s = u
 · subst hsu; simp only [bst, ctr]; exact ⟨_, _, rfl, by unfold sgn; cases s <;> simp <;> omega, by omega⟩
 · rw [show (s == u) = false from beq_eq_false_iff_ne.2 hsu, cfa]; unfold zhu
   by_cases h : p < q
   · rw [ifp h, zyg N hN q p (by omega) (Nat.le_of_lt h)]; simp only [show decide ((-1 : Int) < 0) = true from rfl, ctr, obs, zqx]; have hz : decide (q - p ≠ 0) = true := dct (by omega); rw [hz]; refine ⟨u, q - p, by cases u <;> rfl, ?_, by omega⟩; unfold sgn; cases s <;> cases u <;> simp_all <;> omega
   · have hf : ∀ k : Int, decide ((if q < p then (1 : Int) else 0) < 0) = false := fun _ => by split <;> rfl
     rw [ifn h, hf 0, zyg N hN p q (by omega) (by omega)]; simp only [cfa, obs, zqx]; refine ⟨s && decide (p - q ≠ 0), p - q, by cases s <;> rfl, ?_, by omega⟩; unfold sgn
     by_cases hz : p - q = 0
     · rw [dcf (by omega)]; cases s <;> cases u <;> simp_all <;> omega
     · rw [dct hz]; cases s <;> cases u <;> simp_all <;> omega
theorem zxi (N : Nat) (hN : 1000 < N) {a b : Number} (ha : zcn a) (hb : zcn b) : zmo N a b = some (⟨decide (a.N < 0), dg (zah a (zi a b)).natAbs⟩, ⟨decide (b.N < 0), dg (zah b (zi a b)).natAbs⟩, zi a b) := by
 obtain ⟨s1, s2, s3, s4⟩ := zl2 ha hb
 obtain ⟨⟨a1, a2⟩, a3, a4⟩ := ha
 obtain ⟨⟨b1, b2⟩, b3, b4⟩ := hb
 unfold zmo
 rw [show (if b.Scale > a.Scale then b.Scale else a.Scale) = zi a b from rfl, w6e, w6e]
 have e1 := zvl N hN a.N ⟨by omega, by omega⟩ (zi a b - a.Scale).toNat (by omega)
 have e2 := zvl N hN b.N ⟨by omega, by omega⟩ (zi a b - b.Scale).toNat (by omega)
 rw [Int.toNat_of_nonneg (by omega)] at e1 e2
 rw [e1, obs, e2, obs, zic, zic]
theorem zqh (x : Number) (s : Int) : sgn (decide (x.N < 0)) (zah x s).natAbs = zah x s := by
 have := znm x s
 unfold sgn
 by_cases h : x.N < 0
 · rw [dct h, ctr]; have := this.2 h; omega
 · rw [dcf h, cfa]; have : ¬ zah x s < 0 := fun h2 => h (this.1 h2); omega
theorem z5h (s : Bool) (m : Nat) : sgn (!s) m = -sgn s m := by unfold sgn; cases s <;> simp
theorem p30 {n : Nat} (h : n ≤ 10 ^ 30) : n < 10 ^ 800 := Nat.lt_of_le_of_lt h (by decide)
theorem z2x (N : Nat) (hN : 4000 < N) {a b : Number} (ha : zcn a) (hb : zcn b) : zk5 N a b = some (z0l (zah a (zi a b)) (zah b (zi a b))) := by
 obtain ⟨s1, s2, s3, s4⟩ := zl2 ha hb
 unfold zk5
 try simp only [eN]
 rw [zxi N (by omega) ha hb]
 simp only [obs]
 obtain ⟨v, m, h1, h2, _⟩ := z2t N hN (decide (a.N < 0)) (!decide (b.N < 0)) _ _ (p30 (zil ha s4)) (p30 (zil hb s4))
 rw [h1]
 simp only [obs, z3l, zhc]
 rw [z5h, zqh, zqh] at h2
 generalize zah a (zi a b) = A at *
 generalize zah b (zi a b) = B at *
 unfold sgn at h2
 unfold z0l
 by_cases hz : m = 0
 · rw [dct hz, ctr]; have : A = B := by cases v <;> simp_all <;> omega
   rw [ifn, ifn]
 · rw [dcf hz, cfa]; cases v with
   | true =>
    rw [ctr] at h2; rw [ifp]; decide
   | false =>
    rw [cfa] at h2; rw [ifn, ifp]; decide
theorem zacb (O c x y A P T : Nat) (hP : O + P * (c + (x + 10 * A) * y) = T) : O + P * ((c + x * y) % 10) + P * 10 * ((c + x * y) / 10 + A * y) = T := by
 rw [← hP, Nat.mul_assoc, Nat.add_assoc, ← Nat.mul_add, Nat.add_mul, Nat.mul_assoc 10 A y]
 congr 2
 generalize x * y = z at *
 generalize A * y = w at *
 omega
theorem zadp (N : Nat) (hN : 4000 < N) (p : Nat) (hp : p < 10 ^ 100) (o : List Int) (L3 L4 : zK) (i : Nat) (hi : i ≤ 100) (y : Nat) (hy : y < 10) (hy2 : L3.zU[i]? = some (y : Int)) (s : Bool) :
 ∃ row c k, zr (zbw.r2 N) N (o, (i : Int), List.replicate i (0 : Int), 0, 0, (⟨s, dg p⟩ : zK), L3, L4) = some (o, (i : Int), row, c, k, ⟨s, dg p⟩, L3, L4) ∧ dok row ∧ dv row = 10 ^ i * (p * y) ∧ row.length ≤ 300 := by
 have lp : (dg p).length ≤ 100 := (zg9 p 100).2 hp
 have hA := zjq p
 have vA := zj6 p
 generalize dg p = A at *
 obtain ⟨s', h1, h2⟩ := zko (f := zbw.r2 N)
  (fun t => ∃ (row : List Int) (c k : Nat), t = (o, (i : Int), row, (c : Int), (k : Int), (⟨s, A⟩ : zK), L3, L4) ∧ row.length = i + k ∧ k ≤ A.length + 1 ∧ dok row ∧ c ≤ 8 ∧ dv row + 10 ^ (i + k) * (c + dv (A.drop k) * y) = 10 ^ i * (p * y) ∧ (A.length < k → c = 0))
  (fun t => 2 * (A.length - t.2.2.2.2.1.toNat) + (if t.2.2.2.1 = 0 then 0 else 1)) (fun t => ∃ (row : List Int) (c k : Int), t = (o, (i : Int), row, c, k, (⟨s, A⟩ : zK), L3, L4) ∧ dok row ∧ dv row = 10 ^ i * (p * y) ∧ row.length ≤ 300)
  (fun t ht => by
   obtain ⟨row, c, k, rfl, s1, s2, s3, s4, s5, s6⟩ := ht; have hroom : ∀ x : Int, Nat.ble ((row.length + ([x] : List Int).length) * 8) zac = true := fun x => zal (by simp only [lnc, ln0]; omega); simp only [zbw.r2, zbw.b2]
   by_cases hk : k < A.length
   · left; obtain ⟨x, hx⟩ : ∃ x, A[k]? = some x := zeg hk; obtain ⟨x0, x1⟩ := zp2 hA hx; obtain ⟨u, rfl⟩ : ∃ u : Nat, x = (u : Int) := ⟨x.toNat, by omega⟩; have hd := zow A k hx; rw [itn] at hd; have hmul : u * y ≤ 9 * 9 := Nat.mul_le_mul (by omega) (by omega); rw [dct (show (k : Int) < (A.length : Int) by omega)]; simp only [ctr, obs]; rw [zbc, hx, zbc, hy2]; simp only [obs]; have hv : w6 ((c : Int) + w6 ((u : Int) * (y : Int))) = ((c + u * y : Nat) : Int) := by
      rw [← Int.natCast_mul, w6e (n := ((u * y : Nat) : Int)), w6e]; omega
     rw [hv, hroom, ctr, tme, tde, w6e (n := ((c + u * y : Nat) : Int) / 10), w6e (n := (k : Int) + 1)]; rw [hd] at s5; have alg := zacb _ _ _ _ _ _ _ s5; refine ⟨_, rfl, ⟨row ++ [(((c + u * y) % 10 : Nat) : Int)], (c + u * y) / 10, k + 1, ?_, ?_, by omega, zox s3 (by omega) (by omega), by omega, ?_, fun h => by omega⟩, ?_⟩
     · generalize u * y = z; rw [show ((c + z : Nat) : Int) % 10 = (((c + z) % 10 : Nat) : Int) by omega, show ((c + z : Nat) : Int) / 10 = (((c + z) / 10 : Nat) : Int) by omega]; rfl
     · rw [lna, lns, s1]; omega
     · rw [zne, s1, itn, show i + (k + 1) = i + k + 1 by omega, Nat.pow_succ]; exact alg
     · show 2 * (A.length - ((k : Int) + 1).toNat) + (if ((c + u * y : Nat) : Int) / 10 = 0 then 0 else 1) < 2 * (A.length - (k : Int).toNat) + (if (c : Int) = 0 then 0 else 1); have := zzu (((c + u * y : Nat) : Int) / 10 = 0); split <;> split <;> omega
   · rw [dcf (show ¬ (k : Int) < (A.length : Int) by omega)]; simp only [cfa, obs]; rw [zh9 (show A.length ≤ k by omega)] at s5
     by_cases hc : c = 0
     · right; rw [dcf (show ¬ (c : Int) > 0 by omega), cfa]; refine ⟨_, rfl, row, _, _, rfl, s3, ?_, by omega⟩; rw [hc] at s5; simpa using s5
     · left; have hkA : k = A.length := by
        refine cbc fun h => hc (s6 (by omega))
       rw [dct (show (c : Int) > 0 by omega), ctr, hroom, ctr, tme, tde, w6e (n := (c : Int) / 10), w6e (n := (k : Int) + 1)]; refine ⟨_, rfl, ⟨row ++ [(c : Int)], 0, k + 1, ?_, ?_, by omega, zox s3 (by omega) (by omega), by omega, ?_, fun _ => rfl⟩, ?_⟩
       · rw [show (c : Int) % 10 = (c : Int) by omega, show (c : Int) / 10 = ((0 : Nat) : Int) by omega]; rfl
       · rw [lna, lns, s1]; omega
       · rw [zne, s1, itn, zh9 (show A.length ≤ k + 1 by omega)]; simp only [Nat.zero_mul, Nat.add_zero, Nat.mul_zero] at s5 ⊢; exact s5
       · show 2 * (A.length - ((k : Int) + 1).toNat) + (if (c : Int) / 10 = 0 then 0 else 1) < 2 * (A.length - (k : Int).toNat) + (if (c : Int) = 0 then 0 else 1); rw [ifp, ifn]; omega)
  (N := N) (s := (o, (i : Int), List.replicate i (0 : Int), 0, 0, (⟨s, A⟩ : zK), L3, L4)) ⟨List.replicate i 0, 0, 0, rfl, by rw [lnr]; rfl, by omega, zp1 i, by omega, by rw [zrh, dr0, vA]; simp, fun h => rfl⟩ (by show 2 * (A.length - (0 : Int).toNat) + (if (0 : Int) = 0 then 0 else 1) < N; rw [ifp rfl]; omega)
 obtain ⟨row, c, k, rfl, r1, r2, r3⟩ := h2
 exact ⟨row, c, k, h1, r1, r2, r3⟩
theorem z6n (N : Nat) (hN : 4000 < N) (s u : Bool) (p q : Nat) (hp : p < 10 ^ 90) (hq : q < 10 ^ 90) : zbw N ⟨s, dg p⟩ ⟨u, dg q⟩ = some ⟨(s != u) && decide (p * q ≠ 0), dg (p * q)⟩ := by
 have lq : (dg q).length ≤ 90 := (zg9 q 90).2 hq
 have hB := zjq q
 have vB := zj6 q
 unfold zbw
 obtain ⟨s', h1, h2⟩ := zko (f := zbw.r0 N)
  (fun t => ∃ (o : List Int) (i : Nat), t = (o, (i : Int), (⟨s, dg p⟩ : zK), (⟨u, dg q⟩ : zK), (⟨false, []⟩ : zK)) ∧ i ≤ (dg q).length ∧ dok o ∧ o.length ≤ 300 + i ∧ dv o = p * dv ((dg q).take i))
  (fun t => (dg q).length - t.2.1.toNat) (fun t => ∃ o : List Int, (∃ i : Int, t = (o, i, (⟨s, dg p⟩ : zK), (⟨u, dg q⟩ : zK), (⟨false, []⟩ : zK))) ∧ dok o ∧ o.length ≤ 400 ∧ dv o = p * q)
  (fun t ht => by
   obtain ⟨o, i, rfl, s1, s2, s3, s4⟩ := ht; simp only [zbw.r0, zbw.b0]
   by_cases hi : i < (dg q).length
   · left; obtain ⟨y, hy⟩ : ∃ y, (dg q)[i]? = some y := zeg hi; obtain ⟨y0, y1⟩ := zp2 hB hy; obtain ⟨w, rfl⟩ : ∃ w : Nat, y = (w : Int) := ⟨y.toNat, by omega⟩; rw [dct (show (i : Int) < ((dg q).length : Int) by omega), ctr, ifp, ifp, zal (by omega), ctr, itn]; obtain ⟨row, c, k, r1, r2, r3, r4⟩ := zadp N hN p (Nat.lt_of_lt_of_le hp (zby (by decide))) o (⟨u, dg q⟩ : zK) (⟨false, []⟩ : zK) i (by omega) w (by omega) hy s; rw [r1]; simp only [obs]; obtain ⟨r, g1, g2, g3, g4, _⟩ := z5m N hN s2 r2 (by omega) (by omega); rw [g1]; simp only [obs]; rw [w6e]; refine ⟨_, rfl, ⟨r, i + 1, rfl, by omega, g2, ?_, ?_⟩, ?_⟩
     · omega
     · rw [g3, s4, r3, zta _ i hy, itn, Nat.mul_add, Nat.mul_left_comm]
     · show (dg q).length - ((i : Int) + 1).toNat < (dg q).length - (i : Int).toNat; omega
   · right; rw [dcf (show ¬ (i : Int) < ((dg q).length : Int) by omega), cfa]; refine ⟨_, rfl, o, ⟨_, rfl⟩, s2, by omega, ?_⟩; rw [s4, List.take_of_length_le (by omega), vB])
  (N := N) (s := ([], 0, (⟨s, dg p⟩ : zK), (⟨u, dg q⟩ : zK), (⟨false, []⟩ : zK))) ⟨[], 0, rfl, by omega, fun d hd => (List.not_mem_nil hd).elim, by simp, by simp [dv]⟩ (by show (dg q).length - (0 : Int).toNat < N; omega)
 obtain ⟨o, ⟨i, rfl⟩, o1, o2, o3⟩ := h2
 rw [h1]
 simp only [obs]
 rw [zqu N o o1 (by omega) (by omega), o3]
 simp only [obs, zqx]
 cases s <;> cases u <;> rfl
theorem z98 (N : Nat) (hN : 4000 < N) (A : List Int) (b r0 : Nat) (hb : 0 < b) (hb2 : b < 10 ^ 500) (Q : List Int) (hQ : dok Q) (i : Nat) (hi : i < Q.length) (hz : Q[i]? = some 0) (hr : r0 < 10 * b) :
 zr (zbn.r2 N) N (A, dg b, Q, dg r0, (i : Int)) = some (A, dg b, Q.set i ((r0 / b : Nat) : Int), dg (r0 % b), (i : Int)) := by
 have h56 : (10 : Nat) ^ 500 * 10 ≤ 10 ^ 900 := by decide
 obtain ⟨s', h1, h2⟩ := zko (f := zbn.r2 N)
  (fun t => ∃ (r c : Nat), t = (A, dg b, Q.set i (c : Int), dg r, (i : Int)) ∧ r + c * b = r0)
  (fun t => 10 - (zap t.2.2.1 i).toNat) (fun t => t = (A, dg b, Q.set i ((r0 / b : Nat) : Int), dg (r0 % b), (i : Int)))
  (fun t ht => by
   obtain ⟨r, c, rfl, s1⟩ := ht; have hc : c < 10 := by
    refine cbc fun h => ?_; have := Nat.mul_le_mul_right b (show 10 ≤ c by omega); omega
   have hl : (Q.set i (c : Int)).length = Q.length := List.length_set; have hx : (Q.set i (c : Int))[i]? = some (c : Int) := by rw [List.getElem?_set, ifp rfl, ifp hi]
   have hr0 : r ≤ r0 := by omega
   simp only [zbn.r2, zbn.b2]; rw [zyf N hN r b (by omega) (by omega), obs, zs1]
   by_cases h : b ≤ r
   · left; rw [dct h, ctr, zyg N hN r b (by omega) h, obs, hl, ifp, ifp, itn, hx]; simp only [obs]; rw [ifp, ifp, w6e, List.set_set]; refine ⟨_, rfl, ⟨r - b, c + 1, rfl, ?_⟩, ?_⟩
     · rw [Nat.add_mul, Nat.one_mul]; omega
     · have g : ∀ v : Int, zap (Q.set i v) i = v := by
        intro v; clear hx hl hz
        induction Q generalizing i with
        | nil => simp at hi
        | cons q Q ih =>
         cases i with
         | zero => rfl
         | succ i =>
          rw [List.set_cons_succ]; show (if i + 1 = 0 then q else zap (Q.set i v) (i + 1 - 1)) = v; rw [ifn, Nat.add_sub_cancel]; exact ih (fun d hd => hQ d (List.mem_cons_of_mem _ hd)) i (by simpa using hi)
       show 10 - (zap (Q.set i ((c : Int) + 1)) i).toNat < 10 - (zap (Q.set i (c : Int)) i).toNat; rw [g, g]; omega
   · right; rw [dcf h, cfa]; refine ⟨_, rfl, ?_⟩; have e1 : r0 / b = c := by rw [← s1, Nat.add_mul_div_right _ _ hb, Nat.div_eq_of_lt (by omega), Nat.zero_add]
     have e2 : r0 % b = r := by rw [← s1, Nat.add_mul_mod_self_right, mel (by omega)]
     rw [e1, e2])
  (N := N) (s := (A, dg b, Q, dg r0, (i : Int))) ⟨r0, 0, by
   have : Q.set i ((0 : Nat) : Int) = Q := by
    refine List.ext_getElem? fun k => ?_; rw [List.getElem?_set]; split
    · rename_i hk; rw [← hk, hz]; rfl
    · rfl
   rw [this], by omega⟩ (by show 10 - (zap Q i).toNat < N; omega)
 rw [h1, h2]
theorem zzh (N : Nat) (hN : 4000 < N) (a b : Nat) (ha : a < 10 ^ 400) (hb : 0 < b) (hb2 : b < 10 ^ 400) : zbn N (dg a) (dg b) = some (dg (a / b), dg (a % b)) := by
 have la : (dg a).length ≤ 400 := (zg9 a 400).2 ha
 have h45 : (10 : Nat) ^ 400 < 10 ^ 500 := by decide
 have hA := zjq a
 have vA := zj6 a
 unfold zbn
 generalize dg a = A at *
 rw [ifp, ifp, zal (by omega), ctr, itn, w6e]
 obtain ⟨s', h1, h2⟩ := zko (f := zbn.r0 N)
  (fun t => ∃ (Q : List Int) (i : Nat), t = (A, dg b, Q, dg (dv (A.drop i) % b), (i : Int) - 1) ∧ i ≤ A.length ∧ Q.length = A.length ∧ dok Q ∧ dv (Q.drop i) = dv (A.drop i) / b ∧ (∀ k, k < i → Q[k]? = some 0))
  (fun t => (t.2.2.2.2 + 1).toNat) (fun t => dok t.2.2.1 ∧ t.2.2.1.length = A.length ∧ dv t.2.2.1 = a / b ∧ t.2.2.2.1 = dg (a % b))
  (fun t ht => by
   obtain ⟨Q, i, rfl, s1, s2, s3, s4, s5⟩ := ht; simp only [zbn.r0, zbn.b0]; cases i with
   | zero =>
    right; rw [dr0, dr0, vA] at s4; refine ⟨_, rfl, s3, s2, s4, ?_⟩; rw [dr0, vA]
   | succ i =>
    left; obtain ⟨x, hx⟩ : ∃ x, A[i]? = some x := zeg (by omega); obtain ⟨x0, x1⟩ := zp2 hA hx; obtain ⟨u, rfl⟩ : ∃ u : Nat, x = (u : Int) := ⟨x.toNat, by omega⟩; have hd := zow A i hx; rw [itn] at hd; have hrb : dv (A.drop (i + 1)) % b < b := Nat.mod_lt _ hb; have hdm := Nat.div_add_mod (dv (A.drop (i + 1))) b; rw [show ((i + 1 : Nat) : Int) - 1 = (i : Int) by omega, dct (show (i : Int) ≥ 0 by omega), ctr, zbc, hx]; simp only [obs]; generalize dv (A.drop (i + 1)) = p at *; have lr : (dg (p % b)).length ≤ 500 := (zg9 _ 500).2 (by omega); rw [zal (by simp only [lnc, ln0]; omega), ctr]; have hrest : dok ([(u : Int)] ++ dg (p % b)) := zuj (fun d hd => by
     rcases List.mem_cons.1 hd with rfl | hd
     · omega
     · cases hd) (zjq _)
    rw [zqu N _ hrest (by rw [lna, lns]; omega) (by rw [lna, lns]; omega)]; have hv : dv ([(u : Int)] ++ dg (p % b)) = u + 10 * (p % b) := by
     show (u : Int).toNat + 10 * dv (dg (p % b)) = _; rw [zj6, itn]
    rw [hv]; simp only [obs]; rw [z98 N hN A b (u + 10 * (p % b)) hb (by omega) Q s3 i (by omega) (s5 i (by omega)) (by omega)]; simp only [obs]; rw [w6e]; have eq1 : u + 10 * p = b * (10 * (p / b)) + (u + 10 * (p % b)) := by
     rw [Nat.mul_left_comm]; omega
    have ed : (u + 10 * p) / b = 10 * (p / b) + (u + 10 * (p % b)) / b := by rw [eq1, Nat.mul_add_div hb]
    have em : (u + 10 * p) % b = (u + 10 * (p % b)) % b := by rw [eq1, Nat.mul_add_mod]
    have hdig : (u + 10 * (p % b)) / b < 10 := Nat.div_lt_of_lt_mul (by rw [Nat.mul_comm]; omega); generalize (u + 10 * (p % b)) / b = G at *; refine ⟨_, rfl, ⟨Q.set i (G : Int), i, ?_, by omega, by rw [List.length_set]; exact s2, ?_, ?_, ?_⟩, ?_⟩
    · rw [hd, em]
    · intro d hd; rcases List.mem_or_eq_of_mem_set hd with h | h
      · exact s3 d h
      · rw [h]; omega
    · have hxs : (Q.set i (G : Int))[i]? = some (G : Int) := by rw [List.getElem?_set, ifp rfl, ifp]
      rw [zow _ i hxs, itn, List.drop_set_of_lt (by omega), s4, hd, ed]; omega
    · intro k hk; rw [List.getElem?_set, ifn]; exact s5 k (by omega)
    · show ((i : Int) - 1 + 1).toNat < ((i : Int) + 1).toNat; omega)
  (N := N) (s := (A, dg b, List.replicate A.length 0, [], (A.length : Int) - 1)) ⟨List.replicate A.length 0, A.length, by rw [zh9 (Nat.le_refl _), Nat.zero_mod, zkj], by omega, lnr, zp1 _, by rw [zh9 (Nat.le_refl _), Nat.zero_div, zh9 (by rw [lnr]; omega)], fun k hk => by rw [List.getElem?_replicate, ifp hk]⟩ (by show ((A.length : Int) - 1 + 1).toNat < N; omega)
 obtain ⟨o1, o2, o3, o4⟩ := h2
 rw [h1]
 simp only [obs]
 rw [zqu N _ o1 (by omega) (by omega), o3, o4]
 rfl
theorem zvj (k : Nat) (hk : k ≤ 100) : zju (k : Int) = some (dg (10 ^ k)) := by
 unfold zju
 rw [ifp, ifp, zal (by omega), ctr, itn, lnr, zal (by simp only [lnc, ln0]; omega), ctr]
 congr 1
 have h1 : dok (List.replicate k (0 : Int) ++ [1]) := zox (zp1 k) (by decide) (by decide)
 have h2 : dv (List.replicate k (0 : Int) ++ [1]) = 10 ^ k := by rw [zne, zrh, lnr]; simp
 rw [← h2]
 refine (zz3 h1 ?_).symm
 unfold zm1
 rw [List.getLast?_append]
 simp
def zyn (p q : Nat) (half : Bool) : Nat := p / q + cond (half && decide (q ≤ p % q + p % q)) 1 0
theorem z96 (N : Nat) (hN : 4000 < N) (s : Bool) (p q : Nat) (hp : p ≤ 10 ^ 100) (hq : 0 < q) (hq2 : q ≤ 10 ^ 100) (k : Nat) (hk : k ≤ 15) (half : Bool) :
 ∃ v, zo9 N ⟨⟨s, dg p⟩, dg q⟩ (k : Int) half = some ⟨v, dg (zyn (p * 10 ^ k) q half)⟩ ∧ (zyn (p * 10 ^ k) q half ≠ 0 → v = s) := by
 have hs : p * 10 ^ k ≤ 10 ^ 100 * 10 ^ 15 := Nat.mul_le_mul hp (zby hk)
 have h115 : (10 : Nat) ^ 100 * 10 ^ 15 < 10 ^ 400 := by decide
 have h4 : (10 : Nat) ^ 400 < 10 ^ 900 := by decide
 have h14 : (10 : Nat) ^ 100 < 10 ^ 400 := by decide
 have hr := Nat.mod_lt (p * 10 ^ k) hq
 have hdl := Nat.div_le_self (p * 10 ^ k) q
 have lp : (dg p).length ≤ 101 := (zg9 p 101).2 (by have : (10 : Nat) ^ 100 < 10 ^ 101 := (by decide); omega)
 unfold zo9
 rw [ifp, ifp, zal (by omega), ctr, itn, lnr, zal (by show (k + (dg p).length) * 8 ≤ 1000000; omega), ctr]
 have hd : dok (List.replicate k (0 : Int) ++ dg p) := zuj (zp1 k) (zjq p)
 have hv : dv (List.replicate k (0 : Int) ++ dg p) = p * 10 ^ k := by rw [zr7, zrh, zj6, lnr, Nat.zero_add, Nat.mul_comm]
 show ∃ v, ((zdz N (List.replicate k (0 : Int) ++ dg p)).bind _) = _ ∧ _
 rw [zqu N _ hd (by rw [lna, lnr]; omega) (by rw [lna, lnr]; omega), hv]
 simp only [obs]
 rw [zzh N hN _ q (by omega) hq (by omega)]
 simp only [obs]
 rw [zye N hN _ _ (by omega) (by omega)]
 simp only [obs]
 rw [zyf N hN _ q (by omega) (by omega)]
 simp only [obs, zs1]
 have kk : (cond half (some (decide (q ≤ p * 10 ^ k % q + p * 10 ^ k % q))) (some false)) = some (half && decide (q ≤ p * 10 ^ k % q + p * 10 ^ k % q)) := by cases half <;> rfl
 rw [kk, obs]
 unfold zyn
 cases (half && decide (q ≤ p * 10 ^ k % q + p * 10 ^ k % q)) with
 | true =>
  rw [ctr, ctr, show ([1] : List Int) = dg 1 by rw [zn4 (by decide), show 1 / 10 = 0 from rfl, zkj]; rfl, zye N hN _ 1 (by omega) (by omega)]; simp only [obs, zqx]; refine ⟨s && decide (p * 10 ^ k / q + 1 ≠ 0), by cases s <;> rfl, fun h => ?_⟩; rw [dct h, Bool.and_true]
 | false =>
  rw [cfa, cfa]; simp only [obs, zqx, Nat.add_zero]; refine ⟨s && decide (p * 10 ^ k / q ≠ 0), by cases s <;> rfl, fun h => ?_⟩; rw [dct h, Bool.and_true]
theorem z97 (N : Nat) (hN : 4000 < N) (v : Bool) (m : Nat) (hm : m < 10 ^ 16) : zes N ⟨v, dg m⟩ = some (sgn v m) := by
 have lm : (dg m).length ≤ 16 := (zg9 m 16).2 hm
 have hA := zjq m
 have vA := zj6 m
 unfold zes
 generalize dg m = A at *
 have lp := zbm (f := zes.r0 N) (fun i => (((dv (A.drop (A.length - i)) : Nat) : Int), (A.length : Int) - 1 - (i : Int), (⟨v, A⟩ : zK))) A.length
  (fun i hi => by
   obtain ⟨x, hx⟩ : ∃ x, A[A.length - 1 - i]? = some x := zeg (by omega); obtain ⟨x0, x1⟩ := zp2 hA hx; have hd := zow A _ hx; rw [show A.length - 1 - i + 1 = A.length - i by omega] at hd; have hb := zz1 (zaas hA (A.length - i)); have hb2 : 10 ^ (A.drop (A.length - i)).length ≤ 10 ^ 16 := zby (by rw [List.length_drop]; omega); simp only [zes.r0, zes.b0, dct (show (A.length : Int) - 1 - (i : Int) ≥ 0 by omega), ctr]; rw [show (A.length : Int) - 1 - (i : Int) = ((A.length - 1 - i : Nat) : Int) by omega, zbc, hx]; simp only [obs]; rw [w6e (n := 10 * ((dv (A.drop (A.length - i)) : Nat) : Int)), w6e (n := 10 * ((dv (A.drop (A.length - i)) : Nat) : Int) + x), w6e, show A.length - (i + 1) = A.length - 1 - i by omega, hd]
   congr 3
   · omega
   · congr 1
     omega)
  (by simp only [zes.r0, zes.b0, dcf (show ¬ (A.length : Int) - 1 - (A.length : Int) ≥ 0 by omega), cfa]) (N := N) (by omega)
 simp only [Nat.sub_zero, nc0, Int.sub_zero, Nat.sub_self, dr0, zh9 (Nat.le_refl A.length), vA] at lp
 show ((zr (zes.r0 N) N (0, w6 ((A.length : Int) - 1), (⟨v, A⟩ : zK))).bind _) = _
 rw [w6e, lp]
 simp only [obs]
 unfold sgn
 cases v
 · rfl
 · rw [ctr, ctr, w6e, Int.zero_sub]
theorem z75 (N : Nat) (hN : 4000 < N) (s : Bool) (p q : Nat) (hp : p ≤ 10 ^ 100) (hq : 0 < q) (hq2 : q ≤ 10 ^ 100) {t : DataType} (ht : zif t) (half : Bool) :
 ∃ n e, zm6 N ⟨⟨s, dg p⟩, dg q⟩ t half = some (n, e) ∧ ((⟨n, ⟨#[]⟩⟩ : Value), e) = zh5 s p q t half := by
 obtain ⟨⟨l1, l2⟩, l3, l4⟩ := zga ht
 obtain ⟨v, h1, h2⟩ := z96 N hN s p q hp hq hq2 t.Scale.toNat (by omega) half
 rw [Int.toNat_of_nonneg l3] at h1
 unfold zm6
 show ∃ n e, ((zo9 N ⟨⟨s, dg p⟩, dg q⟩ t.Scale half).bind _) = _ ∧ _
 rw [h1]
 simp only [obs]
 have hl := zg9 (zyn (p * 10 ^ t.Scale.toNat) q half) t.Length.toNat
 have e : zh5 s p q t half = if 10 ^ t.Length.toNat ≤ zyn (p * 10 ^ t.Scale.toNat) q half then (⟨0, ⟨#[]⟩⟩, 19) else (⟨sgn s (zyn (p * 10 ^ t.Scale.toNat) q half), ⟨#[]⟩⟩, 0) := rfl
 rw [e]
 generalize zyn (p * 10 ^ t.Scale.toNat) q half = Q at *
 by_cases h : 10 ^ t.Length.toNat ≤ Q
 · rw [ifp h]; have : ¬ (dg Q).length ≤ t.Length.toNat := fun h3 => by have := hl.1 h3; omega
   rw [dct (by omega)]; exact ⟨_, _, rfl, rfl⟩
 · rw [ifn h]; have : (dg Q).length ≤ t.Length.toNat := hl.2 (by omega); have hQ : Q < 10 ^ 16 := Nat.lt_of_lt_of_le (by omega : Q < 10 ^ t.Length.toNat) (zby (by omega)); rw [dcf (by omega), cfa, z97 N hN v Q hQ]; refine ⟨_, _, rfl, ?_⟩
   congr 2
   unfold sgn
   by_cases h0 : Q = 0
   · rw [h0]; cases v <;> cases s <;> rfl
   · rw [h2 h0]
theorem zur {t : DataType} (ht : zif t) : zkw t = some 0 := by
 obtain ⟨h0, h1, h2⟩ := ht
 unfold zkw
 rw [z0d, h0]
 simp only [obs, bsf, cfa]
 rw [ztq, zaz.2 ⟨h1, h2⟩]
 simp only [obs, zhc]
 decide
theorem zabz (N : Nat) (hN : 4000 < N) {x : Number} (hx : zcn x) {t : DataType} (ht : zif t) (half : Bool) : zlh N x t half = some (zky x t half) := by
 have hx' := hx
 obtain ⟨⟨h1, h2⟩, h3, h4⟩ := hx'
 unfold zlh zq5
 rw [zrv, zk7.2 hx]
 simp only [obs, bsf, cfa, eN]
 rw [zur ht]
 simp only [obs, bsf, cfa]
 have e1 := zvl N (by omega) x.N ⟨by omega, by omega⟩ 0 (by omega)
 rw [Nat.pow_zero, Nat.mul_one, nc0] at e1
 have e2 := zvj x.Scale.toNat (by omega)
 rw [Int.toNat_of_nonneg h3] at e2
 rw [e1, obs, e2, obs]
 simp only [obs]
 have hp : x.N.natAbs ≤ 10 ^ 100 := Nat.le_trans (show x.N.natAbs ≤ 10 ^ 15 by omega) (by decide)
 obtain ⟨n, e, g1, g2⟩ := z75 N hN (decide (x.N < 0)) x.N.natAbs (10 ^ x.Scale.toNat) hp (zb6 _) (zby (by omega)) ht half
 show ((zm6 N ⟨⟨decide (x.N < 0), dg x.N.natAbs⟩, dg (10 ^ x.Scale.toNat)⟩ t half).bind _) = _
 rw [g1]
 simp only [obs]
 rw [g2]
 rfl
theorem z3a {n : Nat} (h : n ≤ 10 ^ 31) : n ≤ 10 ^ 100 := Nat.le_trans h (by decide)
theorem z24 (s : Bool) (p q : Nat) (hq : 0 < q) (t : DataType) (half : Bool) : zh5 s p q t half = z0k (sgn s p) q t half := z25 s p q hq t half
theorem zab0 (N : Nat) (hN : 4000 < N) {op : Int} (hop : 0 ≤ op ∧ op ≤ 4) {a b : Number} (ha : zcn a) (hb : zcn b) {t : DataType} (ht : zif t) (half : Bool) : zfd N ⟨op, t, half⟩ a b = some (ze5 op a b t half) := by
 obtain ⟨s1, s2, s3, s4⟩ := zl2 ha hb
 have la := zil ha s4
 have lb := zil hb s4
 have ha' := ha
 have hb' := hb
 obtain ⟨⟨a1, a2⟩, a3, a4⟩ := ha'
 obtain ⟨⟨b1, b2⟩, b3, b4⟩ := hb'
 have zb := zxd b (zi a b)
 have ga := zqh a (zi a b)
 have gb := zqh b (zi a b)
 have q1 : 10 ^ (zi a b).toNat ≤ 10 ^ 100 := zby (by omega)
 unfold zfd
 try simp only [eD]
 rw [zh0, zaz.2 hop]
 simp only [obs, bnt, cfa]
 rw [zrv, zrv, zk7.2 ha, zk7.2 hb]
 simp only [obs, bsf, cfa]
 rw [zur ht]
 simp only [obs, bsf, cfa, eN]
 have fin : ∀ (s : Bool) (p q : Nat), p ≤ 10 ^ 100 → 0 < q → q ≤ 10 ^ 100 → ((zm6 N ⟨⟨s, dg p⟩, dg q⟩ t half).bind fun r6 => some ((⟨r6.1, (⟨#[]⟩ : ByteArray)⟩ : Value), r6.2)) = some (zh5 s p q t half) := fun s p q hp hq hq2 => by
  obtain ⟨n, e, g1, g2⟩ := z75 N hN s p q hp hq hq2 ht half; rw [g1, obs, g2]
 unfold zvq
 rw [zxi N (by omega) ha hb]
 simp only [obs, z3l]
 have ep := zvj (zi a b).toNat (by omega)
 rw [Int.toNat_of_nonneg s3] at ep
 have g : (cond (op == 3) (some true) (some (op == 4))) = some (decide (op = 3 ∨ op = 4)) := by
  rw [zao, zao]
  by_cases h : op = 3
  · rw [dct h, dct (show op = 3 ∨ op = 4 by omega)]; rfl
  · rw [dcf h]
    by_cases h2 : op = 4
    · rw [dct h2, dct (show op = 3 ∨ op = 4 by omega)]; rfl
    · rw [dcf h2, dcf (show ¬ (op = 3 ∨ op = 4) by omega)]; rfl
 rw [g]
 simp only [obs]
 have hbz : (zah b (zi a b)).natAbs = 0 ↔ b.N = 0 := by
  rw [Int.natAbs_eq_zero]; exact zb
 rw [show (cond (decide (op = 3 ∨ op = 4)) (some (decide ((zah b (zi a b)).natAbs = 0))) (some false)) = some (decide ((op = 3 ∨ op = 4) ∧ b.N = 0)) by
  by_cases h : op = 3 ∨ op = 4
  · rw [dct h, ctr]; congr 1; rw [decide_eq_decide]; constructor
    · intro h2; exact ⟨h, hbz.1 h2⟩
    · intro h2; exact hbz.2 h2.2
  · rw [dcf h, cfa, dcf (fun h2 => h h2.1)]]
 simp only [obs]
 unfold ze5
 by_cases hz : (op = 3 ∨ op = 4) ∧ b.N = 0
 · rw [dct hz, ifp hz]; rfl
 · rw [dcf hz, ifn hz, cfa]
   by_cases o0 : op = 0
   · obtain ⟨v, m, h1, h2, h3⟩ := z2t N hN (decide (a.N < 0)) (decide (b.N < 0)) _ _ (p30 la) (p30 lb); rw [ga, gb] at h2; rw [ifp o0, o0]; simp only [show ((0 : Int) == 1) = false from rfl, show ((0 : Int) == 2) = false from rfl, show ((0 : Int) == 3) = false from rfl, show ((0 : Int) == 4) = false from rfl, cfa]; rw [h1]; simp only [obs]; rw [ep]; simp only [obs, bsf, cfa]; rw [fin v m _ (z3a (by omega)) (zb6 _) q1, z24 _ _ _ (zb6 _), h2]
   · rw [ifn o0]
     by_cases o1 : op = 1
     · rw [ifp o1, zao, dct o1, ctr]; have hneg : (cond (!decide (b.N < 0)) (some (decide ((((dg (zah b (zi a b)).natAbs).length : Nat) : Int) > 0))) (some false)) = some (!decide (b.N < 0) && decide ((zah b (zi a b)).natAbs ≠ 0)) := by
        rw [zqx]; cases decide (b.N < 0) <;> rfl
       rw [hneg]; simp only [obs]; obtain ⟨v, m, h1, h2, h3⟩ := z2t N hN (decide (a.N < 0)) (!decide (b.N < 0) && decide ((zah b (zi a b)).natAbs ≠ 0)) _ _ (p30 la) (p30 lb); have gb2 : sgn (!decide (b.N < 0) && decide ((zah b (zi a b)).natAbs ≠ 0)) (zah b (zi a b)).natAbs = -zah b (zi a b) := by
        by_cases h0 : (zah b (zi a b)).natAbs = 0
        · have h00 := Int.natAbs_eq_zero.1 h0; rw [h0, dcf (show ¬ (0 : Nat) ≠ 0 by omega), Bool.and_false, h00]; rfl
        · rw [dct h0, Bool.and_true, z5h, gb]
       rw [ga, gb2] at h2; rw [h1]; simp only [obs]; rw [ep]; simp only [obs, bsf, cfa]; rw [fin v m _ (z3a (by omega)) (zb6 _) q1, z24 _ _ _ (zb6 _), h2, Int.sub_eq_add_neg]
     · rw [ifn o1, zao, dcf o1, cfa]
       by_cases o2 : op = 2
       · rw [ifp o2, zao, dct o2, ctr]; have p90 : ∀ n : Nat, n ≤ 10 ^ 30 → n < 10 ^ 90 := fun n h => Nat.lt_of_le_of_lt h (by decide); rw [z6n N hN _ _ _ _ (p90 _ la) (p90 _ lb)]; simp only [obs]; have e2 := zvj (2 * zi a b).toNat (by omega); rw [Int.toNat_of_nonneg (by omega)] at e2; rw [w6e, e2]; simp only [obs, bsf, cfa]; have hm : (zah a (zi a b)).natAbs * (zah b (zi a b)).natAbs ≤ 10 ^ 100 := Nat.le_trans (Nat.mul_le_mul la lb) (by decide); rw [fin _ _ _ hm (zb6 _) (zby (by omega))]; have e3 : (zah a (zi a b)).natAbs * (zah b (zi a b)).natAbs = a.N.natAbs * b.N.natAbs * 10 ^ ((zi a b - a.Scale).toNat + (zi a b - b.Scale).toNat) := by
          rw [zic, zic, Nat.mul_mul_mul_comm, ← Nat.pow_add]
         have e4 : 10 ^ (2 * zi a b).toNat = 10 ^ (a.Scale + b.Scale).toNat * 10 ^ ((zi a b - a.Scale).toNat + (zi a b - b.Scale).toNat) := by
          rw [← Nat.pow_add]; congr 1; omega
         rw [z09 _ (decide (a.N < 0) != decide (b.N < 0)) _ _ (zb6 _) _ _ (fun h => by rw [dct h, Bool.and_true]), e3, e4, zzk _ _ _ _ (zb6 _) (zb6 _)]
       · rw [ifn o2, zao, dcf o2, cfa]
         by_cases o3 : op = 3
         · have hb0 : b.N ≠ 0 := fun h => hz ⟨.inl o3, h⟩; have hbp : 0 < (zah b (zi a b)).natAbs := by
            have : ¬ (zah b (zi a b)).natAbs = 0 := fun h => hb0 (hbz.1 h); omega
           rw [ifp o3, zao, dct o3, ctr]; simp only [obs, bsf, cfa]; rw [fin _ _ _ (z3a (by omega)) hbp (z3a (by omega))]; have hmin : 0 ≤ a.Scale + b.Scale - zi a b := by unfold zi; split <;> omega
           have e3 : a.N.natAbs * 10 ^ b.Scale.toNat = (zah a (zi a b)).natAbs * 10 ^ (a.Scale + b.Scale - zi a b).toNat := by
            rw [zic, Nat.mul_assoc, ← Nat.pow_add]; congr 2; omega
           have e4 : b.N.natAbs * 10 ^ a.Scale.toNat = (zah b (zi a b)).natAbs * 10 ^ (a.Scale + b.Scale - zi a b).toNat := by
            rw [zic, Nat.mul_assoc, ← Nat.pow_add]; congr 2; omega
           rw [e3, e4, zzk _ _ _ _ (zb6 _) hbp]; rfl
         · have hb0 : b.N ≠ 0 := fun h => hz ⟨by omega, h⟩; have hbp : 0 < (zah b (zi a b)).natAbs := by
            have : ¬ (zah b (zi a b)).natAbs = 0 := fun h => hb0 (hbz.1 h); omega
           have p400 : ∀ n : Nat, n ≤ 10 ^ 30 → n < 10 ^ 400 := fun n h => Nat.lt_of_le_of_lt h (by decide); have hm := Nat.mod_lt (zah a (zi a b)).natAbs hbp; rw [ifn o3, zao, dcf o3, cfa, zao, dct (show op = 4 by omega), ctr, zzh N hN _ _ (p400 _ la) hbp (p400 _ lb)]; simp only [obs]; rw [ep]; simp only [obs, bsf, cfa]; rw [fin _ _ _ (z3a (by omega)) (zb6 _) q1]
theorem zws (N : Nat) (hN : 2000 < N) {s : Storage} (h : zih s) {a : Int} (ha : zer s a = true) :
 zid N s a = some (match ldV s a with | some o => (zh6 o, 0) | none => (zy0, 22)) := by
 obtain ⟨a1, a2, a3⟩ := zjw ha
 have hl := h.le
 have hq := h.quad
 have ht := h.tags
 unfold zid
 rw [z0f h.ok, ha]
 simp only [obs, bnt, cfa]
 have ed : w6 (a.tdiv 16) = (((a / 16).toNat : Nat) : Int) := by
  rw [tde a1, w6e]; omega
 have hi : (a / 16).toNat < s.Tags.length := by omega
 rw [ed, zbc, lge hi]
 simp only [obs]
 unfold ldV
 rw [lge hi]
 cases hb : s.Tags[(a / 16).toNat] with
 | false => rfl
 | true =>
  simp only [bnt, cfa, if_true]; unfold zkv; rw [w6e (n := (((a / 16).toNat : Nat) : Int) * 16), w6e, ifp, ifp]; simp only [obs]; have e : s.Bytes.extract ((((a / 16).toNat : Nat) : Int) * 16).toNat ((((a / 16).toNat : Nat) : Int) * 16 + 16).toNat = s.Bytes.extract (16 * (a / 16).toNat) (16 * (a / 16).toNat + 16) := by
   rw [show ((((a / 16).toNat : Nat) : Int) * 16).toNat = 16 * (a / 16).toNat by omega, show ((((a / 16).toNat : Nat) : Int) * 16 + 16).toNat = 16 * (a / 16).toNat + 16 by omega]
  rw [e, z76 N (by omega) _ (by rw [zc2 _ _ _ (by omega) (by omega)]; omega), zns]; obtain ⟨off, _, h2⟩ := h.ptr (a / 16).toNat (by rw [lge hi, hb]); rw [h2]; rfl
theorem z5o {s : Storage} (h : s.Tags.length ≤ 100000) : zd6 s = some s := by
 unfold zd6 zi0
 rw [zal (by omega)]
 rfl
theorem zyb (N : Nat) (hN : 2000 < N) {s : Storage} (h : zih s) {a : Nat} {d : ByteArray} (hd : a + d.size ≤ s.Bytes.size) (hd0 : 0 < d.size) : zb3 N s (a : Int) d = some (wrV s a d) := by
 have hl := h.le
 have hq := h.quad
 have ht := h.tags
 have hmax : IntKind.i64.max = 9223372036854775807 := by decide
 unfold zb3 zwk
 rw [z5o (by omega), hmax]
 simp only [obs]
 have z1 : (s.Bytes.extract (0 : Int).toNat (a : Int).toNat).size = a := by rw [zc2 _ _ _ (by omega) (by omega)]; omega
 rw [ifp, ifp, ifn (by rw [z1]; omega), w6e (n := (a : Int) + (d.size : Int)), ifp]
 have z2 : (s.Bytes.extract ((a : Int) + (d.size : Int)).toNat s.Bytes.size).size = s.Bytes.size - (a + d.size) := by rw [zc2 _ _ _ (by omega) (by omega)]; omega
 rw [ifn (by rw [z2, bsa, z1]; omega)]
 simp only [obs]
 have f1 : ((s.Bytes.extract (0 : Int).toNat (a : Int).toNat) ++ d) ++ (s.Bytes.extract ((a : Int) + (d.size : Int)).toNat s.Bytes.size) = (wrV s a d).Bytes := by
  refine zgu ?_; rw [zcq, zcq, zei, zei, show (0 : Int).toNat = 0 from rfl, dr0, show ((a : Int) + (d.size : Int)).toNat = a + d.size by omega, ← zak s.Bytes, List.take_length, itn]; rfl
 rw [f1]
 have lp := zbm (f := zb3.r0 N) (fun i => ((a : Int), d, (i : Int), (⟨⟨#[]⟩, []⟩ : Storage), (⟨(wrV s a d).Bytes, if i = 0 then s.Tags else clr s.Tags a i⟩ : Storage))) d.size
  (fun i hi => by
   have hlen : (if i = 0 then s.Tags else clr s.Tags a i).length = s.Tags.length := by split <;> simp [zw1]
   have ei : w6 ((w6 ((a : Int) + (i : Int))).tdiv 16) = (((a + i) / 16 : Nat) : Int) := by
    rw [w6e (n := (a : Int) + (i : Int)), tde, w6e]; omega
   simp only [zb3.r0, zb3.b0, dct (show (i : Int) < (d.size : Int) by omega), ctr, ei, hlen]; rw [ifp, ifp, itn]; obtain ⟨x, hx⟩ : ∃ x, (if i = 0 then s.Tags else clr s.Tags a i)[(a + i) / 16]? = some x := zeg (by omega); rw [hx]; simp only [obs]; rw [w6e]; have e2 : (if i = 0 then s.Tags else clr s.Tags a i).set ((a + i) / 16) false = clr s.Tags a (i + 1) := by
    refine List.ext_getElem? fun k => ?_; rw [zw2, List.getElem?_set, hlen]; have hc : (if i = 0 then s.Tags else clr s.Tags a i)[k]? = if i ≠ 0 ∧ 16 * k < a + i ∧ a < 16 * k + 16 then (if k < s.Tags.length then some false else none) else s.Tags[k]? := by
     by_cases h0 : i = 0
     · rw [ifp h0, ifn]
     · rw [ifn h0, zw2]
       by_cases h1 : 16 * k < a + i ∧ a < 16 * k + 16
       · rw [ifp h1, ifp (show i ≠ 0 ∧ 16 * k < a + i ∧ a < 16 * k + 16 from ⟨h0, h1⟩)]
       · rw [ifn h1, ifn (fun h => h1 h.2)]
    rw [hc]
    by_cases hk : (a + i) / 16 = k
    · rw [ifp hk, ifp (show (a + i) / 16 < s.Tags.length by omega), ifp (show 16 * k < a + (i + 1) ∧ a < 16 * k + 16 by omega), ifp]
    · rw [ifn hk]
      by_cases h1 : i ≠ 0 ∧ 16 * k < a + i ∧ a < 16 * k + 16
      · rw [ifp h1, ifp (show 16 * k < a + (i + 1) ∧ a < 16 * k + 16 by omega)]
      · rw [ifn h1, ifn (show ¬ (16 * k < a + (i + 1) ∧ a < 16 * k + 16) by omega)]
   rw [e2, ifn (show ¬ i + 1 = 0 by omega)]; rfl)
  (by simp only [zb3.r0, zb3.b0, dcf (show ¬ (d.size : Int) < (d.size : Int) by omega), cfa]) (N := N) (by omega)
 simp only [if_true, nc0] at lp
 rw [lp, ifn (show ¬ d.size = 0 by omega)]
 rfl
theorem z42 (N : Nat) (hN : 200 < N) (off : Nat) (h : off ≤ 16777215) : zsj N (zh6 off) = some (pbV off) := by
 unfold zsj zh6
 have b := fun v k hv hk => zsh N (by omega) v k hv hk
 have hmax : IntKind.i64.max = 9223372036854775807 := by decide
 have sz : ∀ v k, (zct (za6 v k)).size = k := fun v k => by
  show (bl (zct (za6 v k))).length = k; rw [zge, lnm, zyz]
 rw [show za7 N 0 1 = _ from b 0 1 (by decide) (by decide), show za7 N 0 2 = _ from b 0 2 (by decide) (by decide), show za7 N 1 6 = _ from b 1 6 (by decide) (by decide), show za7 N (off : Int) 6 = _ from b off 6 (by omega) (by decide), hmax]
 simp only [obs]
 have z0 : (⟨#[0]⟩ : ByteArray).size = 1 := rfl
 rw [ifn (by rw [sz, z0]; decide), ifn (by rw [bsa, sz, z0, sz]; decide), ifn (by rw [bsa, bsa, sz, z0, sz, sz]; decide), ifn (by rw [bsa, bsa, bsa, sz, z0, sz, sz, sz]; decide)]
 refine congrArg some (zgu ?_)
 unfold pbV
 rw [zcq, zcq, zcq, zcq, zge, zge, zge, zge, zge]
 simp only [List.map_append]
 rfl
theorem zyd (N : Nat) (hN : 2000 < N) {s : Storage} (h : zih s) {a : Int} (ha : zer s a = true) (off : Nat) (ho : off ≤ 16777215) : zgo N s a (zh6 off) = some (stV s a.toNat off) := by
 obtain ⟨a1, a2, a3⟩ := zjw ha
 have hl := h.le
 have hq := h.quad
 have ht := h.tags
 have hA : a = ((a.toNat : Nat) : Int) := by omega
 have hw : a.toNat + (pbV off).size ≤ s.Bytes.size := by rw [zkx]; omega
 unfold zgo
 try simp only [eS]
 rw [z42 N (by omega) off ho]
 simp only [obs]
 have hp := zyb N hN h hw (by rw [zkx]; omega)
 rw [← hA] at hp
 rw [hp]
 simp only [obs]
 have ed : w6 (a.tdiv 16) = ((a.toNat / 16 : Nat) : Int) := by
  rw [tde a1, w6e]; omega
 have hlen : (wrV s a.toNat (pbV off)).Tags.length = s.Tags.length := zw1 _ _ _
 rw [ed, ifp, ifp (by rw [hlen]; omega), itn, lge (by rw [hlen]; omega)]
 rfl
def zi7 (b : ByteArray) (n : Nat) : ByteArray := ⟨((bl b).take n ++ List.replicate (n - b.size) 32).toArray⟩
theorem zvx (b : ByteArray) (n : Nat) : (zi7 b n).size = n := by
 show ((bl b).take n ++ List.replicate (n - b.size) 32).length = n
 rw [lna, lnt, lnr, zak]; omega
theorem z74 (N : Nat) (c : Nat) (hc : c < 256) (n : Nat) (hn : n < N) (hn2 : n ≤ 100000) : zcr N (c : Int) (n : Int) = some ⟨(List.replicate n (UInt8.ofNat c)).toArray⟩ := by
 unfold zcr
 have := zbm (f := zcr.r0 N) (fun i => ((c : Int), (n : Int), List.replicate i (c : Int), (i : Int))) n
  (fun i hi => by
   simp only [zcr.r0, zcr.b0, dct (show (i : Int) < (n : Int) by omega), ctr]; rw [zal (by simp only [lnr, lnc, ln0]; omega), ctr, w6e, ← List.replicate_succ']; rfl)
  (by simp only [zcr.r0, zcr.b0, dcf (show ¬ (n : Int) < (n : Int) by omega), cfa]) hn
 simp only [nc0, List.replicate_zero] at this
 rw [this, obs]
 congr 1
 refine zgu ?_
 rw [zge, List.map_replicate]
 rfl
theorem zvk (N : Nat) (hN : 10000 < N) (b : ByteArray) (hb : b.size ≤ 5000) (n : Nat) (hn : n ≤ 5000) : zf8 N b (n : Int) = some (zi7 b n) := by
 have hmax : IntKind.i64.max = 9223372036854775807 := by decide
 unfold zf8
 by_cases h : n ≤ b.size
 · rw [dct (by omega), ctr, ifp, ifp]
   congr 1
   refine zgu ?_; rw [zei, show (0 : Int).toNat = 0 from rfl, dr0, itn]; show _ = (bl b).take n ++ List.replicate (n - b.size) 32; rw [show n - b.size = 0 by omega, List.replicate_zero, List.append_nil]
 · rw [dcf (by omega), cfa, w6e, show (n : Int) - (b.size : Int) = ((n - b.size : Nat) : Int) by omega, show (32 : Int) = ((32 : Nat) : Int) from rfl, z74 N 32 (by decide) _ (by omega) (by omega), obs, hmax]; have hs : (⟨(List.replicate (n - b.size) (UInt8.ofNat 32)).toArray⟩ : ByteArray).size = n - b.size := by
    show (List.replicate (n - b.size) (UInt8.ofNat 32)).length = _; rw [lnr]
   rw [ifn (by rw [hs]; omega)]
   congr 1
   refine zgu ?_; rw [zcq]; show bl b ++ List.replicate (n - b.size) 32 = (bl b).take n ++ List.replicate (n - b.size) 32; rw [List.take_of_length_le (by rw [zak]; omega)]
theorem zsi (c : UInt8) : ∀ n, Lib.repeatL [c] n = List.replicate n c
 | 0 => rfl
 | n + 1 => by show c :: Lib.repeatL [c] n = _; rw [zsi c n, List.replicate_succ]
theorem z3r (b : ByteArray) (hb : b.size ≤ 5000) (n : Nat) (hn : n ≤ 5000) : zdq b (n : Int) = some ⟨(bl b ++ List.replicate (n - b.size) 32).toArray⟩ := by
 have hmax : IntKind.i64.max = 9223372036854775807 := by decide
 unfold zdq zob
 rw [w6e]
 have e : (if (0 : Int) > (n : Int) - (b.size : Int) then 0 else (n : Int) - (b.size : Int)) = ((n - b.size : Nat) : Int) := by split <;> omega
 have hs1 : (⟨#[32]⟩ : ByteArray).size = 1 := rfl
 rw [e, ifp ⟨by omega, by omega, by rw [hs1]; omega⟩, obs, itn, zsi, hmax]
 have hs : (⟨(List.replicate (n - b.size) (32 : UInt8)).toArray⟩ : ByteArray).size = n - b.size := by
  show (List.replicate (n - b.size) (32 : UInt8)).length = _; rw [lnr]
 rw [ifn (by rw [hs]; omega)]
 refine congrArg some (zgu ?_)
 rw [zcq]
 rfl
theorem z82 (b : ByteArray) (n : Nat) : (⟨(bl b ++ List.replicate (n - b.size) 32).toArray⟩ : ByteArray).extract 0 n = zi7 b n := by
 refine zgu ?_
 rw [zei, dr0]
 show (bl b ++ List.replicate (n - b.size) 32).take n = (bl b).take n ++ List.replicate (n - b.size) 32
 rw [List.take_append, zak, List.take_replicate, Nat.min_self]
theorem z1g (b : ByteArray) (n : Nat) : (⟨(bl b ++ List.replicate (n - b.size) 32).toArray⟩ : ByteArray) = zi7 b (max b.size n) := by
 refine zgu ?_
 show bl b ++ List.replicate (n - b.size) 32 = (bl b).take (max b.size n) ++ List.replicate (max b.size n - b.size) 32
 rw [List.take_of_length_le (by rw [zak]; omega), show max b.size n - b.size = n - b.size by omega]
def zwf (x y : List UInt8) : Int := if Op.bytesLess x y = true then -1 else if x = y then 0 else 1
theorem z4e : ∀ (x y : List UInt8), x.length = y.length → (match (List.range x.length).find? (fun i => x.getD i 0 != y.getD i 0) with | some i => if x.getD i 0 < y.getD i 0 then (-1 : Int) else 1 | none => 0) = zwf x y
 | [], [], _ => rfl
 | [], _ :: _, h => by cases h
 | _ :: _, [], h => by cases h
 | a :: x, b :: y, h => by
  have ih := z4e x y (by simpa using h); rw [lnc, List.range_succ_eq_map, List.find?_cons]; rw [List.getD_cons_zero, List.getD_cons_zero]
  by_cases hab : a = b
  · subst hab; simp only [bsf]; rw [List.find?_map]; have e : ((fun i => (a :: x).getD i 0 != (a :: y).getD i 0) ∘ Nat.succ) = fun i => x.getD i 0 != y.getD i 0 := by
     funext i
     rfl
    rw [e]; have e2 : zwf (a :: x) (a :: y) = zwf x y := by
     unfold zwf; have e3 : Op.bytesLess (a :: x) (a :: y) = Op.bytesLess x y := by
      show (decide (a < a) || (a == a && Op.bytesLess x y)) = _; rw [dcf (UInt8.lt_irrefl a)]; simp
     rw [e3]; simp
    rw [e2, ← ih]; cases (List.range x.length).find? (fun i => x.getD i 0 != y.getD i 0) <;> rfl
  · have hne : (a != b) = true := by simpa using hab
    rw [hne]; simp only [List.getD_cons_zero]; unfold zwf; have e3 : Op.bytesLess (a :: x) (b :: y) = decide (a < b) := by
     show (decide (a < b) || (a == b && Op.bytesLess x y)) = _; rw [show (a == b) = false from beq_eq_false_iff_ne.2 hab, Bool.false_and, Bool.or_false]
    rw [e3]
    by_cases hlt : a < b
    · rw [ifp hlt, ifp (dct hlt)]
    · rw [ifn hlt, ifn (by rw [dcf hlt]; decide), ifn (by intro h; exact hab (List.cons.inj h).1)]
theorem zaej {a b : ByteArray} (h : a.size = b.size) : Extern.BytealgCompare.cmp a b = zwf (bl a) (bl b) := by
 unfold Extern.BytealgCompare.cmp
 rw [← z4e (bl a) (bl b) (by rw [zak, zak, h]), zak, show min a.size b.size = a.size by omega]
 have g : ∀ (c : ByteArray) (i : Nat), i < c.size → c[i]! = (bl c).getD i 0 := fun c i hi => by
  rw [getElem!_pos c i hi, gdd, lge (by rw [zak]; exact hi)]; rfl
 have e : (List.range a.size).find? (fun i => a[i]! != b[i]!) = (List.range a.size).find? (fun i => (bl a).getD i 0 != (bl b).getD i 0) := by
  have key : ∀ l : List Nat, (∀ i ∈ l, i < a.size) → l.find? (fun i => a[i]! != b[i]!) = l.find? (fun i => (bl a).getD i 0 != (bl b).getD i 0) := by
   intro l
   induction l with
   | nil => intro _; rfl
   | cons i l ih =>
    intro hl; have hi := hl i List.mem_cons_self; rw [List.find?_cons, List.find?_cons, g a i hi, g b i (by omega), ih fun j hj => hl j (List.mem_cons_of_mem _ hj)]
  exact key _ fun i hi => List.mem_range.1 hi
 rw [e]
 cases hf : (List.range a.size).find? (fun i => (bl a).getD i 0 != (bl b).getD i 0) with
 | none => simp only []; rw [ifn, ifn]
 | some i =>
  have hi := List.mem_range.1 (List.mem_of_find?_eq_some hf); simp only []; rw [g a i hi, g b i (by omega)]
def zn5 (o : Int) : Int := if o < 0 then 1 else if o = 0 then 2 else 4
theorem z3s (o : Int) : zea o = some (zn5 o) := by
 unfold zea zn5
 by_cases h : o < 0
 · rw [dct h, ifp h]; rfl
 · rw [dcf h, ifn h, cfa]
   by_cases h2 : o = 0
   · rw [dcf (by omega), ifp h2]; rfl
   · rw [dct (by omega), ifn h2]; rfl
theorem zq3 (o : Int) : zgq o = some (zn5 o) := by
 unfold zgq zn5
 by_cases h : o < 0
 · rw [dct h, ifp h]; rfl
 · rw [dcf h, ifn h, cfa, zao]
   by_cases h2 : o = 0
   · rw [dct h2, ifp h2]; rfl
   · rw [dcf h2, ifn h2]; rfl
def zj9 (a b : ByteArray) : Int := zn5 (zwf (bl (zi7 a (max a.size b.size))) (bl (zi7 b (max a.size b.size))))
theorem zys (a b : ByteArray) (ha : a.size ≤ 5000) (hb : b.size ≤ 5000) : zch a b = some (zj9 a b) := by
 unfold zch zjm zdp
 rw [z3r a ha b.size hb, z3r b hb a.size ha]
 simp only [obs]
 rw [z1g, z1g, Nat.max_comm b.size a.size, zaej (by rw [zvx, zvx]), z3s]
 rfl
theorem zyc (N : Nat) (hN : 10000 < N) (a b : ByteArray) (ha : a.size ≤ 5000) (hb : b.size ≤ 5000) : zim N a b = some (zj9 a b) := by
 unfold zim
 have e : (if (b.size : Int) > (a.size : Int) then (b.size : Int) else (a.size : Int)) = ((max a.size b.size : Nat) : Int) := by split <;> omega
 rw [e, zvk N hN a ha _ (by omega), zvk N hN b hb _ (by omega)]
 simp only [obs]
 rw [zrp, zrp, zhc, zhc]
 simp only [obs]
 unfold zj9 zwf
 generalize bl (zi7 a (max a.size b.size)) = x
 generalize bl (zi7 b (max a.size b.size)) = y
 cases hx : Op.bytesLess x y with
 | true =>
  rw [ifp rfl]; simp only [Bool.true_or, bnt, cfa, ctr]; rw [show w6 ((0 : Int) - 1) = -1 by decide, zq3]; rfl
 | false =>
  rw [ifn (by decide)]; simp only [Bool.false_or, cfa]
  by_cases hxy : x = y
  · rw [hxy, ifp rfl]; simp only [bst, bnt, cfa]; rw [show w6 ((0 : Int) - 0) = 0 by decide, zq3]; rfl
  · rw [ifn hxy, show (x == y) = false from beq_eq_false_iff_ne.2 hxy]; simp only [Bool.not_false, ctr]; rw [show w6 ((1 : Int) - 0) = 1 by decide, zq3]; rfl
theorem zadg (x : Int) (i : Nat) : (x.tdiv (10 ^ i)).tdiv 10 = x.tdiv (10 ^ (i + 1)) := by
 have key : ∀ m : Nat, ((m : Int).tdiv (10 ^ i)).tdiv 10 = (m : Int).tdiv (10 ^ (i + 1)) := fun m => by
  rw [show (10 : Int) ^ i = ((10 ^ i : Nat) : Int) by rw [Int.natCast_pow]; rfl, show (10 : Int) ^ (i + 1) = ((10 ^ (i + 1) : Nat) : Int) by rw [Int.natCast_pow]; rfl, ← Int.ofNat_tdiv, ← Int.ofNat_tdiv, show (10 : Int) = ((10 : Nat) : Int) from rfl, ← Int.ofNat_tdiv, Nat.div_div_eq_div_mul, Nat.pow_succ]
 obtain ⟨m, rfl | rfl⟩ := Int.eq_nat_or_neg x
 · exact key m
 · rw [Int.neg_tdiv, Int.neg_tdiv, key m, Int.neg_tdiv]
def zej (x : Number) : Int := x.N.tdiv (10 ^ x.Scale.toNat)
theorem zu7 {x : Number} (hx : zcn x) : -999999999999999 ≤ zej x ∧ zej x ≤ 999999999999999 := by
 obtain ⟨⟨h1, h2⟩, _⟩ := hx
 have h := Int.natAbs_tdiv_le_natAbs x.N (10 ^ x.Scale.toNat)
 unfold zej
 omega
theorem z3p (N : Nat) (hN : 100 < N) {x : Number} (hx : zcn x) : zbl N x = some (zej x) := by
 have hx' := hx
 obtain ⟨⟨h1, h2⟩, h3, h4⟩ := hx'
 unfold zbl
 obtain ⟨k, hk⟩ : ∃ k : Nat, x.Scale = (k : Int) := ⟨x.Scale.toNat, by omega⟩
 have := zbm (f := zbl.r0 N) (fun i => (x.Scale, (i : Int), (⟨x.N.tdiv (10 ^ i), x.Scale⟩ : Number))) k
  (fun i hi => by
   have hb := Int.natAbs_tdiv_le_natAbs x.N (10 ^ i); have hb2 := Int.natAbs_tdiv_le_natAbs (x.N.tdiv (10 ^ i)) 10; simp only [zbl.r0, zbl.b0, hk, dct (show (i : Int) < (k : Int) by omega), ctr]; rw [w6e (n := (i : Int) + 1), w6e, zadg]; rfl)
  (by simp only [zbl.r0, zbl.b0, hk, dcf (show ¬ (k : Int) < (k : Int) by omega), cfa]) (N := N) (by omega)
 simp only [nc0, Int.pow_zero, Int.tdiv_one, eN] at this
 rw [this]
 show some (x.N.tdiv (10 ^ k)) = some (zej x)
 unfold zej
 rw [hk, itn]
theorem zzf (N : Nat) (hN : 100 < N) {x : Number} (hx : zcn x) : zjt N x = some (zej x) := by
 have hw := zu7 hx
 obtain ⟨⟨h1, h2⟩, h3, h4⟩ := hx
 unfold zjt
 have hp := z2u N hN x.Scale.toNat (by omega)
 rw [Int.toNat_of_nonneg h3] at hp
 have hpos := zb6 x.Scale.toNat
 rw [hp, obs, ifn, show ((10 ^ x.Scale.toNat : Nat) : Int) = 10 ^ x.Scale.toNat by rw [Int.natCast_pow]; rfl]
 show some (w6 (zej x)) = _
 rw [w6e]
def zmb (m scale : Nat) : List UInt8 := List.replicate (scale + 1 - (Lib.decDigits m).length) 48 ++ Lib.decDigits m
def ptT (l : List UInt8) (scale : Nat) : List UInt8 := if 0 < scale then l.take (l.length - scale) ++ [46] ++ l.drop (l.length - scale) else l
def sgT (n : Int) (l : List UInt8) : ByteArray := ⟨(if n < 0 then [45] ++ l else l).toArray⟩
def zo5 (x : Number) : ByteArray := sgT x.N (ptT (zmb x.N.natAbs x.Scale.toNat) x.Scale.toNat)
theorem z3v {x : Number} (h0 : 0 ≤ x.Scale) (B : ByteArray) (h1 : x.Scale < (B.size : Int)) (h2 : B.size ≤ 100) :
 ((cond (decide (x.Scale > 0))
 (if 0 ≤ (w6 ((B.size : Int) - x.Scale)) ∧ (w6 ((B.size : Int) - x.Scale)) ≤ (B.size : Int) then (if 0 ≤ (0 : Int) ∧ (0 : Int) ≤ (w6 ((B.size : Int) - x.Scale)) then (if (((B.extract (0 : Int).toNat (w6 ((B.size : Int) - x.Scale)).toNat).size + (⟨#[46]⟩ : ByteArray).size : Nat) : Int) > IntKind.i64.max then none else if 0 ≤ (w6 ((B.size : Int) - x.Scale)) ∧ (w6 ((B.size : Int) - x.Scale)) ≤ (B.size : Int) then (if ((((B.extract (0 : Int).toNat (w6 ((B.size : Int) - x.Scale)).toNat) ++ (⟨#[46]⟩ : ByteArray)).size + (B.extract (w6 ((B.size : Int) - x.Scale)).toNat B.size).size : Nat) : Int) > IntKind.i64.max then none else cond (decide (x.N < 0))
 (if (((⟨#[45]⟩ : ByteArray).size + (((B.extract (0 : Int).toNat (w6 ((B.size : Int) - x.Scale)).toNat) ++ (⟨#[46]⟩ : ByteArray)) ++ (B.extract (w6 ((B.size : Int) - x.Scale)).toNat B.size)).size : Nat) : Int) > IntKind.i64.max then none else some (((⟨#[45]⟩ : ByteArray) ++ (((B.extract (0 : Int).toNat (w6 ((B.size : Int) - x.Scale)).toNat) ++ (⟨#[46]⟩ : ByteArray)) ++ (B.extract (w6 ((B.size : Int) - x.Scale)).toNat B.size))), 0))
 (some ((((B.extract (0 : Int).toNat (w6 ((B.size : Int) - x.Scale)).toNat) ++ (⟨#[46]⟩ : ByteArray)) ++ (B.extract (w6 ((B.size : Int) - x.Scale)).toNat B.size)), 0))) else none) else none) else none)
 (cond (decide (x.N < 0)) (if (((⟨#[45]⟩ : ByteArray).size + B.size : Nat) : Int) > IntKind.i64.max then none else some (((⟨#[45]⟩ : ByteArray) ++ B), 0)) (some (B, 0)))) : Option (ByteArray × Int)) = some (sgT x.N (ptT (bl B) x.Scale.toNat), 0) := by
 have hmax : IntKind.i64.max = 9223372036854775807 := by decide
 have z1 : (⟨#[46]⟩ : ByteArray).size = 1 := rfl
 have z2 : (⟨#[45]⟩ : ByteArray).size = 1 := rfl
 rw [hmax, w6e]
 obtain ⟨k, hk⟩ : ∃ k : Nat, (B.size : Int) - x.Scale = (k : Int) := ⟨((B.size : Int) - x.Scale).toNat, by omega⟩
 have hk2 : k = B.size - x.Scale.toNat := by omega
 rw [hk, itn, show (0 : Int).toNat = 0 from rfl]
 have s1 : (B.extract 0 k).size = k := by rw [zc2 _ _ _ (by omega) (by omega)]; omega
 have s2 : (B.extract k B.size).size = B.size - k := by rw [zc2 _ _ _ (by omega) (by omega)]
 by_cases hs : x.Scale > 0
 · rw [dct hs, ctr, ifp, ifp, ifn (by rw [s1, z1]; omega), ifp, ifn (by rw [bsa, s1, z1, s2]; omega)]; have e : bl ((B.extract 0 k ++ (⟨#[46]⟩ : ByteArray)) ++ B.extract k B.size) = ptT (bl B) x.Scale.toNat := by
    unfold ptT; rw [zcq, zcq, zei, zei, dr0, ifp, ← zak B, List.take_length, zak, hk2]; rfl
   by_cases hn : x.N < 0
   · rw [dct hn, ctr, ifn (by rw [bsa, bsa, s1, z1, s2, z2]; omega)]
     congr 2
     refine zgu ?_; rw [zcq, e]; unfold sgT; rw [ifp hn]; rfl
   · rw [dcf hn, cfa]
     congr 2
     refine zgu ?_; rw [e]; unfold sgT; rw [ifn hn]; rfl
 · rw [dcf hs, cfa]; have e : ptT (bl B) x.Scale.toNat = bl B := by unfold ptT; rw [ifn]
   rw [e]
   by_cases hn : x.N < 0
   · rw [dct hn, ctr, ifn (by rw [z2]; omega)]
     congr 2
     refine zgu ?_; rw [zcq]; unfold sgT; rw [ifp hn]; rfl
   · rw [dcf hn, cfa]
     congr 2
     unfold sgT; rw [ifn hn]; rfl
theorem z9x {x : Number} (h0 : 0 ≤ x.Scale) (B : ByteArray) (h1 : x.Scale < (B.size : Int)) (h2 : B.size ≤ 100) :
 (cond (decide (x.Scale > 0))
 (if 0 ≤ (w6 ((B.size : Int) - x.Scale)) ∧ (w6 ((B.size : Int) - x.Scale)) ≤ (B.size : Int) then (if 0 ≤ (0 : Int) ∧ (0 : Int) ≤ (w6 ((B.size : Int) - x.Scale)) then (if (((B.extract (0 : Int).toNat (w6 ((B.size : Int) - x.Scale)).toNat).size + (⟨#[46]⟩ : ByteArray).size : Nat) : Int) > IntKind.i64.max then none else if 0 ≤ (w6 ((B.size : Int) - x.Scale)) ∧ (w6 ((B.size : Int) - x.Scale)) ≤ (B.size : Int) then (if ((((B.extract (0 : Int).toNat (w6 ((B.size : Int) - x.Scale)).toNat) ++ (⟨#[46]⟩ : ByteArray)).size + (B.extract (w6 ((B.size : Int) - x.Scale)).toNat B.size).size : Nat) : Int) > IntKind.i64.max then none else cond (decide (x.N < 0))
 (if (((⟨#[45]⟩ : ByteArray).size + (((B.extract (0 : Int).toNat (w6 ((B.size : Int) - x.Scale)).toNat) ++ (⟨#[46]⟩ : ByteArray)) ++ (B.extract (w6 ((B.size : Int) - x.Scale)).toNat B.size)).size : Nat) : Int) > IntKind.i64.max then none else some ((⟨#[45]⟩ : ByteArray) ++ (((B.extract (0 : Int).toNat (w6 ((B.size : Int) - x.Scale)).toNat) ++ (⟨#[46]⟩ : ByteArray)) ++ (B.extract (w6 ((B.size : Int) - x.Scale)).toNat B.size))))
 (some (((B.extract (0 : Int).toNat (w6 ((B.size : Int) - x.Scale)).toNat) ++ (⟨#[46]⟩ : ByteArray)) ++ (B.extract (w6 ((B.size : Int) - x.Scale)).toNat B.size)))) else none) else none) else none)
 (cond (decide (x.N < 0)) (if (((⟨#[45]⟩ : ByteArray).size + B.size : Nat) : Int) > IntKind.i64.max then none else some ((⟨#[45]⟩ : ByteArray) ++ B)) (some B))) = some (sgT x.N (ptT (bl B) x.Scale.toNat)) := by
 have hmax : IntKind.i64.max = 9223372036854775807 := by decide
 have z1 : (⟨#[46]⟩ : ByteArray).size = 1 := rfl
 have z2 : (⟨#[45]⟩ : ByteArray).size = 1 := rfl
 rw [hmax, w6e]
 obtain ⟨k, hk⟩ : ∃ k : Nat, (B.size : Int) - x.Scale = (k : Int) := ⟨((B.size : Int) - x.Scale).toNat, by omega⟩
 have hk2 : k = B.size - x.Scale.toNat := by omega
 rw [hk, itn, show (0 : Int).toNat = 0 from rfl]
 have s1 : (B.extract 0 k).size = k := by rw [zc2 _ _ _ (by omega) (by omega)]; omega
 have s2 : (B.extract k B.size).size = B.size - k := by rw [zc2 _ _ _ (by omega) (by omega)]
 by_cases hs : x.Scale > 0
 · rw [dct hs, ctr, ifp, ifp, ifn (by rw [s1, z1]; omega), ifp, ifn (by rw [bsa, s1, z1, s2]; omega)]; have e : bl ((B.extract 0 k ++ (⟨#[46]⟩ : ByteArray)) ++ B.extract k B.size) = ptT (bl B) x.Scale.toNat := by
    unfold ptT; rw [zcq, zcq, zei, zei, dr0, ifp, ← zak B, List.take_length, zak, hk2]; rfl
   by_cases hn : x.N < 0
   · rw [dct hn, ctr, ifn (by rw [bsa, bsa, s1, z1, s2, z2]; omega)]; refine congrArg some (zgu ?_); rw [zcq, e]; unfold sgT; rw [ifp hn]; rfl
   · rw [dcf hn, cfa]; refine congrArg some (zgu ?_); rw [e]; unfold sgT; rw [ifn hn]; rfl
 · rw [dcf hs, cfa]; have e : ptT (bl B) x.Scale.toNat = bl B := by unfold ptT; rw [ifn]
   rw [e]
   by_cases hn : x.N < 0
   · rw [dct hn, ctr, ifn (by rw [z2]; omega)]; refine congrArg some (zgu ?_); rw [zcq]; unfold sgT; rw [ifp hn]; rfl
   · rw [dcf hn, cfa]; unfold sgT; rw [ifn hn]; rfl
theorem zw0 (m : Nat) : ∀ k, 0 < k → m < 10 ^ k → (Lib.decDigits m).length ≤ k ∧ 0 < (Lib.decDigits m).length := by
 induction m using Nat.strongRecOn with
 | _ m ih =>
  intro k hk hm; rw [Lib.decDigits]
  by_cases h : m < 10
  · rw [dif_pos h, lns]; omega
  · rw [dif_neg h, lna, lns]; obtain ⟨j, rfl⟩ : ∃ j, k = j + 1 := ⟨k - 1, by omega⟩; rw [Nat.pow_succ] at hm; have hj : 0 < j := by
     refine cbc fun h0 => ?_; rw [show j = 0 by omega] at hm; omega
    have := ih (m / 10) (by omega) j hj (by omega); omega
theorem zyw (m scale : Nat) (hm : m < 10 ^ 15) (hs : scale ≤ 15) : scale < (zmb m scale).length ∧ (zmb m scale).length ≤ 16 := by
 have := zw0 m 15 (by decide) hm
 unfold zmb
 rw [lna, lnr]
 omega
theorem z8n {x : Number} (hx : zcn x) : zee x = some (zo5 x, 0) := by
 have hx' := hx
 obtain ⟨⟨h1, h2⟩, h3, h4⟩ := hx'
 have hmax : IntKind.i64.max = 9223372036854775807 := by decide
 have hlen := zw0 x.N.natAbs 15 (by decide) (by omega)
 have hdl := zyw x.N.natAbs x.Scale.toNat (by omega) (by omega)
 unfold zee
 rw [zlv, zk7.2 hx]
 simp only [obs, bsf, cfa]
 rw [zn8 (by omega) (by omega)]
 have hi : zy1 (((x.N.natAbs : Nat) : Int)) = some ⟨(Lib.decDigits x.N.natAbs).toArray⟩ := by
  unfold zy1 Lib.itoa; rw [ifp ⟨by omega, by omega⟩, ifn, itn]
 rw [hi]
 simp only [obs]
 have hsz : (⟨(Lib.decDigits x.N.natAbs).toArray⟩ : ByteArray).size = (Lib.decDigits x.N.natAbs).length := rfl
 by_cases hle : ((Lib.decDigits x.N.natAbs).length : Int) ≤ x.Scale
 · rw [hsz, dct hle, ctr, w6e (n := x.Scale + 1), w6e]; have hr : zob (⟨#[48]⟩ : ByteArray) (x.Scale + 1 - ((Lib.decDigits x.N.natAbs).length : Int)) = some ⟨(List.replicate (x.Scale.toNat + 1 - (Lib.decDigits x.N.natAbs).length) 48).toArray⟩ := by
    unfold zob; have hs1 : (⟨#[48]⟩ : ByteArray).size = 1 := rfl; rw [ifp ⟨by omega, by omega, by rw [hs1]; omega⟩, zsi, show (x.Scale + 1 - ((Lib.decDigits x.N.natAbs).length : Int)).toNat = x.Scale.toNat + 1 - (Lib.decDigits x.N.natAbs).length by omega]
   rw [hr]; simp only [obs]; have hs2 : (⟨(List.replicate (x.Scale.toNat + 1 - (Lib.decDigits x.N.natAbs).length) (48 : UInt8)).toArray⟩ : ByteArray).size = x.Scale.toNat + 1 - (Lib.decDigits x.N.natAbs).length := by
    show (List.replicate (x.Scale.toNat + 1 - (Lib.decDigits x.N.natAbs).length) (48 : UInt8)).length = _; rw [lnr]
   rw [hmax, ifn (by rw [hs2]; omega)]; have hb : (⟨(List.replicate (x.Scale.toNat + 1 - (Lib.decDigits x.N.natAbs).length) (48 : UInt8)).toArray⟩ : ByteArray) ++ ⟨(Lib.decDigits x.N.natAbs).toArray⟩ = ⟨(zmb x.N.natAbs x.Scale.toNat).toArray⟩ := by
    refine zgu ?_; rw [zcq]; rfl
   rw [hb]; have := z3v h3 ⟨(zmb x.N.natAbs x.Scale.toNat).toArray⟩ (by show x.Scale < ((zmb x.N.natAbs x.Scale.toNat).length : Int); omega) (by show (zmb x.N.natAbs x.Scale.toNat).length ≤ 100; omega); rw [hmax, zabf] at this; unfold zo5; exact this
 · rw [hsz, dcf hle, cfa, ← hsz]; have hb : bl (⟨(Lib.decDigits x.N.natAbs).toArray⟩ : ByteArray) = zmb x.N.natAbs x.Scale.toNat := by
    unfold zmb; rw [show x.Scale.toNat + 1 - (Lib.decDigits x.N.natAbs).length = 0 by omega]; rfl
   have := z3v h3 ⟨(Lib.decDigits x.N.natAbs).toArray⟩ (by rw [hsz]; omega) (by rw [hsz]; omega); rw [hb] at this; unfold zo5; exact this
theorem zvm : ∀ (N m : Nat), 0 < N → m < 10 ^ N → N ≤ 18 → ∀ K, zld (N + K) (m : Int) = some ⟨(Lib.decDigits m).toArray⟩
 | 0, m, h, _, _ => by omega
 | N + 1, m, _, hm, hN => fun K => by
  have hmax : IntKind.i64.max = 9223372036854775807 := by decide
  have h18 : 10 ^ (N + 1) ≤ 10 ^ 18 := zby hN; rw [show N + 1 + K = (N + K) + 1 by omega]; show (cond (decide ((m : Int) < (-9))) _ (cond (decide ((m : Int) < 0)) _ (cond (decide ((m : Int) < 10)) _ _))) = _; rw [dcf (by omega), dcf (by omega), cfa, cfa, Lib.decDigits]
  by_cases h : m < 10
  · rw [dct (by omega), ctr, dif_pos h, w6e, zkz (by omega) (by omega)]; refine congrArg some (zgu ?_); rw [zge]; show [UInt8.ofNat (48 + (m : Int)).toNat] = [UInt8.ofNat (48 + m)]; rw [show (48 + (m : Int)).toNat = 48 + m by omega]
  · rw [Nat.pow_succ] at hm; have hN0 : 0 < N := by
     refine cbc fun h0 => ?_; rw [show N = 0 by omega] at hm; omega
    have ih := zvm N (m / 10) hN0 (by omega) (by omega) K; rw [dcf (by omega), cfa, dif_neg h, tde, tme, w6e (n := (m : Int) / 10), show (m : Int) / 10 = ((m / 10 : Nat) : Int) by omega, ih, obs, w6e, zkz (by omega) (by omega), hmax]; have hl := zw0 (m / 10) N hN0 (by omega); have hs : (⟨(Lib.decDigits (m / 10)).toArray⟩ : ByteArray).size = (Lib.decDigits (m / 10)).length := rfl; have hs2 : (zct ([48 + (m : Int) % 10] : List Int)).size = 1 := rfl; rw [ifn (by rw [hs, hs2]; omega)]; refine congrArg some (zgu ?_); rw [zcq, zge]; show Lib.decDigits (m / 10) ++ [UInt8.ofNat (48 + (m : Int) % 10).toNat] = Lib.decDigits (m / 10) ++ [UInt8.ofNat (48 + m % 10)]; rw [show (48 + (m : Int) % 10).toNat = 48 + m % 10 by omega]
theorem zaby (N : Nat) (hN : 100 < N) {x : Number} (hx : zcn x) : zfo N x = some (zo5 x) := by
 have hx' := hx
 obtain ⟨⟨h1, h2⟩, h3, h4⟩ := hx'
 have hmax : IntKind.i64.max = 9223372036854775807 := by decide
 have hlen := zw0 x.N.natAbs 15 (by decide) (by omega)
 have hdl := zyw x.N.natAbs x.Scale.toNat (by omega) (by omega)
 unfold zfo zkd
 rw [zn8 (by omega) (by omega)]
 simp only [obs, eN]
 have hd := zvm 15 x.N.natAbs (by decide) (by omega) (by decide) (N - 15)
 rw [show 15 + (N - 15) = N by omega] at hd
 rw [hd]
 simp only [obs]
 have z1 : (⟨#[48]⟩ : ByteArray).size = 1 := rfl
 have lp := zbm (f := zfo.r0 N) (fun i => ((⟨(List.replicate i (48 : UInt8) ++ Lib.decDigits x.N.natAbs).toArray⟩ : ByteArray), x)) (x.Scale.toNat + 1 - (Lib.decDigits x.N.natAbs).length)
  (fun i hi => by
   have hs : (⟨(List.replicate i (48 : UInt8) ++ Lib.decDigits x.N.natAbs).toArray⟩ : ByteArray).size = i + (Lib.decDigits x.N.natAbs).length := by
    show (List.replicate i (48 : UInt8) ++ Lib.decDigits x.N.natAbs).length = _; rw [lna, lnr]
   simp only [zfo.r0, zfo.b0]; rw [dct (by rw [hs]; omega), ctr, hmax, ifn (by rw [hs, z1]; omega)]; refine congrArg some (congrArg Stp.again (Prod.ext (zgu ?_) rfl)); show bl ((⟨#[48]⟩ : ByteArray) ++ ⟨(List.replicate i (48 : UInt8) ++ Lib.decDigits x.N.natAbs).toArray⟩) = List.replicate (i + 1) (48 : UInt8) ++ Lib.decDigits x.N.natAbs; rw [zcq, List.replicate_succ]; rfl)
  (by
   have hs : (⟨(List.replicate (x.Scale.toNat + 1 - (Lib.decDigits x.N.natAbs).length) (48 : UInt8) ++ Lib.decDigits x.N.natAbs).toArray⟩ : ByteArray).size = x.Scale.toNat + 1 - (Lib.decDigits x.N.natAbs).length + (Lib.decDigits x.N.natAbs).length := by
    show (List.replicate (x.Scale.toNat + 1 - (Lib.decDigits x.N.natAbs).length) (48 : UInt8) ++ Lib.decDigits x.N.natAbs).length = _; rw [lna, lnr]
   simp only [zfo.r0, zfo.b0]; rw [dcf (by rw [hs]; omega), cfa]) (N := N) (by omega)
 rw [List.replicate_zero, List.nil_append] at lp
 rw [lp]
 have := z9x h3 ⟨(zmb x.N.natAbs x.Scale.toNat).toArray⟩ (by show x.Scale < ((zmb x.N.natAbs x.Scale.toNat).length : Int); omega) (by show (zmb x.N.natAbs x.Scale.toNat).length ≤ 100; omega)
 rw [zabf] at this
 unfold zo5
 exact this
theorem z6a {x : Number} (hx : zcn x) : (zo5 x).size ≤ 256 := by
 obtain ⟨⟨h1, h2⟩, h3, h4⟩ := hx
 have hdl := zyw x.N.natAbs x.Scale.toNat (by omega) (by omega)
 have hp : (ptT (zmb x.N.natAbs x.Scale.toNat) x.Scale.toNat).length ≤ 17 := by
  unfold ptT; split
  · rw [lna, lna, lnt, List.length_drop, lns]; omega
  · omega
 unfold zo5 sgT
 show (if x.N < 0 then [45] ++ ptT (zmb x.N.natAbs x.Scale.toNat) x.Scale.toNat else ptT (zmb x.N.natAbs x.Scale.toNat) x.Scale.toNat).length ≤ 256
 split
 · rw [lna, lns]; omega
 · omega
structure InsV (m : zH) (c : zG) (x : zB) (u : zM) : Prop where
 r : u.R = true → 0 ≤ x.R ∧ x.R < m.Registers
 a : u.A = true → 0 ≤ x.A ∧ x.A < m.Registers
 b : u.B = true → 0 ≤ x.B ∧ x.B < m.Registers
 ty1 : u.zF = 1 → zif x.zF
 ty2 : u.zF = 2 → zdf x.zF = 0 ∧ x.zF.Kind = 0
 ty3 : u.zF = 3 → zdf x.zF = 0
 se1 : u.Second = 1 → zif x.Second
 se2 : u.Second = 2 → zdf x.Second = 0 ∧ x.Second.Kind = 0
 tg : u.Target = true → 0 ≤ x.Target ∧ x.Target < (c.zD.length : Int)
 ma : u.Mask = true → 1 ≤ x.Mask ∧ x.Mask ≤ 7
 pt : u.Pointer = true → zer c.Storage x.Pointer = true
 sr : u.Source = true → zer c.Storage x.Source = true
 pl : u.Place = true → zcd c.Storage x.Place (szE (zgh x)) = true
 fr : u.From = true → zcd c.Storage x.From (szE x.Second) = true
 ca : u.zJ = true → 0 ≤ x.zJ ∧ x.zJ ≤ 4
 nu : zcn x.Number
 tx : x.Text.size ≤ 256
 ot : x.Other.size ≤ 256
 is : x.zL = true → x.Op = 4
theorem zaa4 {t : DataType} (h : zde t 1 = 0) : zif t := by
 unfold zde at h
 rw [ifn (by decide)] at h
 by_cases h0 : zdf t = 0
 · rw [ifp h0] at h; split at h
   · cases h
   · rename_i h1; refine ⟨h0, ?_⟩; refine cbc fun h2 => h1 (.inl ⟨rfl, h2⟩)
 · rw [ifn h0] at h; exact absurd h h0
theorem zaa3 {t : DataType} (h : zde t 2 = 0) : zdf t = 0 ∧ t.Kind = 0 := by
 unfold zde at h
 rw [ifn (by decide)] at h
 by_cases h0 : zdf t = 0
 · rw [ifp h0] at h; split at h
   · cases h
   · rename_i h1; refine ⟨h0, ?_⟩; refine cbc fun h2 => h1 (.inr (.inl ⟨rfl, h2⟩))
 · rw [ifn h0] at h; exact absurd h h0
theorem z61 {m : zH} {c : zG} {x : zB} (h : zja m c x = 0) : (0 ≤ x.Op ∧ x.Op ≤ 26) ∧ ∃ u, zec x = some u ∧ InsV m c x u := by
 unfold zja at h
 by_cases hop : inB x.Op 0 26 = true
 · refine ⟨zaz.1 hop, ?_⟩; obtain ⟨f, u, hf, hu, ag, _⟩ := zv9 x hop; rw [ifp hop, hu] at h; have h' : zp6 m c x u = 0 := h; unfold zp6 at h'; cases he : zlw x u with
   | true => rw [he] at h'; cases h'
   | false =>
    rw [he] at h'; simp only [cfa] at h'; cases hl : zib m x with
    | true => rw [hl] at h'; cases h'
    | false =>
     rw [hl] at h'; simp only [cfa] at h'
     by_cases h1 : zde x.zF u.zF = 0
     · by_cases h2 : zde x.Second u.Second = 0
       · rw [ifn, ifn] at h'; cases hr : zhe m c x u with
         | true => rw [hr] at h'; simp at h'
         | false =>
          rw [hr] at h'; simp only [cfa] at h'
          by_cases h3 : zp5 x.Number = 0
          · rw [ifn] at h'; cases hlg : zpb x with
            | true => rw [hlg] at h'; cases h'
            | false =>
             unfold zhe at hr; simp only [Bool.or_eq_false_iff] at hr; obtain ⟨r1, r2, r3, r4, r5, r6, r7, r8⟩ := hr; rw [List.any_eq_false] at r1; have reg : ∀ i, i ∈ zku x u → 0 ≤ i ∧ i < m.Registers := fun i hi => by
              have := r1 i hi; unfold zdk at this; have h4 : inB i 0 (m.Registers - 1) = true := by simpa using this
              have := zaz.1 h4; omega
             have andF : ∀ {p q : Bool}, (p && !q) = false → p = true → q = true := fun {p q} h hp => by subst hp; simpa using h
             unfold zpb at hlg; simp only [Bool.or_eq_false_iff, decide_eq_false_iff_not] at hlg; refine ⟨u, hu, ?_⟩; exact {
              r := fun hx => reg _ (by unfold zku; rw [hx]; simp)
              a := fun hx => reg _ (by unfold zku; rw [hx]; simp)
              b := fun hx => reg _ (by unfold zku; rw [hx]; simp)
              ty1 := fun hx => zaa4 (by rw [hx] at h1; exact h1)
              ty2 := fun hx => zaa3 (by rw [hx] at h1; exact h1)
              ty3 := fun hx => zqe h1 (by rw [hx]; decide)
              se1 := fun hx => zaa4 (by rw [hx] at h2; exact h2)
              se2 := fun hx => zaa3 (by rw [hx] at h2; exact h2)
              tg := fun hx => by have := zaz.1 (andF r2 hx); omega
              ma := fun hx => zaz.1 (andF r3 hx)
              pt := fun hx => andF r4 hx
              sr := fun hx => andF r5 hx
              pl := fun hx => andF r6 hx
              fr := fun hx => andF r7 hx
              ca := fun hx => zaz.1 (andF r8 hx)
              nu := zk7.1 h3
              tx := by omega
              ot := by omega
              is := (zpe he).1 }
          · rw [ifp h3] at h'; exact absurd h' h3
       · rw [ifn, ifp h2] at h'; exact absurd h' h2
     · rw [ifp h1] at h'; exact absurd h' h1
 · rw [ifn hop] at h; cases h
structure CodeV (m : zH) (c : zG) : Prop where
 m1 : 2 ≤ m.Registers
 m2 : m.Registers ≤ 8
 sto : zih c.Storage
 len : c.zD.length ≤ 240
 pos : 0 < c.zD.length
 traps : c.zN.length ≤ 40
 ins : ∀ x ∈ c.zD, zja m c x = 0
 trap : ∀ t ∈ c.zN, zo4 c t = true
structure StV (m : zH) (c : zG) (s : zA) : Prop where
 regs : (s.Registers.length : Int) = m.Registers
 nums : ∀ r ∈ s.Registers, zcn r
 cnd : s.Condition = 0 ∨ s.Condition = 1 ∨ s.Condition = 2 ∨ s.Condition = 4
 sto : zih s.Storage
 size : s.Storage.Bytes.size = c.Storage.Bytes.size
 at0 : 0 ≤ s.At
 at1 : s.At < (c.zD.length : Int)
 stk : s.Stack.length ≤ 6
 calls : ∀ i ∈ s.Stack, (0 ≤ i ∧ i < (c.zD.length : Int)) ∧ ∃ x, c.zD[i.toNat]? = some x ∧ x.Op = 18
 lines : s.Lines.length ≤ 40
 long : ∀ l ∈ s.Lines, l.size ≤ 256
 st0 : 0 ≤ s.Status
 st1 : s.Status ≤ 3
 ex0 : 0 ≤ s.Exception
 ex1 : s.Exception ≤ 999
 mk0 : 0 ≤ s.Marks
 mk1 : s.Marks ≤ 300
 sp0 : 0 ≤ s.Steps
 sp1 : s.Steps ≤ 3000
def zg7 (s : Storage) (p : zO) (n : Int) : Except Int Int :=
 if p.Based = true then (match ldV s p.Pointer with | none => .error 4 | some o => if o + p.Offset > (s.Bytes.size : Int) - n then .error 5 else .ok (o + p.Offset)) else .ok p.Offset
def zgl (s : Storage) (p : zO) (t : DataType) : Except Int ByteArray :=
 match zg7 s p (szE t) with | .error e => .error e | .ok a => .ok (s.Bytes.extract a.toNat (a + szE t).toNat)
def zrb (s : Storage) (p : zO) (t : DataType) : Except Int Number :=
 match zgl s p t with | .error e => .error e | .ok b => match zly t b with | none => .error 1 | some n => .ok ⟨n, t.Scale⟩
theorem zhy (s : zA) (c : zG) (b : Bool) (n : Int) (hn : n ≠ 0) : zf ⟨s, c, 0⟩ b n = some (!b, ⟨s, c, cond b n 0⟩) := by
 unfold zf
 cases b
 · rfl
 · simp only [bst, ctr, obs, zao, dcf hn]; rfl
theorem zql (N : Nat) (hN : 2000 < N) (s : zA) (c : zG) (h : zih s.Storage) {a : Int} (ha : zer s.Storage a = true) :
 zav N ⟨s, c, 0⟩ a = some (match ldV s.Storage a with | some o => (zh6 o, true, ⟨s, c, 0⟩) | none => (zy0, false, ⟨s, c, 4⟩)) := by
 unfold zav
 simp only []
 rw [zabn N hN h ha]
 cases ldV s.Storage a with
 | none => simp only [obs]; rw [zhy _ _ _ _ (by decide)]; rfl
 | some o => simp only [obs]; rw [zhy _ _ _ _ (by decide)]; rfl
theorem zm8 {s t : Storage} (h : s.Bytes.size = t.Bytes.size) (a : Int) : zer s a = zer t a := by unfold zer; rw [h]
theorem zgr {s t : Storage} (h : s.Bytes.size = t.Bytes.size) (p : zO) (n : Int) : zcd s p n = zcd t p n := by unfold zcd; rw [h, zm8 h]
theorem zsb (N : Nat) (hN : 2000 < N) (s : zA) (c : zG) (h : zih s.Storage) {p : zO} {n : Int} (hp : zcd s.Storage p n = true) (hn : 0 < n) (hn2 : n ≤ 256) :
 (∃ e j k, (e = 4 ∨ e = 5) ∧ zg7 s.Storage p n = .error e ∧ za0 N ⟨s, c, 0⟩ p n = some (j, false, ⟨s, c, e⟩) ∧ zcu N s p n = some (k, e)) ∨
 ∃ a, zg7 s.Storage p n = .ok a ∧ za0 N ⟨s, c, 0⟩ p n = some (a, true, ⟨s, c, 0⟩) ∧ zcu N s p n = some (a, 0) ∧ 0 ≤ a ∧ a + n ≤ (s.Storage.Bytes.size : Int) := by
 have hl := h.le
 unfold zcd at hp
 unfold zg7 za0 zcu
 try simp only [eS]
 by_cases hb : p.Based = true
 · rw [ifp hb] at hp; rw [Bool.and_eq_true] at hp; obtain ⟨hp1, hp2⟩ := hp; have hp3 := zaz.1 hp2; rw [ifp hb, hb]; simp only [bnt, cfa]; rw [zql N hN s c h hp1, zws N hN h hp1]; cases hld : ldV s.Storage p.Pointer with
   | none =>
    left; exact ⟨4, 0, 0, .inl rfl, rfl, rfl, rfl⟩
   | some o =>
    have ho := zv3 h hld; simp only [obs, bnt, cfa, bsf]; rw [zhy _ _ _ _ (by decide)]; simp only [obs]; rw [show (zh6 o).Address.Offset = o from rfl, w6e (n := o + p.Offset), w6e (n := (s.Storage.Bytes.size : Int) - n)]; unfold zh4; rw [zh0, zh0, w6e (n := (s.Storage.Bytes.size : Int) - (o + p.Offset))]; simp only [obs]
    by_cases hgt : o + p.Offset > (s.Storage.Bytes.size : Int) - n
    · left; refine ⟨5, o + p.Offset, 0, .inr rfl, ?_, ?_, ?_⟩
      · show (if o + p.Offset > (s.Storage.Bytes.size : Int) - n then (Except.error 5 : Except Int Int) else .ok (o + p.Offset)) = _; rw [ifp hgt]
      · rw [dct hgt]; rfl
      · by_cases h1 : inB (o + p.Offset) 0 (s.Storage.Bytes.size : Int) = true
        · rw [h1, ctr]; rw [show inB n 0 ((s.Storage.Bytes.size : Int) - (o + p.Offset)) = false by
           cases hh : inB n 0 ((s.Storage.Bytes.size : Int) - (o + p.Offset)) with
           | false => rfl
           | true => have := zaz.1 hh; omega]
          rfl
        · rw [show inB (o + p.Offset) 0 (s.Storage.Bytes.size : Int) = false by simpa using h1]; rfl
    · right; refine ⟨o + p.Offset, ?_, ?_, ?_, by omega, by omega⟩
      · show (if o + p.Offset > (s.Storage.Bytes.size : Int) - n then (Except.error 5 : Except Int Int) else .ok (o + p.Offset)) = _; rw [ifn hgt]
      · rw [dcf hgt]; rfl
      · rw [show inB (o + p.Offset) 0 (s.Storage.Bytes.size : Int) = true from zaz.2 ⟨by omega, by omega⟩, ctr, show inB n 0 ((s.Storage.Bytes.size : Int) - (o + p.Offset)) = true from zaz.2 ⟨by omega, by omega⟩]; rfl
 · have hb' : p.Based = false := by simpa using hb
   rw [ifn hb] at hp; have hp3 := zaz.1 hp; rw [ifn hb, hb']; right; exact ⟨p.Offset, rfl, rfl, rfl, by omega, by omega⟩
theorem zm7 (N : Nat) (hN : 2000 < N) (s : zA) (c : zG) (h : zih s.Storage) {p : zO} {t : DataType} (ht : zdf t = 0) (hp : zcd s.Storage p (szE t) = true) :
 (∃ e b k, (e = 4 ∨ e = 5) ∧ zgl s.Storage p t = .error e ∧ zu N ⟨s, c, 0⟩ p t = some (b, false, ⟨s, c, e⟩) ∧ zex N s p t = some (k, e)) ∨
 ∃ b, zgl s.Storage p t = .ok b ∧ zu N ⟨s, c, 0⟩ p t = some (b, true, ⟨s, c, 0⟩) ∧ zex N s p t = some (b, 0) ∧ (b.size : Int) = szE t := by
 have hsz := zka ht
 have hl := h.le
 unfold zgl zu zex
 try simp only [eS, eD, eP]
 rw [z0o N (by omega) ht, zjh ht]
 simp only [obs]
 have eH : (⟨s.Registers, s.Condition, s.Storage, s.At, s.Stack, s.Lines, s.Status, s.Exception, s.Marks, s.Steps⟩ : zA) = s := rfl
 try rw [eH]
 rcases zsb N hN s c h hp hsz.1 hsz.2 with ⟨e, j, k, he, h1, h2, h3⟩ | ⟨a, h1, h2, h3, h4, h5⟩
 · left; rw [h1, h2, h3]; refine ⟨e, ⟨#[]⟩, ⟨#[]⟩, he, rfl, rfl, ?_⟩; rcases he with rfl | rfl <;> rfl
 · right; rw [h1, h2, h3]; simp only [obs, bnt, cfa, bsf]; rw [w6e, ifp, ifp, ifp, ifp]; refine ⟨_, rfl, rfl, rfl, ?_⟩; rw [zc2 _ _ _ (by omega) (by omega)]; omega
theorem z3b (N : Nat) (hN : 2000 < N) (s : zA) (c : zG) (h : zih s.Storage) {p : zO} {t : DataType} (ht : zif t) (hp : zcd s.Storage p (szE t) = true) :
 (∃ e b k, (e = 4 ∨ e = 5 ∨ e = 1) ∧ zrb s.Storage p t = .error e ∧ zbf N ⟨s, c, 0⟩ p t = some (b, false, ⟨s, c, e⟩) ∧ zi5 N s p t = some (k, e)) ∨
 ∃ n, zrb s.Storage p t = .ok n ∧ zbf N ⟨s, c, 0⟩ p t = some (n, true, ⟨s, c, 0⟩) ∧ zi5 N s p t = some (n, 0) ∧ zcn n := by
 unfold zrb zbf zi5
 rcases zm7 N hN s c h ht.1 hp with ⟨e, b, k, he, h1, h2, h3⟩ | ⟨b, h1, h2, h3, h4⟩
 · left; rw [h1, h2, h3]; refine ⟨e, ⟨0, 0⟩, ⟨0, 0⟩, by omega, rfl, rfl, ?_⟩; rcases he with rfl | rfl <;> rfl
 · obtain ⟨v1, a1, e1, g1, g2⟩ := z8q N hN ht h4; obtain ⟨v2, a2, e2, g3, g4⟩ := z79 N hN ht h4; rw [h1, h2, h3]; simp only [obs, bnt, cfa, bsf]; rw [g1, g3]; simp only [obs]; rw [zhy _ _ _ _ (by decide)]; simp only [obs]; have hbound : ∀ n, zly t b = some n → -((10 ^ t.Length.toNat : Nat) : Int) < n ∧ n < ((10 ^ t.Length.toNat : Nat) : Int) := by
    intro n hn; obtain ⟨⟨l1, l2⟩, l3, l4⟩ := zga ht; unfold zly at hn; split at hn
    · split at hn
      · rename_i hh; cases hn; exact hh
      · cases hn
    · rename_i hk3; have key : ∀ l : List Int, (∀ d ∈ l, 0 ≤ d ∧ d ≤ 15) → (List.range (l.length - 1)).any (zig l t.Length) = false → (l.length : Int) - 1 - t.Length ≤ 1 → 0 ≤ ze0 (l.take (l.length - 1)) ∧ ze0 (l.take (l.length - 1)) < ((10 ^ t.Length.toNat : Nat) : Int) := by
       intro l hr hg hle; rw [List.any_eq_false] at hg; have g9 : ∀ i, i < l.length - 1 → 0 ≤ l.getD i 0 ∧ l.getD i 0 ≤ 9 := fun i hi => by
        have h1 := hg i (List.mem_range.2 hi); unfold zig at h1; have hx : l[i]? = some (l.getD i 0) := by rw [gdd, lge (by omega)]; rfl
        have h2 := hr _ (lmg hx); rw [Bool.or_eq_true, decide_eq_true_eq] at h1; omega
       have step : ∀ i, i ≤ l.length - 1 → 0 ≤ ze0 (l.take i) ∧ (ze0 (l.take i) < ((10 ^ (i - ((l.length : Int) - 1 - t.Length).toNat) : Nat) : Int)) := by
        intro i
        induction i with
        | zero => intro _; rw [List.take_zero]; exact ⟨by decide, by simp [ze0]⟩
        | succ i ih =>
         intro hi; have hx : l[i]? = some (l.getD i 0) := by rw [gdd, lge (by omega)]; rfl
         obtain ⟨i1, i2⟩ := ih (by omega); have hd := g9 i (by omega); rw [zdw l i hx, zn1]; refine ⟨by omega, ?_⟩
         by_cases hlead : (i : Int) < (l.length : Int) - 1 - t.Length
         · have h1 := hg i (List.mem_range.2 (by omega)); unfold zig at h1; rw [Bool.or_eq_true, Bool.and_eq_true, decide_eq_true_eq, decide_eq_true_eq, decide_eq_true_eq] at h1; have h0 : l.getD i 0 = 0 := by
            refine cbc fun h2 => h1 (.inr ⟨by omega, hlead⟩)
           rw [show i - ((l.length : Int) - 1 - t.Length).toNat = 0 by omega, Nat.pow_zero] at i2; rw [h0, show i + 1 - ((l.length : Int) - 1 - t.Length).toNat = 0 by omega, Nat.pow_zero]; omega
         · rw [show i + 1 - ((l.length : Int) - 1 - t.Length).toNat = (i - ((l.length : Int) - 1 - t.Length).toNat) + 1 by omega, Nat.pow_succ]; omega
       obtain ⟨s1, s2⟩ := step (l.length - 1) (Nat.le_refl _); refine ⟨s1, ?_⟩; have hpw : 10 ^ (l.length - 1 - ((l.length : Int) - 1 - t.Length).toNat) ≤ 10 ^ t.Length.toNat := zby (by omega); omega
      have hbs := h4; rw [zqt ht] at hbs; obtain ⟨_, k1, k2⟩ := ht; have hlen : ((if t.Kind = 1 then zhx (bl b) else zdv (bl b)).length : Int) - 1 - t.Length ≤ 1 := by
       by_cases hk1 : t.Kind = 1
       · rw [ifp hk1] at hbs; rw [ifp hk1, zoq, zak]; omega
       · rw [ifn hk1, ifn hk3] at hbs; rw [ifn hk1]; unfold zdv zfe; rw [lna, lnm, zak, lns]; omega
      have hrange : ∀ d ∈ (if t.Kind = 1 then zhx (bl b) else zdv (bl b)), 0 ≤ d ∧ d ≤ 15 := by
       split
       · exact zpw.1
       · exact zpw.2
      generalize (if t.Kind = 1 then zhx (bl b) else zdv (bl b)) = l at *; unfold zwc at hn
      by_cases hbad : (List.range (l.length - 1)).any (zig l t.Length) = true ∨ zkb l < 10
      · rw [ifp hbad] at hn; cases hn
      · rw [ifn hbad] at hn; rw [not_or] at hbad; obtain ⟨q1, q2⟩ := key l hrange (by simpa using hbad.1) hlen; have hn2 := Option.some.inj hn; split at hn2 <;> omega
   cases hdv : zly t b with
   | none =>
    rw [hdv] at g2 g4; simp only [] at g2 g4; left; refine ⟨1, ⟨v1.N, t.Scale⟩, ⟨0, 0⟩, by omega, rfl, ?_, ?_⟩
    · rw [zcz, dct g2]; rfl
    · rw [zcz, dct g4]; rfl
   | some n =>
    rw [hdv] at g2 g4; simp only [] at g2 g4; right; have hb := hbound n hdv; obtain ⟨⟨l1, l2⟩, l3, l4⟩ := zga ht; have hpw : 10 ^ t.Length.toNat ≤ 10 ^ 15 := zby (by omega); refine ⟨⟨n, t.Scale⟩, rfl, ?_, ?_, ⟨⟨?_, ?_⟩, l3, ?_⟩⟩
    · rw [g2.2, g2.1]; rfl
    · rw [g4.2, g4.1]; rfl
    · show -999999999999999 ≤ n; omega
    · show n ≤ 999999999999999; omega
    · show t.Scale ≤ 15; omega
def updR (s : zA) (i : Int) (n : Number) : zA := ⟨s.Registers.set i.toNat n, s.Condition, s.Storage, s.At, s.Stack, s.Lines, s.Status, s.Exception, s.Marks, s.Steps⟩
def updS (s : zA) (t : Storage) : zA := ⟨s.Registers, s.Condition, t, s.At, s.Stack, s.Lines, s.Status, s.Exception, s.Marks, s.Steps⟩
def updC (s : zA) (k : Int) : zA := ⟨s.Registers, k, s.Storage, s.At, s.Stack, s.Lines, s.Status, s.Exception, s.Marks, s.Steps⟩
def updL (s : zA) (l : List ByteArray) : zA := ⟨s.Registers, s.Condition, s.Storage, s.At, s.Stack, l, s.Status, s.Exception, s.Marks, s.Steps⟩
def updT (s : zA) (k : Int) : zA := ⟨s.Registers, s.Condition, s.Storage, s.At, s.Stack, s.Lines, k, s.Exception, s.Marks, s.Steps⟩
def updK (s : zA) (l : List Int) : zA := ⟨s.Registers, s.Condition, s.Storage, s.At, l, s.Lines, s.Status, s.Exception, s.Marks, s.Steps⟩
def updM (s : zA) (k : Int) : zA := ⟨s.Registers, s.Condition, s.Storage, s.At, s.Stack, s.Lines, s.Status, s.Exception, k, s.Steps⟩
def rg (s : zA) (i : Int) : Number := s.Registers.getD i.toNat ⟨0, 0⟩
def zmd (s : zA) (a b : Int) : Int := zn5 (z0l (zah (rg s a) (zi (rg s a) (rg s b))) (zah (rg s b) (zi (rg s a) (rg s b))))
def zke (s : zA) (l : ByteArray) : Except Int (Int × zA) := if s.Lines.length = 40 then .ok (s.At + 1, updT s 3) else .ok (s.At + 1, updL s (s.Lines ++ [l]))
def zdu (s : zA) (x : zB) : Except Int (Int × zA) :=
 match x.Op.toNat with
 | 0 => match zrb s.Storage x.Place x.zF with | .error e => .error e | .ok n => .ok (s.At + 1, updR s x.R n)
 | 1 => if (zky (rg s x.R) x.zF x.Half).2 ≠ 0 then .error 2 else match zg7 s.Storage x.Place (szE x.zF) with | .error e => .error e | .ok a => .ok (s.At + 1, updS s (wrV s.Storage a.toNat (zov x.zF (zky (rg s x.R) x.zF x.Half).1.N)))
 | 2 => .ok (s.At + 1, updR s x.R x.Number)
 | 3 => .ok (s.At + 1, updR s x.R (rg s x.A))
 | 4 => match (if x.zL = true then zrb s.Storage x.Place x.Second else .ok (rg s x.B)) with
  | .error e => .error e
  | .ok b => if (ze5 x.zJ (rg s x.A) b x.zF false).2 = 20 then .error 3 else if (ze5 x.zJ (rg s x.A) b x.zF false).2 ≠ 0 then .error 2 else .ok (s.At + 1, updR s x.R ⟨(ze5 x.zJ (rg s x.A) b x.zF false).1.N, x.zF.Scale⟩)
 | 5 => .ok (s.At + 1, updC s (zmd s x.A x.B))
 | 6 => .ok (cond (zh .i64 s.Condition x.Mask != 0) x.Target (s.At + 1), s)
 | 7 => .ok (cond (zh .i64 (zmd s x.A x.B) x.Mask != 0) x.Target (s.At + 1), s)
 | 8 => .ok (x.Target, s)
 | 9 => match zgl s.Storage x.From x.Second with
  | .error e => .error e
  | .ok b => match zg7 s.Storage x.Place (szE x.zF) with | .error e => .error e | .ok a => .ok (s.At + 1, updS s (wrV s.Storage a.toNat (zi7 b x.zF.Length.toNat)))
 | 10 => match zg7 s.Storage x.Place (szE x.zF) with | .error e => .error e | .ok a => .ok (s.At + 1, updS s (wrV s.Storage a.toNat (zi7 x.Text x.zF.Length.toNat)))
 | 11 => match zgl s.Storage x.Place x.zF with
  | .error e => .error e
  | .ok a => match zgl s.Storage x.From x.Second with | .error e => .error e | .ok b => .ok (s.At + 1, updC s (zj9 a b))
 | 12 => match zgl s.Storage x.Place x.zF with | .error e => .error e | .ok a => .ok (s.At + 1, updC s (zj9 a x.Text))
 | 13 => .ok (s.At + 1, updC s (zj9 x.Text x.Other))
 | 14 => match zg7 s.Storage x.Place (szE x.zF) with | .error e => .error e | .ok a => .ok (s.At + 1, updS s (stV s.Storage x.Pointer.toNat a.toNat))
 | 15 => match ldV s.Storage x.Source with | none => .error 4 | some o => .ok (s.At + 1, updS s (stV s.Storage x.Pointer.toNat o.toNat))
 | 16 => match ldV s.Storage x.Pointer with
  | none => .error 4
  | some o => if inB (o + zej (rg s x.R)) 0 16777215 = true then .ok (s.At + 1, updS s (stV s.Storage x.Pointer.toNat (o + zej (rg s x.R)).toNat)) else .error 5
 | 17 => match ldV s.Storage x.Pointer with | none => .error 4 | some _ => .ok (s.At + 1, s)
 | 18 => if 6 ≤ s.Stack.length then .error 6 else .ok (x.Target, updK s (s.Stack ++ [s.At]))
 | 19 => if s.Stack.length = 0 then .ok (s.At, updT s 1) else .ok (s.Stack.getD (s.Stack.length - 1) 0 + 1, updK s (s.Stack.take (s.Stack.length - 1)))
 | 20 => if inB (zej (rg s x.R)) 100 999 = true then .error (zej (rg s x.R)) else .error 2
 | 21 => .ok (s.At + 1, updR s x.R ⟨s.Exception, 0⟩)
 | 22 => zke s (zo5 (rg s x.R))
 | 23 => match zgl s.Storage x.Place x.zF with | .error e => .error e | .ok b => zke s b
 | 24 => zke s x.Text
 | 25 => if s.Marks = 300 then .ok (s.At + 1, updT s 3) else .ok (s.At + 1, updM s (s.Marks + 1))
 | _ => .ok (s.At + 1, updT s 1)
section
variable {m : zH} {c : zG} {s : zA}
theorem StV.updR (h : StV m c s) {i : Int} {n : Number} (hn : zcn n) : StV m c (updR s i n) := {
 regs := by show ((s.Registers.set i.toNat n).length : Int) = _; rw [List.length_set]; exact h.regs
 nums := fun r hr => by
  rcases List.mem_or_eq_of_mem_set (show r ∈ s.Registers.set i.toNat n from hr) with h1 | h1
  · exact h.nums r h1
  · rw [h1]; exact hn
 cnd := h.cnd, sto := h.sto, size := h.size, at0 := h.at0, at1 := h.at1, stk := h.stk, calls := h.calls, lines := h.lines, long := h.long, st0 := h.st0, st1 := h.st1, ex0 := h.ex0, ex1 := h.ex1, mk0 := h.mk0, mk1 := h.mk1, sp0 := h.sp0, sp1 := h.sp1 }
theorem StV.updS (h : StV m c s) {t : Storage} (ht : zih t) (hz : t.Bytes.size = s.Storage.Bytes.size) : StV m c (updS s t) := {
 regs := h.regs, nums := h.nums, cnd := h.cnd, sto := ht, size := hz.trans h.size, at0 := h.at0, at1 := h.at1, stk := h.stk, calls := h.calls, lines := h.lines, long := h.long, st0 := h.st0, st1 := h.st1, ex0 := h.ex0, ex1 := h.ex1, mk0 := h.mk0, mk1 := h.mk1, sp0 := h.sp0, sp1 := h.sp1 }
theorem StV.updC (h : StV m c s) {k : Int} (hk : k = 1 ∨ k = 2 ∨ k = 4) : StV m c (updC s k) := {
 regs := h.regs, nums := h.nums, cnd := .inr hk, sto := h.sto, size := h.size, at0 := h.at0, at1 := h.at1, stk := h.stk, calls := h.calls, lines := h.lines, long := h.long, st0 := h.st0, st1 := h.st1, ex0 := h.ex0, ex1 := h.ex1, mk0 := h.mk0, mk1 := h.mk1, sp0 := h.sp0, sp1 := h.sp1 }
theorem StV.updL (h : StV m c s) {l : ByteArray} (h1 : s.Lines.length < 40) (h2 : l.size ≤ 256) : StV m c (updL s (s.Lines ++ [l])) := {
 regs := h.regs, nums := h.nums, cnd := h.cnd, sto := h.sto, size := h.size, at0 := h.at0, at1 := h.at1, stk := h.stk, calls := h.calls
 lines := by show (s.Lines ++ [l]).length ≤ 40; rw [lna, lns]; omega
 long := fun y hy => by
  rcases List.mem_append.1 (show y ∈ s.Lines ++ [l] from hy) with h3 | h3
  · exact h.long y h3
  · rw [List.mem_singleton.1 h3]; exact h2
 st0 := h.st0, st1 := h.st1, ex0 := h.ex0, ex1 := h.ex1, mk0 := h.mk0, mk1 := h.mk1, sp0 := h.sp0, sp1 := h.sp1 }
theorem StV.updT (h : StV m c s) {k : Int} (h1 : 0 ≤ k) (h2 : k ≤ 3) : StV m c (updT s k) := {
 regs := h.regs, nums := h.nums, cnd := h.cnd, sto := h.sto, size := h.size, at0 := h.at0, at1 := h.at1, stk := h.stk, calls := h.calls, lines := h.lines, long := h.long, st0 := h1, st1 := h2, ex0 := h.ex0, ex1 := h.ex1, mk0 := h.mk0, mk1 := h.mk1, sp0 := h.sp0, sp1 := h.sp1 }
theorem StV.updK (h : StV m c s) {l : List Int} (h1 : l.length ≤ 6) (h2 : ∀ i ∈ l, (0 ≤ i ∧ i < (c.zD.length : Int)) ∧ ∃ x, c.zD[i.toNat]? = some x ∧ x.Op = 18) : StV m c (updK s l) := {
 regs := h.regs, nums := h.nums, cnd := h.cnd, sto := h.sto, size := h.size, at0 := h.at0, at1 := h.at1, stk := h1, calls := h2, lines := h.lines, long := h.long, st0 := h.st0, st1 := h.st1, ex0 := h.ex0, ex1 := h.ex1, mk0 := h.mk0, mk1 := h.mk1, sp0 := h.sp0, sp1 := h.sp1 }
theorem StV.updM (h : StV m c s) {k : Int} (h1 : 0 ≤ k) (h2 : k ≤ 300) : StV m c (updM s k) := {
 regs := h.regs, nums := h.nums, cnd := h.cnd, sto := h.sto, size := h.size, at0 := h.at0, at1 := h.at1, stk := h.stk, calls := h.calls, lines := h.lines, long := h.long, st0 := h.st0, st1 := h.st1, ex0 := h.ex0, ex1 := h.ex1, mk0 := h1, mk1 := h2, sp0 := h.sp0, sp1 := h.sp1 }
theorem zf2 (h : StV m c s) {i : Int} (hi : 0 ≤ i ∧ i < m.Registers) : 0 ≤ i ∧ i < (s.Registers.length : Int) ∧ s.Registers[i.toNat]? = some (rg s i) ∧ idx s.Registers i = some (rg s i) ∧ zcn (rg s i) := by
 have hr := h.regs
 have hx : s.Registers[i.toNat]? = some (rg s i) := by
  unfold rg; rw [gdd, lge (by omega)]; rfl
 refine ⟨hi.1, by omega, hx, ?_, h.nums _ (lmg hx)⟩
 unfold idx
 rw [ifp hi.1, hx]
theorem zph (o : Int) : zn5 o = 1 ∨ zn5 o = 2 ∨ zn5 o = 4 := by
 unfold zn5
 repeat' split
 all_goals simp
theorem zv5 (h : StV m c s) (hm : m.Registers ≤ 8) {i : Int} (hi : 0 ≤ i ∧ i < m.Registers) (n : Number) (e : Int) : zaa ⟨s, c, e⟩ i n = some ⟨updR s i n, c, e⟩ := by
 obtain ⟨h1, h2, h3, _⟩ := zf2 h hi
 have hr := h.regs
 unfold zaa zda
 simp only []
 rw [zal (by omega), ctr, obs, ifp h1, ifp h2, h3]
 rfl
theorem z1f (N : Nat) (hN : 300 < N) (h : StV m c s) (x : zB) (ha : 0 ≤ x.A ∧ x.A < m.Registers) (hb : 0 ≤ x.B ∧ x.B < m.Registers) (e : Int) : zat N ⟨s, c, e⟩ x = some (zmd s x.A x.B) := by
 obtain ⟨_, _, _, a4, a5⟩ := zf2 h ha
 obtain ⟨_, _, _, b4, b5⟩ := zf2 h hb
 unfold zat
 simp only []
 rw [a4, b4]
 simp only [obs]
 rw [z46 N hN a5 b5]
 simp only [obs]
 rw [z3s]
 rfl
theorem z1s (x y : Int) : zh .i64 x y = zh .i64 y x := by unfold zh; rw [BitVec.and_comm]
def zb9 (N : Nat) (m : zH) (c : zG) (s : zA) (x : zB) : Prop :=
 (∃ e nx ny t, zdu s x = .error e ∧ (1 ≤ e ∧ e ≤ 999) ∧ zd N ⟨s, c, 0⟩ x = some (nx, ⟨s, c, e⟩) ∧ ze N c s = some (ny, e, t)) ∨
 ∃ n k t, zdu s x = .ok (n, t) ∧ zd N ⟨s, c, 0⟩ x = some (n, ⟨t, c, 0⟩) ∧ ze N c s = some (k, 0, t) ∧ (t.Status = 0 → k = n ∧ 0 ≤ n ∧ n ≤ (c.zD.length : Int)) ∧ StV m c t ∧ t.At = s.At ∧ t.Steps = s.Steps ∧ t.Exception = s.Exception
theorem zg4 {x : zB} (hc : CodeV m c) (hx : x ∈ c.zD) {k : Int} (hop : x.Op = k) {U : zM} (hU : z58 k x.zL = some U) : InsV m c x U := by
 obtain ⟨_, u, h1, h2⟩ := z61 (hc.ins x hx)
 rw [z2d, hop, hU] at h1
 cases h1
 exact h2
end
section
variable {m : zH} {c : zG} {s : zA}
theorem zl3 {b : Bool} {p q : Nat} {t : DataType} {half : Bool} (h : (zh5 b p q t half).2 = 0) : -((10 ^ t.Length.toNat : Nat) : Int) < (zh5 b p q t half).1.N ∧ (zh5 b p q t half).1.N < ((10 ^ t.Length.toNat : Nat) : Int) := by
 unfold zh5 at h ⊢
 have := zb6 t.Length.toNat
 generalize (p * 10 ^ t.Scale.toNat / q + cond (half && decide (q ≤ p * 10 ^ t.Scale.toNat % q + p * 10 ^ t.Scale.toNat % q)) 1 0) = Q at *
 generalize 10 ^ t.Length.toNat = T at *
 split at h
 · cases h
 · rename_i hn; rw [ifn hn]; cases b
   · show -(T : Int) < (Q : Int) ∧ (Q : Int) < T; omega
   · show -(T : Int) < -(Q : Int) ∧ -(Q : Int) < T; omega
theorem zadu (b : Bool) (p q : Nat) (t : DataType) (half : Bool) : (zh5 b p q t half).1 = ⟨(zh5 b p q t half).1.N, ⟨#[]⟩⟩ := by
 unfold zh5
 split <;> rfl
theorem zacn {x : Number} {t : DataType} {half : Bool} (h : (zky x t half).2 = 0) : (zh5 (decide (x.N < 0)) x.N.natAbs (10 ^ x.Scale.toNat) t half).2 = 0 := h
theorem zaeh (x : Number) (t : DataType) (half : Bool) : (zky x t half).1 = ⟨(zky x t half).1.N, ⟨#[]⟩⟩ := zadu _ _ _ _ _
theorem ex_0 (s : zA) {x : zB} (hop : x.Op = 0) : zdu s x = (match zrb s.Storage x.Place x.zF with | .error e => .error e | .ok n => .ok (s.At + 1, updR s x.R n)) := by
 cases x; cases hop; rfl
theorem hx_0 (N : Nat) (M : zC) {x : zB} (hop : x.Op = 0) : zd N M x = (zbf N M x.Place x.zF).bind fun r1 => cond r1.2.1 ((zaa r1.2.2 x.R r1.1).bind fun r => some (w6 (r.zA.At + 1), r)) (some (w6 (r1.2.2.zA.At + 1), r1.2.2)) := by
 cases x; cases hop; rfl
theorem rx_0 (N : Nat) {x : zB} (hop : x.Op = 0) (hi : idx c.zD s.At = some x) : ze N c s = ((zi5 N s x.Place x.zF).bind fun r1 => cond (r1.2 != 0) (some (r1.2, s)) (if 0 ≤ x.R then (if x.R < (s.Registers.length : Int) then ((s.Registers[x.R.toNat]?).bind fun _ => some (0, updR s x.R r1.1)) else none) else none)).bind fun r => some (w6 (s.At + 1), r.1, r.2) := by
 unfold ze
 rw [hi, obs]
 clear hi
 cases x; cases hop; rfl
theorem zaet (N : Nat) (hN : 20000 < N) (hc : CodeV m c) (hs : StV m c s) {x : zB} (hx : c.zD[s.At.toNat]? = some x) (hop : x.Op = 0) : zb9 N m c s x := by
 have iv := zg4 hc (lmg hx) hop (U := ⟨true, false, false, true, false, false, false, false, false, false, false, false, false, false, 1, 0⟩) rfl
 have hi : idx c.zD s.At = some x := by unfold idx; rw [ifp hs.at0, hx]
 have m8 := hc.m2
 have a0 := hs.at0
 have a1 := hs.at1
 have n240 := hc.len
 have wn1 : w6 (s.At + 1) = s.At + 1 := w6e
 unfold zb9
 rw [ex_0 s hop, hx_0 N _ hop, rx_0 N hop hi]
 obtain ⟨g1, g2, g3, g4, g5⟩ := zf2 hs (iv.r rfl)
 have hp : zcd s.Storage x.Place (szE x.zF) = true := by rw [zgr hs.size]; have := iv.pl rfl; unfold zgh at this; rw [ifn] at this; exact this
 rcases z3b N (by omega) s c hs.sto (iv.ty1 rfl) hp with ⟨e, b, k, he, h1, h2, h3⟩ | ⟨n, h1, h2, h3, h4⟩
 · rw [h1, h2, h3]; refine .inl ⟨e, _, w6 (s.At + 1), s, rfl, by omega, rfl, ?_⟩; rcases he with rfl | rfl | rfl <;> rfl
 · rw [h1, h2, h3]; refine .inr ⟨_, _, _, rfl, ?_, ?_, fun _ => ⟨rfl, by omega, by omega⟩, hs.updR h4, rfl, rfl, rfl⟩
   · simp only [obs, ctr]; rw [zv5 hs m8 (iv.r rfl)]; show some (w6 (s.At + 1), _) = _; rw [wn1]
   · simp only [obs, bsf, cfa]; rw [ifp g1, ifp g2, g3]; show some (w6 (s.At + 1), _) = _; rw [wn1]
theorem ex_1 (s : zA) {x : zB} (hop : x.Op = 1) : zdu s x = (if (zky (rg s x.R) x.zF x.Half).2 ≠ 0 then .error 2 else match zg7 s.Storage x.Place (szE x.zF) with | .error e => .error e | .ok a => .ok (s.At + 1, updS s (wrV s.Storage a.toNat (zov x.zF (zky (rg s x.R) x.zF x.Half).1.N)))) := by
 cases x; cases hop; rfl
theorem hx_1 (N : Nat) (M : zC) {x : zB} (hop : x.Op = 1) : zd N M x = (zeu N M x).bind fun r => some (w6 (r.zA.At + 1), r) := by
 cases x; cases hop; rfl
theorem rx_1 (N : Nat) {x : zB} (hop : x.Op = 1) (hi : idx c.zD s.At = some x) : ze N c s = (if 0 ≤ x.R then (if x.R < (s.Registers.length : Int) then ((s.Registers[x.R.toNat]?).bind fun x3 => (zlh N x3 x.zF x.Half).bind fun r4 =>
 cond (r4.2 != 0) (some (2, s)) ((zbe x.zF).bind fun r5 => (zcu N s x.Place r5).bind fun r6 => cond (r6.2 != 0) (some (r6.2, s))
 ((zbg N x.zF r4.1).bind fun r7 => (zb3 N s.Storage r6.1 r7).bind fun r8 => some (0, updS s r8)))) else none) else none).bind fun r => some (w6 (s.At + 1), r.1, r.2) := by
 unfold ze
 rw [hi, obs]
 clear hi
 cases x; cases hop; rfl
theorem zaes (N : Nat) (hN : 20000 < N) (hc : CodeV m c) (hs : StV m c s) {x : zB} (hx : c.zD[s.At.toNat]? = some x) (hop : x.Op = 1) : zb9 N m c s x := by
 have iv := zg4 hc (lmg hx) hop (U := ⟨true, false, false, true, false, true, false, false, false, false, false, false, false, false, 1, 0⟩) rfl
 have hi : idx c.zD s.At = some x := by unfold idx; rw [ifp hs.at0, hx]
 have m8 := hc.m2
 have a0 := hs.at0
 have a1 := hs.at1
 have n240 := hc.len
 have wn1 : w6 (s.At + 1) = s.At + 1 := w6e
 unfold zb9
 rw [ex_1 s hop, hx_1 N _ hop, rx_1 N hop hi]
 obtain ⟨g1, g2, g3, g4, g5⟩ := zf2 hs (iv.r rfl)
 have ht := iv.ty1 rfl
 have hp : zcd s.Storage x.Place (szE x.zF) = true := by rw [zgr hs.size]; have := iv.pl rfl; unfold zgh at this; rw [ifn] at this; exact this
 have hsz := zka ht.1
 unfold zeu
 rw [ifp g1, ifp g2, g3]
 simp only []
 rw [g4]
 simp only [obs]
 rw [zab9 N (by omega) g5 ht, zabz N (by omega) g5 ht]
 simp only [obs]
 rw [zhy _ _ _ _ (by decide)]
 simp only [obs]
 by_cases hv : (zky (rg s x.R) x.zF x.Half).2 = 0
 · rw [hv, ifn (by decide)]; simp only [bsf, Bool.not_false, ctr, cfa]; have hr : -((10 ^ x.zF.Length.toNat : Nat) : Int) < (zky (rg s x.R) x.zF x.Half).1.N ∧ (zky (rg s x.R) x.zF x.Half).1.N < ((10 ^ x.zF.Length.toNat : Nat) : Int) := zl3 (zacn hv); obtain ⟨n, hcv⟩ : ∃ n, (zky (rg s x.R) x.zF x.Half).1 = ⟨n, ⟨#[]⟩⟩ := ⟨_, zaeh _ _ _⟩; rw [hcv] at hr ⊢; simp only [] at hr ⊢; rw [z8o N (by omega) ht _ hr, zjh ht.1]; simp only [obs]; have hes := z9b ht n; unfold za2; rw [hes]; rcases zsb N (by omega) s c hs.sto hp hsz.1 hsz.2 with ⟨e, j, k, he, h1, h2, h3⟩ | ⟨a, h1, h2, h3, h4, h5⟩
   · rw [h1, h2, h3]; refine .inl ⟨e, _, w6 (s.At + 1), s, rfl, by omega, rfl, ?_⟩; rcases he with rfl | rfl <;> rfl
   · rw [h1, h2, h3]; obtain ⟨a, rfl⟩ : ∃ k : Nat, a = (k : Int) := ⟨a.toNat, by omega⟩; have hw : a + (zov x.zF n).size ≤ s.Storage.Bytes.size := by omega
     have hw0 : 0 < (zov x.zF n).size := by omega
     refine .inr ⟨_, _, _, rfl, ?_, ?_, fun _ => ⟨rfl, by omega, by omega⟩, hs.updS (z2b hs.sto hw hw0) (zti hw), rfl, rfl, rfl⟩
     · simp only [obs, ctr]; rw [z2e N (by omega) hs.sto hw hw0]; show some (w6 (s.At + 1), _) = _; rw [wn1]; rfl
     · simp only [obs, bsf, cfa]; rw [zaaa N (by omega) ht _ hr]; simp only [obs]; rw [zyb N (by omega) hs.sto hw hw0]; show some (w6 (s.At + 1), _) = _; rw [wn1]; rfl
 · rw [ifp hv, zcz, dct hv]; exact .inl ⟨2, _, _, s, rfl, by omega, rfl, rfl⟩
theorem ex_2 (s : zA) {x : zB} (hop : x.Op = 2) : zdu s x = (.ok (s.At + 1, updR s x.R x.Number)) := by
 cases x; cases hop; rfl
theorem hx_2 (N : Nat) (M : zC) {x : zB} (hop : x.Op = 2) : zd N M x = (zaa M x.R x.Number).bind fun r => some (w6 (r.zA.At + 1), r) := by
 cases x; cases hop; rfl
theorem rx_2 (N : Nat) {x : zB} (hop : x.Op = 2) (hi : idx c.zD s.At = some x) : ze N c s = (if 0 ≤ x.R then (if x.R < (s.Registers.length : Int) then ((s.Registers[x.R.toNat]?).bind fun _ => some (0, updR s x.R x.Number)) else none) else none).bind fun r => some (w6 (s.At + 1), r.1, r.2) := by
 unfold ze
 rw [hi, obs]
 clear hi
 cases x; cases hop; rfl
theorem zaer (N : Nat) (hN : 20000 < N) (hc : CodeV m c) (hs : StV m c s) {x : zB} (hx : c.zD[s.At.toNat]? = some x) (hop : x.Op = 2) : zb9 N m c s x := by
 have iv := zg4 hc (lmg hx) hop (U := ⟨true, false, false, false, false, false, true, false, false, false, false, false, false, false, 0, 0⟩) rfl
 have hi : idx c.zD s.At = some x := by unfold idx; rw [ifp hs.at0, hx]
 have m8 := hc.m2
 have a0 := hs.at0
 have a1 := hs.at1
 have n240 := hc.len
 have wn1 : w6 (s.At + 1) = s.At + 1 := w6e
 unfold zb9
 rw [ex_2 s hop, hx_2 N _ hop, rx_2 N hop hi]
 obtain ⟨g1, g2, g3, g4, g5⟩ := zf2 hs (iv.r rfl)
 refine .inr ⟨_, _, _, rfl, ?_, ?_, fun _ => ⟨rfl, by omega, by omega⟩, hs.updR iv.nu, rfl, rfl, rfl⟩
 · rw [zv5 hs m8 (iv.r rfl)]; show some (w6 (s.At + 1), _) = _; rw [wn1]
 · rw [ifp g1, ifp g2, g3]; show some (w6 (s.At + 1), _) = _; rw [wn1]
theorem ex_3 (s : zA) {x : zB} (hop : x.Op = 3) : zdu s x = (.ok (s.At + 1, updR s x.R (rg s x.A))) := by
 cases x; cases hop; rfl
theorem hx_3 (N : Nat) (M : zC) {x : zB} (hop : x.Op = 3) : zd N M x = (idx M.zA.Registers x.A).bind fun v => (zaa M x.R v).bind fun r => some (w6 (r.zA.At + 1), r) := by
 cases x; cases hop; rfl
theorem rx_3 (N : Nat) {x : zB} (hop : x.Op = 3) (hi : idx c.zD s.At = some x) : ze N c s = (if 0 ≤ x.A then (if x.A < (s.Registers.length : Int) then ((s.Registers[x.A.toNat]?).bind fun v => if 0 ≤ x.R then (if x.R < (s.Registers.length : Int) then ((s.Registers[x.R.toNat]?).bind fun _ => some (0, updR s x.R v)) else none) else none) else none) else none).bind fun r => some (w6 (s.At + 1), r.1, r.2) := by
 unfold ze
 rw [hi, obs]
 clear hi
 cases x; cases hop; rfl
theorem zaeq (N : Nat) (hN : 20000 < N) (hc : CodeV m c) (hs : StV m c s) {x : zB} (hx : c.zD[s.At.toNat]? = some x) (hop : x.Op = 3) : zb9 N m c s x := by
 have iv := zg4 hc (lmg hx) hop (U := ⟨true, true, false, false, false, false, false, false, false, false, false, false, false, false, 0, 0⟩) rfl
 have hi : idx c.zD s.At = some x := by unfold idx; rw [ifp hs.at0, hx]
 have m8 := hc.m2
 have a0 := hs.at0
 have a1 := hs.at1
 have n240 := hc.len
 have wn1 : w6 (s.At + 1) = s.At + 1 := w6e
 unfold zb9
 rw [ex_3 s hop, hx_3 N _ hop, rx_3 N hop hi]
 obtain ⟨g1, g2, g3, g4, g5⟩ := zf2 hs (iv.r rfl)
 obtain ⟨f1, f2, f3, f4, f5⟩ := zf2 hs (iv.a rfl)
 refine .inr ⟨_, _, _, rfl, ?_, ?_, fun _ => ⟨rfl, by omega, by omega⟩, hs.updR f5, rfl, rfl, rfl⟩
 · show ((idx s.Registers x.A).bind _) = _; rw [f4, obs, zv5 hs m8 (iv.r rfl)]; show some (w6 (s.At + 1), _) = _; rw [wn1]
 · rw [ifp f1, ifp f2, f3, obs, ifp g1, ifp g2, g3]; show some (w6 (s.At + 1), _) = _; rw [wn1]
theorem ex_5 (s : zA) {x : zB} (hop : x.Op = 5) : zdu s x = (.ok (s.At + 1, updC s (zmd s x.A x.B))) := by
 cases x; cases hop; rfl
theorem hx_5 (N : Nat) (M : zC) {x : zB} (hop : x.Op = 5) : zd N M x = (zat N M x).bind fun r => some (w6 (M.zA.At + 1), ⟨updC M.zA r, M.code, M.raised⟩) := by
 cases x; cases hop; rfl
theorem rx_5 (N : Nat) {x : zB} (hop : x.Op = 5) (hi : idx c.zD s.At = some x) : ze N c s = (if 0 ≤ x.A then (if x.A < (s.Registers.length : Int) then ((s.Registers[x.A.toNat]?).bind fun v => if 0 ≤ x.B then (if x.B < (s.Registers.length : Int) then ((s.Registers[x.B.toNat]?).bind fun w => (zk5 N v w).bind fun r14 => (zgq r14).bind fun r15 => some (0, updC s r15)) else none) else none) else none) else none).bind fun r => some (w6 (s.At + 1), r.1, r.2) := by
 unfold ze
 rw [hi, obs]
 clear hi
 cases x; cases hop; rfl
theorem zaeo (N : Nat) (hN : 20000 < N) (hc : CodeV m c) (hs : StV m c s) {x : zB} (hx : c.zD[s.At.toNat]? = some x) (hop : x.Op = 5) : zb9 N m c s x := by
 have iv := zg4 hc (lmg hx) hop (U := ⟨false, true, true, false, false, false, false, false, false, false, false, false, false, false, 0, 0⟩) rfl
 have hi : idx c.zD s.At = some x := by unfold idx; rw [ifp hs.at0, hx]
 have m8 := hc.m2
 have a0 := hs.at0
 have a1 := hs.at1
 have n240 := hc.len
 have wn1 : w6 (s.At + 1) = s.At + 1 := w6e
 unfold zb9
 rw [ex_5 s hop, hx_5 N _ hop, rx_5 N hop hi]
 obtain ⟨g1, g2, g3, g4, g5⟩ := zf2 hs (iv.b rfl)
 obtain ⟨f1, f2, f3, f4, f5⟩ := zf2 hs (iv.a rfl)
 refine .inr ⟨_, _, _, rfl, ?_, ?_, fun _ => ⟨rfl, by omega, by omega⟩, hs.updC (zph _), rfl, rfl, rfl⟩
 · rw [z1f N (by omega) hs x (iv.a rfl) (iv.b rfl)]; show some (w6 (s.At + 1), _) = _; rw [wn1]
 · rw [ifp f1, ifp f2, f3, obs, ifp g1, ifp g2, g3, obs, z2x N (by omega) f5 g5, obs, zq3]; show some (w6 (s.At + 1), _) = _; rw [wn1]; rfl
theorem zag0 (s : zA) {x : zB} (hop : x.Op = 21) : zdu s x = (.ok (s.At + 1, updR s x.R ⟨s.Exception, 0⟩)) := by
 cases x; cases hop; rfl
theorem zagf (N : Nat) (M : zC) {x : zB} (hop : x.Op = 21) : zd N M x = (zaa M x.R ⟨M.zA.Exception, 0⟩).bind fun r => some (w6 (r.zA.At + 1), r) := by
 cases x; cases hop; rfl
theorem zafd (N : Nat) {x : zB} (hop : x.Op = 21) (hi : idx c.zD s.At = some x) : ze N c s = (if 0 ≤ x.R then (if x.R < (s.Registers.length : Int) then ((s.Registers[x.R.toNat]?).bind fun _ => some (0, updR s x.R ⟨s.Exception, 0⟩)) else none) else none).bind fun r => some (w6 (s.At + 1), r.1, r.2) := by
 unfold ze
 rw [hi, obs]
 clear hi
 cases x; cases hop; rfl
theorem zacw (N : Nat) (hN : 20000 < N) (hc : CodeV m c) (hs : StV m c s) {x : zB} (hx : c.zD[s.At.toNat]? = some x) (hop : x.Op = 21) : zb9 N m c s x := by
 have iv := zg4 hc (lmg hx) hop (U := ⟨true, false, false, false, false, false, false, false, false, false, false, false, false, false, 0, 0⟩) rfl
 have hi : idx c.zD s.At = some x := by unfold idx; rw [ifp hs.at0, hx]
 have m8 := hc.m2
 have a0 := hs.at0
 have a1 := hs.at1
 have n240 := hc.len
 have wn1 : w6 (s.At + 1) = s.At + 1 := w6e
 unfold zb9
 rw [zag0 s hop, zagf N _ hop, zafd N hop hi]
 obtain ⟨g1, g2, g3, g4, g5⟩ := zf2 hs (iv.r rfl)
 have hn : zcn ⟨s.Exception, 0⟩ := by
  have := hs.ex0; have := hs.ex1; exact ⟨⟨by show -999999999999999 ≤ s.Exception; omega, by show s.Exception ≤ 999999999999999; omega⟩, by show (0 : Int) ≤ 0; omega, by show (0 : Int) ≤ 15; omega⟩
 refine .inr ⟨_, _, _, rfl, ?_, ?_, fun _ => ⟨rfl, by omega, by omega⟩, hs.updR hn, rfl, rfl, rfl⟩
 · rw [zv5 hs m8 (iv.r rfl)]; show some (w6 (s.At + 1), _) = _; rw [wn1]
 · rw [ifp g1, ifp g2, g3]; show some (w6 (s.At + 1), _) = _; rw [wn1]
end
section
variable {m : zH} {c : zG} {s : zA}
theorem z5b {op : Int} {a b : Number} {t : DataType} {half : Bool} (h : (ze5 op a b t half).2 = 0) : -((10 ^ t.Length.toNat : Nat) : Int) < (ze5 op a b t half).1.N ∧ (ze5 op a b t half).1.N < ((10 ^ t.Length.toNat : Nat) : Int) := by
 unfold ze5 at h ⊢
 by_cases h1 : (op = 3 ∨ op = 4) ∧ b.N = 0
 · rw [ifp h1] at h; cases h
 · rw [ifn h1] at h ⊢
   by_cases h2 : op = 0
   · rw [ifp h2] at h ⊢; exact zl3 h
   · rw [ifn h2] at h ⊢
     by_cases h3 : op = 1
     · rw [ifp h3] at h ⊢; exact zl3 h
     · rw [ifn h3] at h ⊢
       by_cases h4 : op = 2
       · rw [ifp h4] at h ⊢; exact zl3 h
       · rw [ifn h4] at h ⊢
         by_cases h5 : op = 3
         · rw [ifp h5] at h ⊢; exact zl3 h
         · rw [ifn h5] at h ⊢; exact zl3 h
theorem zadz {t : DataType} (ht : zif t) {n : Int} (h : -((10 ^ t.Length.toNat : Nat) : Int) < n ∧ n < ((10 ^ t.Length.toNat : Nat) : Int)) : zcn ⟨n, t.Scale⟩ := by
 obtain ⟨⟨l1, l2⟩, l3, l4⟩ := zga ht
 have hpw : 10 ^ t.Length.toNat ≤ 10 ^ 15 := zby (by omega)
 refine ⟨⟨?_, ?_⟩, l3, ?_⟩
 · show -999999999999999 ≤ n; omega
 · show n ≤ 999999999999999; omega
 · show t.Scale ≤ 15; omega
theorem z4f (N : Nat) (hN : 20000 < N) (hs : StV m c s) (m8 : m.Registers ≤ 8) {x : zB} (hr : 0 ≤ x.R ∧ x.R < m.Registers) (ha : 0 ≤ x.A ∧ x.A < m.Registers) (ht : zif x.zF) (ho : 0 ≤ x.zJ ∧ x.zJ ≤ 4) {b : Number} (hb : zcn b) :
 (∃ e, (e = 3 ∨ e = 2) ∧ (if (ze5 x.zJ (rg s x.A) b x.zF false).2 = 20 then (.error 3 : Except Int (Int × zA)) else if (ze5 x.zJ (rg s x.A) b x.zF false).2 ≠ 0 then .error 2 else .ok (s.At + 1, updR s x.R ⟨(ze5 x.zJ (rg s x.A) b x.zF false).1.N, x.zF.Scale⟩)) = .error e ∧
  ((zce N x.zJ (rg s x.A) b x.zF false).bind fun r3 => (zf ⟨s, c, 0⟩ (r3.2 == 20) 3).bind fun r4 => cond r4.1 ((zf r4.2 (r3.2 != 0) 2).bind fun r5 => cond r5.1 ((zaa r5.2 x.R (⟨r3.1.N, x.zF.Scale⟩ : Number)).bind fun r6 => some r6) (some r5.2)) (some r4.2)) = some ⟨s, c, e⟩ ∧
  ((zfd N (⟨x.zJ, x.zF, false⟩ : zV) (rg s x.A) b).bind fun r19 => cond (r19.2 == 20) (some ((3 : Int), s)) (cond (r19.2 != 0) (some (2, s)) (if 0 ≤ x.R then (if x.R < (s.Registers.length : Int) then ((s.Registers[x.R.toNat]?).bind fun _ => some (0, updR s x.R ⟨r19.1.N, x.zF.Scale⟩)) else none) else none))) = some (e, s)) ∨
 ∃ n, zcn n ∧ (if (ze5 x.zJ (rg s x.A) b x.zF false).2 = 20 then (.error 3 : Except Int (Int × zA)) else if (ze5 x.zJ (rg s x.A) b x.zF false).2 ≠ 0 then .error 2 else .ok (s.At + 1, updR s x.R ⟨(ze5 x.zJ (rg s x.A) b x.zF false).1.N, x.zF.Scale⟩)) = .ok (s.At + 1, updR s x.R n) ∧
  ((zce N x.zJ (rg s x.A) b x.zF false).bind fun r3 => (zf ⟨s, c, 0⟩ (r3.2 == 20) 3).bind fun r4 => cond r4.1 ((zf r4.2 (r3.2 != 0) 2).bind fun r5 => cond r5.1 ((zaa r5.2 x.R (⟨r3.1.N, x.zF.Scale⟩ : Number)).bind fun r6 => some r6) (some r5.2)) (some r4.2)) = some ⟨updR s x.R n, c, 0⟩ ∧
  ((zfd N (⟨x.zJ, x.zF, false⟩ : zV) (rg s x.A) b).bind fun r19 => cond (r19.2 == 20) (some ((3 : Int), s)) (cond (r19.2 != 0) (some (2, s)) (if 0 ≤ x.R then (if x.R < (s.Registers.length : Int) then ((s.Registers[x.R.toNat]?).bind fun _ => some (0, updR s x.R ⟨r19.1.N, x.zF.Scale⟩)) else none) else none))) = some (0, updR s x.R n) := by
 obtain ⟨g1, g2, g3, g4, g5⟩ := zf2 hs hr
 obtain ⟨f1, f2, f3, f4, f5⟩ := zf2 hs ha
 rw [zaca N (by omega) ho f5 hb ht, zab0 N (by omega) ho f5 hb ht]
 simp only [obs]
 rw [zhy _ _ _ _ (by decide)]
 simp only [obs, zao]
 by_cases h20 : (ze5 x.zJ (rg s x.A) b x.zF false).2 = 20
 · left; rw [dct h20, ifp h20]; exact ⟨3, .inl rfl, rfl, rfl, rfl⟩
 · rw [dcf h20, ifn h20]; simp only [Bool.not_false, ctr, cfa]; rw [zhy _ _ _ _ (by decide)]; simp only [obs]
   by_cases h0 : (ze5 x.zJ (rg s x.A) b x.zF false).2 = 0
   · right; have hn := zadz ht (z5b h0); rw [ifn (by rw [h0]; decide), h0]; refine ⟨_, hn, rfl, ?_, ?_⟩
     · simp only [bsf, Bool.not_false, ctr, cfa]; rw [zv5 hs m8 hr]; rfl
     · simp only [bsf, cfa]; rw [ifp g1, ifp g2, g3]; rfl
   · left; rw [ifp h0, zcz, dct h0]; exact ⟨2, .inr rfl, rfl, rfl, rfl⟩
theorem ex_4 (s : zA) {x : zB} (hop : x.Op = 4) : zdu s x = (match (if x.zL = true then zrb s.Storage x.Place x.Second else .ok (rg s x.B)) with
 | .error e => .error e
 | .ok b => if (ze5 x.zJ (rg s x.A) b x.zF false).2 = 20 then .error 3 else if (ze5 x.zJ (rg s x.A) b x.zF false).2 ≠ 0 then .error 2 else .ok (s.At + 1, updR s x.R ⟨(ze5 x.zJ (rg s x.A) b x.zF false).1.N, x.zF.Scale⟩)) := by
 cases x; cases hop; rfl
theorem hx_4 (N : Nat) (M : zC) {x : zB} (hop : x.Op = 4) : zd N M x = (cond x.zL ((zbf N M x.Place x.Second).bind fun r1 => cond (!r1.2.1) (some r1.2.2) ((idx r1.2.2.zA.Registers x.A).bind fun x2 =>
 (zce N x.zJ x2 r1.1 x.zF false).bind fun r3 => (zf r1.2.2 (r3.2 == 20) 3).bind fun r4 =>
 cond r4.1 ((zf r4.2 (r3.2 != 0) 2).bind fun r5 => cond r5.1 ((zaa r5.2 x.R (⟨r3.1.N, x.zF.Scale⟩ : Number)).bind fun r6 => some r6)
 (some r5.2)) (some r4.2))) ((idx M.zA.Registers x.B).bind fun x7 => (idx M.zA.Registers x.A).bind fun x8 =>
 (zce N x.zJ x8 x7 x.zF false).bind fun r9 => (zf M (r9.2 == 20) 3).bind fun r10 =>
 cond r10.1 ((zf r10.2 (r9.2 != 0) 2).bind fun r11 => cond r11.1 ((zaa r11.2 x.R (⟨r9.1.N, x.zF.Scale⟩ : Number)).bind fun r12 =>
 some r12) (some r11.2)) (some r10.2))).bind fun r => some (w6 (r.zA.At + 1), r) := by
 cases x; cases hop; rfl
theorem rx_4 (N : Nat) {x : zB} (hop : x.Op = 4) (hi : idx c.zD s.At = some x) : ze N c s = (cond x.zL ((zi5 N s x.Place x.Second).bind fun r17 => cond (r17.2 != 0) (some (r17.2, s))
 (if 0 ≤ x.A then (if x.A < (s.Registers.length : Int) then ((s.Registers[x.A.toNat]?).bind fun x18 =>
 (zfd N (⟨x.zJ, x.zF, false⟩ : zV) x18 r17.1).bind fun r19 => cond (r19.2 == 20) (some (3, s)) (cond (r19.2 != 0) (some (2, s)) (if 0 ≤ x.R then (if x.R < (s.Registers.length : Int) then ((s.Registers[x.R.toNat]?).bind fun _ => some (0, updR s x.R ⟨r19.1.N, x.zF.Scale⟩)) else none) else none))) else none) else none))
 (if 0 ≤ x.B then (if x.B < (s.Registers.length : Int) then ((s.Registers[x.B.toNat]?).bind fun x21 =>
 if 0 ≤ x.A then (if x.A < (s.Registers.length : Int) then ((s.Registers[x.A.toNat]?).bind fun x22 =>
 (zfd N (⟨x.zJ, x.zF, false⟩ : zV) x22 x21).bind fun r19 => cond (r19.2 == 20) (some (3, s)) (cond (r19.2 != 0) (some (2, s)) (if 0 ≤ x.R then (if x.R < (s.Registers.length : Int) then ((s.Registers[x.R.toNat]?).bind fun _ => some (0, updR s x.R ⟨r19.1.N, x.zF.Scale⟩)) else none) else none))) else none) else none) else none) else none)).bind fun r => some (w6 (s.At + 1), r.1, r.2) := by
 unfold ze
 rw [hi, obs]
 clear hi
 cases x; cases hop; rfl
theorem zaep (N : Nat) (hN : 20000 < N) (hc : CodeV m c) (hs : StV m c s) {x : zB} (hx : c.zD[s.At.toNat]? = some x) (hop : x.Op = 4) : zb9 N m c s x := by
 have hi : idx c.zD s.At = some x := by unfold idx; rw [ifp hs.at0, hx]
 have m8 := hc.m2
 have a0 := hs.at0
 have a1 := hs.at1
 have n240 := hc.len
 have wn1 : w6 (s.At + 1) = s.At + 1 := w6e
 unfold zb9
 rw [ex_4 s hop, hx_4 N _ hop, rx_4 N hop hi]
 by_cases hst : x.zL = true
 · have iv := zg4 hc (lmg hx) hop (U := ⟨true, true, false, true, false, false, false, true, false, false, false, false, false, false, 1, 1⟩) (by rw [hst]; rfl); obtain ⟨f1, f2, f3, f4, f5⟩ := zf2 hs (iv.a rfl); have hp : zcd s.Storage x.Place (szE x.Second) = true := by rw [zgr hs.size]; have := iv.pl rfl; unfold zgh at this; rw [ifp hop] at this; exact this
   rw [hst]; simp only [ctr, if_true]; rcases z3b N (by omega) s c hs.sto (iv.se1 rfl) hp with ⟨e, b, k, he, h1, h2, h3⟩ | ⟨n, h1, h2, h3, h4⟩
   · rw [h1, h2, h3]; refine .inl ⟨e, _, w6 (s.At + 1), s, rfl, by omega, rfl, ?_⟩; rcases he with rfl | rfl | rfl <;> rfl
   · rw [h1, h2, h3]; simp only [obs, bnt, cfa, bsf]; rw [f4, ifp f1, ifp f2, f3]; simp only [obs]; rcases z4f (c := c) N hN hs m8 (iv.r rfl) (iv.a rfl) (iv.ty1 rfl) (iv.ca rfl) h4 with ⟨e, he, k1, k2, k3⟩ | ⟨n, hn, k1, k2, k3⟩
     · rw [k1, k2, k3]; exact .inl ⟨e, _, w6 (s.At + 1), s, rfl, by omega, rfl, rfl⟩
     · rw [k1, k2, k3]; refine .inr ⟨_, _, _, rfl, ?_, ?_, fun _ => ⟨rfl, by omega, by omega⟩, hs.updR hn, rfl, rfl, rfl⟩
       · show some (w6 (s.At + 1), _) = _; rw [wn1]
       · show some (w6 (s.At + 1), _) = _; rw [wn1]
 · have hst' : x.zL = false := by simpa using hst
   have iv := zg4 hc (lmg hx) hop (U := ⟨true, true, true, false, false, false, false, true, false, false, false, false, false, false, 1, 0⟩) (by rw [hst']; rfl); obtain ⟨f1, f2, f3, f4, f5⟩ := zf2 hs (iv.a rfl); obtain ⟨b1, b2, b3, b4, b5⟩ := zf2 hs (iv.b rfl); rw [hst']; simp only [cfa, Bool.false_eq_true, if_false]; rw [b4, obs, f4, ifp b1, ifp b2, b3]; simp only [obs]; rw [ifp f1, ifp f2, f3]; simp only [obs]; rcases z4f (c := c) N hN hs m8 (iv.r rfl) (iv.a rfl) (iv.ty1 rfl) (iv.ca rfl) b5 with ⟨e, he, k1, k2, k3⟩ | ⟨n, hn, k1, k2, k3⟩
   · rw [k1, k2, k3]; exact .inl ⟨e, _, w6 (s.At + 1), s, rfl, by omega, rfl, rfl⟩
   · rw [k1, k2, k3]; refine .inr ⟨_, _, _, rfl, ?_, ?_, fun _ => ⟨rfl, by omega, by omega⟩, hs.updR hn, rfl, rfl, rfl⟩
     · show some (w6 (s.At + 1), _) = _; rw [wn1]
     · show some (w6 (s.At + 1), _) = _; rw [wn1]
theorem ex_6 (s : zA) {x : zB} (hop : x.Op = 6) : zdu s x = (.ok (cond (zh .i64 s.Condition x.Mask != 0) x.Target (s.At + 1), s)) := by
 cases x; cases hop; rfl
theorem hx_6 (N : Nat) (M : zC) {x : zB} (hop : x.Op = 6) : zd N M x = (cond ((zh .i64 M.zA.Condition x.Mask) != 0) (some (x.Target, M)) (some ((w6 (M.zA.At + 1)), M))).bind fun r => some (r.1, r.2) := by
 cases x; cases hop; rfl
theorem rx_6 (N : Nat) {x : zB} (hop : x.Op = 6) (hi : idx c.zD s.At = some x) : ze N c s = cond ((zh .i64 x.Mask s.Condition) != 0) (some (x.Target, 0, s)) (some ((w6 (s.At + 1)), 0, s)) := by
 unfold ze
 rw [hi, obs]
 clear hi
 cases x; cases hop; rfl
theorem zaen (N : Nat) (hN : 20000 < N) (hc : CodeV m c) (hs : StV m c s) {x : zB} (hx : c.zD[s.At.toNat]? = some x) (hop : x.Op = 6) : zb9 N m c s x := by
 have iv := zg4 hc (lmg hx) hop (U := ⟨false, false, false, false, false, false, false, false, true, true, false, false, false, false, 0, 0⟩) rfl
 have hi : idx c.zD s.At = some x := by unfold idx; rw [ifp hs.at0, hx]
 have m8 := hc.m2
 have a0 := hs.at0
 have a1 := hs.at1
 have n240 := hc.len
 have wn1 : w6 (s.At + 1) = s.At + 1 := w6e
 unfold zb9
 rw [ex_6 s hop, hx_6 N _ hop, rx_6 N hop hi]
 have ht := iv.tg rfl
 rw [z1s x.Mask s.Condition]
 simp only [wn1]
 cases (zh .i64 s.Condition x.Mask != 0) with
 | true => exact .inr ⟨_, _, _, rfl, rfl, rfl, fun _ => ⟨rfl, by show 0 ≤ x.Target; omega, by show x.Target ≤ _; omega⟩, hs, rfl, rfl, rfl⟩
 | false => exact .inr ⟨_, _, _, rfl, rfl, rfl, fun _ => ⟨rfl, by show 0 ≤ s.At + 1; omega, by show s.At + 1 ≤ _; omega⟩, hs, rfl, rfl, rfl⟩
theorem ex_7 (s : zA) {x : zB} (hop : x.Op = 7) : zdu s x = (.ok (cond (zh .i64 (zmd s x.A x.B) x.Mask != 0) x.Target (s.At + 1), s)) := by
 cases x; cases hop; rfl
theorem hx_7 (N : Nat) (M : zC) {x : zB} (hop : x.Op = 7) : zd N M x = ((zat N M x).bind fun r3 => cond ((zh .i64 r3 x.Mask) != 0) (some (x.Target, M)) (some ((w6 (M.zA.At + 1)), M))).bind fun r => some (r.1, r.2) := by
 cases x; cases hop; rfl
theorem rx_7 (N : Nat) {x : zB} (hop : x.Op = 7) (hi : idx c.zD s.At = some x) : ze N c s = if 0 ≤ x.A then (if x.A < (s.Registers.length : Int) then ((s.Registers[x.A.toNat]?).bind fun x2 =>
 if 0 ≤ x.B then (if x.B < (s.Registers.length : Int) then ((s.Registers[x.B.toNat]?).bind fun x3 => (zk5 N x2 x3).bind fun r4 => (zgq r4).bind fun r5 =>
 cond ((zh .i64 x.Mask r5) != 0) (some (x.Target, 0, s)) (some ((w6 (s.At + 1)), 0, s))) else none) else none) else none) else none := by
 unfold ze
 rw [hi, obs]
 clear hi
 cases x; cases hop; rfl
theorem zaem (N : Nat) (hN : 20000 < N) (hc : CodeV m c) (hs : StV m c s) {x : zB} (hx : c.zD[s.At.toNat]? = some x) (hop : x.Op = 7) : zb9 N m c s x := by
 have iv := zg4 hc (lmg hx) hop (U := ⟨false, true, true, false, false, false, false, false, true, true, false, false, false, false, 0, 0⟩) rfl
 have hi : idx c.zD s.At = some x := by unfold idx; rw [ifp hs.at0, hx]
 have m8 := hc.m2
 have a0 := hs.at0
 have a1 := hs.at1
 have n240 := hc.len
 have wn1 : w6 (s.At + 1) = s.At + 1 := w6e
 unfold zb9
 rw [ex_7 s hop, hx_7 N _ hop, rx_7 N hop hi]
 have ht := iv.tg rfl
 obtain ⟨g1, g2, g3, g4, g5⟩ := zf2 hs (iv.b rfl)
 obtain ⟨f1, f2, f3, f4, f5⟩ := zf2 hs (iv.a rfl)
 rw [z1f N (by omega) hs x (iv.a rfl) (iv.b rfl), ifp f1, ifp f2, f3, obs, obs, ifp g1, ifp g2, g3, obs, z2x N (by omega) f5 g5, obs, zq3, obs]
 rw [show zn5 (z0l (zah (rg s x.A) (zi (rg s x.A) (rg s x.B))) (zah (rg s x.B) (zi (rg s x.A) (rg s x.B)))) = zmd s x.A x.B from rfl, z1s x.Mask]
 simp only [wn1]
 cases (zh .i64 (zmd s x.A x.B) x.Mask != 0) with
 | true => exact .inr ⟨_, _, _, rfl, rfl, rfl, fun _ => ⟨rfl, by show 0 ≤ x.Target; omega, by show x.Target ≤ _; omega⟩, hs, rfl, rfl, rfl⟩
 | false => exact .inr ⟨_, _, _, rfl, rfl, rfl, fun _ => ⟨rfl, by show 0 ≤ s.At + 1; omega, by show s.At + 1 ≤ _; omega⟩, hs, rfl, rfl, rfl⟩
theorem ex_8 (s : zA) {x : zB} (hop : x.Op = 8) : zdu s x = (.ok (x.Target, s)) := by
 cases x; cases hop; rfl
theorem hx_8 (N : Nat) (M : zC) {x : zB} (hop : x.Op = 8) : zd N M x = some (x.Target, M) := by
 cases x; cases hop; rfl
theorem rx_8 (N : Nat) {x : zB} (hop : x.Op = 8) (hi : idx c.zD s.At = some x) : ze N c s = some (x.Target, 0, s) := by
 unfold ze
 rw [hi, obs]
 clear hi
 cases x; cases hop; rfl
theorem zael (N : Nat) (hN : 20000 < N) (hc : CodeV m c) (hs : StV m c s) {x : zB} (hx : c.zD[s.At.toNat]? = some x) (hop : x.Op = 8) : zb9 N m c s x := by
 have iv := zg4 hc (lmg hx) hop (U := ⟨false, false, false, false, false, false, false, false, false, true, false, false, false, false, 0, 0⟩) rfl
 have hi : idx c.zD s.At = some x := by unfold idx; rw [ifp hs.at0, hx]
 have m8 := hc.m2
 have a0 := hs.at0
 have a1 := hs.at1
 have n240 := hc.len
 have wn1 : w6 (s.At + 1) = s.At + 1 := w6e
 unfold zb9
 rw [ex_8 s hop, hx_8 N _ hop, rx_8 N hop hi]
 have ht := iv.tg rfl
 exact .inr ⟨_, _, _, rfl, rfl, rfl, fun _ => ⟨rfl, by omega, by omega⟩, hs, rfl, rfl, rfl⟩
theorem z3f (N : Nat) (hN : 20000 < N) (hc : CodeV m c) (hs : StV m c s) {p : zO} {t : DataType} (ht : zdf t = 0) (hk : t.Kind = 0) (hp : zcd s.Storage p (szE t) = true) (b : ByteArray) (hb : b.size ≤ 5000) :
 (∃ e, (e = 4 ∨ e = 5) ∧ zg7 s.Storage p (szE t) = .error e ∧
  ((zdq b t.Length).bind fun r4 => if 0 ≤ t.Length ∧ t.Length ≤ (r4.size : Int) then (if 0 ≤ (0 : Int) ∧ (0 : Int) ≤ t.Length then ((za2 N ⟨s, c, 0⟩ p (r4.extract (0 : Int).toNat t.Length.toNat)).bind fun r5 => some r5) else none) else none) = some ⟨s, c, e⟩ ∧
  (((zcu N s p (szE t)).bind fun r12 => cond (r12.2 != 0) (some (r12.2, s)) ((zf8 N b (szE t)).bind fun r13 => (zb3 N s.Storage r12.1 r13).bind fun r14 => some (0, updS s r14))) = some (e, s))) ∨
 ∃ a, zg7 s.Storage p (szE t) = .ok a ∧ StV m c (updS s (wrV s.Storage a.toNat (zi7 b t.Length.toNat))) ∧
  ((zdq b t.Length).bind fun r4 => if 0 ≤ t.Length ∧ t.Length ≤ (r4.size : Int) then (if 0 ≤ (0 : Int) ∧ (0 : Int) ≤ t.Length then ((za2 N ⟨s, c, 0⟩ p (r4.extract (0 : Int).toNat t.Length.toNat)).bind fun r5 => some r5) else none) else none) = some ⟨updS s (wrV s.Storage a.toNat (zi7 b t.Length.toNat)), c, 0⟩ ∧
  (((zcu N s p (szE t)).bind fun r12 => cond (r12.2 != 0) (some (r12.2, s)) ((zf8 N b (szE t)).bind fun r13 => (zb3 N s.Storage r12.1 r13).bind fun r14 => some (0, updS s r14))) = some (0, updS s (wrV s.Storage a.toNat (zi7 b t.Length.toNat)))) := by
 have hsz := zka ht
 have hle : szE t = t.Length := by unfold szE; rw [ifn, ifn, ifn]
 have hL : t.Length = ((t.Length.toNat : Nat) : Int) := by omega
 have hpad := z3r b hb t.Length.toNat (by omega)
 rw [← hL] at hpad
 rw [hpad, obs]
 have hps : (⟨(bl b ++ List.replicate (t.Length.toNat - b.size) 32).toArray⟩ : ByteArray).size = b.size + (t.Length.toNat - b.size) := by
  show (bl b ++ List.replicate (t.Length.toNat - b.size) 32).length = _; rw [lna, lnr, zak]
 rw [ifp ⟨by omega, by rw [hps]; omega⟩, ifp, show (0 : Int).toNat = 0 from rfl, z82]
 have hrp : zf8 N b (szE t) = some (zi7 b t.Length.toNat) := by
  have h := zvk N (by omega) b hb t.Length.toNat (by omega); rw [← hL] at h; rw [hle]; exact h
 unfold za2
 have hpz : ((zi7 b t.Length.toNat).size : Int) = szE t := by rw [zvx]; omega
 rw [hpz]
 rcases zsb N (by omega) s c hs.sto hp hsz.1 hsz.2 with ⟨e, j, k, he, h1, h2, h3⟩ | ⟨a, h1, h2, h3, h4, h5⟩
 · left; rw [h1, h2, h3]; refine ⟨e, he, rfl, rfl, ?_⟩; rcases he with rfl | rfl <;> rfl
 · right; rw [h1, h2, h3]; obtain ⟨a, rfl⟩ : ∃ k : Nat, a = (k : Int) := ⟨a.toNat, by omega⟩; have hw : a + (zi7 b t.Length.toNat).size ≤ s.Storage.Bytes.size := by omega
   have hw0 : 0 < (zi7 b t.Length.toNat).size := by omega
   refine ⟨_, rfl, hs.updS (z2b hs.sto hw hw0) (zti hw), ?_, ?_⟩
   · simp only [obs, ctr]; rw [z2e N (by omega) hs.sto hw hw0]; rfl
   · simp only [obs, bsf, cfa]; rw [hrp]; simp only [obs]; rw [zyb N (by omega) hs.sto hw hw0]; rfl
theorem ex_9 (s : zA) {x : zB} (hop : x.Op = 9) : zdu s x = (match zgl s.Storage x.From x.Second with
 | .error e => .error e
 | .ok b => match zg7 s.Storage x.Place (szE x.zF) with | .error e => .error e | .ok a => .ok (s.At + 1, updS s (wrV s.Storage a.toNat (zi7 b x.zF.Length.toNat)))) := by
 cases x; cases hop; rfl
theorem hx_9 (N : Nat) (M : zC) {x : zB} (hop : x.Op = 9) : zd N M x = ((zu N M x.From x.Second).bind fun r1 => cond r1.2.1 ((zdq r1.1 x.zF.Length).bind fun r4 => if 0 ≤ x.zF.Length ∧ x.zF.Length ≤ (r4.size : Int) then (if 0 ≤ (0 : Int) ∧ (0 : Int) ≤ x.zF.Length then ((za2 N r1.2.2 x.Place (r4.extract (0 : Int).toNat x.zF.Length.toNat)).bind fun r5 => some r5) else none) else none) (some r1.2.2)).bind fun r => some (w6 (r.zA.At + 1), r) := by
 cases x; cases hop; rfl
theorem rx_9 (N : Nat) {x : zB} (hop : x.Op = 9) (hi : idx c.zD s.At = some x) : ze N c s = ((zbe x.zF).bind fun r1 => (zex N s x.From x.Second).bind fun r8 => cond (r8.2 != 0) (some (r8.2, s)) ((zcu N s x.Place r1).bind fun r12 => cond (r12.2 != 0) (some (r12.2, s)) ((zf8 N r8.1 r1).bind fun r13 => (zb3 N s.Storage r12.1 r13).bind fun r14 => some (0, updS s r14)))).bind fun r => some (w6 (s.At + 1), r.1, r.2) := by
 unfold ze
 rw [hi, obs]
 clear hi
 cases x; cases hop; rfl
theorem zaek (N : Nat) (hN : 20000 < N) (hc : CodeV m c) (hs : StV m c s) {x : zB} (hx : c.zD[s.At.toNat]? = some x) (hop : x.Op = 9) : zb9 N m c s x := by
 have iv := zg4 hc (lmg hx) hop (U := ⟨false, false, false, true, true, false, false, false, false, false, false, false, false, false, 2, 2⟩) rfl
 have hi : idx c.zD s.At = some x := by unfold idx; rw [ifp hs.at0, hx]
 have m8 := hc.m2
 have a0 := hs.at0
 have a1 := hs.at1
 have n240 := hc.len
 have wn1 : w6 (s.At + 1) = s.At + 1 := w6e
 unfold zb9
 rw [ex_9 s hop, hx_9 N _ hop, rx_9 N hop hi]
 have hp : zcd s.Storage x.Place (szE x.zF) = true := by rw [zgr hs.size]; have := iv.pl rfl; unfold zgh at this; rw [ifn] at this; exact this
 have hf : zcd s.Storage x.From (szE x.Second) = true := by rw [zgr hs.size]; exact iv.fr rfl
 rw [zjh (iv.ty2 rfl).1, obs]
 have hz2 := zka (iv.se2 rfl).1
 rcases zm7 N (by omega) s c hs.sto (iv.se2 rfl).1 hf with ⟨e, b, k, he, h1, h2, h3⟩ | ⟨b, h1, h2, h3, h4⟩
 · rw [h1, h2, h3]; refine .inl ⟨e, _, w6 (s.At + 1), s, rfl, by omega, rfl, ?_⟩; rcases he with rfl | rfl <;> rfl
 · rw [h1, h2, h3]; simp only [obs, ctr, bsf, cfa]; rcases z3f N hN hc hs (iv.ty2 rfl).1 (iv.ty2 rfl).2 hp b (by omega) with ⟨e, he, k1, k2, k3⟩ | ⟨a, k1, k4, k2, k3⟩
   · rw [k1, k2, k3]; exact .inl ⟨e, _, w6 (s.At + 1), s, rfl, by omega, rfl, rfl⟩
   · rw [k1, k2, k3]; refine .inr ⟨_, _, _, rfl, ?_, ?_, fun _ => ⟨rfl, by omega, by omega⟩, k4, rfl, rfl, rfl⟩
     · show some (w6 (s.At + 1), _) = _; rw [wn1]
     · show some (w6 (s.At + 1), _) = _; rw [wn1]
theorem zahb (s : zA) {x : zB} (hop : x.Op = 10) : zdu s x = (match zg7 s.Storage x.Place (szE x.zF) with | .error e => .error e | .ok a => .ok (s.At + 1, updS s (wrV s.Storage a.toNat (zi7 x.Text x.zF.Length.toNat)))) := by
 cases x; cases hop; rfl
theorem zagq (N : Nat) (M : zC) {x : zB} (hop : x.Op = 10) : zd N M x = ((zdq x.Text x.zF.Length).bind fun r4 => if 0 ≤ x.zF.Length ∧ x.zF.Length ≤ (r4.size : Int) then (if 0 ≤ (0 : Int) ∧ (0 : Int) ≤ x.zF.Length then ((za2 N M x.Place (r4.extract (0 : Int).toNat x.zF.Length.toNat)).bind fun r5 => some r5) else none) else none).bind fun r => some (w6 (r.zA.At + 1), r) := by
 cases x; cases hop; rfl
theorem zafo (N : Nat) {x : zB} (hop : x.Op = 10) (hi : idx c.zD s.At = some x) : ze N c s = ((zbe x.zF).bind fun r1 => (zcu N s x.Place r1).bind fun r12 => cond (r12.2 != 0) (some (r12.2, s)) ((zf8 N x.Text r1).bind fun r13 => (zb3 N s.Storage r12.1 r13).bind fun r14 => some (0, updS s r14))).bind fun r => some (w6 (s.At + 1), r.1, r.2) := by
 unfold ze
 rw [hi, obs]
 clear hi
 cases x; cases hop; rfl
theorem zac7 (N : Nat) (hN : 20000 < N) (hc : CodeV m c) (hs : StV m c s) {x : zB} (hx : c.zD[s.At.toNat]? = some x) (hop : x.Op = 10) : zb9 N m c s x := by
 have iv := zg4 hc (lmg hx) hop (U := ⟨false, false, false, true, false, false, false, false, false, false, true, false, false, false, 2, 0⟩) rfl
 have hi : idx c.zD s.At = some x := by unfold idx; rw [ifp hs.at0, hx]
 have m8 := hc.m2
 have a0 := hs.at0
 have a1 := hs.at1
 have n240 := hc.len
 have wn1 : w6 (s.At + 1) = s.At + 1 := w6e
 unfold zb9
 rw [zahb s hop, zagq N _ hop, zafo N hop hi]
 have hp : zcd s.Storage x.Place (szE x.zF) = true := by rw [zgr hs.size]; have := iv.pl rfl; unfold zgh at this; rw [ifn] at this; exact this
 have htx := iv.tx
 rw [zjh (iv.ty2 rfl).1, obs]
 rcases z3f N hN hc hs (iv.ty2 rfl).1 (iv.ty2 rfl).2 hp x.Text (by omega) with ⟨e, he, k1, k2, k3⟩ | ⟨a, k1, k4, k2, k3⟩
 · rw [k1, k2, k3]; exact .inl ⟨e, _, w6 (s.At + 1), s, rfl, by omega, rfl, rfl⟩
 · rw [k1, k2, k3]; refine .inr ⟨_, _, _, rfl, ?_, ?_, fun _ => ⟨rfl, by omega, by omega⟩, k4, rfl, rfl, rfl⟩
   · show some (w6 (s.At + 1), _) = _; rw [wn1]
   · show some (w6 (s.At + 1), _) = _; rw [wn1]
theorem zaha (s : zA) {x : zB} (hop : x.Op = 11) : zdu s x = (match zgl s.Storage x.Place x.zF with
 | .error e => .error e
 | .ok a => match zgl s.Storage x.From x.Second with | .error e => .error e | .ok b => .ok (s.At + 1, updC s (zj9 a b))) := by
 cases x; cases hop; rfl
theorem zagp (N : Nat) (M : zC) {x : zB} (hop : x.Op = 11) : zd N M x = ((zu N M x.Place x.zF).bind fun r1 => (cond r1.2.1 (some true) (some false)).bind fun g2 => cond g2 ((zu N r1.2.2 x.From x.Second).bind fun r3 => cond r3.2.1 ((zch r1.1 r3.1).bind fun r4 => some (⟨updC r3.2.2.zA r4, r3.2.2.code, r3.2.2.raised⟩ : zC)) (some r3.2.2)) (cond r1.2.1 ((zch r1.1 x.Text).bind fun r5 => some (⟨updC r1.2.2.zA r5, r1.2.2.code, r1.2.2.raised⟩ : zC)) (some r1.2.2))).bind fun r => some (w6 (r.zA.At + 1), r) := by
 cases x; cases hop; rfl
theorem zafn (N : Nat) {x : zB} (hop : x.Op = 11) (hi : idx c.zD s.At = some x) : ze N c s = ((zbe x.zF).bind fun r1 => (zex N s x.Place x.zF).bind fun r5 => cond (r5.2 != 0) (some (r5.2, s)) ((zex N s x.From x.Second).bind fun r6 => cond (r6.2 != 0) (some (r6.2, s)) ((zim N r5.1 r6.1).bind fun r7 => some (0, updC s r7)))).bind fun r => some (w6 (s.At + 1), r.1, r.2) := by
 unfold ze
 rw [hi, obs]
 clear hi
 cases x; cases hop; rfl
theorem zac6 (N : Nat) (hN : 20000 < N) (hc : CodeV m c) (hs : StV m c s) {x : zB} (hx : c.zD[s.At.toNat]? = some x) (hop : x.Op = 11) : zb9 N m c s x := by
 have iv := zg4 hc (lmg hx) hop (U := ⟨false, false, false, true, true, false, false, false, false, false, false, false, false, false, 2, 2⟩) rfl
 have hi : idx c.zD s.At = some x := by unfold idx; rw [ifp hs.at0, hx]
 have m8 := hc.m2
 have a0 := hs.at0
 have a1 := hs.at1
 have n240 := hc.len
 have wn1 : w6 (s.At + 1) = s.At + 1 := w6e
 unfold zb9
 rw [zaha s hop, zagp N _ hop, zafn N hop hi]
 have hp : zcd s.Storage x.Place (szE x.zF) = true := by rw [zgr hs.size]; have := iv.pl rfl; unfold zgh at this; rw [ifn] at this; exact this
 have hf : zcd s.Storage x.From (szE x.Second) = true := by rw [zgr hs.size]; exact iv.fr rfl
 rw [zjh (iv.ty2 rfl).1, obs]
 have hz1 := zka (iv.ty2 rfl).1
 have hz2 := zka (iv.se2 rfl).1
 rcases zm7 N (by omega) s c hs.sto (iv.ty2 rfl).1 hp with ⟨e, b, k, he, h1, h2, h3⟩ | ⟨b, h1, h2, h3, h4⟩
 · rw [h1, h2, h3]; refine .inl ⟨e, _, w6 (s.At + 1), s, rfl, by omega, rfl, ?_⟩; rcases he with rfl | rfl <;> rfl
 · rw [h1, h2, h3]; simp only [obs, ctr, bsf, cfa]; rcases zm7 N (by omega) s c hs.sto (iv.se2 rfl).1 hf with ⟨e, d, k, he, k1, k2, k3⟩ | ⟨d, k1, k2, k3, k4⟩
   · rw [k1, k2, k3]; refine .inl ⟨e, _, w6 (s.At + 1), s, rfl, by omega, rfl, ?_⟩; rcases he with rfl | rfl <;> rfl
   · rw [k1, k2, k3]; refine .inr ⟨_, _, _, rfl, ?_, ?_, fun _ => ⟨rfl, by omega, by omega⟩, hs.updC (zph _), rfl, rfl, rfl⟩
     · simp only [obs, ctr]; rw [zys b d (by omega) (by omega)]; show some (w6 (s.At + 1), _) = _; rw [wn1]
     · simp only [obs, bsf, cfa]; rw [zyc N (by omega) b d (by omega) (by omega)]; show some (w6 (s.At + 1), _) = _; rw [wn1]
theorem zag9 (s : zA) {x : zB} (hop : x.Op = 12) : zdu s x = (match zgl s.Storage x.Place x.zF with | .error e => .error e | .ok a => .ok (s.At + 1, updC s (zj9 a x.Text))) := by
 cases x; cases hop; rfl
theorem zago (N : Nat) (M : zC) {x : zB} (hop : x.Op = 12) : zd N M x = ((zu N M x.Place x.zF).bind fun r1 => (cond r1.2.1 (some false) (some false)).bind fun g2 => cond g2 ((zu N r1.2.2 x.From x.Second).bind fun r3 => cond r3.2.1 ((zch r1.1 r3.1).bind fun r4 => some (⟨updC r3.2.2.zA r4, r3.2.2.code, r3.2.2.raised⟩ : zC)) (some r3.2.2)) (cond r1.2.1 ((zch r1.1 x.Text).bind fun r5 => some (⟨updC r1.2.2.zA r5, r1.2.2.code, r1.2.2.raised⟩ : zC)) (some r1.2.2))).bind fun r => some (w6 (r.zA.At + 1), r) := by
 cases x; cases hop; rfl
theorem zafm (N : Nat) {x : zB} (hop : x.Op = 12) (hi : idx c.zD s.At = some x) : ze N c s = ((zbe x.zF).bind fun r1 => (zex N s x.Place x.zF).bind fun r5 => cond (r5.2 != 0) (some (r5.2, s)) ((zim N r5.1 x.Text).bind fun r7 => some (0, updC s r7))).bind fun r => some (w6 (s.At + 1), r.1, r.2) := by
 unfold ze
 rw [hi, obs]
 clear hi
 cases x; cases hop; rfl
theorem zac5 (N : Nat) (hN : 20000 < N) (hc : CodeV m c) (hs : StV m c s) {x : zB} (hx : c.zD[s.At.toNat]? = some x) (hop : x.Op = 12) : zb9 N m c s x := by
 have iv := zg4 hc (lmg hx) hop (U := ⟨false, false, false, true, false, false, false, false, false, false, true, false, false, false, 2, 0⟩) rfl
 have hi : idx c.zD s.At = some x := by unfold idx; rw [ifp hs.at0, hx]
 have m8 := hc.m2
 have a0 := hs.at0
 have a1 := hs.at1
 have n240 := hc.len
 have wn1 : w6 (s.At + 1) = s.At + 1 := w6e
 unfold zb9
 rw [zag9 s hop, zago N _ hop, zafm N hop hi]
 have hp : zcd s.Storage x.Place (szE x.zF) = true := by rw [zgr hs.size]; have := iv.pl rfl; unfold zgh at this; rw [ifn] at this; exact this
 rw [zjh (iv.ty2 rfl).1, obs]
 have hz1 := zka (iv.ty2 rfl).1
 have htx := iv.tx
 rcases zm7 N (by omega) s c hs.sto (iv.ty2 rfl).1 hp with ⟨e, b, k, he, h1, h2, h3⟩ | ⟨b, h1, h2, h3, h4⟩
 · rw [h1, h2, h3]; refine .inl ⟨e, _, w6 (s.At + 1), s, rfl, by omega, rfl, ?_⟩; rcases he with rfl | rfl <;> rfl
 · rw [h1, h2, h3]; refine .inr ⟨_, _, _, rfl, ?_, ?_, fun _ => ⟨rfl, by omega, by omega⟩, hs.updC (zph _), rfl, rfl, rfl⟩
   · simp only [obs, ctr, cfa]; rw [zys b x.Text (by omega) (by omega)]; show some (w6 (s.At + 1), _) = _; rw [wn1]
   · simp only [obs, bsf, cfa]; rw [zyc N (by omega) b x.Text (by omega) (by omega)]; show some (w6 (s.At + 1), _) = _; rw [wn1]
theorem zag8 (s : zA) {x : zB} (hop : x.Op = 13) : zdu s x = (.ok (s.At + 1, updC s (zj9 x.Text x.Other))) := by
 cases x; cases hop; rfl
theorem zagn (N : Nat) (M : zC) {x : zB} (hop : x.Op = 13) : zd N M x = (zch x.Text x.Other).bind fun r => some (w6 (M.zA.At + 1), ⟨updC M.zA r, M.code, M.raised⟩) := by
 cases x; cases hop; rfl
theorem zafl (N : Nat) {x : zB} (hop : x.Op = 13) (hi : idx c.zD s.At = some x) : ze N c s = ((zbe x.zF).bind fun r1 => (zim N x.Text x.Other).bind fun r2 => some (0, updC s r2)).bind fun r => some (w6 (s.At + 1), r.1, r.2) := by
 unfold ze
 rw [hi, obs]
 clear hi
 cases x; cases hop; rfl
theorem zac4 (N : Nat) (hN : 20000 < N) (hc : CodeV m c) (hs : StV m c s) {x : zB} (hx : c.zD[s.At.toNat]? = some x) (hop : x.Op = 13) : zb9 N m c s x := by
 have iv := zg4 hc (lmg hx) hop (U := ⟨false, false, false, false, false, false, false, false, false, false, true, true, false, false, 0, 0⟩) rfl
 have hi : idx c.zD s.At = some x := by unfold idx; rw [ifp hs.at0, hx]
 have m8 := hc.m2
 have a0 := hs.at0
 have a1 := hs.at1
 have n240 := hc.len
 have wn1 : w6 (s.At + 1) = s.At + 1 := w6e
 unfold zb9
 rw [zag8 s hop, zagn N _ hop, zafl N hop hi]
 have htx := iv.tx
 have hot := iv.ot
 have hsz : ∃ k, zbe x.zF = some k := by
  unfold zbe; rw [zhc]; cases (x.zF.Kind == 1) <;> cases (x.zF.Kind == 3) <;> cases (x.zF.Kind == 4) <;> exact ⟨_, rfl⟩
 obtain ⟨k, hk⟩ := hsz
 rw [hk, obs, zys _ _ (by omega) (by omega), zyc N (by omega) _ _ (by omega) (by omega)]
 refine .inr ⟨_, _, _, rfl, ?_, ?_, fun _ => ⟨rfl, by omega, by omega⟩, hs.updC (zph _), rfl, rfl, rfl⟩
 · show some (w6 (s.At + 1), _) = _; rw [wn1]
 · show some (w6 (s.At + 1), _) = _; rw [wn1]
end
end
end Go.Proofs.YtppbpnknfigboaaGreatDoor.M
