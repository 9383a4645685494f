/- The plain law of HardwareValid: part 1. -/
import Derived.Test.YtppbpnknfigboaaGreatDoorPHardwareValidx0
namespace Go.Proofs.YtppbpnknfigboaaGreatDoor.M
open Go Go.Amx
set_option linter.unusedVariables false
set_option linter.unusedSimpArgs false
set_option maxRecDepth 100000
noncomputable section
def ze3 (l : List Int) : Int := l.foldl (fun n d => n * 10 + d) 0
theorem zn1 (l : List Int) (x : Int) : ze3 (l ++ [x]) = ze3 l * 10 + x := by
 unfold ze3; rw [List.foldl_append]; rfl
theorem zml : ∀ (l r : List Int), l = r.reverse → (∀ d ∈ l, 0 ≤ d ∧ d ≤ 15) → 0 ≤ ze3 l ∧ ze3 l ≤ 2 * (10 ^ l.length : Nat) - 2 := by
 intro l r
 induction r generalizing l with
 | nil => intro h _; subst h; decide
 | cons x r ih =>
  intro h hd; rw [List.reverse_cons] at h; subst h; have h1 := ih _ rfl fun d hd' => hd d (List.mem_append_left _ hd'); have h2 := hd x (List.mem_append_right _ List.mem_cons_self); rw [zn1, lna, lns, Nat.pow_succ]; omega
def zhy (l : List UInt8) : List Int := l.flatMap fun b => [((b.toNat / 16 : Nat) : Int), ((b.toNat % 16 : Nat) : Int)]
def zfe (l : List UInt8) : List Int := l.map fun b => ((b.toNat % 16 : Nat) : Int)
def zdz (l : List UInt8) : List Int := zfe l ++ [(((l.getD (l.length - 1) 0).toNat / 16 : Nat) : Int)]
def zih (l : List Int) (len : Int) (i : Nat) : Bool := decide (l.getD i 0 > 9) || (decide (l.getD i 0 > 0) && decide ((i : Int) < (l.length : Int) - 1 - len))
def zj7 (l : List Int) : Int := l.getD (l.length - 1) 0
def zvy (l : List Int) (len : Int) : Option Int :=
 if (List.range (l.length - 1)).any (zih l len) = true ∨ zj7 l < 10 then none
 else some (if zj7 l = 11 ∨ zj7 l = 13 then -ze3 (l.take (l.length - 1)) else ze3 (l.take (l.length - 1)))
def zld (l : List UInt8) : Int := if 128 ≤ (l.getD 0 0).toNat then (beV l : Int) - (256 ^ l.length : Nat) else (beV l : Int)
def zly (t : DataType) (b : ByteArray) : Option Int :=
 if t.Kind = 3 then (if -((10 ^ t.Length.toNat : Nat) : Int) < zld (bl b) ∧ zld (bl b) < ((10 ^ t.Length.toNat : Nat) : Int) then some (zld (bl b)) else none)
 else zvy (if t.Kind = 1 then zhy (bl b) else zdz (bl b)) t.Length
theorem zoo (l : List UInt8) : (zhy l).length = 2 * l.length := by
 unfold zhy
 induction l with
 | nil => rfl
 | cons x l ih => simp only [List.flatMap_cons, lna, lnc, ln0, ih]; omega
theorem zpu {l : List UInt8} : (∀ d ∈ zhy l, 0 ≤ d ∧ d ≤ 15) ∧ (∀ d ∈ zdz l, 0 ≤ d ∧ d ≤ 15) := by
 constructor
 · intro d hd; obtain ⟨b, _, hb⟩ := List.mem_flatMap.1 hd; have := b.toNat_lt; rcases List.mem_cons.1 hb with rfl | hb
   · omega
   · rcases List.mem_cons.1 hb with rfl | hb
     · omega
     · cases hb
 · intro d hd; rcases List.mem_append.1 hd with hd | hd
   · obtain ⟨b, _, rfl⟩ := List.mem_map.1 hd; omega
   · rcases List.mem_cons.1 hd with rfl | hd
     · have := (l.getD (l.length - 1) 0).toNat_lt; omega
     · cases hd
theorem zabe (x : UInt8) : zh .u8 (x.toNat : Int) 15 = ((x.toNat % 16 : Nat) : Int) := by
 have hx := x.toNat_lt
 unfold zh
 have e : (BitVec.ofInt IntKind.u8.bits (x.toNat : Int) &&& BitVec.ofInt IntKind.u8.bits 15).toNat = x.toNat % 16 := by
  show (BitVec.ofInt 8 (x.toNat : Int) &&& BitVec.ofInt 8 ((15 : Nat) : Int)).toNat = _; rw [BitVec.toNat_and, BitVec.ofInt_natCast, BitVec.ofInt_natCast, BitVec.toNat_ofNat, BitVec.toNat_ofNat, mel (by omega), mel (by omega)]; exact Nat.and_two_pow_sub_one_eq_mod _ 4
 rw [e]
 exact zkv (by omega) (by omega)
theorem z8w (x : UInt8) : ((x.toNat : Int).fdiv (2 ^ (min (4 : Int).toNat 8))) = ((x.toNat / 16 : Nat) : Int) := zt7 x.toNat 16
def zvg (n : Nat) : List Int := (List.range n).flatMap fun (i : Nat) => [(i : Int), (i : Int)]
def zts (n : Nat) : List Int := (List.range n).map fun (i : Nat) => (i : Int)
theorem z2w (n : Nat) : (zvg n).length = 2 * n := by
 unfold zvg
 induction n with
 | zero => rfl
 | succ n ih => rw [List.range_succ, List.flatMap_append, lna, ih]; simp; omega
theorem z8e (N : Nat) (hN : 2000 < N) (t : DataType) (hk : t.Kind = 1 ∨ t.Kind = 2) (b : ByteArray) (hb : 0 < b.size) (hb2 : b.size ≤ 1000) :
 ∃ pl, za5 N t b = some (if t.Kind = 1 then zhy (bl b) else zdz (bl b), pl) ∧ pl.length = (if t.Kind = 1 then zhy (bl b) else zdz (bl b)).length := by
 unfold za5
 rcases hk with hk | hk
 · have := zbl (f := za5.r0 N) (fun i => (b, zhy ((bl b).take i), zvg i, (b.size : Int), (i : Int), t)) b.size
    (fun i hi => by
     obtain ⟨x, hx⟩ : ∃ x, (bl b)[i]? = some x := zej (by rw [zam]; exact hi); simp only [za5.r0, za5.b0, dct (show (i : Int) < (b.size : Int) by omega), ctr, zhi, hx, obs, hk, bst, z8w, zabe]; have hl := zoo ((bl b).take i); rw [lnt, zam] at hl; rw [zao (by rw [hl]; simp only [lnc, ln0]; omega), zao (by rw [z2w]; simp only [lnc, ln0]; omega)]; simp only [ctr]; rw [w6e, zd0 _ _ hx]; have e1 : zhy ((bl b).take i ++ [x]) = zhy ((bl b).take i) ++ [((x.toNat / 16 : Nat) : Int), ((x.toNat % 16 : Nat) : Int)] := by
      unfold zhy; rw [List.flatMap_append]; rfl
     have e2 : zvg (i + 1) = zvg i ++ [(i : Int), (i : Int)] := by
      unfold zvg; rw [List.range_succ, List.flatMap_append]; rfl
     rw [e1, e2]; rfl)
    (by simp only [za5.r0, za5.b0, dcf (show ¬ (b.size : Int) < (b.size : Int) by omega), cfa]) (N := N) (by omega)
   simp only [List.take_zero, nc0] at this; rw [show zhy [] = [] from rfl, show zvg 0 = [] from rfl] at this; rw [this]; simp only [obs, hk, if_true]; refine ⟨zvg b.size, ?_, by rw [z2w, zoo, zam]⟩; rw [show ((1 : Int) == 2) = false from rfl, cfa, ← zam, List.take_length]
 · have := zbl (f := za5.r0 N) (fun i => (b, zfe ((bl b).take i), zts i, (b.size : Int), (i : Int), t)) b.size
    (fun i hi => by
     obtain ⟨x, hx⟩ : ∃ x, (bl b)[i]? = some x := zej (by rw [zam]; exact hi); simp only [za5.r0, za5.b0, dct (show (i : Int) < (b.size : Int) by omega), ctr, zhi, hx, obs, hk, show ((2 : Int) == 1) = false from rfl, cfa, zabe]; have hl : (zfe ((bl b).take i)).length = i := by unfold zfe; rw [lnm, lnt, zam]; omega
     have hl2 : (zts i).length = i := by simp [zts]
     rw [zao (by rw [hl]; simp only [lnc, ln0]; omega), zao (by rw [hl2]; simp only [lnc, ln0]; omega)]; simp only [ctr]; rw [w6e, zd0 _ _ hx]; have e1 : zfe ((bl b).take i ++ [x]) = zfe ((bl b).take i) ++ [((x.toNat % 16 : Nat) : Int)] := by
      unfold zfe; rw [List.map_append]; rfl
     have e2 : zts (i + 1) = zts i ++ [(i : Int)] := by
      unfold zts; rw [List.range_succ, List.map_append]; rfl
     rw [e1, e2]; rfl)
    (by simp only [za5.r0, za5.b0, dcf (show ¬ (b.size : Int) < (b.size : Int) by omega), cfa]) (N := N) (by omega)
   simp only [List.take_zero, nc0] at this; rw [show zfe [] = [] from rfl, show zts 0 = [] from rfl] at this; rw [this]; have hx : (bl b)[b.size - 1]? = some ((bl b).getD (b.size - 1) 0) := zqw (by rw [zam]; omega); have hl : (zfe (bl b)).length = b.size := by unfold zfe; rw [lnm, zam]
   have hl2 : (zts b.size).length = b.size := by simp [zts]
   simp only [obs, hk, bst, ctr]; rw [← zam, List.take_length, zam, w6e, show (b.size : Int) - 1 = ((b.size - 1 : Nat) : Int) by omega, zhi, hx]; simp only [obs, z8w]; rw [zao (by rw [hl]; simp only [lnc, ln0]; omega), zao (by rw [hl2]; simp only [lnc, ln0]; omega)]; simp only [ctr]; rw [ifn]; refine ⟨_, rfl, ?_⟩; unfold zdz; rw [lna, lna, hl, hl2]; rfl
theorem z6o (N : Nat) (hN : 2000 < N) (t : DataType) (hk : t.Kind = 1 ∨ t.Kind = 2) (b : ByteArray) (hb : 0 < b.size) (hb2 : (if t.Kind = 1 then zhy (bl b) else zdz (bl b)).length ≤ 17) (hb3 : b.size ≤ 16) (hlen : 0 ≤ t.Length ∧ t.Length ≤ 15) :
 ∃ n a e, zbn N t b = some (n, a, e) ∧ (match zly t b with | some v => n = v ∧ e = 0 | none => e ≠ 0) := by
 obtain ⟨pl, h1, h2⟩ := z8e N hN t hk b hb (by omega)
 have hr : ∀ d ∈ (if t.Kind = 1 then zhy (bl b) else zdz (bl b)), 0 ≤ d ∧ d ≤ 15 := by
  split
  · exact zpu.1
  · exact zpu.2
 have hpos : 0 < (if t.Kind = 1 then zhy (bl b) else zdz (bl b)).length := by
  split
  · rw [zoo, zam]; omega
  · unfold zdz; rw [lna, lns]; omega
 have hd : zly t b = zvy (if t.Kind = 1 then zhy (bl b) else zdz (bl b)) t.Length := by
  unfold zly; rw [ifn]
 rw [hd]
 unfold zbn
 rw [h1]
 simp only [obs]
 generalize (if t.Kind = 1 then zhy (bl b) else zdz (bl b)) = l at *
 have hi2 : w6 ((l.length : Int) - 1) = ((l.length - 1 : Nat) : Int) := by rw [w6e]; omega
 rw [hi2, ifp, ifp]
 rw [show (0 : Int).toNat = 0 from rfl, dr0, itn]
 have hlt : (l.take (l.length - 1)).length = l.length - 1 := by rw [lnt]; omega
 have lp := zb9 (f := zbn.r0 N) (fun i => (l, pl, ((l.length - 1 : Nat) : Int), ze3 (l.take i), l.take (l.length - 1), ((l.length - 1 : Nat) : Int), (i : Int), t))
  (fun i => if zih l t.Length i = true then some ((0 : Int), pl.getD i 0, (21 : Int)) else none) (l.length - 1)
  (fun i hi => by
   have hx : l[i]? = some (l.getD i 0) := by rw [gdd, lge (by omega)]; rfl
   have hx2 : (l.take (l.length - 1))[i]? = some (l.getD i 0) := by rw [List.getElem?_take, ifp hi, hx]
   have hp : pl[i]? = some (pl.getD i 0) := by rw [gdd, lge (by omega)]; rfl
   have hxr := hr (l.getD i 0) (lmg hx); have hf := zml (l.take i) _ (List.reverse_reverse _).symm fun d hd => hr d (List.mem_of_mem_take hd); have hpow : 10 ^ (l.take i).length ≤ 10 ^ 16 := zb4 (by rw [lnt]; omega); simp only [zbn.r0, zbn.b0, dct (show (i : Int) < ((l.length - 1 : Nat) : Int) by omega), ctr, za3, hx2, hp, obs]; rw [w6e (n := ((l.length - 1 : Nat) : Int) - t.Length), w6e (n := (i : Int) + 1), w6e (n := l.getD i 0), w6e (n := ze3 (l.take i) * 10), w6e]; have e : (cond (decide (l.getD i 0 > 9)) (some true) ((cond (decide (l.getD i 0 > 0)) (some (decide ((i : Int) < ((l.length - 1 : Nat) : Int) - t.Length))) (some false)).bind fun g1002 => some g1002)) = some (zih l t.Length i) := by
    unfold zih; rw [show ((l.length - 1 : Nat) : Int) = (l.length : Int) - 1 by omega]; cases decide (l.getD i 0 > 9) <;> cases decide (l.getD i 0 > 0) <;> rfl
   rw [e]; simp only [obs]; rw [zd0 l i hx, zn1]; cases zih l t.Length i with
   | true => rfl
   | false => simp)
  (by simp only [zbn.r0, zbn.b0, dcf (show ¬ ((l.length - 1 : Nat) : Int) < ((l.length - 1 : Nat) : Int) by omega), cfa]) (N := N) (by omega)
 simp only [List.take_zero, nc0] at lp
 rw [show ze3 [] = 0 from rfl] at lp
 rw [hlt, lp]
 simp only [obs]
 have hany : (List.range (l.length - 1)).any (zih l t.Length) = ((List.range (l.length - 1)).findSome? (fun i => if zih l t.Length i = true then some ((0 : Int), pl.getD i 0, (21 : Int)) else none)).isSome := by
  rw [Bool.eq_iff_iff, List.any_eq_true, List.findSome?_isSome_iff]; constructor
  · rintro ⟨x, hx, hb⟩
    exact ⟨x, hx, by rw [ifp hb]; rfl⟩
  · rintro ⟨x, hx, hb⟩
    refine ⟨x, hx, ?_⟩; split at hb
    · assumption
    · cases hb
 unfold zvy
 rw [hany]
 cases hf : (List.range (l.length - 1)).findSome? (fun i => if zih l t.Length i = true then some ((0 : Int), pl.getD i 0, (21 : Int)) else none) with
 | some r =>
  obtain ⟨i, _, hi⟩ := eof hf; split at hi
  · cases hi; exact ⟨_, _, _, rfl, by simp⟩
  · cases hi
 | none =>
  have hx : l[l.length - 1]? = some (zj7 l) := by unfold zj7; rw [gdd, lge (by omega)]; rfl
  have hp : pl[l.length - 1]? = some (pl.getD (l.length - 1) 0) := by rw [gdd, lge (by omega)]; rfl
  have hb := zml (l.take (l.length - 1)) _ (List.reverse_reverse _).symm fun d hd => hr d (List.mem_of_mem_take hd); have hpow : 10 ^ (l.take (l.length - 1)).length ≤ 10 ^ 16 := zb4 (by omega); simp only [zb3, za3, hx, hp, obs, Option.isSome_none, Bool.false_eq_true, false_or]
  by_cases hs : zj7 l < 10
  · rw [dct hs, ifp hs]; exact ⟨_, _, _, rfl, by decide⟩
  · rw [dcf hs, ifn hs, cfa, w6e, zat, zat]
    by_cases h11 : zj7 l = 11
    · rw [dct h11, ifp (.inl h11)]; exact ⟨_, _, _, rfl, by omega, rfl⟩
    · rw [dcf h11]
      by_cases h13 : zj7 l = 13
      · rw [dct h13, ifp (.inr h13)]; exact ⟨_, _, _, rfl, by omega, rfl⟩
      · rw [dcf h13, ifn]; exact ⟨_, _, _, rfl, rfl, rfl⟩
theorem z99 (N : Nat) (hN : 100 < N) (k : Nat) (hk : k ≤ 18) : zcg N (k : Int) = some ((10 ^ k : Nat) : Int) := by
 unfold zcg
 have := zbl (f := zcg.r0 N) (fun i => (((10 ^ i : Nat) : Int), (k : Int), (i : Int))) k
  (fun i hi => by
   have : 10 ^ (i + 1) ≤ 10 ^ 18 := zb4 (by omega); rw [Nat.pow_succ] at this; simp only [zcg.r0, zcg.b0, dct (show (i : Int) < (k : Int) by omega), ctr]; rw [w6e (n := ((10 ^ i : Nat) : Int) * 10), w6e, Nat.pow_succ]; simp only [Int.natCast_add, Int.natCast_mul, Int.natCast_one]; rfl)
  (by simp only [zcg.r0, zcg.b0, dcf (show ¬ (k : Int) < (k : Int) by omega), cfa]) (N := N) (by omega)
 simp only [Nat.pow_zero, nc0] at this
 rw [ifn, show (1 : Int) = ((1 : Nat) : Int) from rfl, this]
 rfl
theorem zuj (N : Nat) (hN : 100 < N) {t : DataType} (ht : zig t) (n : Int) : zds N t ⟨n, ⟨#[]⟩⟩ = some (if -((10 ^ t.Length.toNat : Nat) : Int) < n ∧ n < ((10 ^ t.Length.toNat : Nat) : Int) then 0 else 19) := by
 have f2 : ∀ a b : Int, zp N [a, b] = some (zcv [a, b]) := fun a b => zom N _ (by simp; omega) (by simp)
 obtain ⟨⟨l1, l2⟩, l3, l4⟩ := zgd ht
 have hp := z99 N hN t.Length.toNat (by omega)
 rw [Int.toNat_of_nonneg (by omega)] at hp
 have hp2 : 10 ^ t.Length.toNat ≤ 10 ^ 15 := zb4 (by omega)
 have hp3 := zcb t.Length.toNat
 obtain ⟨h0, h1, h2⟩ := ht
 unfold zds
 rw [zqt N (by omega), h0, zat, zat, dcf (show ¬ t.Kind = 4 by omega), dcf (show ¬ t.Kind = 0 by omega)]
 simp only [zon, cfa, obs, f2, show zcv [0, 0] = 0 from rfl, bsf]
 rw [hp]
 simp only [obs, bst, bnt, cfa, z1l, zon]
 generalize 10 ^ t.Length.toNat = P at *
 rw [w6e (n := (P : Int) - 1), w6e]
 by_cases h : -(P : Int) < n ∧ n < (P : Int)
 · rw [ifp h, show inB n (0 - ((P : Int) - 1)) ((P : Int) - 1) = true from zay.2 ⟨by omega, by omega⟩]; rfl
 · rw [ifn h, show inB n (0 - ((P : Int) - 1)) ((P : Int) - 1) = false by
    cases hb : inB n (0 - ((P : Int) - 1)) ((P : Int) - 1) with
    | false => rfl
    | true => have := zay.1 hb; omega]
   rfl
theorem z9a {l : List UInt8} (h : l ≠ []) (x : UInt8) : zld (l ++ [x]) = zld l * 256 + x.toNat := by
 cases l with
 | nil => exact absurd rfl h
 | cons y l =>
  unfold zld; rw [List.cons_append, List.getD_cons_zero, List.getD_cons_zero, ← List.cons_append, zrj, lna, lns, Nat.pow_succ]; split
  · simp only [Int.natCast_add, Int.natCast_mul]; omega
  · simp only [Int.natCast_add, Int.natCast_mul]; omega
theorem z7a {l : List UInt8} (h : l.length ≤ 4) : -4294967296 ≤ zld l ∧ zld l < 4294967296 := by
 have h1 := zzt l
 have h2 : 256 ^ l.length ≤ 256 ^ 4 := Nat.pow_le_pow_right (by decide) h
 unfold zld
 split <;> omega
theorem z8j (N : Nat) (hN : 100 < N) (b : ByteArray) (h0 : 0 < b.size) (h4 : b.size ≤ 4) : zbv N b = some (zld (bl b)) := by
 obtain ⟨x0, hx0⟩ : ∃ x, (bl b)[0]? = some x := zej (by rw [zam]; exact h0)
 have i0 : zgw b 0 = some x0 := by rw [show (0 : Int) = ((0 : Nat) : Int) from rfl, zhi, hx0]
 have hL : zjf (b.extract (1 : Int).toNat b.size) = ((bl b).drop 1).map fun x => (x.toNat : Int) := by
  unfold zjf; have := zel b 1 b.size; unfold bl at this ⊢; rw [show (1 : Int).toNat = 1 from rfl, this]
  congr 2
  exact List.take_of_length_le (Nat.le_of_eq rfl)
 have hlen : (((bl b).drop 1).map fun x => (x.toNat : Int)).length = b.size - 1 := by rw [lnm, List.length_drop, zam]
 have hx00 := x0.toNat_lt
 unfold zbv
 rw [i0]
 simp only [obs]
 rw [ifp, hL, hlen]
 have hw : w6 (IntKind.wrap .i8 (x0.toNat : Int)) = zld ((bl b).take 1) := by
  have e : (bl b).take 1 = [x0] := by rw [zd0 _ _ hx0]; rfl
  have e8 : (2 : Int) ^ (IntKind.i8.bits) = 256 := by decide
  have e8' : (2 : Int) ^ (IntKind.i8.bits - 1) = 128 := by decide
  have : IntKind.wrap .i8 (x0.toNat : Int) = if 128 ≤ x0.toNat then (x0.toNat : Int) - 256 else x0.toNat := by
   unfold IntKind.wrap; simp only [e8, e8', show IntKind.i8.signed = true from rfl, Bool.true_and, decide_eq_true_eq, ge_iff_le]
   repeat' split
   all_goals omega
  rw [this, e, w6e (by split <;> omega) (by split <;> omega)]; unfold zld; rw [List.getD_cons_zero, show beV [x0] = x0.toNat by unfold beV; simp]; rfl
 rw [hw]
 have := zbl (f := zbv.r0 N) (fun i => (zld ((bl b).take (i + 1)), ((bl b).drop 1).map (fun x => (x.toNat : Int)), ((b.size - 1 : Nat) : Int), (i : Int))) (b.size - 1)
  (fun i hi => by
   obtain ⟨x, hx⟩ : ∃ x, (bl b)[i + 1]? = some x := zej (by rw [zam]; omega); have hm : (((bl b).drop 1).map (fun x => (x.toNat : Int)))[i]? = some (x.toNat : Int) := by
    rw [List.getElem?_map, List.getElem?_drop, Nat.add_comm 1 i, hx]; rfl
   have hb := z7a (l := (bl b).take (i + 1)) (by rw [lnt]; omega); have hxl := x.toNat_lt; simp only [zbv.r0, zbv.b0, dct (show (i : Int) < ((b.size - 1 : Nat) : Int) by omega), ctr, hlen]; rw [ifp, ifp, itn, hm]; simp only [obs]; rw [show (2 : Int) ^ (min (8 : Int).toNat 64) = 256 from rfl, w6e (n := zld ((bl b).take (i + 1)) * 256), w6e (n := (x.toNat : Int)), w6e (n := (i : Int) + 1), or8 _ _ (by omega) (by omega) hxl, zd0 _ _ hx, z9a]
   · rfl
   · intro h; have := congrArg List.length h; rw [lnt, zam] at this; simp only [ln0] at this; omega)
  (by simp only [zbv.r0, zbv.b0, dcf (show ¬ ((b.size - 1 : Nat) : Int) < ((b.size - 1 : Nat) : Int) by omega), cfa]) (N := N) (by omega)
 simp only [Nat.zero_add, nc0] at this
 rw [this, show b.size - 1 + 1 = (bl b).length by rw [zam]; omega, List.take_length]
 rfl
theorem zqq {t : DataType} (ht : zig t) : szE t = (if t.Kind = 1 then t.Length / 2 + 1 else if t.Kind = 3 then (if t.Length = 9 then 4 else 2) else t.Length) := by
 obtain ⟨_, h1, h2⟩ := ht
 unfold szE
 split
 · rfl
 · split
   · rfl
   · rw [ifn]
theorem z8i (N : Nat) (hN : 2000 < N) {t : DataType} (ht : zig t) {b : ByteArray} (hb : (b.size : Int) = szE t) :
 ∃ v a e, ziw N t b = some (v, a, e) ∧ (match zly t b with | some n => v.N = n ∧ e = 0 | none => e ≠ 0) := by
 have f2 : ∀ a b : Int, zp N [a, b] = some (zcv [a, b]) := fun a b => zom N _ (by simp; omega) (by simp)
 obtain ⟨⟨l1, l2⟩, l3, l4⟩ := zgd ht
 have hsz := zqq ht
 have ht' := ht
 obtain ⟨h0, h1, h2⟩ := ht'
 unfold ziw
 rw [zqt N (by omega), h0, zat, zat, zat, dcf (show ¬ t.Kind = 4 by omega), dcf (show ¬ t.Kind = 0 by omega)]
 simp only [zon, cfa, obs, f2, show zcv [0, 0] = 0 from rfl, bst, ctr]
 rw [zz8 h0]
 simp only [obs]
 rw [hb]
 simp only [bsf, cfa, eD]
 by_cases hk : t.Kind = 3
 · rw [dct hk, ctr]; have hs4 : b.size ≤ 4 ∧ 0 < b.size := by
    rw [hsz, ifn, ifp hk] at hb; split at hb <;> omega
   rw [z8j N (by omega) b hs4.2 hs4.1]; simp only [obs]; rw [zuj N (by omega) ht]; simp only [obs]; unfold zly; rw [ifp hk]
   by_cases hr : -((10 ^ t.Length.toNat : Nat) : Int) < zld (bl b) ∧ zld (bl b) < ((10 ^ t.Length.toNat : Nat) : Int)
   · rw [ifp hr, ifp hr]; exact ⟨_, _, _, rfl, rfl, rfl⟩
   · rw [ifn hr, ifn hr]; exact ⟨_, _, _, rfl, by decide⟩
 · rw [dcf hk, cfa]; have hs : 0 < b.size ∧ b.size ≤ 15 ∧ (t.Kind = 1 → b.size ≤ 8) := by
    rw [hsz] at hb
    by_cases h1 : t.Kind = 1
    · rw [ifp h1] at hb; omega
    · rw [ifn h1, ifn hk] at hb; omega
   have hn : (if t.Kind = 1 then zhy (bl b) else zdz (bl b)).length ≤ 17 := by
    split
    · rename_i hk1; have := hs.2.2 hk1; rw [zoo, zam]; omega
    · unfold zdz zfe; rw [lna, lnm, lns, zam]; omega
   obtain ⟨n, a, e, g1, g2⟩ := z6o N hN t (by omega) b hs.1 hn (by omega) ⟨by omega, l2⟩; rw [g1]; exact ⟨_, _, _, rfl, g2⟩
def zrf (n len : Nat) : List Int := (List.range len).map fun j => ((n / 10 ^ (len - 1 - j) % 10 : Nat) : Int)
theorem zub (n len : Nat) : (zrf n len).length = len := by simp [zrf]
theorem zua {n len : Nat} : ∀ d ∈ zrf n len, 0 ≤ d ∧ d ≤ 9 := by
 intro d hd
 obtain ⟨j, _, rfl⟩ := List.mem_map.1 hd
 omega
def z1q (l : List Int) (neg : Bool) : List Int := (l.take (l.length - 1)).map (· + 240) ++ [l.getD (l.length - 1) 0 + cond neg 208 240]
def zjl : List Int → List Int
 | a :: b :: l => (16 * a + b) :: zjl l
 | _ => []
def z63 (n : Int) (k : Nat) : List Int := (List.range k).map fun j => n / 256 ^ (k - 1 - j) % 256
def zsg (t : DataType) (n : Int) : List Int := (if t.Length % 2 = 0 then [0] else []) ++ zrf n.natAbs t.Length.toNat ++ [if n < 0 then 13 else 15]
def zrd (t : DataType) (n : Int) : ByteArray :=
 zc2 (if t.Kind = 3 then z63 n (szE t).toNat else if t.Kind = 2 then z1q (zrf n.natAbs t.Length.toNat) (decide (n < 0)) else zjl (zsg t n))
theorem z8h (N : Nat) (hN : 100 < N) (n len : Nat) (hn : n ≤ 1000000000000000000) (hl : len ≤ 20) : zb6 N (n : Int) (len : Int) = some (zrf n len) := by
 unfold zb6
 have := zbl (f := zb6.r0 N) (fun i => (((n / 10 ^ i : Nat) : Int), zgq (fun e => ((n / 10 ^ e % 10 : Nat) : Int)) len i, (len : Int) - 1 - (i : Int))) len
  (fun i hi => by
   have hl2 : n / 10 ^ i ≤ n := Nat.div_le_self _ _; have hl : (zgq (fun e => ((n / 10 ^ e % 10 : Nat) : Int)) len i).length = len := zq5 _ _ _; have e1 : n / 10 ^ (i + 1) = n / 10 ^ i / 10 := by rw [Nat.pow_succ, ← Nat.div_div_eq_div_mul]
   have e2 : (zgq (fun e => ((n / 10 ^ e % 10 : Nat) : Int)) len i).set (len - 1 - i) ((n / 10 ^ i % 10 : Nat) : Int) = zgq (fun e => ((n / 10 ^ e % 10 : Nat) : Int)) len (i + 1) := zpn _ len i hi; rw [e1, ← e2]; generalize (zgq (fun e => ((n / 10 ^ e % 10 : Nat) : Int)) len i) = P at *; generalize n / 10 ^ i = q at *; simp only [zb6.r0, zb6.b0, dct (show (len : Int) - 1 - (i : Int) ≥ 0 by omega), ctr, hl]; rw [ifp, ifp]; obtain ⟨x, hx⟩ : ∃ x, P[((len : Int) - 1 - (i : Int)).toNat]? = some x := zej (by omega); rw [hx]; simp only [obs]
   rw [tde, tme, w6e (n := (q : Int) / 10), w6e (n := (len : Int) - 1 - (i : Int) - 1), zkv (by omega) (by omega), show ((len : Int) - 1 - (i : Int)).toNat = len - 1 - i by omega, show (q : Int) % 10 = ((q % 10 : Nat) : Int) by omega, show (q : Int) / 10 = ((q / 10 : Nat) : Int) by omega, show (len : Int) - 1 - (i : Int) - 1 = (len : Int) - 1 - ((i + 1 : Nat) : Int) by omega])
  (by simp only [zb6.r0, zb6.b0, dcf (show ¬ (len : Int) - 1 - (len : Int) ≥ 0 by omega), cfa]) (N := N) (by omega)
 rw [ifp, ifp, zao (by omega), ctr, itn, w6e]
 simp only [Nat.pow_zero, Nat.div_one, zpm, nc0, Int.sub_zero, zpo] at this
 rw [this]
 rfl
theorem or4 (x y : Nat) (hx : x < 16) (hy : y < 16) : orI .u8 (IntKind.wrap .u8 ((x : Int) * 2 ^ (min (4 : Int).toNat 8))) (y : Int) = ((16 * x + y : Nat) : Int) := by
 rw [show (2 : Int) ^ (min (4 : Int).toNat 8) = 16 from rfl, zkv (by omega) (by omega)]
 unfold orI
 have e : (BitVec.ofInt IntKind.u8.bits ((x : Int) * 16) ||| BitVec.ofInt IntKind.u8.bits (y : Int)).toNat = 16 * x + y := by
  show (BitVec.ofInt 8 ((x : Int) * 16) ||| BitVec.ofInt 8 (y : Int)).toNat = _; rw [show (x : Int) * 16 = ((16 * x : Nat) : Int) by omega, BitVec.toNat_or, BitVec.ofInt_natCast, BitVec.ofInt_natCast, BitVec.toNat_ofNat, BitVec.toNat_ofNat, mel (by omega), mel (by omega)]; exact (Nat.two_pow_add_eq_or_of_lt (i := 4) (b := y) hy x).symm
 rw [e]
 exact zkv (by omega) (by omega)
theorem ztu : ∀ (n : Nat) (l : List Int) (x y : Int), l.length = 2 * n → zjl (l ++ [x, y]) = zjl l ++ [16 * x + y]
 | 0, l, x, y, h => by
  obtain rfl := List.length_eq_zero_iff.1 (by omega : l.length = 0); rfl
 | n + 1, [], x, y, h => by simp at h
 | n + 1, [a], x, y, h => by simp at h; omega
 | n + 1, a :: b :: l, x, y, h => by
  simp only [List.cons_append, zjl]; rw [ztu n l x y (by simp only [lnc] at h; omega)]
theorem zps : ∀ (n : Nat) (l : List Int), l.length = 2 * n → (zjl l).length = n
 | 0, l, h => by
  obtain rfl := List.length_eq_zero_iff.1 (by omega : l.length = 0); rfl
 | n + 1, [], h => by simp at h
 | n + 1, [a], h => by simp at h; omega
 | n + 1, a :: b :: l, h => by
  simp only [zjl, lnc]; rw [zps n l (by simp only [lnc] at h; omega)]
theorem z8c (N : Nat) (hN : 100 < N) (l : List Int) (n : Nat) (hl : l.length = 2 * n) (hn : n ≤ 20) (hd : ∀ d ∈ l, 0 ≤ d ∧ d < 16) : zbg N l = some (zc2 (zjl l)) := by
 unfold zbg
 have := zbl (f := zbg.r0 N) (fun i => (l, zjl (l.take (2 * i)), 2 * (i : Int))) n
  (fun i hi => by
   obtain ⟨x, hx⟩ : ∃ x, l[2 * i]? = some x := zej (by omega); obtain ⟨y, hy⟩ : ∃ y, l[2 * i + 1]? = some y := zej (by omega); obtain ⟨x1, x2⟩ := hd x (lmg hx); obtain ⟨y1, y2⟩ := hd y (lmg hy); have hlt : (l.take (2 * i)).length = 2 * i := by rw [lnt]; omega
   simp only [zbg.r0, zbg.b0, dct (show 2 * (i : Int) < (l.length : Int) by omega), ctr]; rw [w6e (n := 2 * (i : Int) + 1), w6e (n := 2 * (i : Int) + 2), show 2 * (i : Int) = ((2 * i : Nat) : Int) by omega, show ((2 * i : Nat) : Int) + 1 = ((2 * i + 1 : Nat) : Int) by omega, za3, za3, hx, hy]; simp only [obs]; obtain ⟨u, rfl⟩ : ∃ u : Nat, x = (u : Int) := ⟨x.toNat, by omega⟩; obtain ⟨v, rfl⟩ : ∃ v : Nat, y = (v : Int) := ⟨y.toNat, by omega⟩; rw [or4 u v (by omega) (by omega), zao (by rw [zps i _ hlt]; simp only [lnc, ln0]; omega), ctr]; rw [show 2 * (i + 1) = 2 * i + 1 + 1 by omega, zd0 _ _ hy, zd0 _ _ hx, List.append_assoc, show ([(u : Int)] ++ [(v : Int)] : List Int) = [(u : Int), (v : Int)] from rfl, ztu i _ _ _ hlt]
   congr 4)
  (by simp only [zbg.r0, zbg.b0, dcf (show ¬ 2 * (n : Int) < (l.length : Int) by omega), cfa]) (N := N) (by omega)
 simp only [Nat.mul_zero, List.take_zero, nc0, Int.mul_zero] at this
 rw [show zjl [] = [] from rfl] at this
 rw [this, obs, ← hl, List.take_length]
theorem zabq (f : Int → Int) (l : List Int) (i : Nat) {x : Int} (hx : l[i]? = some x) : ((l.take i).map f ++ l.drop i)[i]? = some x ∧ ((l.take i).map f ++ l.drop i).set i (f x) = (l.take (i + 1)).map f ++ l.drop (i + 1) := by
 obtain ⟨h1, h2⟩ := gei hx
 have hl : ((l.take i).map f).length = i := by rw [lnm, lnt]; omega
 have hd : l.drop i = x :: l.drop (i + 1) := by rw [List.drop_eq_getElem_cons h1, h2]
 constructor
 · rw [List.getElem?_append_right (by omega), hl, Nat.sub_self, hd]; rfl
 · rw [List.set_append_right _ _ (by omega), hl, Nat.sub_self, hd, zd0 l i hx, List.map_append, List.append_assoc]; rfl
theorem z6s {l : List Int} (h : 0 < l.length) : l = l.take (l.length - 1) ++ [l.getD (l.length - 1) 0] := by
 have hx : l[l.length - 1]? = some (l.getD (l.length - 1) 0) := by rw [gdd, lge (by omega)]; rfl
 have := zd0 l (l.length - 1) hx
 rw [show l.length - 1 + 1 = l.length by omega, List.take_length] at this
 exact this
theorem zabh (z : Int) : IntKind.wrap .u8 z = z % 256 := by
 have e : (2 : Int) ^ (IntKind.u8.bits) = 256 := by decide
 unfold IntKind.wrap
 simp only [e, show IntKind.u8.signed = false from rfl, Bool.false_and]
 simp only [Bool.false_eq_true, if_false]
theorem zqa {l : List Int} (h : 0 < l.length) : l.map (· + 240) = z1q l false := by
 conv => lhs; rw [z6s h]
 rw [List.map_append]
 rfl
theorem zn8 {n : Int} (h1 : -9223372036854775807 ≤ n) (h2 : n ≤ 9223372036854775807) : (if w6 (0 - n) > n then w6 (0 - n) else n) = ((n.natAbs : Nat) : Int) := by
 rw [w6e]
 split <;> omega
theorem ztv {t : DataType} (h1 : 1 ≤ t.Length) (n : Int) : (zsg t n).length = 2 * (t.Length.toNat / 2 + 1) ∧ ∀ d ∈ zsg t n, 0 ≤ d ∧ d < 16 := by
 unfold zsg
 constructor
 · rw [lna, lna, zub, lns]; split
   · rw [lns]; omega
   · rw [ln0]; omega
 · intro d hd; rcases List.mem_append.1 hd with hd | hd
   · rcases List.mem_append.1 hd with hd | hd
     · split at hd
       · rcases List.mem_cons.1 hd with rfl | hd
         · omega
         · cases hd
       · cases hd
     · have := zua d hd; omega
   · rcases List.mem_cons.1 hd with rfl | hd
     · split <;> omega
     · cases hd
theorem z6n (N : Nat) (hN : 100 < N) {t : DataType} (ht : zig t) (n : Int) (hn : -((10 ^ t.Length.toNat : Nat) : Int) < n ∧ n < ((10 ^ t.Length.toNat : Nat) : Int)) : zag N t ⟨n, ⟨#[]⟩⟩ = some (zrd t n) := by
 obtain ⟨⟨l1, l2⟩, l3, l4⟩ := zgd ht
 have hp2 : 10 ^ t.Length.toNat ≤ 10 ^ 15 := zb4 (by omega)
 have hsz := zqq ht
 have ht' := ht
 obtain ⟨h0, h1, h2⟩ := ht'
 have hd := z8h N hN n.natAbs t.Length.toNat (by omega) (by omega)
 rw [Int.toNat_of_nonneg (by omega)] at hd
 unfold zag zrd
 try simp only [eD]
 rw [zn8 (by omega) (by omega), hd]
 simp only [obs]
 have hlen := zub n.natAbs t.Length.toNat
 have hrange := zua (n := n.natAbs) (len := t.Length.toNat)
 have hpac := ztv (t := t) l1 n
 have epac : zsg t n = (if t.Length % 2 = 0 then [0] else []) ++ zrf n.natAbs t.Length.toNat ++ [if n < 0 then 13 else 15] := rfl
 generalize zrf n.natAbs t.Length.toNat = d at *
 simp only [zat]
 by_cases k2 : t.Kind = 2
 · rw [dct k2, ctr, ifn, ifp k2]; have lp := zbl (f := zag.r1 N) (fun i => ((d.take i).map (· + 240) ++ d.drop i, (d.length : Int), (i : Int), (⟨n, ⟨#[]⟩⟩ : Value))) d.length
    (fun i hi => by
     obtain ⟨x, hx⟩ : ∃ x, d[i]? = some x := zej hi; obtain ⟨e1, e2⟩ := zabq (· + 240) d i hx; have hxr := hrange x (lmg hx); have hl : ((d.take i).map (· + 240) ++ d.drop i).length = d.length := by rw [lna, lnm, lnt, List.length_drop]; omega
     simp only [zag.r1, zag.b1, dct (show (i : Int) < (d.length : Int) by omega), ctr, hl]; rw [ifp, ifp, itn, e1]; simp only [obs]; rw [ifp, ifp, zkv (by omega) (by omega), w6e, e2]; rfl)
    (by simp only [zag.r1, zag.b1, dcf (show ¬ (d.length : Int) < (d.length : Int) by omega), cfa]) (N := N) (by omega)
   simp only [List.take_zero, nc0, dr0, List.map_nil, List.nil_append, List.take_length, List.drop_length, List.append_nil] at lp; rw [lp]; simp only [obs, lnm]
   by_cases hneg : n < 0
   · rw [dct hneg, ctr, w6e, ifp, ifp]; have hi : (d.length : Int) - 1 = ((d.length - 1 : Nat) : Int) := by omega
     have hx : d[d.length - 1]? = some (d.getD (d.length - 1) 0) := by rw [gdd, lge (by omega)]; rfl
     have hxr := hrange _ (lmg hx); rw [hi, itn, List.getElem?_map, hx]; simp only [Option.map_some, obs]; rw [ifp, ifp, zkv (by omega) (by omega)]
     congr 2
     conv => lhs; rw [show d.map (· + 240) = (d.take (d.length - 1)).map (· + 240) ++ [d.getD (d.length - 1) 0 + 240] from zqa (by omega)]
     have hl : ((d.take (d.length - 1)).map (· + 240)).length = d.length - 1 := by rw [lnm, lnt]; omega
     rw [List.set_append_right _ _ (by omega), hl, Nat.sub_self]; unfold z1q
     congr 1
     show [_] = [_]
     congr 1
     simp only [ctr]; omega
   · rw [dcf hneg, cfa, zqa (by omega)]
 · rw [dcf k2, cfa, ifn (c := t.Kind = 2) k2]
   by_cases k1 : t.Kind = 1
   · rw [dct k1, ctr, ifn]; have pk := z8c N hN (zsg t n) _ hpac.1 (by omega) hpac.2; have ev : decide ((d.length : Int).tmod 2 = 0) = decide (t.Length % 2 = 0) := by
      rw [tme]; simp only [decide_eq_decide]; omega
     rw [ev]; rw [epac] at pk ⊢
     by_cases hneg : n < 0
     · rw [dct hneg, ctr]; rw [ifp hneg] at pk ⊢
       by_cases he : t.Length % 2 = 0
       · rw [dct he, ctr]; rw [ifp he] at pk ⊢; rw [zao (by simp only [lnc, ln0]; omega), ctr, zao (by simp only [lna, lnc, ln0]; omega), ctr, pk]; rfl
       · rw [dcf he, cfa]; rw [ifn he, List.nil_append] at pk ⊢; rw [zao (by simp only [lnc, ln0]; omega), ctr, pk]; rfl
     · rw [dcf hneg, cfa]; rw [ifn hneg] at pk ⊢
       by_cases he : t.Length % 2 = 0
       · rw [dct he, ctr]; rw [ifp he] at pk ⊢; rw [zao (by simp only [lnc, ln0]; omega), ctr, zao (by simp only [lna, lnc, ln0]; omega), ctr, pk]; rfl
       · rw [dcf he, cfa]; rw [ifn he, List.nil_append] at pk ⊢; rw [zao (by simp only [lnc, ln0]; omega), ctr, pk]; rfl
   · have k3 : t.Kind = 3 := by omega
     rw [dcf k1, cfa, dct k3, ctr, ifp k3, zz8 h0]; have hs : (szE t).toNat ≤ 4 ∧ 0 < (szE t).toNat ∧ szE t = ((szE t).toNat : Int) := by
      rw [hsz, ifn k1, ifp k3]; split <;> decide
     obtain ⟨s1, s2, s3⟩ := hs; generalize (szE t).toNat = k at *; rw [s3]; simp only [obs]; rw [ifp, ifp, zao (by omega), ctr, itn, lnr, w6e]; have lp := zbl (f := zag.r3 N) (fun i => (zgq (fun e => n / 256 ^ e % 256) k i, (k : Int) - 1 - (i : Int), n / 256 ^ i)) k
      (fun i hi => by
       have e2 : (zgq (fun e => n / 256 ^ e % 256) k i).set (k - 1 - i) (n / 256 ^ i % 256) = zgq (fun e => n / 256 ^ e % 256) k (i + 1) := zpn _ k i hi; have hl : (zgq (fun e => n / 256 ^ e % 256) k i).length = k := zq5 _ _ _; have e1 : n / 256 ^ (i + 1) = n / 256 ^ i / 256 := by rw [Int.pow_succ, Int.ediv_ediv_of_nonneg (Int.le_of_lt (Int.pow_pos (by decide)))]
       rw [e1, ← e2]; generalize zgq (fun e => n / 256 ^ e % 256) k i = P at *; simp only [zag.r3, zag.b3, dct (show (k : Int) - 1 - (i : Int) ≥ 0 by omega), ctr, hl]; rw [ifp, ifp]; obtain ⟨x, hx⟩ : ∃ x, P[((k : Int) - 1 - (i : Int)).toNat]? = some x := zej (by omega); rw [hx]; simp only [obs]; rw [zabh, w6e, show (2 : Int) ^ (min (8 : Int).toNat 64) = 256 from rfl, Int.fdiv_eq_ediv_of_nonneg _ (by decide), show ((k : Int) - 1 - (i : Int)).toNat = k - 1 - i by omega, show (k : Int) - 1 - (i : Int) - 1 = (k : Int) - 1 - ((i + 1 : Nat) : Int) by omega])
      (by simp only [zag.r3, zag.b3, dcf (show ¬ (k : Int) - 1 - (k : Int) ≥ 0 by omega), cfa]) (N := N) (by omega)
     simp only [Int.pow_zero, Int.ediv_one, zpm, nc0, Int.sub_zero, zpo] at lp; rw [lp]; rfl
theorem z8g (N : Nat) (hN : 100 < N) {t : DataType} (ht : zig t) (n : Int) (hn : -((10 ^ t.Length.toNat : Nat) : Int) < n ∧ n < ((10 ^ t.Length.toNat : Nat) : Int)) : ziv N t ⟨n, ⟨#[]⟩⟩ = some (zrd t n, 0) := by
 unfold ziv
 rw [zuj N hN ht, ifp hn]
 simp only [obs, bsf, cfa, eD]
 rw [z6n N hN ht n hn]
 rfl
theorem z8z {t : DataType} (ht : zig t) (n : Int) : ((zrd t n).size : Int) = szE t := by
 obtain ⟨⟨l1, l2⟩, l3, l4⟩ := zgd ht
 have hsz := zqq ht
 obtain ⟨h0, h1, h2⟩ := ht
 rw [← zam]
 unfold zrd
 rw [zgi, lnm]
 by_cases k3 : t.Kind = 3
 · rw [ifp k3]; unfold z63; rw [lnm, List.length_range]; rw [hsz, ifn, ifp k3]; split <;> rfl
 · rw [ifn k3]
   by_cases k2 : t.Kind = 2
   · rw [ifp k2]; unfold z1q; rw [lna, lnm, lnt, zub, lns, hsz, ifn, ifn k3]; omega
   · rw [ifn k2, zps _ _ (ztv l1 n).1, hsz, ifp]; omega
theorem z2k (N : Nat) (hN : 100 < N) (k : Nat) (hk : k ≤ 18) : zfr N (k : Int) = some ((10 ^ k : Nat) : Int) := by
 unfold zfr
 have := zbl (f := zfr.r0 N) (fun i => ((k : Int), ((10 ^ i : Nat) : Int), (i : Int))) k
  (fun i hi => by
   have : 10 ^ (i + 1) ≤ 10 ^ 18 := zb4 (by omega); rw [Nat.pow_succ] at this; simp only [zfr.r0, zfr.b0, dct (show (i : Int) < (k : Int) by omega), ctr]; rw [w6e (n := ((10 ^ i : Nat) : Int) * 10), w6e, Nat.pow_succ]; simp only [Int.natCast_add, Int.natCast_mul, Int.natCast_one]; rfl)
  (by simp only [zfr.r0, zfr.b0, dcf (show ¬ (k : Int) < (k : Int) by omega), cfa]) (N := N) (by omega)
 simp only [Nat.pow_zero, nc0] at this
 rw [show (1 : Int) = ((1 : Nat) : Int) from rfl, this]
 rfl
theorem z74 (N : Nat) (hN : 100 < N) (n len : Nat) (hn : n ≤ 1000000000000000000) (hl : len ≤ 20) : zeo N (n : Int) (len : Int) = some (zrf n len) := by
 unfold zeo
 have := zbl (f := zeo.r0 N) (fun i => (((n / 10 ^ i : Nat) : Int), zgq (fun e => ((n / 10 ^ e % 10 : Nat) : Int)) len i, (len : Int) - 1 - (i : Int))) len
  (fun i hi => by
   have hl2 : n / 10 ^ i ≤ n := Nat.div_le_self _ _; have hl : (zgq (fun e => ((n / 10 ^ e % 10 : Nat) : Int)) len i).length = len := zq5 _ _ _; have e1 : n / 10 ^ (i + 1) = n / 10 ^ i / 10 := by rw [Nat.pow_succ, ← Nat.div_div_eq_div_mul]
   have e2 : (zgq (fun e => ((n / 10 ^ e % 10 : Nat) : Int)) len i).set (len - 1 - i) ((n / 10 ^ i % 10 : Nat) : Int) = zgq (fun e => ((n / 10 ^ e % 10 : Nat) : Int)) len (i + 1) := zpn _ len i hi; rw [e1, ← e2]; generalize (zgq (fun e => ((n / 10 ^ e % 10 : Nat) : Int)) len i) = P at *; generalize n / 10 ^ i = q at *; simp only [zeo.r0, zeo.b0, dct (show (len : Int) - 1 - (i : Int) ≥ 0 by omega), ctr, hl]; rw [ifp, ifp]; obtain ⟨x, hx⟩ : ∃ x, P[((len : Int) - 1 - (i : Int)).toNat]? = some x := zej (by omega); rw [hx]; simp only [obs]; rw [tde, tme, w6e (n := (q : Int) / 10), w6e (n := (len : Int) - 1 - (i : Int) - 1), show ((len : Int) - 1 - (i : Int)).toNat = len - 1 - i by omega, show (q : Int) % 10 = ((q % 10 : Nat) : Int) by omega, show (q : Int) / 10 = ((q / 10 : Nat) : Int) by omega, show (len : Int) - 1 - (i : Int) - 1 = (len : Int) - 1 - ((i + 1 : Nat) : Int) by omega])
  (by simp only [zeo.r0, zeo.b0, dcf (show ¬ (len : Int) - 1 - (len : Int) ≥ 0 by omega), cfa]) (N := N) (by omega)
 rw [ifp, ifp, zao (by omega), ctr, itn, w6e]
 simp only [Nat.pow_zero, Nat.div_one, zpm, nc0, Int.sub_zero, zpo] at this
 rw [this]
 rfl
theorem zsc (N : Nat) (hN : 100 < N) (v k : Nat) (hv : v < 9223372036854775807) (hk : k ≤ 8) : zbc N (v : Int) (k : Int) = some (zc2 (zbb v k)) := by
 unfold zbc
 have := zbl (f := zbc.r0 N) (fun i => (((v / 256 ^ i : Nat) : Int), (k : Int), zgq (fun e => ((v / 256 ^ e % 256 : Nat) : Int)) k i, (i : Int))) k
  (fun i hi => by
   have hl2 : v / 256 ^ i ≤ v := Nat.div_le_self _ _; have hl : (zgq (fun e => ((v / 256 ^ e % 256 : Nat) : Int)) k i).length = k := zq5 _ _ _; have e1 : v / 256 ^ (i + 1) = v / 256 ^ i / 256 := by rw [Nat.pow_succ, ← Nat.div_div_eq_div_mul]
   have e2 : (zgq (fun e => ((v / 256 ^ e % 256 : Nat) : Int)) k i).set (k - 1 - i) ((v / 256 ^ i % 256 : Nat) : Int) = zgq (fun e => ((v / 256 ^ e % 256 : Nat) : Int)) k (i + 1) := zpn _ k i hi; rw [e1, ← e2]; generalize (zgq (fun e => ((v / 256 ^ e % 256 : Nat) : Int)) k i) = P at *; generalize v / 256 ^ i = q at *; simp only [zbc.r0, zbc.b0, dct (show (i : Int) < (k : Int) by omega), ctr, hl]; rw [w6e (n := (k : Int) - 1), w6e (n := (k : Int) - 1 - (i : Int)), ifp, ifp]; obtain ⟨x, hx⟩ : ∃ x, P[((k : Int) - 1 - (i : Int)).toNat]? = some x := zej (by omega); rw [hx]; simp only [obs]; rw [tde, tme, w6e (n := (q : Int) / 256), w6e (n := (i : Int) + 1), zkv (by omega) (by omega), show ((k : Int) - 1 - (i : Int)).toNat = k - 1 - i by omega, show (q : Int) % 256 = ((q % 256 : Nat) : Int) by omega, show (q : Int) / 256 = ((q / 256 : Nat) : Int) by omega]; rfl)
  (by simp only [zbc.r0, zbc.b0, dcf (show ¬ (k : Int) < (k : Int) by omega), cfa]) (N := N) (by omega)
 rw [ifp, ifp, zao (by omega), ctr, itn]
 simp only [Nat.pow_zero, Nat.div_one, zpm, nc0] at this
 rw [this, obs, zpo]
 rfl
theorem z9p (f : Int → Int) (l : List Int) (m i : Nat) {x : Int} (hx : l[i]? = some x) (hm : i < m) : ((l.take i).map f ++ List.replicate (m - i) 0)[i]? = some 0 ∧ ((l.take i).map f ++ List.replicate (m - i) 0).set i (f x) = (l.take (i + 1)).map f ++ List.replicate (m - (i + 1)) 0 := by
 obtain ⟨h1, h2⟩ := gei hx
 have hl : ((l.take i).map f).length = i := by rw [lnm, lnt]; omega
 have hd : List.replicate (m - i) (0 : Int) = 0 :: List.replicate (m - (i + 1)) 0 := by rw [show m - i = m - (i + 1) + 1 by omega, List.replicate_succ]
 constructor
 · rw [List.getElem?_append_right (by omega), hl, Nat.sub_self, hd]; rfl
 · rw [List.set_append_right _ _ (by omega), hl, Nat.sub_self, hd, zd0 l i hx, List.map_append, List.append_assoc]; rfl
theorem z3v (n : Int) (k : Nat) (m : Nat) (h : (m : Int) = n ∨ (m : Int) = n + (256 ^ k : Nat)) : zbb m k = z63 n k := by
 unfold zbb z63
 refine List.map_congr_left fun j hj => ?_
 have hjk := List.mem_range.1 hj
 have hc : (256 : Int) ^ (k - 1 - j) = ((256 ^ (k - 1 - j) : Nat) : Int) := by rw [Int.natCast_pow]; rfl
 rw [hc]
 rcases h with h | h
 · rw [← h]; rfl
 · have hk : (256 ^ k : Nat) = 256 ^ (k - 1 - j) * (256 * 256 ^ j) := by
    rw [← Nat.pow_succ', ← Nat.pow_add]; congr 1; omega
   have hp : ((256 ^ (k - 1 - j) : Nat) : Int) ≠ 0 := by
    have : 0 < 256 ^ (k - 1 - j) := Nat.pow_pos (by decide); omega
   have e : ((m / 256 ^ (k - 1 - j) % 256 : Nat) : Int) = (m : Int) / ((256 ^ (k - 1 - j) : Nat) : Int) % 256 := rfl; rw [e, h, hk, Int.natCast_mul, Int.add_mul_ediv_left _ _ hp, Int.natCast_mul]; exact Int.add_mul_emod_self_left _ _ _
theorem z91 (N : Nat) (hN : 100 < N) {t : DataType} (ht : zig t) (n : Int) (hn : -((10 ^ t.Length.toNat : Nat) : Int) < n ∧ n < ((10 ^ t.Length.toNat : Nat) : Int)) : zbk N t ⟨n, ⟨#[]⟩⟩ = some (zrd t n) := by
 obtain ⟨⟨l1, l2⟩, l3, l4⟩ := zgd ht
 have hp2 : 10 ^ t.Length.toNat ≤ 10 ^ 15 := zb4 (by omega)
 have hsz := zqq ht
 have ht' := ht
 obtain ⟨h0, h1, h2⟩ := ht'
 have hd := z74 N hN n.natAbs t.Length.toNat (by omega) (by omega)
 rw [Int.toNat_of_nonneg (by omega)] at hd
 unfold zbk zrd zj9
 simp only [eD, zat]
 rw [dcf (show ¬ t.Kind = 0 by omega), cfa]
 by_cases k3 : t.Kind = 3
 · rw [dct k3, ctr, ifp k3, zje h0]; have hs : (szE t).toNat ≤ 4 ∧ 0 < (szE t).toNat ∧ szE t = ((szE t).toNat : Int) ∧ ((szE t).toNat = 2 ∨ (szE t).toNat = 4) ∧ ((szE t).toNat = 2 → t.Length = 4) := by
    have h9 := h0; unfold zdm at h9; rw [ifn, ifn, ifp k3] at h9; rw [hsz, ifn, ifp k3]; split at h9
    · split
      · exact ⟨by decide, by decide, by decide, by decide, fun h => by cases h⟩
      · exact ⟨by decide, by decide, by decide, by decide, fun _ => by omega⟩
    · cases h9
   obtain ⟨s1, s2, s3, s4, s5⟩ := hs; generalize (szE t).toNat = k at *; rw [s3]; simp only [obs]
   by_cases hneg : n < 0
   · rw [dct hneg, ctr, w6e (n := 8 * (k : Int)), ifn]; have hpow : (1 : Int) * 2 ^ (min (8 * (k : Int)).toNat 64) = ((256 ^ k : Nat) : Int) := by
      rcases s4 with rfl | rfl <;> decide
     have hlow : -((256 ^ k : Nat) : Int) ≤ n := by
      rcases s4 with rfl | rfl
      · have := s5 rfl; rw [this] at hn; have : (10 ^ (4 : Int).toNat : Nat) = 10000 := by decide
        rw [this] at hn; have : (256 ^ 2 : Nat) = 65536 := by decide
        omega
      · have hl9 : 10 ^ t.Length.toNat ≤ 10 ^ 9 := by
         refine zb4 ?_; unfold zdm at h0; rw [ifn, ifn, ifp k3] at h0; split at h0
         · omega
         · cases h0
        have : (256 ^ 4 : Nat) = 4294967296 := by decide
        omega
     have hup : 256 ^ k ≤ 4294967296 := by rcases s4 with rfl | rfl <;> decide
     rw [hpow, w6e (n := ((256 ^ k : Nat) : Int)), w6e]; obtain ⟨m, hm⟩ : ∃ m : Nat, (m : Int) = n + (256 ^ k : Nat) := ⟨(n + (256 ^ k : Nat)).toNat, by omega⟩; rw [← hm, zsc N hN m k (by omega) (by omega), z3v n k m (.inr hm)]; rfl
   · rw [dcf hneg, cfa]; obtain ⟨m, hm⟩ : ∃ m : Nat, (m : Int) = n := ⟨n.toNat, by omega⟩; rw [← hm, zsc N hN m k (by omega) (by omega), z3v (m : Int) k m (.inl rfl)]; rfl
 · rw [dcf k3, cfa, ifn k3, zn8 (by omega) (by omega)]; simp only [obs]; rw [hd]; simp only [obs]; have hlen := zub n.natAbs t.Length.toNat; have hrange := zua (n := n.natAbs) (len := t.Length.toNat); have hpac := ztv (t := t) l1 n; have epac : zsg t n = (if t.Length % 2 = 0 then [0] else []) ++ zrf n.natAbs t.Length.toNat ++ [if n < 0 then 13 else 15] := rfl; generalize zrf n.natAbs t.Length.toNat = d at *
   by_cases k2 : t.Kind = 2
   · rw [dct k2, ctr, ifp k2, ifp, ifp, zao (by omega), ctr]; have lp := zbl (f := zbk.r1 N) (fun i => (d, (d.take i).map (· + 240) ++ List.replicate (d.length - i) 0, (i : Int), t, (⟨n, ⟨#[]⟩⟩ : Value))) d.length
      (fun i hi => by
       obtain ⟨x, hx⟩ : ∃ x, d[i]? = some x := zej hi; obtain ⟨e1, e2⟩ := z9p (· + 240) d d.length i hx hi; have hxr := hrange x (lmg hx); have hl : ((d.take i).map (· + 240) ++ List.replicate (d.length - i) 0).length = d.length := by rw [lna, lnm, lnt, lnr]; omega
       simp only [zbk.r1, zbk.b1, dct (show (i : Int) < t.Length by omega), ctr, hl]; rw [ifp, ifp, itn, hx]; simp only [obs]; rw [ifp, ifp, e1]; simp only [obs]; rw [w6e (n := 240 + x), zkv (by omega) (by omega), w6e, Int.add_comm 240 x, e2]; rfl)
      (by simp only [zbk.r1, zbk.b1, dcf (show ¬ (d.length : Int) < t.Length by omega), cfa]) (N := N) (by omega)
     simp only [List.take_zero, nc0, List.map_nil, List.nil_append, List.take_length, Nat.sub_self, Nat.sub_zero, List.replicate_zero, List.append_nil] at lp; rw [← hlen, lp]; simp only [obs, lnm]
     by_cases hneg : n < 0
     · rw [dct hneg, ctr, w6e (n := t.Length - 1), ifp, ifp]; have hi : t.Length - 1 = ((d.length - 1 : Nat) : Int) := by omega
       have hx : d[d.length - 1]? = some (d.getD (d.length - 1) 0) := by rw [gdd, lge (by omega)]; rfl
       have hxr := hrange _ (lmg hx); rw [hi, itn, hx]; simp only [obs]; rw [ifp, ifp, List.getElem?_map, hx]; simp only [Option.map_some, obs]; rw [w6e, zkv (by omega) (by omega)]
       congr 2
       conv => lhs; rw [show d.map (· + 240) = (d.take (d.length - 1)).map (· + 240) ++ [d.getD (d.length - 1) 0 + 240] from zqa (by omega)]
       have hl : ((d.take (d.length - 1)).map (· + 240)).length = d.length - 1 := by rw [lnm, lnt]; omega
       rw [List.set_append_right _ _ (by omega), hl, Nat.sub_self]; unfold z1q
       congr 1
       show [_] = [_]
       congr 1
       simp only [ctr]; omega
     · rw [dcf hneg, cfa, zqa (by omega)]
   · rw [dcf k2, cfa, ifn k2]; have lp : ∀ (l : List Int) (m : Nat), l.length = 2 * m → m ≤ 20 → (∀ d ∈ l, 0 ≤ d ∧ d < 16) → zq (zbk.r3 N) N (l, List.replicate m 0, 0) = some (l, zjl l, (m : Int)) := fun l m hl hm hr => by
      have := zbl (f := zbk.r3 N) (fun i => (l, zjl (l.take (2 * i)) ++ List.replicate (m - i) 0, (i : Int))) m
       (fun i hi => by
        obtain ⟨x, hx⟩ : ∃ x, l[2 * i]? = some x := zej (by omega); obtain ⟨y, hy⟩ : ∃ y, l[2 * i + 1]? = some y := zej (by omega); obtain ⟨x1, x2⟩ := hr x (lmg hx); obtain ⟨y1, y2⟩ := hr y (lmg hy); have hlt : (l.take (2 * i)).length = 2 * i := by rw [lnt]; omega
        have hpl := zps i _ hlt; have hl2 : (zjl (l.take (2 * i)) ++ List.replicate (m - i) 0).length = m := by rw [lna, hpl, lnr]; omega
        have hd : List.replicate (m - i) (0 : Int) = 0 :: List.replicate (m - (i + 1)) 0 := by rw [show m - i = m - (i + 1) + 1 by omega, List.replicate_succ]
        have e1 : (zjl (l.take (2 * i)) ++ List.replicate (m - i) 0)[i]? = some 0 := by rw [List.getElem?_append_right (by omega), hpl, Nat.sub_self, hd]; rfl
        have e2 : (zjl (l.take (2 * i)) ++ List.replicate (m - i) 0).set i (16 * x + y) = zjl (l.take (2 * (i + 1))) ++ List.replicate (m - (i + 1)) 0 := by
         rw [List.set_append_right _ _ (by omega), hpl, Nat.sub_self, hd, show 2 * (i + 1) = 2 * i + 1 + 1 by omega, zd0 _ _ hy, zd0 _ _ hx, List.append_assoc, show ([x] ++ [y] : List Int) = [x, y] from rfl, ztu i _ _ _ hlt, List.append_assoc]; rfl
        simp only [zbk.r3, zbk.b3, hl2, dct (show (i : Int) < (m : Int) by omega), ctr]; rw [w6e (n := 2 * (i : Int)), w6e (n := 2 * (i : Int) + 1), ifp, ifp, show (2 * (i : Int)).toNat = 2 * i by omega, hx]; simp only [obs]; rw [ifp, ifp, show (2 * (i : Int) + 1).toNat = 2 * i + 1 by omega, hy]; simp only [obs]; rw [ifp, ifp, itn, e1]; simp only [obs]; rw [w6e (n := 16 * x), w6e (n := 16 * x + y), zkv (by omega) (by omega), w6e, e2]; rfl)
       (by simp only [zbk.r3, zbk.b3]; rw [lna, zps m _ (by rw [lnt]; omega), Nat.sub_self, lnr, Nat.add_zero, dcf (show ¬ (m : Int) < (m : Int) by omega), cfa]) (N := N) (by omega)
      simp only [Nat.mul_zero, List.take_zero, nc0, Nat.sub_zero, Nat.sub_self, List.replicate_zero, List.append_nil] at this; rw [show zjl [] = [] from rfl, List.nil_append, ← hl, List.take_length] at this; exact this
     have lpp := lp (zsg t n) _ hpac.1 (by omega) hpac.2; have hpl := hpac.1; rw [zhf, show decide (t.Length.tmod 2 = 0) = decide (t.Length % 2 = 0) by rw [tme]]; simp only [obs]; have hsg : w6 (15 - w6 (2 * cond (decide (n < 0)) 1 0)) = if n < 0 then 13 else 15 := by
      by_cases hneg : n < 0
      · rw [dct hneg, ifp hneg]; decide
      · rw [dcf hneg, ifn hneg]; decide
     rw [hsg]
     by_cases he : t.Length % 2 = 0
     · rw [ifp he] at epac; rw [dct he, ctr, zao (by simp only [lnc, ln0]; omega), ctr, ← epac, zao (by simp only [lna, lnc, ln0]; omega), ctr, tde, w6e, ifp, ifp, zao (by omega), ctr, show ((zsg t n).length : Int) / 2 = ((t.Length.toNat / 2 + 1 : Nat) : Int) by omega, itn, lpp]; rfl
     · rw [ifn he, List.nil_append] at epac; rw [dcf he, cfa, zao (by simp only [lnc, ln0]; omega), ctr, ← epac, tde, w6e, ifp, ifp, zao (by omega), ctr, show ((zsg t n).length : Int) / 2 = ((t.Length.toNat / 2 + 1 : Nat) : Int) by omega, itn, lpp]; rfl
theorem z26 : ∀ (l : List UInt8) (i : Nat) (x : UInt8), l[i / 2]? = some x → (zhy l)[i]? = some (((if i % 2 = 1 then x.toNat % 16 else x.toNat / 16 : Nat) : Nat) : Int)
 | [], i, x, h => by simp at h
 | y :: l, 0, x, h => by
  simp only [Nat.zero_div, List.getElem?_cons_zero, Option.some.injEq] at h; subst h; rfl
 | y :: l, 1, x, h => by
  simp only [show 1 / 2 = 0 from rfl, List.getElem?_cons_zero, Option.some.injEq] at h; subst h; rfl
 | y :: l, i + 2, x, h => by
  rw [show (i + 2) / 2 = i / 2 + 1 by omega, List.getElem?_cons_succ] at h; have := z26 l i x h; have e : zhy (y :: l) = ((y.toNat / 16 : Nat) : Int) :: ((y.toNat % 16 : Nat) : Int) :: zhy l := rfl; rw [e, List.getElem?_cons_succ, List.getElem?_cons_succ, this]
  congr 3
  rw [show (i + 2) % 2 = i % 2 by omega]
theorem z0r (n h : Int) (hn : -9223372036854775807 ≤ n ∧ n ≤ 9223372036854775807) : zi5 n h = some (if h = 11 ∨ h = 13 then -n else n, decide (h ≥ 10)) := by
 unfold zi5
 rw [w6e, zat, zat]
 by_cases h1 : h = 11
 · rw [dct h1, ifp (.inl h1), Int.zero_sub]; rfl
 · rw [dcf h1]
   by_cases h2 : h = 13
   · rw [dct h2, ifp (.inr h2), Int.zero_sub]; rfl
   · rw [dcf h2, ifn]; rfl
theorem z4h (n : Nat) (bad : Nat → Bool) (f : Nat → Value × Int × Int) : (List.range n).any bad = ((List.range n).findSome? (fun i => if bad i = true then some (f i) else none)).isSome := by
 rw [Bool.eq_iff_iff, List.any_eq_true, List.findSome?_isSome_iff]
 constructor
 · rintro ⟨x, hx, hb⟩
   exact ⟨x, hx, by rw [ifp hb]; rfl⟩
 · rintro ⟨x, hx, hb⟩
   refine ⟨x, hx, ?_⟩; split at hb
   · assumption
   · cases hb
def zo2 : Value := ⟨0, ⟨#[]⟩⟩
theorem z9v (N : Nat) (hN : 2000 < N) (t : DataType) (hk : t.Kind = 2) (b : ByteArray) (hb : 0 < b.size) (hb3 : b.size ≤ 15) (hl : (b.size : Int) = t.Length) :
 ∃ v a e, zcf N b = some (v, a, e) ∧ (match zly t b with | some n => v.N = n ∧ e = 0 | none => e ≠ 0) := by
 have hd : zly t b = zvy (zdz (bl b)) t.Length := by unfold zly; rw [ifn, ifn]
 have hzl : (zdz (bl b)).length = b.size + 1 := by unfold zdz zfe; rw [lna, lnm, lns, zam]
 have hzs : zj7 (zdz (bl b)) = (((bl b).getD (b.size - 1) 0).toNat / 16 : Nat) := by
  unfold zj7; rw [hzl, Nat.add_sub_cancel]; unfold zdz; have hl2 : (zfe (bl b)).length = b.size := by unfold zfe; rw [lnm, zam]
  rw [gdd, List.getElem?_append_right (by omega), hl2, Nat.sub_self]; rfl
 have hzd : ∀ i, i < b.size → ∀ x, (bl b)[i]? = some x → (zdz (bl b)).getD i 0 = ((x.toNat % 16 : Nat) : Int) := fun i hi x hx => by
  have hl2 : (zfe (bl b)).length = b.size := by unfold zfe; rw [lnm, zam]
  unfold zdz; rw [gdd, List.getElem?_append_left (by omega)]; unfold zfe; rw [List.getElem?_map, hx]; rfl
 have hzt : (zdz (bl b)).take b.size = zfe (bl b) := by
  have hl2 : (zfe (bl b)).length = b.size := by unfold zfe; rw [lnm, zam]
  unfold zdz; rw [List.take_append_of_le_length (by omega), List.take_of_length_le (by omega)]
 have hx1 : (bl b)[b.size - 1]? = some ((bl b).getD (b.size - 1) 0) := zqw (by rw [zam]; omega)
 have hlb := ((bl b).getD (b.size - 1) 0).toNat_lt
 generalize hS : ((bl b).getD (b.size - 1) 0).toNat / 16 = S at *
 have hS16 : S < 16 := by omega
 rw [hd]
 unfold zcf
 have lp := zb9 (f := zcf.r0 N) (fun i => (b, ze3 ((zfe (bl b)).take i), (if i = b.size then (S : Int) else 15), (i : Int), zo2))
  (fun i => if (decide ((zdz (bl b)).getD i 0 > 9) || (decide (i = b.size - 1) && decide ((S : Int) < 10))) = true then some (zo2, (i : Int), (21 : Int)) else none) b.size
  (fun i hi => by
   obtain ⟨x, hx⟩ : ∃ x, (bl b)[i]? = some x := zej (by rw [zam]; exact hi); have hxl := x.toNat_lt; have hnx : (zfe (bl b))[i]? = some ((x.toNat % 16 : Nat) : Int) := by unfold zfe; rw [List.getElem?_map, hx]; rfl
   have hf := zml ((zfe (bl b)).take i) _ (List.reverse_reverse _).symm fun d hd => by
    obtain ⟨y, _, rfl⟩ := List.mem_map.1 (List.mem_of_mem_take hd); omega
   have hpow : 10 ^ ((zfe (bl b)).take i).length ≤ 10 ^ 15 := zb4 (by rw [lnt]; omega); have hm : (w6 (x.toNat : Int)).tmod 16 = ((x.toNat % 16 : Nat) : Int) := by rw [w6e, tme]; omega
   have hm2 : ((x.toNat : Int).tmod 16) = ((x.toNat % 16 : Nat) : Int) := by rw [tme]; omega
   have hdv : w6 ((w6 (x.toNat : Int)).tdiv 16) = ((x.toNat / 16 : Nat) : Int) := by rw [w6e (n := (x.toNat : Int)), tde, w6e]; omega
   have hnext : ze3 ((zfe (bl b)).take (i + 1)) = 10 * ze3 ((zfe (bl b)).take i) + ((x.toNat % 16 : Nat) : Int) := by rw [zd0 _ _ hnx, zn1]; omega
   rw [hnext]; generalize ze3 ((zfe (bl b)).take i) = F at *; rw [hzd i hi x hx]; simp only [zcf.r0, zcf.b0, dct (show (i : Int) < (b.size : Int) by omega), ctr, zhi, hx, obs, hm, hm2, hdv]; rw [w6e (n := (b.size : Int) - 1), w6e (n := (i : Int) + 1), w6e (n := 10 * F), w6e (n := 10 * F + ((x.toNat % 16 : Nat) : Int)), zat]
   by_cases hi1 : i = b.size - 1
   · have hxe : x = (bl b).getD (b.size - 1) 0 := by rw [hi1] at hx; rw [hx1] at hx; exact (Option.some.inj hx).symm
     have hxS : x.toNat / 16 = S := by rw [hxe]; exact hS
     rw [dct (show (i : Int) = (b.size : Int) - 1 by omega), dct hi1, hxS, ifn (show ¬ i = b.size by omega), ifp (show i + 1 = b.size by omega)]; simp only [ctr, Bool.true_and]; cases h1 : decide ((S : Int) < 10) <;> cases h2 : decide (((x.toNat % 16 : Nat) : Int) > 9) <;> rfl
   · rw [dcf (show ¬ (i : Int) = (b.size : Int) - 1 by omega), dcf hi1, ifn (show ¬ i = b.size by omega), ifn (show ¬ i + 1 = b.size by omega)]; simp only [cfa, Bool.false_and, Bool.or_false]; cases h2 : decide (((x.toNat % 16 : Nat) : Int) > 9) <;> rfl)
  (by simp only [zcf.r0, zcf.b0, dcf (show ¬ (b.size : Int) < (b.size : Int) by omega), cfa]) (N := N) (by omega)
 simp only [List.take_zero, nc0] at lp
 rw [show ze3 [] = 0 from rfl, ifn (show ¬ 0 = b.size by omega)] at lp
 rw [show (⟨0, (⟨#[]⟩ : ByteArray)⟩ : Value) = zo2 from rfl, lp]
 simp only [obs]
 have ha := z4h b.size (fun i => decide ((zdz (bl b)).getD i 0 > 9) || (decide (i = b.size - 1) && decide ((S : Int) < 10))) (fun i => (zo2, (i : Int), (21 : Int)))
 have hc : (List.range b.size).any (fun i => decide ((zdz (bl b)).getD i 0 > 9) || (decide (i = b.size - 1) && decide ((S : Int) < 10))) = ((List.range ((zdz (bl b)).length - 1)).any (zih (zdz (bl b)) t.Length) || decide (zj7 (zdz (bl b)) < 10)) := by
  rw [hzl, Nat.add_sub_cancel, hzs, Bool.eq_iff_iff, Bool.or_eq_true, List.any_eq_true, List.any_eq_true]; constructor
  · rintro ⟨i, hi, hb⟩
    rw [Bool.or_eq_true, Bool.and_eq_true] at hb; rcases hb with hb | ⟨_, hb⟩
    · exact .inl ⟨i, hi, by unfold zih; rw [hb, Bool.true_or]⟩
    · exact .inr hb
  · rintro (⟨i, hi, hb⟩ | hb)
    · refine ⟨i, hi, ?_⟩; unfold zih at hb; rw [Bool.or_eq_true] at hb; rcases hb with hb | hb
      · rw [hb, Bool.true_or]
      · rw [Bool.and_eq_true] at hb; have h2 := of_decide_eq_true hb.2; rw [hzl] at h2; omega
    · exact ⟨b.size - 1, by rw [List.mem_range]; omega, by rw [hb]; simp⟩
 rw [ha] at hc
 unfold zvy
 cases hf : (List.range b.size).findSome? (fun i => if (decide ((zdz (bl b)).getD i 0 > 9) || (decide (i = b.size - 1) && decide ((S : Int) < 10))) = true then some (zo2, (i : Int), (21 : Int)) else none) with
 | some r =>
  obtain ⟨i, _, hi⟩ := eof hf; split at hi
  · cases hi; rw [hf] at hc; have hc' : ((List.range ((zdz (bl b)).length - 1)).any (zih (zdz (bl b)) t.Length) || decide (zj7 (zdz (bl b)) < 10)) = true := hc.symm; rw [Bool.or_eq_true, decide_eq_true_eq] at hc'; rw [ifp hc']; exact ⟨_, _, _, rfl, by decide⟩
  · cases hi
 | none =>
  rw [hf] at hc; have hc' : ((List.range ((zdz (bl b)).length - 1)).any (zih (zdz (bl b)) t.Length) || decide (zj7 (zdz (bl b)) < 10)) = false := hc.symm; rw [Bool.or_eq_false_iff, decide_eq_false_iff_not] at hc'; have hf := zml (zfe (bl b)) _ (List.reverse_reverse _).symm fun d hd => by
   obtain ⟨y, _, rfl⟩ := List.mem_map.1 hd; omega
  have hpow : 10 ^ (zfe (bl b)).length ≤ 10 ^ 15 := zb4 (by unfold zfe; rw [lnm, zam]; omega); have hnc : ¬ ((List.range ((zdz (bl b)).length - 1)).any (zih (zdz (bl b)) t.Length) = true ∨ zj7 (zdz (bl b)) < 10) := by rw [hc'.1]; simpa using hc'.2
  rw [ifn hnc, hzl, Nat.add_sub_cancel, hzt, hzs]; simp only [zb3, if_true]; rw [show (zfe (bl b)).take b.size = zfe (bl b) from List.take_of_length_le (by unfold zfe; rw [lnm, zam]; omega), z0r _ _ ⟨by omega, by omega⟩]; refine ⟨_, _, _, rfl, ?_, rfl⟩
  by_cases h1 : (S : Int) = 11 ∨ (S : Int) = 13
  · rw [ifp h1]
  · rw [ifn h1]
theorem z73 (N : Nat) (hN : 2000 < N) (t : DataType) (hk : t.Kind = 1) (b : ByteArray) (hl1 : 1 ≤ t.Length ∧ t.Length ≤ 15) (hl : (b.size : Int) = t.Length / 2 + 1) :
 ∃ v a e, zb7 N t b = some (v, a, e) ∧ (match zly t b with | some n => v.N = n ∧ e = 0 | none => e ≠ 0) := by
 have hd : zly t b = zvy (zhy (bl b)) t.Length := by unfold zly; rw [ifn, ifp hk]
 have hzl : (zhy (bl b)).length = 2 * b.size := by rw [zoo, zam]
 have hr := (zpu (l := bl b)).1
 rw [hd]
 have zc := z26 (bl b)
 generalize zhy (bl b) = l at *
 have hS : zj7 l = l.getD (2 * b.size - 1) 0 := by unfold zj7; rw [hzl]
 generalize zj7 l = S at *
 unfold zb7
 have lp := zb9 (f := zb7.r0 N) (fun i => (b, (if i = 2 * b.size then (if S = 11 ∨ S = 13 then -ze3 (l.take (2 * b.size - 1)) else ze3 (l.take (2 * b.size - 1))) else ze3 (l.take i)), (i : Int), t, zo2))
  (fun i => if (if i = 2 * b.size - 1 then decide (S < 10) else (decide (l.getD i 0 > 9) || (decide (i = 0) && (decide (t.Length % 2 = 0) && decide (l.getD i 0 ≠ 0))))) = true then some (zo2, ((i / 2 : Nat) : Int), (21 : Int)) else none) (2 * b.size)
  (fun i hi => by
   obtain ⟨x, hx⟩ : ∃ x, (bl b)[i / 2]? = some x := zej (by rw [zam]; omega); have hxl := x.toNat_lt; have hxi := zc i x hx; have hxd : l.getD i 0 = ((if i % 2 = 1 then x.toNat % 16 else x.toNat / 16 : Nat) : Int) := by rw [gdd, hxi]; rfl
   have hf := zml (l.take i) _ (List.reverse_reverse _).symm fun d hd => hr d (List.mem_of_mem_take hd); have hpow : 10 ^ (l.take i).length ≤ 10 ^ 16 := zb4 (by rw [lnt]; omega); have hm : ((w6 (x.toNat : Int)).tmod 16) = ((x.toNat % 16 : Nat) : Int) := by rw [w6e, tme]; omega
   have hdv : w6 ((w6 (x.toNat : Int)).tdiv 16) = ((x.toNat / 16 : Nat) : Int) := by rw [w6e (n := (x.toNat : Int)), tde, w6e]; omega
   have hnext : ze3 (l.take (i + 1)) = 10 * ze3 (l.take i) + l.getD i 0 := by rw [zd0 _ _ hxi, zn1, hxd]; omega
   have hidx : w6 ((i : Int).tdiv 2) = ((i / 2 : Nat) : Int) := by rw [tde, w6e]; omega
   have hpar : ((i : Int).tmod 2 == 1) = decide (i % 2 = 1) := by rw [tme, zat]; simp only [decide_eq_decide]; omega
   have hev : (t.Length.tmod 2 == 0) = decide (t.Length % 2 = 0) := by rw [tme, zat]
   have hw1 : w6 (2 * (b.size : Int)) = ((2 * b.size : Nat) : Int) := by rw [w6e]; omega
   have hw2 : w6 (((2 * b.size : Nat) : Int) - 1) = ((2 * b.size - 1 : Nat) : Int) := by rw [w6e]; omega
   have hi0 : ((i : Int) == 0) = decide (i = 0) := by rw [zat]; simp only [decide_eq_decide]; omega
   have hil : ((i : Int) == ((2 * b.size - 1 : Nat) : Int)) = decide (i = 2 * b.size - 1) := by rw [zat]; simp only [decide_eq_decide]; omega
   have sg := z0r (ze3 (l.take i)) (l.getD i 0) ⟨by omega, by omega⟩; rw [hxd] at hnext sg ⊢; simp only [zb7.r0, zb7.b0, hw1, hw2, dct (show (i : Int) < ((2 * b.size : Nat) : Int) by omega), ctr, hidx, zhi, hx, obs, hm, hdv, hpar, hev, hi0, hil]; rw [w6e (n := (i : Int) + 1), ifn (show ¬ i = 2 * b.size by omega)]
   by_cases hp : i % 2 = 1
   · rw [ifp hp] at hnext sg; rw [dct hp, ctr]; simp only [ifp hp]; have hH : x.toNat % 16 < 16 := by omega
     by_cases hl : i = 2 * b.size - 1
     · have hSx : S = ((x.toNat % 16 : Nat) : Int) := by rw [hS, ← hl, hxd, ifp hp]
       rw [dct hl, ifp hl, ifp (show i + 1 = 2 * b.size by omega), ← hl, hSx, sg, dcf (show ¬ i = 0 by omega)]; simp only [ctr, cfa, obs]; cases h1 : decide (((x.toNat % 16 : Nat) : Int) < 10) <;> rfl
     · rw [dcf hl, ifn hl, ifn (show ¬ i + 1 = 2 * b.size by omega), hnext, dcf (show ¬ i = 0 by omega)]; generalize x.toNat % 16 = h at *; generalize ze3 (l.take i) = F at *; simp only [ctr, cfa, obs, Bool.false_and, Bool.or_false]; rw [w6e (n := 10 * F), w6e (n := 10 * F + (h : Int))]; cases h1 : decide ((h : Int) > 9) <;> rfl
   · rw [ifn hp] at hnext sg; rw [dcf hp, cfa]; simp only [ifn hp]; have hl : ¬ i = 2 * b.size - 1 := by omega
     have hH : x.toNat / 16 < 16 := by omega
     rw [dcf hl, ifn hl, ifn (show ¬ i + 1 = 2 * b.size by omega), hnext]; generalize x.toNat / 16 = h at *; generalize ze3 (l.take i) = F at *; simp only [ctr, cfa, obs]; rw [w6e (n := 10 * F), w6e (n := 10 * F + (h : Int)), zcj]; cases h1 : decide ((h : Int) > 9) <;> cases h2 : decide (i = 0) <;> cases h3 : decide (t.Length % 2 = 0) <;> cases h4 : decide ((h : Int) ≠ 0) <;> rfl)
  (by
   have hw1 : w6 (2 * (b.size : Int)) = ((2 * b.size : Nat) : Int) := by rw [w6e]; omega
   simp only [zb7.r0, zb7.b0, hw1, dcf (show ¬ ((2 * b.size : Nat) : Int) < ((2 * b.size : Nat) : Int) by omega), cfa]) (N := N) (by omega)
 simp only [List.take_zero, nc0, if_true] at lp
 rw [show ze3 [] = 0 from rfl, ifn (show ¬ 0 = 2 * b.size by omega)] at lp
 rw [show (⟨0, (⟨#[]⟩ : ByteArray)⟩ : Value) = zo2 from rfl, lp]
 simp only [obs]
 have ha := z4h (2 * b.size) (fun i => (if i = 2 * b.size - 1 then decide (S < 10) else (decide (l.getD i 0 > 9) || (decide (i = 0) && (decide (t.Length % 2 = 0) && decide (l.getD i 0 ≠ 0)))))) (fun i => (zo2, ((i / 2 : Nat) : Int), (21 : Int)))
 have hc : (List.range (2 * b.size)).any (fun i => (if i = 2 * b.size - 1 then decide (S < 10) else (decide (l.getD i 0 > 9) || (decide (i = 0) && (decide (t.Length % 2 = 0) && decide (l.getD i 0 ≠ 0)))))) = ((List.range (l.length - 1)).any (zih l t.Length) || decide (S < 10)) := by
  rw [hzl, Bool.eq_iff_iff, Bool.or_eq_true, List.any_eq_true, List.any_eq_true]; have key : ∀ i, i < 2 * b.size - 1 → (decide (l.getD i 0 > 9) || (decide (i = 0) && (decide (t.Length % 2 = 0) && decide (l.getD i 0 ≠ 0)))) = zih l t.Length i := by
   intro i hi; unfold zih; have hxi : l[i]? = some (l.getD i 0) := by rw [gdd, lge (by omega)]; rfl
   have := hr _ (lmg hxi); rw [hzl]; rw [Bool.eq_iff_iff]; simp only [Bool.or_eq_true, Bool.and_eq_true, decide_eq_true_eq]; omega
  constructor
  · rintro ⟨i, hi, hb⟩
    have hi' := List.mem_range.1 hi; split at hb
    · exact .inr hb
    · rw [key i (by omega)] at hb; exact .inl ⟨i, List.mem_range.2 (by omega), hb⟩
  · rintro (⟨i, hi, hb⟩ | hb)
    · have hi' := List.mem_range.1 hi; refine ⟨i, List.mem_range.2 (by omega), ?_⟩; rw [ifn, key i hi']; exact hb
    · exact ⟨2 * b.size - 1, List.mem_range.2 (by omega), by rw [ifp rfl]; exact hb⟩
 rw [ha] at hc
 unfold zvy
 rw [show zj7 l = S by unfold zj7; rw [hzl]; exact hS.symm]
 cases hf : (List.range (2 * b.size)).findSome? (fun i => if (if i = 2 * b.size - 1 then decide (S < 10) else (decide (l.getD i 0 > 9) || (decide (i = 0) && (decide (t.Length % 2 = 0) && decide (l.getD i 0 ≠ 0))))) = true then some (zo2, ((i / 2 : Nat) : Int), (21 : Int)) else none) with
 | some r =>
  obtain ⟨i, _, hi⟩ := eof hf
  by_cases hq : (if i = 2 * b.size - 1 then decide (S < 10) else (decide (l.getD i 0 > 9) || (decide (i = 0) && (decide (t.Length % 2 = 0) && decide (l.getD i 0 ≠ 0))))) = true
  · rw [ifp hq] at hi; cases hi; rw [hf] at hc; have hc' : ((List.range (l.length - 1)).any (zih l t.Length) || decide (S < 10)) = true := hc.symm; rw [Bool.or_eq_true, decide_eq_true_eq] at hc'; rw [ifp hc']; exact ⟨_, _, _, rfl, by decide⟩
  · rw [ifn hq] at hi; cases hi
 | none =>
  rw [hf] at hc; have hc' : ((List.range (l.length - 1)).any (zih l t.Length) || decide (S < 10)) = false := hc.symm; rw [Bool.or_eq_false_iff, decide_eq_false_iff_not] at hc'; have hnc : ¬ ((List.range (l.length - 1)).any (zih l t.Length) = true ∨ S < 10) := by rw [hc'.1]; simpa using hc'.2
  rw [ifn hnc, hzl]; exact ⟨_, _, _, rfl, rfl, rfl⟩
theorem z75 (N : Nat) (hN : 2000 < N) {t : DataType} (ht : zig t) {b : ByteArray} (hb : (b.size : Int) = szE t) :
 ∃ v a e, zq3 N t b = some (v, a, e) ∧ (match zly t b with | some n => v.N = n ∧ e = 0 | none => e ≠ 0) := by
 obtain ⟨⟨l1, l2⟩, l3, l4⟩ := zgd ht
 have hsz := zqq ht
 have ht' := ht
 obtain ⟨h0, h1, h2⟩ := ht'
 unfold zq3
 rw [zz0, h0]
 simp only [obs, bsf, cfa, zat]
 rw [dcf (show ¬ t.Kind = 4 by omega), dcf (show ¬ t.Kind = 0 by omega), zje h0]
 simp only [obs, cfa]
 rw [hb]
 simp only [bsf, cfa]
 by_cases hk : t.Kind = 3
 · rw [dct hk, ctr]; have hs4 : b.size ≤ 4 ∧ 0 < b.size := by
    rw [hsz, ifn, ifp hk] at hb; split at hb <;> omega
   have hbig : zdc N b 0 (szE t) = some ((beV (bl b) : Nat) : Int) := by
    have := zwd N (by omega) b 0 b.size (by omega) (by omega) (by omega); rw [dr0, ← zam, List.take_length, zam, hb] at this; exact this
   obtain ⟨x0, hx0⟩ : ∃ x, (bl b)[0]? = some x := zej (by rw [zam]; omega); have i0 : zgw b 0 = some x0 := by rw [show (0 : Int) = ((0 : Nat) : Int) from rfl, zhi, hx0]
   have hx00 : (bl b).getD 0 0 = x0 := by rw [gdd, hx0]; rfl
   have hp := z2k N (by omega) t.Length.toNat (by omega); rw [Int.toNat_of_nonneg (by omega)] at hp; have hp2 : 10 ^ t.Length.toNat ≤ 10 ^ 15 := zb4 (by omega); have hp3 := zcb t.Length.toNat; have hv := zzt (bl b); have hv2 : 256 ^ (bl b).length ≤ 256 ^ 4 := Nat.pow_le_pow_right (by decide) (by rw [zam]; omega); rw [hbig, i0]; simp only [obs, znu, hp]; have hbd : zld (bl b) = if 128 ≤ x0.toNat then (beV (bl b) : Int) - (256 ^ (bl b).length : Nat) else (beV (bl b) : Int) := by unfold zld; rw [hx00]
   unfold zly; rw [ifp hk, hbd]; have hsz8 : w6 (8 * szE t) = ((8 * b.size : Nat) : Int) := by rw [← hb, w6e]; omega
   rw [hsz8]; have hpow : (1 : Int) * 2 ^ (min (((8 * b.size : Nat) : Int)).toNat 64) = ((256 ^ (bl b).length : Nat) : Int) := by
    rw [itn, Nat.min_eq_left (by omega), Int.one_mul, zam, show (256 : Nat) = 2 ^ 8 from rfl, ← Nat.pow_mul, Int.natCast_pow]; rfl
   rw [hpow]; generalize 256 ^ (bl b).length = P at *; generalize 10 ^ t.Length.toNat = T at *; rw [w6e (n := (T : Int) - 1), w6e (n := 0 - ((T : Int) - 1)), w6e (n := (P : Int))]
   by_cases hx : 128 ≤ x0.toNat
   · rw [dct (show (x0.toNat : Int) ≥ 128 by omega), ctr, ifn, ifp hx, w6e, zh2]; simp only [obs]
     by_cases hr : -(T : Int) < (beV (bl b) : Int) - (P : Int) ∧ (beV (bl b) : Int) - (P : Int) < (T : Int)
     · rw [ifp hr, zay.2 ⟨by omega, by omega⟩]; exact ⟨_, _, _, rfl, rfl, rfl⟩
     · rw [ifn hr, show inB ((beV (bl b) : Int) - (P : Int)) (0 - ((T : Int) - 1)) ((T : Int) - 1) = false by
        cases hb : inB ((beV (bl b) : Int) - (P : Int)) (0 - ((T : Int) - 1)) ((T : Int) - 1) with
        | false => rfl
        | true => have := zay.1 hb; omega]
       exact ⟨_, _, _, rfl, by decide⟩
   · rw [dcf (show ¬ (x0.toNat : Int) ≥ 128 by omega), cfa, ifn hx, zh2]; simp only [obs]
     by_cases hr : -(T : Int) < (beV (bl b) : Int) ∧ (beV (bl b) : Int) < (T : Int)
     · rw [ifp hr, zay.2 ⟨by omega, by omega⟩]; exact ⟨_, _, _, rfl, rfl, rfl⟩
     · rw [ifn hr, show inB ((beV (bl b) : Int)) (0 - ((T : Int) - 1)) ((T : Int) - 1) = false by
        cases hb : inB ((beV (bl b) : Int)) (0 - ((T : Int) - 1)) ((T : Int) - 1) with
        | false => rfl
        | true => have := zay.1 hb; omega]
       exact ⟨_, _, _, rfl, by decide⟩
 · rw [dcf hk, cfa]
   by_cases hk2 : t.Kind = 2
   · rw [dct hk2, ctr]; have hl : (b.size : Int) = t.Length := by rw [hb, hsz, ifn, ifn hk]
     obtain ⟨v, a, e, g1, g2⟩ := z9v N hN t hk2 b (by omega) (by omega) hl; rw [g1]; exact ⟨_, _, _, rfl, g2⟩
   · rw [dcf hk2, cfa]; have hk1 : t.Kind = 1 := by omega
     obtain ⟨v, a, e, g1, g2⟩ := z73 N hN t hk1 b ⟨l1, l2⟩ (by rw [hb, hsz, ifp hk1]); rw [g1]; exact ⟨_, _, _, rfl, g2⟩
set_option exponentiation.threshold 3000
theorem zni (l : List Int) (x : Int) : dv (l ++ [x]) = dv l + 10 ^ l.length * x.toNat := by
 rw [zr2]; simp [dv]
theorem zs2 (l : List Int) (i : Nat) {x : Int} (h : l[i]? = some x) : dv (l.take (i + 1)) = dv (l.take i) + 10 ^ i * x.toNat := by
 have hl := (gei h).1
 rw [zd0 l i h, zni, lnt, Nat.min_eq_left (Nat.le_of_lt hl)]
theorem zov (l : List Int) (i : Nat) {x : Int} (h : l[i]? = some x) : dv (l.drop i) = x.toNat + 10 * dv (l.drop (i + 1)) := by
 obtain ⟨h1, h2⟩ := gei h
 rw [List.drop_eq_getElem_cons h1, h2]; rfl
theorem zow {l : List Int} (h : dok l) {x : Int} (h0 : 0 ≤ x) (h1 : x < 10) : dok (l ++ [x]) := zt9 h fun d hd => by
 rcases List.mem_cons.1 hd with rfl | hd
 · exact ⟨h0, h1⟩
 · cases hd
theorem z5p {l : List Int} (h : dok l) (hc : zm3 l) (hl : l ≠ []) : 10 ^ (l.length - 1) ≤ dv l := by
 refine cbc fun hn => ?_
 have := (zhd (dv l) (l.length - 1)).2 (by omega)
 rw [zzp h hc] at this
 have : l.length ≠ 0 := fun h => hl (List.length_eq_zero_iff.1 h)
 omega
theorem z64 {l : List Int} (h : dok l) (hg : l ≠ [] → 10 ^ (l.length - 1) ≤ dv l) : zm3 l := by
 unfold zm3
 intro hlast
 have hne : l ≠ [] := by intro h; rw [h] at hlast; cases hlast
 have hg' := hg hne
 have hlen : l.length ≠ 0 := fun h => hne (List.length_eq_zero_iff.1 h)
 have hx : l[l.length - 1]? = some 0 := by rw [← List.getLast?_eq_getElem?]; exact hlast
 have := zs2 l (l.length - 1) hx
 rw [show l.length - 1 + 1 = l.length by omega, List.take_length] at this
 have hlt := zzn (zyg h (l.length - 1))
 rw [lnt, Nat.min_eq_left (by omega)] at hlt
 simp only [Int.toNat_zero, Nat.mul_zero, Nat.add_zero] at this
 omega
theorem zp1 {l : List Int} (h : dok l) {i : Nat} {x : Int} (hx : l[i]? = some x) : 0 ≤ x ∧ x < 10 := h x (lmg hx)
theorem zqr (N : Nat) (l : List Int) (h : dok l) (hN : l.length < N) (hl : l.length < 1000000) : zd2 N l = some (dg (dv l)) := by
 unfold zd2
 obtain ⟨s', h1, h2⟩ := zkk (f := zd2.r0 N) (fun s => dok s ∧ dv s = dv l ∧ s.length < 1000000) (fun s => s.length) (fun s => s = dg (dv l))
  (fun s hs => by
   obtain ⟨s1, s2, s3⟩ := hs; simp only [zd2.r0, zd2.b0]
   by_cases h0 : s.length = 0
   · have hn : s = [] := List.length_eq_zero_iff.1 h0; right; rw [dcf (by omega)]; refine ⟨s, rfl, ?_⟩; rw [← s2, hn]; exact zke.symm
   · obtain ⟨x, hx⟩ : ∃ x, s[s.length - 1]? = some x := zej (by omega); rw [dct (show (s.length : Int) > 0 by omega), w6e, show (s.length : Int) - 1 = ((s.length - 1 : Nat) : Int) by omega, za3, hx]; simp only [ctr, obs]
     by_cases hz : x = 0
     · left; rw [zat, dct hz, ctr, ifp, ifp]; refine ⟨_, rfl, ⟨?_, ?_, ?_⟩, ?_⟩
       · rw [itn, show (0 : Int).toNat = 0 from rfl, dr0]; exact zyg s1 _
       · rw [itn, show (0 : Int).toNat = 0 from rfl, dr0, ← s2]; have := zs2 s (s.length - 1) hx; rw [show s.length - 1 + 1 = s.length by omega, List.take_length, hz] at this; simp only [Int.toNat_zero, Nat.mul_zero, Nat.add_zero] at this; exact this.symm
       · rw [itn, show (0 : Int).toNat = 0 from rfl, dr0, lnt]; omega
       · rw [itn, show (0 : Int).toNat = 0 from rfl, dr0, lnt]; omega
     · right; rw [zat, dcf hz, cfa]; refine ⟨s, rfl, ?_⟩; rw [← s2]; refine (zzp s1 ?_).symm; unfold zm3; rw [List.getLast?_eq_getElem?, hx]; intro h; exact hz (Option.some.inj h))
  (N := N) (s := l) ⟨h, rfl, hl⟩ hN
 rw [h1, h2]
 rfl
theorem z6r {n : Nat} (h : n ≠ 0) : (dg n).length = (dg (n / 10)).length + 1 := by rw [zn4 h, lnc]
theorem zu6 (N : Nat) (hN : 1000 < N) (n : Int) (hn : -1000000000000000 ≤ n ∧ n ≤ 1000000000000000) (z : Nat) (hz : z < 100) : zep N n (z : Int) = some ⟨decide (n < 0), dg (n.natAbs * 10 ^ z)⟩ := by
 unfold zep zj9
 rw [ifp, ifp, zao (by omega), ctr, zn8 (by omega) (by omega), itn]
 simp only [obs]
 have hd19 : (dg n.natAbs).length ≤ 18 := (zhd _ 18).2 (by omega)
 obtain ⟨s', h1, h2⟩ := zkk (f := zep.r0 N) (fun s => ∃ (l : List Int) (x : Nat), s = (n, l, (x : Int), (⟨false, []⟩ : zJ)) ∧ dok l ∧ dv l + 10 ^ l.length * x = n.natAbs * 10 ^ z ∧ l.length + (dg x).length ≤ 200 ∧ x ≤ 1000000000000000)
  (fun s => (dg s.2.2.1.toNat).length) (fun s => ∃ l : List Int, s = (n, l, 0, (⟨false, []⟩ : zJ)) ∧ dok l ∧ dv l = n.natAbs * 10 ^ z ∧ l.length ≤ 200)
  (fun s hs => by
   obtain ⟨l, x, rfl, s1, s2, s3, s4⟩ := hs; simp only [zep.r0, zep.b0]
   by_cases h0 : x = 0
   · right; subst h0; refine ⟨_, rfl, l, rfl, s1, by rw [← s2]; simp, by omega⟩
   · left; have hl := z6r h0; rw [dct (show (x : Int) > 0 by omega), ctr, zao (by simp only [lnc, ln0]; omega), ctr, tme, tde, w6e]; refine ⟨_, rfl, ⟨l ++ [((x % 10 : Nat) : Int)], x / 10, ?_, zow s1 (by omega) (by omega), ?_, ?_, by omega⟩, ?_⟩
     · rw [show (x : Int) % 10 = ((x % 10 : Nat) : Int) by omega, show (x : Int) / 10 = ((x / 10 : Nat) : Int) by omega]
     · rw [zni, itn, lna, lns, Nat.pow_succ, ← s2, Nat.mul_assoc, Nat.add_assoc, ← Nat.mul_add]
       congr 2
       omega
     · rw [lna, lns]; omega
     · show (dg ((x : Int) / 10).toNat).length < (dg ((x : Int)).toNat).length; rw [itn, show ((x : Int) / 10).toNat = x / 10 by omega]; omega)
  (N := N) (s := (n, List.replicate z 0, ((n.natAbs : Nat) : Int), (⟨false, []⟩ : zJ))) ⟨List.replicate z 0, n.natAbs, rfl, zp0 z, by rw [zre, lnr, Nat.zero_add, Nat.mul_comm], by rw [lnr]; omega, by omega⟩ (by show (dg (((n.natAbs : Nat) : Int)).toNat).length < N; rw [itn]; omega)
 obtain ⟨l, rfl, l1, l2, l3⟩ := h2
 rw [h1]
 simp only [obs]
 rw [zqr N l l1 (by omega) (by omega), l2]
 rfl
theorem zib {l : List Int} {i : Nat} (h : l.length ≤ i) : dv (l.drop i) = 0 := by rw [List.drop_of_length_le h]; rfl
theorem z95 (O c x y A B T P : Nat) (hP : O + P * (c + (x + 10 * A) + (y + 10 * B)) = T) : O + P * ((c + x + y) % 10) + P * 10 * ((c + x + y) / 10 + A + B) = T := by
 rw [← hP, Nat.mul_assoc, Nat.add_assoc, ← Nat.mul_add]
 congr 2
 omega
theorem z5f (N : Nat) (hN : 4000 < N) {a b : List Int} (ha : dok a) (hb : dok b) (la : a.length ≤ 1000) (lb : b.length ≤ 1000) :
 ∃ r, ze1 N a b = some r ∧ dok r ∧ dv r = dv a + dv b ∧ r.length ≤ max a.length b.length + 1 ∧ (zm3 a → zm3 b → r = dg (dv a + dv b)) := by
 unfold ze1
 obtain ⟨s', h1, h2⟩ := zkk (f := ze1.r0 N)
  (fun s => ∃ (o : List Int) (c i : Nat), s = (a, b, o, (c : Int), (i : Int)) ∧ o.length = i ∧ dok o ∧ c ≤ 1 ∧ dv o + 10 ^ i * (c + dv (a.drop i) + dv (b.drop i)) = dv a + dv b ∧ (i ≤ max a.length b.length ∨ (i = max a.length b.length + 1 ∧ c = 0 ∧ 10 ^ (max a.length b.length) ≤ dv o)))
  (fun s => 2 * (max a.length b.length - s.2.2.2.2.toNat) + s.2.2.2.1.toNat) (fun s => ∃ (o : List Int), s.2.2.1 = o ∧ dok o ∧ dv o = dv a + dv b ∧ o.length ≤ max a.length b.length + 1 ∧ (o.length ≤ max a.length b.length ∨ 10 ^ (o.length - 1) ≤ dv o) ∧ max a.length b.length ≤ o.length)
  (fun s hs => by
   obtain ⟨o, c, i, rfl, s1, s2, s3, s4, s5⟩ := hs; simp only [ze1.r0, ze1.b0]; have hg : ((cond (decide ((i : Int) < (a.length : Int))) (some true) (some (decide ((i : Int) < (b.length : Int))))).bind fun g1001 => (cond g1001 (some true) (some (decide ((c : Int) > 0))))) = some (decide (i < a.length ∨ i < b.length ∨ 0 < c)) := by
    by_cases h1 : i < a.length
    · rw [dct (show (i : Int) < (a.length : Int) by omega), dct (show i < a.length ∨ i < b.length ∨ 0 < c by omega)]; rfl
    · rw [dcf (show ¬ (i : Int) < (a.length : Int) by omega)]
      by_cases h2 : i < b.length
      · rw [dct (show (i : Int) < (b.length : Int) by omega), dct (show i < a.length ∨ i < b.length ∨ 0 < c by omega)]; rfl
      · rw [dcf (show ¬ (i : Int) < (b.length : Int) by omega)]
        by_cases h3 : 0 < c
        · rw [dct (show (c : Int) > 0 by omega), dct (show i < a.length ∨ i < b.length ∨ 0 < c by omega)]; rfl
        · rw [dcf (show ¬ (c : Int) > 0 by omega), dcf (by omega)]; rfl
   rw [← Option.bind_assoc, hg]; simp only [obs]
   by_cases hgo : i < a.length ∨ i < b.length ∨ 0 < c
   · left; rw [dct hgo, ctr]; have hi : i ≤ max a.length b.length := by
      rcases s5 with s5 | ⟨s5, s6, _⟩ <;> omega
     have hroom : ∀ x : Int, Nat.ble ((o.length + ([x] : List Int).length) * 8) zac = true := fun x => zao (by simp only [lnc, ln0]; omega); obtain ⟨x, A, hx1, hx2⟩ : ∃ (x A : Nat), dv (a.drop i) = x + 10 * A ∧ (dv (a.drop (i + 1)) = A ∧ x < 10 ∧ (if i < a.length then a[i]? = some (x : Int) else x = 0)) := by
      by_cases h : i < a.length
      · obtain ⟨x, hx⟩ : ∃ x, a[i]? = some x := zej h; have hb := zp1 ha hx; have hdr := zov a i hx; exact ⟨x.toNat, dv (a.drop (i + 1)), hdr, rfl, by omega, by rw [ifp h, hx]; congr 1; omega⟩
      · exact ⟨0, 0, by rw [zib (by omega)], by rw [zib (by omega)], by omega, by rw [ifn h]⟩
     obtain ⟨y, B, hy1, hy2⟩ : ∃ (y B : Nat), dv (b.drop i) = y + 10 * B ∧ (dv (b.drop (i + 1)) = B ∧ y < 10 ∧ (if i < b.length then b[i]? = some (y : Int) else y = 0)) := by
      by_cases h : i < b.length
      · obtain ⟨x, hx⟩ : ∃ x, b[i]? = some x := zej h; have hb := zp1 hb hx; have hdr := zov b i hx; exact ⟨x.toNat, dv (b.drop (i + 1)), hdr, rfl, by omega, by rw [ifp h, hx]; congr 1; omega⟩
      · exact ⟨0, 0, by rw [zib (by omega)], by rw [zib (by omega)], by omega, by rw [ifn h]⟩
     obtain ⟨hA, hx3, hx4⟩ := hx2; obtain ⟨hB, hy3, hy4⟩ := hy2; rw [hx1, hy1] at s4; have alg := z95 _ _ _ _ _ _ _ _ s4; refine ⟨(a, b, o ++ [(((c + x + y) % 10 : Nat) : Int)], (((c + x + y) / 10 : Nat) : Int), ((i + 1 : Nat) : Int)), ?_, ⟨o ++ [(((c + x + y) % 10 : Nat) : Int)], (c + x + y) / 10, i + 1, rfl, by rw [lna, lns, s1], zow s2 (by omega) (by omega), by omega, ?_, ?_⟩, ?_⟩
     · have fin : ∀ v : Int, v = ((c + x + y : Nat) : Int) → (cond (Nat.ble ((o.length + ([v.tmod 10] : List Int).length) * 8) zac) (some (Stp.again (a, b, o ++ [v.tmod 10], w6 (v.tdiv 10), w6 ((i : Int) + 1)))) none) = some (.again (a, b, o ++ [(((c + x + y) % 10 : Nat) : Int)], (((c + x + y) / 10 : Nat) : Int), ((i + 1 : Nat) : Int))) := by
        intro v hv; rw [hroom, ctr, hv, tme, tde, w6e, w6e]
        congr 1
       by_cases h1 : i < a.length
       · rw [ifp h1] at hx4; rw [dct (show (i : Int) < (a.length : Int) by omega), ctr, za3, hx4, obs]
         by_cases h2 : i < b.length
         · rw [ifp h2] at hy4; rw [dct (show (i : Int) < (b.length : Int) by omega), ctr, za3, hy4, obs]; refine fin _ ?_; rw [w6e (n := (c : Int) + (x : Int)), w6e]; omega
         · rw [ifn h2] at hy4; rw [dcf (show ¬ (i : Int) < (b.length : Int) by omega), cfa]; refine fin _ ?_; rw [w6e]; omega
       · rw [ifn h1] at hx4; rw [dcf (show ¬ (i : Int) < (a.length : Int) by omega), cfa]
         by_cases h2 : i < b.length
         · rw [ifp h2] at hy4; rw [dct (show (i : Int) < (b.length : Int) by omega), ctr, za3, hy4, obs]; refine fin _ ?_; rw [w6e]; omega
         · rw [ifn h2] at hy4; rw [dcf (show ¬ (i : Int) < (b.length : Int) by omega), cfa]; refine fin _ ?_; omega
     · rw [zni, s1, itn, hA, hB, Nat.pow_succ]; exact alg
     · by_cases him : i = max a.length b.length
       · right; have hx0 : x = 0 := by rw [ifn] at hx4; exact hx4
         have hy0 : y = 0 := by rw [ifn] at hy4; exact hy4
         have hc1 : c = 1 := by omega
         refine ⟨by omega, by omega, ?_⟩; rw [zni, s1, itn, hx0, hy0, hc1, him]; omega
       · left; omega
     · show 2 * (max a.length b.length - ((i + 1 : Nat) : Int).toNat) + (((c + x + y) / 10 : Nat) : Int).toNat < 2 * (max a.length b.length - (i : Int).toNat) + (c : Int).toNat; simp only [itn]
       by_cases him : i = max a.length b.length
       · have hx0 : x = 0 := by rw [ifn] at hx4; exact hx4
         have hy0 : y = 0 := by rw [ifn] at hy4; exact hy4
         omega
       · omega
   · right; rw [dcf hgo, cfa]; rw [zib (by omega), zib (by omega), show c = 0 by omega] at s4; refine ⟨_, rfl, o, rfl, s2, by omega, ?_, ?_, by omega⟩
     · rcases s5 with s5 | ⟨s5, _, _⟩ <;> omega
     · rcases s5 with s5 | ⟨s5, _, s7⟩
       · left; omega
       · right; rw [s1, s5, Nat.add_sub_cancel]; exact s7)
  (N := N) (s := (a, b, [], 0, 0)) ⟨[], 0, 0, rfl, rfl, fun d hd => (List.not_mem_nil hd).elim, by omega, by simp [dv], .inl (by omega)⟩ (by show 2 * (max a.length b.length - (0 : Int).toNat) + (0 : Int).toNat < N; simp only [Int.toNat_zero]; omega)
 obtain ⟨o, ho, o1, o2, o3, o4, o5⟩ := h2
 rw [h1]
 simp only [obs, ho]
 refine ⟨o, rfl, o1, o2, o3, fun hca hcb => ?_⟩
 rw [← o2]
 refine (zzp o1 (z64 o1 fun hne => ?_)).symm
 rcases o4 with o4 | o4
 · have hol : o.length ≠ 0 := fun h => hne (List.length_eq_zero_iff.1 h); have hm : o.length = a.length ∨ o.length = b.length := by omega
   rcases hm with hm | hm
   · have := z5p ha hca (fun h => by rw [h] at hm; exact hol hm); rw [hm, o2]; omega
   · have := z5p hb hcb (fun h => by rw [h] at hm; exact hol hm); rw [hm, o2]; omega
 · exact o4
theorem zxw (N : Nat) (hN : 4000 < N) (a b : Nat) (ha : a < 10 ^ 900) (hb : b < 10 ^ 900) : ze1 N (dg a) (dg b) = some (dg (a + b)) := by
 obtain ⟨r, h1, _, _, _, h2⟩ := z5f N hN (zjn a) (zjn b) (Nat.le_trans ((zhd a 900).2 ha) (by decide)) (Nat.le_trans ((zhd b 900).2 hb) (by decide))
 rw [h1, h2 (z5q a) (z5q b), zj3, zj3]
theorem zxx (N : Nat) (hN : 4000 < N) (a b : Nat) (ha : a < 10 ^ 900) (hb : b < 10 ^ 900) : zfj N (dg a) (dg b) = some (zhv a b) := by
 have la : (dg a).length ≤ 900 := (zhd a 900).2 ha
 have lb : (dg b).length ≤ 900 := (zhd b 900).2 hb
 unfold zfj
 by_cases hl : (dg a).length = (dg b).length
 · rw [zcj, dcf (by omega), cfa]; have key := z8o (f := zfj.r0 N) (fun s => ∃ i : Nat, s = (dg a, dg b, (i : Int) - 1) ∧ i ≤ (dg a).length ∧ (dg a).drop i = (dg b).drop i) (fun s => (s.2.2 + 1).toNat) (fun r => r = zhv a b) (fun s => dg a = dg b)
    (fun s hs => by
     obtain ⟨i, rfl, s1, s2⟩ := hs; simp only [zfj.r0, zfj.b0]; cases i with
     | zero =>
      right; left; refine ⟨_, rfl, ?_⟩; rw [dr0, dr0] at s2; exact s2
     | succ i =>
      obtain ⟨x, hx⟩ : ∃ x, (dg a)[i]? = some x := zej (by omega); obtain ⟨y, hy⟩ : ∃ y, (dg b)[i]? = some y := zej (by omega); rw [dct (show ((i + 1 : Nat) : Int) - 1 ≥ 0 by omega), ctr, show ((i + 1 : Nat) : Int) - 1 = (i : Int) by omega, za3, za3, hx, hy]; simp only [obs, zhf]; obtain ⟨hxl, hxe⟩ := gei hx; obtain ⟨hyl, hye⟩ := gei hy
      by_cases hxy : x = y
      · left; rw [zcj, dcf (by omega), cfa, w6e]; refine ⟨_, rfl, ⟨i, rfl, by omega, ?_⟩, ?_⟩
        · rw [List.drop_eq_getElem_cons hxl, List.drop_eq_getElem_cons hyl, hxe, hye, hxy, s2]
        · show ((i : Int) - 1 + 1).toNat < ((i : Int) + 1).toNat; omega
      · right; right; rw [zcj, dct hxy, ctr]; refine ⟨_, rfl, ?_⟩; unfold zhv
        by_cases hlt : x < y
        · have := z82 (zjn a) (zjn b) i hxl hyl s2 (by rw [hxe, hye]; exact hlt); rw [zj3, zj3] at this; rw [dcf (by omega), ifp this]; decide
        · have := z82 (zjn b) (zjn a) i hyl hxl s2.symm (by rw [hxe, hye]; omega); rw [zj3, zj3] at this; rw [dct (by omega), ifn, ifp this]; decide)
    (N := N) (s := (dg a, dg b, ((dg a).length : Int) - 1)) ⟨(dg a).length, rfl, Nat.le_refl _, by rw [List.drop_of_length_le (Nat.le_refl _), List.drop_of_length_le (by omega)]⟩ (by show (((dg a).length : Int) - 1 + 1).toNat < N; omega)
   rw [w6e]; rcases key with ⟨s', h1, h2⟩ | ⟨r, h1, h2⟩
   · have e := congrArg dv h2; rw [zj3, zj3] at e; rw [h1, e]; unfold zhv; rw [ifn, ifn]; rfl
   · rw [h1, h2]; rfl
 · rw [zcj, dct (by omega), ctr, zhf]; simp only [obs]; unfold zhv
   by_cases hlt : (dg a).length < (dg b).length
   · rw [dcf (by omega), ifp (zzo hlt)]; rfl
   · have h2 := zzo (a := b) (b := a) (by omega); rw [dct (by omega), ifn, ifp h2]; rfl
theorem zxy (N : Nat) (hN : 4000 < N) (a b : Nat) (ha : a < 10 ^ 900) (hba : b ≤ a) : zfk N (dg a) (dg b) = some (dg (a - b)) := by
 have la : (dg a).length ≤ 900 := (zhd a 900).2 ha
 have lab : (dg b).length ≤ (dg a).length := (zhd b _).2 (Nat.lt_of_le_of_lt hba ((zhd a _).1 (Nat.le_refl _)))
 have hA := zjn a
 have hB := zjn b
 have vA := zj3 a
 have vB := zj3 b
 unfold zfk
 generalize dg a = A at *
 generalize dg b = B at *
 obtain ⟨s', h1, h2⟩ := zkk (f := zfk.r0 N)
  (fun s => ∃ (o : List Int) (c i : Nat), s = (A, B, o, (c : Int), (i : Int)) ∧ o.length = i ∧ i ≤ A.length ∧ dok o ∧ c ≤ 1 ∧ dv o + dv (B.take i) = dv (A.take i) + 10 ^ i * c)
  (fun s => A.length - s.2.2.2.2.toNat) (fun s => ∃ c : Nat, dok s.2.2.1 ∧ s.2.2.1.length = A.length ∧ dv s.2.2.1 + b = a + 10 ^ A.length * c)
  (fun s hs => by
   obtain ⟨o, c, i, rfl, s1, s2, s3, s4, s5⟩ := hs; simp only [zfk.r0, zfk.b0]
   by_cases hi : i < A.length
   · left; obtain ⟨x, hx⟩ : ∃ x, A[i]? = some x := zej hi; obtain ⟨x0, x1⟩ := zp1 hA hx; have tA := zs2 A i hx; have hroom : ∀ x : Int, Nat.ble ((o.length + ([x] : List Int).length) * 8) zac = true := fun x => zao (by simp only [lnc, ln0]; omega); rw [dct (show (i : Int) < (A.length : Int) by omega), ctr, za3, hx]; simp only [obs, zhf]; obtain ⟨y, hy1, hy2, hy3⟩ : ∃ y : Int, (0 ≤ y ∧ y < 10) ∧ dv (B.take (i + 1)) = dv (B.take i) + 10 ^ i * y.toNat ∧ (if i < B.length then B[i]? = some y else y = 0) := by
      by_cases h : i < B.length
      · obtain ⟨y, hy⟩ : ∃ y, B[i]? = some y := zej h; exact ⟨y, zp1 hB hy, zs2 B i hy, by rw [ifp h]; exact hy⟩
      · exact ⟨0, by omega, by rw [List.take_of_length_le (by omega), List.take_of_length_le (by omega)]; simp, by rw [ifn h]⟩
     have fin : ∀ v : Int, v = x - (c : Int) - y → (cond (Nat.ble ((o.length + ([w6 (v + w6 (10 * cond (decide (v < 0)) 1 0))] : List Int).length) * 8) zac) (some (Stp.again (A, B, o ++ [w6 (v + w6 (10 * cond (decide (v < 0)) 1 0))], cond (decide (v < 0)) (1 : Int) 0, w6 ((i : Int) + 1)))) none) = some (Stp.again (A, B, o ++ [if v < 0 then v + 10 else v], ((if v < 0 then 1 else 0 : Nat) : Int), ((i + 1 : Nat) : Int))) := by
      intro v hv; rw [hroom, ctr, w6e (n := (i : Int) + 1)]
      by_cases hneg : v < 0
      · rw [dct hneg, ifp hneg, ifp hneg, ctr, w6e (n := 10 * 1) (by decide) (by decide), w6e]; rfl
      · rw [dcf hneg, ifn hneg, ifn hneg, cfa, w6e (n := 10 * 0) (by decide) (by decide), w6e, Int.mul_zero, Int.add_zero]; rfl
     refine ⟨(A, B, o ++ [if x - (c : Int) - y < 0 then x - (c : Int) - y + 10 else x - (c : Int) - y], ((if x - (c : Int) - y < 0 then 1 else 0 : Nat) : Int), ((i + 1 : Nat) : Int)), ?_, ⟨_, _, _, rfl, by rw [lna, lns, s1], by omega, zow s3 (by split <;> omega) (by split <;> omega), zzg _, ?_⟩, ?_⟩
     · by_cases h : i < B.length
       · rw [ifp h] at hy3; rw [dct (show (i : Int) < (B.length : Int) by omega), ctr, za3, hy3, obs, w6e (n := x - (c : Int)), w6e (n := x - (c : Int) - y)]; exact fin _ rfl
       · rw [ifn h] at hy3; rw [dcf (show ¬ (i : Int) < (B.length : Int) by omega), cfa, w6e (n := x - (c : Int))]; have := fin (x - (c : Int)) (by omega); rw [this, hy3, Int.sub_zero]
     · rw [zni, hy2, tA, s1, Nat.pow_succ]; generalize 10 ^ i = P at *; have e : ∀ u : Nat, P * 10 * u = P * (10 * u) := fun u => Nat.mul_assoc _ _ _; rw [e]; have lin : (if x - (c : Int) - y < 0 then x - (c : Int) - y + 10 else x - (c : Int) - y).toNat + y.toNat + c = x.toNat + 10 * (if x - (c : Int) - y < 0 then 1 else 0) := by split <;> omega
       have := congrArg (P * ·) lin; simp only [Nat.mul_add] at this; generalize P * (if x - (c : Int) - y < 0 then x - (c : Int) - y + 10 else x - (c : Int) - y).toNat = U at *; generalize P * (10 * (if x - (c : Int) - y < 0 then 1 else 0)) = V at *; omega
     · show A.length - ((i + 1 : Nat) : Int).toNat < A.length - (i : Int).toNat; simp only [itn]; omega
   · right; rw [dcf (show ¬ (i : Int) < (A.length : Int) by omega), cfa]; rw [List.take_of_length_le (by omega), List.take_of_length_le (by omega), vA, vB] at s5; exact ⟨_, rfl, c, s3, (show o.length = A.length by omega), by rw [show A.length = i by omega]; exact s5⟩)
  (N := N) (s := (A, B, [], 0, 0)) ⟨[], 0, 0, rfl, rfl, by omega, fun d hd => (List.not_mem_nil hd).elim, by omega, by simp [dv]⟩ (by show A.length - (0 : Int).toNat < N; omega)
 obtain ⟨c, o1, o2, o3⟩ := h2
 have hlt := zzn o1
 rw [o2] at hlt
 have hc : c = 0 := by
  refine cbc fun h => ?_; have := Nat.mul_le_mul_left (10 ^ A.length) (show 1 ≤ c by omega); rw [Nat.mul_one] at this; clear ha; generalize 10 ^ A.length * c = M at *; generalize 10 ^ A.length = P at *; omega
 rw [h1]
 simp only [obs]
 rw [zqr N _ o1 (by omega) (by omega), show dv s'.2.2.1 = a - b by rw [hc] at o3; omega]
 rfl
def sgn (s : Bool) (m : Nat) : Int := cond s (-(m : Int)) m
theorem zqu (m : Nat) : decide (((dg m).length : Int) > 0) = decide (m ≠ 0) := by
 simp only [decide_eq_decide]
 constructor
 · intro h h2; rw [h2, zke] at h; simp at h
 · intro h; rw [zn4 h, lnc]; omega
theorem z3e (m : Nat) : (((dg m).length : Int) == 0) = decide (m = 0) := by
 rw [zat]
 simp only [decide_eq_decide]
 constructor
 · intro h; refine cbc fun h2 => ?_; rw [zn4 h2, lnc] at h; omega
 · intro h; rw [h, zke]; rfl
theorem z2j (N : Nat) (hN : 4000 < N) (s u : Bool) (p q : Nat) (hp : p < 10 ^ 800) (hq : q < 10 ^ 800) : ∃ v m, zpk N ⟨s, dg p⟩ ⟨u, dg q⟩ = some ⟨v, dg m⟩ ∧ sgn v m = sgn s p + sgn u q ∧ m ≤ p + q := by
 have h89 : (10 : Nat) ^ 800 < 10 ^ 900 := by decide
 unfold zpk
 rw [zxw N hN p q (by omega) (by omega), zxx N hN p q (by omega) (by omega)]
 simp only [obs]
 by_cases hsu : s = u
 · subst hsu; simp only [bst, ctr]; exact ⟨_, _, rfl, by unfold sgn; cases s <;> simp <;> omega, by omega⟩
 · rw [show (s == u) = false from beq_eq_false_iff_ne.2 hsu, cfa]; unfold zhv
   by_cases h : p < q
   · rw [ifp h, zxy N hN q p (by omega) (Nat.le_of_lt h)]; simp only [show decide ((-1 : Int) < 0) = true from rfl, ctr, obs, zqu]; have hz : decide (q - p ≠ 0) = true := dct (by omega); rw [hz]; refine ⟨u, q - p, by cases u <;> rfl, ?_, by omega⟩; unfold sgn; cases s <;> cases u <;> simp_all <;> omega
   · have hf : ∀ k : Int, decide ((if q < p then (1 : Int) else 0) < 0) = false := fun _ => by split <;> rfl
     rw [ifn h, hf 0, zxy N hN p q (by omega) (by omega)]; simp only [cfa, obs, zqu]; refine ⟨s && decide (p - q ≠ 0), p - q, by cases s <;> rfl, ?_, by omega⟩; unfold sgn
     by_cases hz : p - q = 0
     · rw [dcf (by omega)]; cases s <;> cases u <;> simp_all <;> omega
     · rw [dct hz]; cases s <;> cases u <;> simp_all <;> omega
theorem zw3 (N : Nat) (hN : 1000 < N) {a b : Number} (ha : zcu a) (hb : zcu b) : zmq N a b = some (⟨decide (a.N < 0), dg (zak a (zi a b)).natAbs⟩, ⟨decide (b.N < 0), dg (zak b (zi a b)).natAbs⟩, zi a b) := by
 obtain ⟨s1, s2, s3, s4⟩ := zl2 ha hb
 obtain ⟨⟨a1, a2⟩, a3, a4⟩ := ha
 obtain ⟨⟨b1, b2⟩, b3, b4⟩ := hb
 unfold zmq
 rw [show (if b.Scale > a.Scale then b.Scale else a.Scale) = zi a b from rfl, w6e, w6e]
 have e1 := zu6 N hN a.N ⟨by omega, by omega⟩ (zi a b - a.Scale).toNat (by omega)
 have e2 := zu6 N hN b.N ⟨by omega, by omega⟩ (zi a b - b.Scale).toNat (by omega)
 rw [Int.toNat_of_nonneg (by omega)] at e1 e2
 rw [e1, obs, e2, obs, zid, zid]
theorem zqf (x : Number) (s : Int) : sgn (decide (x.N < 0)) (zak x s).natAbs = zak x s := by
 have := znp x s
 unfold sgn
 by_cases h : x.N < 0
 · rw [dct h, ctr]; have := this.2 h; omega
 · rw [dcf h, cfa]; have : ¬ zak x s < 0 := fun h2 => h (this.1 h2); omega
theorem z5b (s : Bool) (m : Nat) : sgn (!s) m = -sgn s m := by unfold sgn; cases s <;> simp
theorem p30 {n : Nat} (h : n ≤ 10 ^ 30) : n < 10 ^ 800 := Nat.lt_of_le_of_lt h (by decide)
theorem z2n (N : Nat) (hN : 4000 < N) {a b : Number} (ha : zcu a) (hb : zcu b) : zk2 N a b = some (zz7 (zak a (zi a b)) (zak b (zi a b))) := by
 obtain ⟨s1, s2, s3, s4⟩ := zl2 ha hb
 unfold zk2
 try simp only [eN]
 rw [zw3 N (by omega) ha hb]
 simp only [obs]
 obtain ⟨v, m, h1, h2, _⟩ := z2j N hN (decide (a.N < 0)) (!decide (b.N < 0)) _ _ (p30 (zik ha s4)) (p30 (zik hb s4))
 rw [h1]
 simp only [obs, z3e, zhf]
 rw [z5b, zqf, zqf] at h2
 generalize zak a (zi a b) = A at *
 generalize zak b (zi a b) = B at *
 unfold sgn at h2
 unfold zz7
 by_cases hz : m = 0
 · rw [dct hz, ctr]; have : A = B := by cases v <;> simp_all <;> omega
   rw [ifn, ifn]
 · rw [dcf hz, cfa]; cases v with
   | true =>
    rw [ctr] at h2; rw [ifp]; decide
   | false =>
    rw [cfa] at h2; rw [ifn, ifp]; decide
theorem zacd (O c x y A P T : Nat) (hP : O + P * (c + (x + 10 * A) * y) = T) : O + P * ((c + x * y) % 10) + P * 10 * ((c + x * y) / 10 + A * y) = T := by
 rw [← hP, Nat.mul_assoc, Nat.add_assoc, ← Nat.mul_add, Nat.add_mul, Nat.mul_assoc 10 A y]
 congr 2
 generalize x * y = z at *
 generalize A * y = w at *
 omega
theorem zadv (N : Nat) (hN : 4000 < N) (p : Nat) (hp : p < 10 ^ 100) (o : List Int) (L3 L4 : zJ) (i : Nat) (hi : i ≤ 100) (y : Nat) (hy : y < 10) (hy2 : L3.zU[i]? = some (y : Int)) (s : Bool) :
 ∃ row c k, zq (zb1.r2 N) N (o, (i : Int), List.replicate i (0 : Int), 0, 0, (⟨s, dg p⟩ : zJ), L3, L4) = some (o, (i : Int), row, c, k, ⟨s, dg p⟩, L3, L4) ∧ dok row ∧ dv row = 10 ^ i * (p * y) ∧ row.length ≤ 300 := by
 have lp : (dg p).length ≤ 100 := (zhd p 100).2 hp
 have hA := zjn p
 have vA := zj3 p
 generalize dg p = A at *
 obtain ⟨s', h1, h2⟩ := zkk (f := zb1.r2 N)
  (fun t => ∃ (row : List Int) (c k : Nat), t = (o, (i : Int), row, (c : Int), (k : Int), (⟨s, A⟩ : zJ), L3, L4) ∧ row.length = i + k ∧ k ≤ A.length + 1 ∧ dok row ∧ c ≤ 8 ∧ dv row + 10 ^ (i + k) * (c + dv (A.drop k) * y) = 10 ^ i * (p * y) ∧ (A.length < k → c = 0))
  (fun t => 2 * (A.length - t.2.2.2.2.1.toNat) + (if t.2.2.2.1 = 0 then 0 else 1)) (fun t => ∃ (row : List Int) (c k : Int), t = (o, (i : Int), row, c, k, (⟨s, A⟩ : zJ), L3, L4) ∧ dok row ∧ dv row = 10 ^ i * (p * y) ∧ row.length ≤ 300)
  (fun t ht => by
   obtain ⟨row, c, k, rfl, s1, s2, s3, s4, s5, s6⟩ := ht; have hroom : ∀ x : Int, Nat.ble ((row.length + ([x] : List Int).length) * 8) zac = true := fun x => zao (by simp only [lnc, ln0]; omega); simp only [zb1.r2, zb1.b2]
   by_cases hk : k < A.length
   · left; obtain ⟨x, hx⟩ : ∃ x, A[k]? = some x := zej hk; obtain ⟨x0, x1⟩ := zp1 hA hx; obtain ⟨u, rfl⟩ : ∃ u : Nat, x = (u : Int) := ⟨x.toNat, by omega⟩; have hd := zov A k hx; rw [itn] at hd; have hmul : u * y ≤ 9 * 9 := Nat.mul_le_mul (by omega) (by omega); rw [dct (show (k : Int) < (A.length : Int) by omega)]; simp only [ctr, obs]; rw [za3, hx, za3, hy2]; simp only [obs]; have hv : w6 ((c : Int) + w6 ((u : Int) * (y : Int))) = ((c + u * y : Nat) : Int) := by
      rw [← Int.natCast_mul, w6e (n := ((u * y : Nat) : Int)), w6e]; omega
     rw [hv, hroom, ctr, tme, tde, w6e (n := ((c + u * y : Nat) : Int) / 10), w6e (n := (k : Int) + 1)]; rw [hd] at s5; have alg := zacd _ _ _ _ _ _ _ s5; refine ⟨_, rfl, ⟨row ++ [(((c + u * y) % 10 : Nat) : Int)], (c + u * y) / 10, k + 1, ?_, ?_, by omega, zow s3 (by omega) (by omega), by omega, ?_, fun h => by omega⟩, ?_⟩
     · generalize u * y = z; rw [show ((c + z : Nat) : Int) % 10 = (((c + z) % 10 : Nat) : Int) by omega, show ((c + z : Nat) : Int) / 10 = (((c + z) / 10 : Nat) : Int) by omega]; rfl
     · rw [lna, lns, s1]; omega
     · rw [zni, s1, itn, show i + (k + 1) = i + k + 1 by omega, Nat.pow_succ]; exact alg
     · show 2 * (A.length - ((k : Int) + 1).toNat) + (if ((c + u * y : Nat) : Int) / 10 = 0 then 0 else 1) < 2 * (A.length - (k : Int).toNat) + (if (c : Int) = 0 then 0 else 1); have := zzg (((c + u * y : Nat) : Int) / 10 = 0); split <;> split <;> omega
   · rw [dcf (show ¬ (k : Int) < (A.length : Int) by omega)]; simp only [cfa, obs]; rw [zib (show A.length ≤ k by omega)] at s5
     by_cases hc : c = 0
     · right; rw [dcf (show ¬ (c : Int) > 0 by omega), cfa]; refine ⟨_, rfl, row, _, _, rfl, s3, ?_, by omega⟩; rw [hc] at s5; simpa using s5
     · left; have hkA : k = A.length := by
        refine cbc fun h => hc (s6 (by omega))
       rw [dct (show (c : Int) > 0 by omega), ctr, hroom, ctr, tme, tde, w6e (n := (c : Int) / 10), w6e (n := (k : Int) + 1)]; refine ⟨_, rfl, ⟨row ++ [(c : Int)], 0, k + 1, ?_, ?_, by omega, zow s3 (by omega) (by omega), by omega, ?_, fun _ => rfl⟩, ?_⟩
       · rw [show (c : Int) % 10 = (c : Int) by omega, show (c : Int) / 10 = ((0 : Nat) : Int) by omega]; rfl
       · rw [lna, lns, s1]; omega
       · rw [zni, s1, itn, zib (show A.length ≤ k + 1 by omega)]; simp only [Nat.zero_mul, Nat.add_zero, Nat.mul_zero] at s5 ⊢; exact s5
       · show 2 * (A.length - ((k : Int) + 1).toNat) + (if (c : Int) / 10 = 0 then 0 else 1) < 2 * (A.length - (k : Int).toNat) + (if (c : Int) = 0 then 0 else 1); rw [ifp, ifn]; omega)
  (N := N) (s := (o, (i : Int), List.replicate i (0 : Int), 0, 0, (⟨s, A⟩ : zJ), L3, L4)) ⟨List.replicate i 0, 0, 0, rfl, by rw [lnr]; rfl, by omega, zp0 i, by omega, by rw [zre, dr0, vA]; simp, fun h => rfl⟩ (by show 2 * (A.length - (0 : Int).toNat) + (if (0 : Int) = 0 then 0 else 1) < N; rw [ifp rfl]; omega)
 obtain ⟨row, c, k, rfl, r1, r2, r3⟩ := h2
 exact ⟨row, c, k, h1, r1, r2, r3⟩
theorem z6g (N : Nat) (hN : 4000 < N) (s u : Bool) (p q : Nat) (hp : p < 10 ^ 90) (hq : q < 10 ^ 90) : zb1 N ⟨s, dg p⟩ ⟨u, dg q⟩ = some ⟨(s != u) && decide (p * q ≠ 0), dg (p * q)⟩ := by
 have lq : (dg q).length ≤ 90 := (zhd q 90).2 hq
 have hB := zjn q
 have vB := zj3 q
 unfold zb1
 obtain ⟨s', h1, h2⟩ := zkk (f := zb1.r0 N)
  (fun t => ∃ (o : List Int) (i : Nat), t = (o, (i : Int), (⟨s, dg p⟩ : zJ), (⟨u, dg q⟩ : zJ), (⟨false, []⟩ : zJ)) ∧ i ≤ (dg q).length ∧ dok o ∧ o.length ≤ 300 + i ∧ dv o = p * dv ((dg q).take i))
  (fun t => (dg q).length - t.2.1.toNat) (fun t => ∃ o : List Int, (∃ i : Int, t = (o, i, (⟨s, dg p⟩ : zJ), (⟨u, dg q⟩ : zJ), (⟨false, []⟩ : zJ))) ∧ dok o ∧ o.length ≤ 400 ∧ dv o = p * q)
  (fun t ht => by
   obtain ⟨o, i, rfl, s1, s2, s3, s4⟩ := ht; simp only [zb1.r0, zb1.b0]
   by_cases hi : i < (dg q).length
   · left; obtain ⟨y, hy⟩ : ∃ y, (dg q)[i]? = some y := zej hi; obtain ⟨y0, y1⟩ := zp1 hB hy; obtain ⟨w, rfl⟩ : ∃ w : Nat, y = (w : Int) := ⟨y.toNat, by omega⟩; rw [dct (show (i : Int) < ((dg q).length : Int) by omega), ctr, ifp, ifp, zao (by omega), ctr, itn]; obtain ⟨row, c, k, r1, r2, r3, r4⟩ := zadv N hN p (Nat.lt_of_lt_of_le hp (zb4 (by decide))) o (⟨u, dg q⟩ : zJ) (⟨false, []⟩ : zJ) i (by omega) w (by omega) hy s; rw [r1]; simp only [obs]; obtain ⟨r, g1, g2, g3, g4, _⟩ := z5f N hN s2 r2 (by omega) (by omega); rw [g1]; simp only [obs]; rw [w6e]; refine ⟨_, rfl, ⟨r, i + 1, rfl, by omega, g2, ?_, ?_⟩, ?_⟩
     · omega
     · rw [g3, s4, r3, zs2 _ i hy, itn, Nat.mul_add, Nat.mul_left_comm]
     · show (dg q).length - ((i : Int) + 1).toNat < (dg q).length - (i : Int).toNat; omega
   · right; rw [dcf (show ¬ (i : Int) < ((dg q).length : Int) by omega), cfa]; refine ⟨_, rfl, o, ⟨_, rfl⟩, s2, by omega, ?_⟩; rw [s4, List.take_of_length_le (by omega), vB])
  (N := N) (s := ([], 0, (⟨s, dg p⟩ : zJ), (⟨u, dg q⟩ : zJ), (⟨false, []⟩ : zJ))) ⟨[], 0, rfl, by omega, fun d hd => (List.not_mem_nil hd).elim, by simp, by simp [dv]⟩ (by show (dg q).length - (0 : Int).toNat < N; omega)
 obtain ⟨o, ⟨i, rfl⟩, o1, o2, o3⟩ := h2
 rw [h1]
 simp only [obs]
 rw [zqr N o o1 (by omega) (by omega), o3]
 simp only [obs, zqu]
 cases s <;> cases u <;> rfl
theorem z9z (N : Nat) (hN : 4000 < N) (A : List Int) (b r0 : Nat) (hb : 0 < b) (hb2 : b < 10 ^ 500) (Q : List Int) (hQ : dok Q) (i : Nat) (hi : i < Q.length) (hz : Q[i]? = some 0) (hr : r0 < 10 * b) :
 zq (zbq.r2 N) N (A, dg b, Q, dg r0, (i : Int)) = some (A, dg b, Q.set i ((r0 / b : Nat) : Int), dg (r0 % b), (i : Int)) := by
 have h56 : (10 : Nat) ^ 500 * 10 ≤ 10 ^ 900 := by decide
 obtain ⟨s', h1, h2⟩ := zkk (f := zbq.r2 N)
  (fun t => ∃ (r c : Nat), t = (A, dg b, Q.set i (c : Int), dg r, (i : Int)) ∧ r + c * b = r0)
  (fun t => 10 - (zar t.2.2.1 i).toNat) (fun t => t = (A, dg b, Q.set i ((r0 / b : Nat) : Int), dg (r0 % b), (i : Int)))
  (fun t ht => by
   obtain ⟨r, c, rfl, s1⟩ := ht; have hc : c < 10 := by
    refine cbc fun h => ?_; have := Nat.mul_le_mul_right b (show 10 ≤ c by omega); omega
   have hl : (Q.set i (c : Int)).length = Q.length := List.length_set; have hx : (Q.set i (c : Int))[i]? = some (c : Int) := by rw [List.getElem?_set, ifp rfl, ifp hi]
   have hr0 : r ≤ r0 := by omega
   simp only [zbq.r2, zbq.b2]; rw [zxx N hN r b (by omega) (by omega), obs, zst]
   by_cases h : b ≤ r
   · left; rw [dct h, ctr, zxy N hN r b (by omega) h, obs, hl, ifp, ifp, itn, hx]; simp only [obs]; rw [ifp, ifp, w6e, List.set_set]; refine ⟨_, rfl, ⟨r - b, c + 1, rfl, ?_⟩, ?_⟩
     · rw [Nat.add_mul, Nat.one_mul]; omega
     · have g : ∀ v : Int, zar (Q.set i v) i = v := by
        intro v; clear hx hl hz
        induction Q generalizing i with
        | nil => simp at hi
        | cons q Q ih =>
         cases i with
         | zero => rfl
         | succ i =>
          rw [List.set_cons_succ]; show (if i + 1 = 0 then q else zar (Q.set i v) (i + 1 - 1)) = v; rw [ifn, Nat.add_sub_cancel]; exact ih (fun d hd => hQ d (List.mem_cons_of_mem _ hd)) i (by simpa using hi)
       show 10 - (zar (Q.set i ((c : Int) + 1)) i).toNat < 10 - (zar (Q.set i (c : Int)) i).toNat; rw [g, g]; omega
   · right; rw [dcf h, cfa]; refine ⟨_, rfl, ?_⟩; have e1 : r0 / b = c := by rw [← s1, Nat.add_mul_div_right _ _ hb, Nat.div_eq_of_lt (by omega), Nat.zero_add]
     have e2 : r0 % b = r := by rw [← s1, Nat.add_mul_mod_self_right, mel (by omega)]
     rw [e1, e2])
  (N := N) (s := (A, dg b, Q, dg r0, (i : Int))) ⟨r0, 0, by
   have : Q.set i ((0 : Nat) : Int) = Q := by
    refine List.ext_getElem? fun k => ?_; rw [List.getElem?_set]; split
    · rename_i hk; rw [← hk, hz]; rfl
    · rfl
   rw [this], by omega⟩ (by show 10 - (zar Q i).toNat < N; omega)
 rw [h1, h2]
theorem zy3 (N : Nat) (hN : 4000 < N) (a b : Nat) (ha : a < 10 ^ 400) (hb : 0 < b) (hb2 : b < 10 ^ 400) : zbq N (dg a) (dg b) = some (dg (a / b), dg (a % b)) := by
 have la : (dg a).length ≤ 400 := (zhd a 400).2 ha
 have h45 : (10 : Nat) ^ 400 < 10 ^ 500 := by decide
 have hA := zjn a
 have vA := zj3 a
 unfold zbq
 generalize dg a = A at *
 rw [ifp, ifp, zao (by omega), ctr, itn, w6e]
 obtain ⟨s', h1, h2⟩ := zkk (f := zbq.r0 N)
  (fun t => ∃ (Q : List Int) (i : Nat), t = (A, dg b, Q, dg (dv (A.drop i) % b), (i : Int) - 1) ∧ i ≤ A.length ∧ Q.length = A.length ∧ dok Q ∧ dv (Q.drop i) = dv (A.drop i) / b ∧ (∀ k, k < i → Q[k]? = some 0))
  (fun t => (t.2.2.2.2 + 1).toNat) (fun t => dok t.2.2.1 ∧ t.2.2.1.length = A.length ∧ dv t.2.2.1 = a / b ∧ t.2.2.2.1 = dg (a % b))
  (fun t ht => by
   obtain ⟨Q, i, rfl, s1, s2, s3, s4, s5⟩ := ht; simp only [zbq.r0, zbq.b0]; cases i with
   | zero =>
    right; rw [dr0, dr0, vA] at s4; refine ⟨_, rfl, s3, s2, s4, ?_⟩; rw [dr0, vA]
   | succ i =>
    left; obtain ⟨x, hx⟩ : ∃ x, A[i]? = some x := zej (by omega); obtain ⟨x0, x1⟩ := zp1 hA hx; obtain ⟨u, rfl⟩ : ∃ u : Nat, x = (u : Int) := ⟨x.toNat, by omega⟩; have hd := zov A i hx; rw [itn] at hd; have hrb : dv (A.drop (i + 1)) % b < b := Nat.mod_lt _ hb; have hdm := Nat.div_add_mod (dv (A.drop (i + 1))) b; rw [show ((i + 1 : Nat) : Int) - 1 = (i : Int) by omega, dct (show (i : Int) ≥ 0 by omega), ctr, za3, hx]; simp only [obs]; generalize dv (A.drop (i + 1)) = p at *; have lr : (dg (p % b)).length ≤ 500 := (zhd _ 500).2 (by omega); rw [zao (by simp only [lnc, ln0]; omega), ctr]; have hrest : dok ([(u : Int)] ++ dg (p % b)) := zt9 (fun d hd => by
     rcases List.mem_cons.1 hd with rfl | hd
     · omega
     · cases hd) (zjn _)
    rw [zqr N _ hrest (by rw [lna, lns]; omega) (by rw [lna, lns]; omega)]; have hv : dv ([(u : Int)] ++ dg (p % b)) = u + 10 * (p % b) := by
     show (u : Int).toNat + 10 * dv (dg (p % b)) = _; rw [zj3, itn]
    rw [hv]; simp only [obs]; rw [z9z N hN A b (u + 10 * (p % b)) hb (by omega) Q s3 i (by omega) (s5 i (by omega)) (by omega)]; simp only [obs]; rw [w6e]; have eq1 : u + 10 * p = b * (10 * (p / b)) + (u + 10 * (p % b)) := by
     rw [Nat.mul_left_comm]; omega
    have ed : (u + 10 * p) / b = 10 * (p / b) + (u + 10 * (p % b)) / b := by rw [eq1, Nat.mul_add_div hb]
    have em : (u + 10 * p) % b = (u + 10 * (p % b)) % b := by rw [eq1, Nat.mul_add_mod]
    have hdig : (u + 10 * (p % b)) / b < 10 := Nat.div_lt_of_lt_mul (by rw [Nat.mul_comm]; omega); generalize (u + 10 * (p % b)) / b = G at *; refine ⟨_, rfl, ⟨Q.set i (G : Int), i, ?_, by omega, by rw [List.length_set]; exact s2, ?_, ?_, ?_⟩, ?_⟩
    · rw [hd, em]
    · intro d hd; rcases List.mem_or_eq_of_mem_set hd with h | h
      · exact s3 d h
      · rw [h]; omega
    · have hxs : (Q.set i (G : Int))[i]? = some (G : Int) := by rw [List.getElem?_set, ifp rfl, ifp]
      rw [zov _ i hxs, itn, List.drop_set_of_lt (by omega), s4, hd, ed]; omega
    · intro k hk; rw [List.getElem?_set, ifn]; exact s5 k (by omega)
    · show ((i : Int) - 1 + 1).toNat < ((i : Int) + 1).toNat; omega)
  (N := N) (s := (A, dg b, List.replicate A.length 0, [], (A.length : Int) - 1)) ⟨List.replicate A.length 0, A.length, by rw [zib (Nat.le_refl _), Nat.zero_mod, zke], by omega, lnr, zp0 _, by rw [zib (Nat.le_refl _), Nat.zero_div, zib (by rw [lnr]; omega)], fun k hk => by rw [List.getElem?_replicate, ifp hk]⟩ (by show ((A.length : Int) - 1 + 1).toNat < N; omega)
 obtain ⟨o1, o2, o3, o4⟩ := h2
 rw [h1]
 simp only [obs]
 rw [zqr N _ o1 (by omega) (by omega), o3, o4]
 rfl
theorem zu4 (k : Nat) (hk : k ≤ 100) : zjs (k : Int) = some (dg (10 ^ k)) := by
 unfold zjs
 rw [ifp, ifp, zao (by omega), ctr, itn, lnr, zao (by simp only [lnc, ln0]; omega), ctr]
 congr 1
 have h1 : dok (List.replicate k (0 : Int) ++ [1]) := zow (zp0 k) (by decide) (by decide)
 have h2 : dv (List.replicate k (0 : Int) ++ [1]) = 10 ^ k := by rw [zni, zre, lnr]; simp
 rw [← h2]
 refine (zzp h1 ?_).symm
 unfold zm3
 rw [List.getLast?_append]
 simp
def zx5 (p q : Nat) (half : Bool) : Nat := p / q + cond (half && decide (q ≤ p % q + p % q)) 1 0
theorem z9w (N : Nat) (hN : 4000 < N) (s : Bool) (p q : Nat) (hp : p ≤ 10 ^ 100) (hq : 0 < q) (hq2 : q ≤ 10 ^ 100) (k : Nat) (hk : k ≤ 15) (half : Bool) :
 ∃ v, zo7 N ⟨⟨s, dg p⟩, dg q⟩ (k : Int) half = some ⟨v, dg (zx5 (p * 10 ^ k) q half)⟩ ∧ (zx5 (p * 10 ^ k) q half ≠ 0 → v = s) := by
 have hs : p * 10 ^ k ≤ 10 ^ 100 * 10 ^ 15 := Nat.mul_le_mul hp (zb4 hk)
 have h115 : (10 : Nat) ^ 100 * 10 ^ 15 < 10 ^ 400 := by decide
 have h4 : (10 : Nat) ^ 400 < 10 ^ 900 := by decide
 have h14 : (10 : Nat) ^ 100 < 10 ^ 400 := by decide
 have hr := Nat.mod_lt (p * 10 ^ k) hq
 have hdl := Nat.div_le_self (p * 10 ^ k) q
 have lp : (dg p).length ≤ 101 := (zhd p 101).2 (by have : (10 : Nat) ^ 100 < 10 ^ 101 := (by decide); omega)
 unfold zo7
 rw [ifp, ifp, zao (by omega), ctr, itn, lnr, zao (by show (k + (dg p).length) * 8 ≤ 1000000; omega), ctr]
 have hd : dok (List.replicate k (0 : Int) ++ dg p) := zt9 (zp0 k) (zjn p)
 have hv : dv (List.replicate k (0 : Int) ++ dg p) = p * 10 ^ k := by rw [zr2, zre, zj3, lnr, Nat.zero_add, Nat.mul_comm]
 show ∃ v, ((zd2 N (List.replicate k (0 : Int) ++ dg p)).bind _) = _ ∧ _
 rw [zqr N _ hd (by rw [lna, lnr]; omega) (by rw [lna, lnr]; omega), hv]
 simp only [obs]
 rw [zy3 N hN _ q (by omega) hq (by omega)]
 simp only [obs]
 rw [zxw N hN _ _ (by omega) (by omega)]
 simp only [obs]
 rw [zxx N hN _ q (by omega) (by omega)]
 simp only [obs, zst]
 have kk : (cond half (some (decide (q ≤ p * 10 ^ k % q + p * 10 ^ k % q))) (some false)) = some (half && decide (q ≤ p * 10 ^ k % q + p * 10 ^ k % q)) := by cases half <;> rfl
 rw [kk, obs]
 unfold zx5
 cases (half && decide (q ≤ p * 10 ^ k % q + p * 10 ^ k % q)) with
 | true =>
  rw [ctr, ctr, show ([1] : List Int) = dg 1 by rw [zn4 (by decide), show 1 / 10 = 0 from rfl, zke]; rfl, zxw N hN _ 1 (by omega) (by omega)]; simp only [obs, zqu]; refine ⟨s && decide (p * 10 ^ k / q + 1 ≠ 0), by cases s <;> rfl, fun h => ?_⟩; rw [dct h, Bool.and_true]
 | false =>
  rw [cfa, cfa]; simp only [obs, zqu, Nat.add_zero]; refine ⟨s && decide (p * 10 ^ k / q ≠ 0), by cases s <;> rfl, fun h => ?_⟩; rw [dct h, Bool.and_true]
theorem z9x (N : Nat) (hN : 4000 < N) (v : Bool) (m : Nat) (hm : m < 10 ^ 16) : zev N ⟨v, dg m⟩ = some (sgn v m) := by
 have lm : (dg m).length ≤ 16 := (zhd m 16).2 hm
 have hA := zjn m
 have vA := zj3 m
 unfold zev
 generalize dg m = A at *
 have lp := zbl (f := zev.r0 N) (fun i => (((dv (A.drop (A.length - i)) : Nat) : Int), (A.length : Int) - 1 - (i : Int), (⟨v, A⟩ : zJ))) A.length
  (fun i hi => by
   obtain ⟨x, hx⟩ : ∃ x, A[A.length - 1 - i]? = some x := zej (by omega); obtain ⟨x0, x1⟩ := zp1 hA hx; have hd := zov A _ hx; rw [show A.length - 1 - i + 1 = A.length - i by omega] at hd; have hb := zzn (zaam hA (A.length - i)); have hb2 : 10 ^ (A.drop (A.length - i)).length ≤ 10 ^ 16 := zb4 (by rw [List.length_drop]; omega); simp only [zev.r0, zev.b0, dct (show (A.length : Int) - 1 - (i : Int) ≥ 0 by omega), ctr]; rw [show (A.length : Int) - 1 - (i : Int) = ((A.length - 1 - i : Nat) : Int) by omega, za3, hx]; simp only [obs]; rw [w6e (n := 10 * ((dv (A.drop (A.length - i)) : Nat) : Int)), w6e (n := 10 * ((dv (A.drop (A.length - i)) : Nat) : Int) + x), w6e, show A.length - (i + 1) = A.length - 1 - i by omega, hd]
   congr 3
   · omega
   · congr 1
     omega)
  (by simp only [zev.r0, zev.b0, dcf (show ¬ (A.length : Int) - 1 - (A.length : Int) ≥ 0 by omega), cfa]) (N := N) (by omega)
 simp only [Nat.sub_zero, nc0, Int.sub_zero, Nat.sub_self, dr0, zib (Nat.le_refl A.length), vA] at lp
 show ((zq (zev.r0 N) N (0, w6 ((A.length : Int) - 1), (⟨v, A⟩ : zJ))).bind _) = _
 rw [w6e, lp]
 simp only [obs]
 unfold sgn
 cases v
 · rfl
 · rw [ctr, ctr, w6e, Int.zero_sub]
theorem z71 (N : Nat) (hN : 4000 < N) (s : Bool) (p q : Nat) (hp : p ≤ 10 ^ 100) (hq : 0 < q) (hq2 : q ≤ 10 ^ 100) {t : DataType} (ht : zig t) (half : Bool) :
 ∃ n e, zm8 N ⟨⟨s, dg p⟩, dg q⟩ t half = some (n, e) ∧ ((⟨n, ⟨#[]⟩⟩ : Value), e) = zh7 s p q t half := by
 obtain ⟨⟨l1, l2⟩, l3, l4⟩ := zgd ht
 obtain ⟨v, h1, h2⟩ := z9w N hN s p q hp hq hq2 t.Scale.toNat (by omega) half
 rw [Int.toNat_of_nonneg l3] at h1
 unfold zm8
 show ∃ n e, ((zo7 N ⟨⟨s, dg p⟩, dg q⟩ t.Scale half).bind _) = _ ∧ _
 rw [h1]
 simp only [obs]
 have hl := zhd (zx5 (p * 10 ^ t.Scale.toNat) q half) t.Length.toNat
 have e : zh7 s p q t half = if 10 ^ t.Length.toNat ≤ zx5 (p * 10 ^ t.Scale.toNat) q half then (⟨0, ⟨#[]⟩⟩, 19) else (⟨sgn s (zx5 (p * 10 ^ t.Scale.toNat) q half), ⟨#[]⟩⟩, 0) := rfl
 rw [e]
 generalize zx5 (p * 10 ^ t.Scale.toNat) q half = Q at *
 by_cases h : 10 ^ t.Length.toNat ≤ Q
 · rw [ifp h]; have : ¬ (dg Q).length ≤ t.Length.toNat := fun h3 => by have := hl.1 h3; omega
   rw [dct (by omega)]; exact ⟨_, _, rfl, rfl⟩
 · rw [ifn h]; have : (dg Q).length ≤ t.Length.toNat := hl.2 (by omega); have hQ : Q < 10 ^ 16 := Nat.lt_of_lt_of_le (by omega : Q < 10 ^ t.Length.toNat) (zb4 (by omega)); rw [dcf (by omega), cfa, z9x N hN v Q hQ]; refine ⟨_, _, rfl, ?_⟩
   congr 2
   unfold sgn
   by_cases h0 : Q = 0
   · rw [h0]; cases v <;> cases s <;> rfl
   · rw [h2 h0]
theorem zuh {t : DataType} (ht : zig t) : zkr t = some 0 := by
 obtain ⟨h0, h1, h2⟩ := ht
 unfold zkr
 rw [zz0, h0]
 simp only [obs, bsf, cfa]
 rw [ztj, zay.2 ⟨h1, h2⟩]
 simp only [obs, zhf]
 decide
theorem zab1 (N : Nat) (hN : 4000 < N) {x : Number} (hx : zcu x) {t : DataType} (ht : zig t) (half : Bool) : zle N x t half = some (zl7 x t half) := by
 have hx' := hx
 obtain ⟨⟨h1, h2⟩, h3, h4⟩ := hx'
 unfold zle zq2
 rw [zrr, zkc.2 hx]
 simp only [obs, bsf, cfa, eN]
 rw [zuh ht]
 simp only [obs, bsf, cfa]
 have e1 := zu6 N (by omega) x.N ⟨by omega, by omega⟩ 0 (by omega)
 rw [Nat.pow_zero, Nat.mul_one, nc0] at e1
 have e2 := zu4 x.Scale.toNat (by omega)
 rw [Int.toNat_of_nonneg h3] at e2
 rw [e1, obs, e2, obs]
 simp only [obs]
 have hp : x.N.natAbs ≤ 10 ^ 100 := Nat.le_trans (show x.N.natAbs ≤ 10 ^ 15 by omega) (by decide)
 obtain ⟨n, e, g1, g2⟩ := z71 N hN (decide (x.N < 0)) x.N.natAbs (10 ^ x.Scale.toNat) hp (zcb _) (zb4 (by omega)) ht half
 show ((zm8 N ⟨⟨decide (x.N < 0), dg x.N.natAbs⟩, dg (10 ^ x.Scale.toNat)⟩ t half).bind _) = _
 rw [g1]
 simp only [obs]
 rw [g2]
 rfl
theorem z20 {n : Nat} (h : n ≤ 10 ^ 31) : n ≤ 10 ^ 100 := Nat.le_trans h (by decide)
theorem z2u (s : Bool) (p q : Nat) (hq : 0 < q) (t : DataType) (half : Bool) : zh7 s p q t half = zz6 (sgn s p) q t half := z2v s p q hq t half
theorem zab2 (N : Nat) (hN : 4000 < N) {op : Int} (hop : 0 ≤ op ∧ op ≤ 4) {a b : Number} (ha : zcu a) (hb : zcu b) {t : DataType} (ht : zig t) (half : Bool) : zfd N ⟨op, t, half⟩ a b = some (zhb op a b t half) := by
 obtain ⟨s1, s2, s3, s4⟩ := zl2 ha hb
 have la := zik ha s4
 have lb := zik hb s4
 have ha' := ha
 have hb' := hb
 obtain ⟨⟨a1, a2⟩, a3, a4⟩ := ha'
 obtain ⟨⟨b1, b2⟩, b3, b4⟩ := hb'
 have zb := zwy b (zi a b)
 have ga := zqf a (zi a b)
 have gb := zqf b (zi a b)
 have q1 : 10 ^ (zi a b).toNat ≤ 10 ^ 100 := zb4 (by omega)
 unfold zfd
 try simp only [eD]
 rw [zh2, zay.2 hop]
 simp only [obs, bnt, cfa]
 rw [zrr, zrr, zkc.2 ha, zkc.2 hb]
 simp only [obs, bsf, cfa]
 rw [zuh ht]
 simp only [obs, bsf, cfa, eN]
 have fin : ∀ (s : Bool) (p q : Nat), p ≤ 10 ^ 100 → 0 < q → q ≤ 10 ^ 100 → ((zm8 N ⟨⟨s, dg p⟩, dg q⟩ t half).bind fun r6 => some ((⟨r6.1, (⟨#[]⟩ : ByteArray)⟩ : Value), r6.2)) = some (zh7 s p q t half) := fun s p q hp hq hq2 => by
  obtain ⟨n, e, g1, g2⟩ := z71 N hN s p q hp hq hq2 ht half; rw [g1, obs, g2]
 unfold zva
 rw [zw3 N (by omega) ha hb]
 simp only [obs, z3e]
 have ep := zu4 (zi a b).toNat (by omega)
 rw [Int.toNat_of_nonneg s3] at ep
 have g : (cond (op == 3) (some true) (some (op == 4))) = some (decide (op = 3 ∨ op = 4)) := by
  rw [zat, zat]
  by_cases h : op = 3
  · rw [dct h, dct (show op = 3 ∨ op = 4 by omega)]; rfl
  · rw [dcf h]
    by_cases h2 : op = 4
    · rw [dct h2, dct (show op = 3 ∨ op = 4 by omega)]; rfl
    · rw [dcf h2, dcf (show ¬ (op = 3 ∨ op = 4) by omega)]; rfl
 rw [g]
 simp only [obs]
 have hbz : (zak b (zi a b)).natAbs = 0 ↔ b.N = 0 := by
  rw [Int.natAbs_eq_zero]; exact zb
 rw [show (cond (decide (op = 3 ∨ op = 4)) (some (decide ((zak b (zi a b)).natAbs = 0))) (some false)) = some (decide ((op = 3 ∨ op = 4) ∧ b.N = 0)) by
  by_cases h : op = 3 ∨ op = 4
  · rw [dct h, ctr]; congr 1; rw [decide_eq_decide]; constructor
    · intro h2; exact ⟨h, hbz.1 h2⟩
    · intro h2; exact hbz.2 h2.2
  · rw [dcf h, cfa, dcf (fun h2 => h h2.1)]]
 simp only [obs]
 unfold zhb
 by_cases hz : (op = 3 ∨ op = 4) ∧ b.N = 0
 · rw [dct hz, ifp hz]; rfl
 · rw [dcf hz, ifn hz, cfa]
   by_cases o0 : op = 0
   · obtain ⟨v, m, h1, h2, h3⟩ := z2j N hN (decide (a.N < 0)) (decide (b.N < 0)) _ _ (p30 la) (p30 lb); rw [ga, gb] at h2; rw [ifp o0, o0]; simp only [show ((0 : Int) == 1) = false from rfl, show ((0 : Int) == 2) = false from rfl, show ((0 : Int) == 3) = false from rfl, show ((0 : Int) == 4) = false from rfl, cfa]; rw [h1]; simp only [obs]; rw [ep]; simp only [obs, bsf, cfa]; rw [fin v m _ (z20 (by omega)) (zcb _) q1, z2u _ _ _ (zcb _), h2]
   · rw [ifn o0]
     by_cases o1 : op = 1
     · rw [ifp o1, zat, dct o1, ctr]; have hneg : (cond (!decide (b.N < 0)) (some (decide ((((dg (zak b (zi a b)).natAbs).length : Nat) : Int) > 0))) (some false)) = some (!decide (b.N < 0) && decide ((zak b (zi a b)).natAbs ≠ 0)) := by
        rw [zqu]; cases decide (b.N < 0) <;> rfl
       rw [hneg]; simp only [obs]; obtain ⟨v, m, h1, h2, h3⟩ := z2j N hN (decide (a.N < 0)) (!decide (b.N < 0) && decide ((zak b (zi a b)).natAbs ≠ 0)) _ _ (p30 la) (p30 lb); have gb2 : sgn (!decide (b.N < 0) && decide ((zak b (zi a b)).natAbs ≠ 0)) (zak b (zi a b)).natAbs = -zak b (zi a b) := by
        by_cases h0 : (zak b (zi a b)).natAbs = 0
        · have h00 := Int.natAbs_eq_zero.1 h0; rw [h0, dcf (show ¬ (0 : Nat) ≠ 0 by omega), Bool.and_false, h00]; rfl
        · rw [dct h0, Bool.and_true, z5b, gb]
       rw [ga, gb2] at h2; rw [h1]; simp only [obs]; rw [ep]; simp only [obs, bsf, cfa]; rw [fin v m _ (z20 (by omega)) (zcb _) q1, z2u _ _ _ (zcb _), h2, Int.sub_eq_add_neg]
     · rw [ifn o1, zat, dcf o1, cfa]
       by_cases o2 : op = 2
       · rw [ifp o2, zat, dct o2, ctr]; have p90 : ∀ n : Nat, n ≤ 10 ^ 30 → n < 10 ^ 90 := fun n h => Nat.lt_of_le_of_lt h (by decide); rw [z6g N hN _ _ _ _ (p90 _ la) (p90 _ lb)]; simp only [obs]; have e2 := zu4 (2 * zi a b).toNat (by omega); rw [Int.toNat_of_nonneg (by omega)] at e2; rw [w6e, e2]; simp only [obs, bsf, cfa]; have hm : (zak a (zi a b)).natAbs * (zak b (zi a b)).natAbs ≤ 10 ^ 100 := Nat.le_trans (Nat.mul_le_mul la lb) (by decide); rw [fin _ _ _ hm (zcb _) (zb4 (by omega))]; have e3 : (zak a (zi a b)).natAbs * (zak b (zi a b)).natAbs = a.N.natAbs * b.N.natAbs * 10 ^ ((zi a b - a.Scale).toNat + (zi a b - b.Scale).toNat) := by
          rw [zid, zid, Nat.mul_mul_mul_comm, ← Nat.pow_add]
         have e4 : 10 ^ (2 * zi a b).toNat = 10 ^ (a.Scale + b.Scale).toNat * 10 ^ ((zi a b - a.Scale).toNat + (zi a b - b.Scale).toNat) := by
          rw [← Nat.pow_add]; congr 1; omega
         rw [z0u _ (decide (a.N < 0) != decide (b.N < 0)) _ _ (zcb _) _ _ (fun h => by rw [dct h, Bool.and_true]), e3, e4, zy6 _ _ _ _ (zcb _) (zcb _)]
       · rw [ifn o2, zat, dcf o2, cfa]
         by_cases o3 : op = 3
         · have hb0 : b.N ≠ 0 := fun h => hz ⟨.inl o3, h⟩; have hbp : 0 < (zak b (zi a b)).natAbs := by
            have : ¬ (zak b (zi a b)).natAbs = 0 := fun h => hb0 (hbz.1 h); omega
           rw [ifp o3, zat, dct o3, ctr]; simp only [obs, bsf, cfa]; rw [fin _ _ _ (z20 (by omega)) hbp (z20 (by omega))]; have hmin : 0 ≤ a.Scale + b.Scale - zi a b := by unfold zi; split <;> omega
           have e3 : a.N.natAbs * 10 ^ b.Scale.toNat = (zak a (zi a b)).natAbs * 10 ^ (a.Scale + b.Scale - zi a b).toNat := by
            rw [zid, Nat.mul_assoc, ← Nat.pow_add]; congr 2; omega
           have e4 : b.N.natAbs * 10 ^ a.Scale.toNat = (zak b (zi a b)).natAbs * 10 ^ (a.Scale + b.Scale - zi a b).toNat := by
            rw [zid, Nat.mul_assoc, ← Nat.pow_add]; congr 2; omega
           rw [e3, e4, zy6 _ _ _ _ (zcb _) hbp]; rfl
         · have hb0 : b.N ≠ 0 := fun h => hz ⟨by omega, h⟩; have hbp : 0 < (zak b (zi a b)).natAbs := by
            have : ¬ (zak b (zi a b)).natAbs = 0 := fun h => hb0 (hbz.1 h); omega
           have p400 : ∀ n : Nat, n ≤ 10 ^ 30 → n < 10 ^ 400 := fun n h => Nat.lt_of_le_of_lt h (by decide); have hm := Nat.mod_lt (zak a (zi a b)).natAbs hbp; rw [ifn o3, zat, dcf o3, cfa, zat, dct (show op = 4 by omega), ctr, zy3 N hN _ _ (p400 _ la) hbp (p400 _ lb)]; simp only [obs]; rw [ep]; simp only [obs, bsf, cfa]; rw [fin _ _ _ (z20 (by omega)) (zcb _) q1]
theorem zwc (N : Nat) (hN : 2000 < N) {s : Storage} (h : zic s) {a : Int} (ha : zet s a = true) :
 zie N s a = some (match ldV s a with | some o => (zh8 o, 0) | none => (zym, 22)) := by
 obtain ⟨a1, a2, a3⟩ := zju ha
 have hl := h.le
 have hq := h.quad
 have ht := h.tags
 unfold zie
 rw [zz1 h.ok, ha]
 simp only [obs, bnt, cfa]
 have ed : w6 (a.tdiv 16) = (((a / 16).toNat : Nat) : Int) := by
  rw [tde a1, w6e]; omega
 have hi : (a / 16).toNat < s.Tags.length := by omega
 rw [ed, za3, lge hi]
 simp only [obs]
 unfold ldV
 rw [lge hi]
 cases hb : s.Tags[(a / 16).toNat] with
 | false => rfl
 | true =>
  simp only [bnt, cfa, if_true]; unfold zkq; rw [w6e (n := (((a / 16).toNat : Nat) : Int) * 16), w6e, ifp, ifp]; simp only [obs]; have e : s.Bytes.extract ((((a / 16).toNat : Nat) : Int) * 16).toNat ((((a / 16).toNat : Nat) : Int) * 16 + 16).toNat = s.Bytes.extract (16 * (a / 16).toNat) (16 * (a / 16).toNat + 16) := by
   rw [show ((((a / 16).toNat : Nat) : Int) * 16).toNat = 16 * (a / 16).toNat by omega, show ((((a / 16).toNat : Nat) : Int) * 16 + 16).toNat = 16 * (a / 16).toNat + 16 by omega]
  rw [e, z72 N (by omega) _ (by rw [zcr _ _ _ (by omega) (by omega)]; omega), zlt]; obtain ⟨off, _, h2⟩ := h.ptr (a / 16).toNat (by rw [lge hi, hb]); rw [h2]; rfl
theorem z5h {s : Storage} (h : s.Tags.length ≤ 100000) : zdw s = some s := by
 unfold zdw ziz
 rw [zao (by omega)]
 rfl
theorem zxt (N : Nat) (hN : 2000 < N) {s : Storage} (h : zic s) {a : Nat} {d : ByteArray} (hd : a + d.size ≤ s.Bytes.size) (hd0 : 0 < d.size) : zb8 N s (a : Int) d = some (wrV s a d) := by
 have hl := h.le
 have hq := h.quad
 have ht := h.tags
 have hmax : IntKind.i64.max = 9223372036854775807 := by decide
 unfold zb8 zv4
 rw [z5h (by omega), hmax]
 simp only [obs]
 have z1 : (s.Bytes.extract (0 : Int).toNat (a : Int).toNat).size = a := by rw [zcr _ _ _ (by omega) (by omega)]; omega
 rw [ifp, ifp, ifn (by rw [z1]; omega), w6e (n := (a : Int) + (d.size : Int)), ifp]
 have z2 : (s.Bytes.extract ((a : Int) + (d.size : Int)).toNat s.Bytes.size).size = s.Bytes.size - (a + d.size) := by rw [zcr _ _ _ (by omega) (by omega)]; omega
 rw [ifn (by rw [z2, bsa, z1]; omega)]
 simp only [obs]
 have f1 : ((s.Bytes.extract (0 : Int).toNat (a : Int).toNat) ++ d) ++ (s.Bytes.extract ((a : Int) + (d.size : Int)).toNat s.Bytes.size) = (wrV s a d).Bytes := by
  refine zgz ?_; rw [zcz, zcz, zel, zel, show (0 : Int).toNat = 0 from rfl, dr0, show ((a : Int) + (d.size : Int)).toNat = a + d.size by omega, ← zam s.Bytes, List.take_length, itn]; rfl
 rw [f1]
 have lp := zbl (f := zb8.r0 N) (fun i => ((a : Int), d, (i : Int), (⟨⟨#[]⟩, []⟩ : Storage), (⟨(wrV s a d).Bytes, if i = 0 then s.Tags else clr s.Tags a i⟩ : Storage))) d.size
  (fun i hi => by
   have hlen : (if i = 0 then s.Tags else clr s.Tags a i).length = s.Tags.length := by split <;> simp [zwm]
   have ei : w6 ((w6 ((a : Int) + (i : Int))).tdiv 16) = (((a + i) / 16 : Nat) : Int) := by
    rw [w6e (n := (a : Int) + (i : Int)), tde, w6e]; omega
   simp only [zb8.r0, zb8.b0, dct (show (i : Int) < (d.size : Int) by omega), ctr, ei, hlen]; rw [ifp, ifp, itn]; obtain ⟨x, hx⟩ : ∃ x, (if i = 0 then s.Tags else clr s.Tags a i)[(a + i) / 16]? = some x := zej (by omega); rw [hx]; simp only [obs]; rw [w6e]; have e2 : (if i = 0 then s.Tags else clr s.Tags a i).set ((a + i) / 16) false = clr s.Tags a (i + 1) := by
    refine List.ext_getElem? fun k => ?_; rw [zwn, List.getElem?_set, hlen]; have hc : (if i = 0 then s.Tags else clr s.Tags a i)[k]? = if i ≠ 0 ∧ 16 * k < a + i ∧ a < 16 * k + 16 then (if k < s.Tags.length then some false else none) else s.Tags[k]? := by
     by_cases h0 : i = 0
     · rw [ifp h0, ifn]
     · rw [ifn h0, zwn]
       by_cases h1 : 16 * k < a + i ∧ a < 16 * k + 16
       · rw [ifp h1, ifp (show i ≠ 0 ∧ 16 * k < a + i ∧ a < 16 * k + 16 from ⟨h0, h1⟩)]
       · rw [ifn h1, ifn (fun h => h1 h.2)]
    rw [hc]
    by_cases hk : (a + i) / 16 = k
    · rw [ifp hk, ifp (show (a + i) / 16 < s.Tags.length by omega), ifp (show 16 * k < a + (i + 1) ∧ a < 16 * k + 16 by omega), ifp]
    · rw [ifn hk]
      by_cases h1 : i ≠ 0 ∧ 16 * k < a + i ∧ a < 16 * k + 16
      · rw [ifp h1, ifp (show 16 * k < a + (i + 1) ∧ a < 16 * k + 16 by omega)]
      · rw [ifn h1, ifn (show ¬ (16 * k < a + (i + 1) ∧ a < 16 * k + 16) by omega)]
   rw [e2, ifn (show ¬ i + 1 = 0 by omega)]; rfl)
  (by simp only [zb8.r0, zb8.b0, dcf (show ¬ (d.size : Int) < (d.size : Int) by omega), cfa]) (N := N) (by omega)
 simp only [if_true, nc0] at lp
 rw [lp, ifn (show ¬ d.size = 0 by omega)]
 rfl
theorem z4x (N : Nat) (hN : 200 < N) (off : Nat) (h : off ≤ 16777215) : zse N (zh8 off) = some (pbV off) := by
 unfold zse zh8
 have b := fun v k hv hk => zsc N (by omega) v k hv hk
 have hmax : IntKind.i64.max = 9223372036854775807 := by decide
 have sz : ∀ v k, (zc2 (zbb v k)).size = k := fun v k => by
  show (bl (zc2 (zbb v k))).length = k; rw [zgi, lnm, zyk]
 rw [show zbc N 0 1 = _ from b 0 1 (by decide) (by decide), show zbc N 0 2 = _ from b 0 2 (by decide) (by decide), show zbc N 1 6 = _ from b 1 6 (by decide) (by decide), show zbc N (off : Int) 6 = _ from b off 6 (by omega) (by decide), hmax]
 simp only [obs]
 have z0 : (⟨#[0]⟩ : ByteArray).size = 1 := rfl
 rw [ifn (by rw [sz, z0]; decide), ifn (by rw [bsa, sz, z0, sz]; decide), ifn (by rw [bsa, bsa, sz, z0, sz, sz]; decide), ifn (by rw [bsa, bsa, bsa, sz, z0, sz, sz, sz]; decide)]
 refine congrArg some (zgz ?_)
 unfold pbV
 rw [zcz, zcz, zcz, zcz, zgi, zgi, zgi, zgi, zgi]
 simp only [List.map_append]
 rfl
theorem zxv (N : Nat) (hN : 2000 < N) {s : Storage} (h : zic s) {a : Int} (ha : zet s a = true) (off : Nat) (ho : off ≤ 16777215) : zgr N s a (zh8 off) = some (stV s a.toNat off) := by
 obtain ⟨a1, a2, a3⟩ := zju ha
 have hl := h.le
 have hq := h.quad
 have ht := h.tags
 have hA : a = ((a.toNat : Nat) : Int) := by omega
 have hw : a.toNat + (pbV off).size ≤ s.Bytes.size := by rw [zkt]; omega
 unfold zgr
 try simp only [eS]
 rw [z4x N (by omega) off ho]
 simp only [obs]
 have hp := zxt N hN h hw (by rw [zkt]; omega)
 rw [← hA] at hp
 rw [hp]
 simp only [obs]
 have ed : w6 (a.tdiv 16) = ((a.toNat / 16 : Nat) : Int) := by
  rw [tde a1, w6e]; omega
 have hlen : (wrV s a.toNat (pbV off)).Tags.length = s.Tags.length := zwm _ _ _
 rw [ed, ifp, ifp (by rw [hlen]; omega), itn, lge (by rw [hlen]; omega)]
 rfl
def zku (b : ByteArray) (n : Nat) : ByteArray := ⟨((bl b).take n ++ List.replicate (n - b.size) 32).toArray⟩
theorem zvi (b : ByteArray) (n : Nat) : (zku b n).size = n := by
 show ((bl b).take n ++ List.replicate (n - b.size) 32).length = n
 rw [lna, lnt, lnr, zam]; omega
theorem z70 (N : Nat) (c : Nat) (hc : c < 256) (n : Nat) (hn : n < N) (hn2 : n ≤ 100000) : zc0 N (c : Int) (n : Int) = some ⟨(List.replicate n (UInt8.ofNat c)).toArray⟩ := by
 unfold zc0
 have := zbl (f := zc0.r0 N) (fun i => ((c : Int), (n : Int), List.replicate i (c : Int), (i : Int))) n
  (fun i hi => by
   simp only [zc0.r0, zc0.b0, dct (show (i : Int) < (n : Int) by omega), ctr]; rw [zao (by simp only [lnr, lnc, ln0]; omega), ctr, w6e, ← List.replicate_succ']; rfl)
  (by simp only [zc0.r0, zc0.b0, dcf (show ¬ (n : Int) < (n : Int) by omega), cfa]) hn
 simp only [nc0, List.replicate_zero] at this
 rw [this, obs]
 congr 1
 refine zgz ?_
 rw [zgi, List.map_replicate]
 rfl
theorem zu5 (N : Nat) (hN : 10000 < N) (b : ByteArray) (hb : b.size ≤ 5000) (n : Nat) (hn : n ≤ 5000) : zgb N b (n : Int) = some (zku b n) := by
 have hmax : IntKind.i64.max = 9223372036854775807 := by decide
 unfold zgb
 by_cases h : n ≤ b.size
 · rw [dct (by omega), ctr, ifp, ifp]
   congr 1
   refine zgz ?_; rw [zel, show (0 : Int).toNat = 0 from rfl, dr0, itn]; show _ = (bl b).take n ++ List.replicate (n - b.size) 32; rw [show n - b.size = 0 by omega, List.replicate_zero, List.append_nil]
 · rw [dcf (by omega), cfa, w6e, show (n : Int) - (b.size : Int) = ((n - b.size : Nat) : Int) by omega, show (32 : Int) = ((32 : Nat) : Int) from rfl, z70 N 32 (by decide) _ (by omega) (by omega), obs, hmax]; have hs : (⟨(List.replicate (n - b.size) (UInt8.ofNat 32)).toArray⟩ : ByteArray).size = n - b.size := by
    show (List.replicate (n - b.size) (UInt8.ofNat 32)).length = _; rw [lnr]
   rw [ifn (by rw [hs]; omega)]
   congr 1
   refine zgz ?_; rw [zcz]; show bl b ++ List.replicate (n - b.size) 32 = (bl b).take n ++ List.replicate (n - b.size) 32; rw [List.take_of_length_le (by rw [zam]; omega)]
theorem zsd (c : UInt8) : ∀ n, Lib.repeatL [c] n = List.replicate n c
 | 0 => rfl
 | n + 1 => by show c :: Lib.repeatL [c] n = _; rw [zsd c n, List.replicate_succ]
theorem z3k (b : ByteArray) (hb : b.size ≤ 5000) (n : Nat) (hn : n ≤ 5000) : zdu b (n : Int) = some ⟨(bl b ++ List.replicate (n - b.size) 32).toArray⟩ := by
 have hmax : IntKind.i64.max = 9223372036854775807 := by decide
 unfold zdu zob
 rw [w6e]
 have e : (if (0 : Int) > (n : Int) - (b.size : Int) then 0 else (n : Int) - (b.size : Int)) = ((n - b.size : Nat) : Int) := by split <;> omega
 have hs1 : (⟨#[32]⟩ : ByteArray).size = 1 := rfl
 rw [e, ifp ⟨by omega, by omega, by rw [hs1]; omega⟩, obs, itn, zsd, hmax]
 have hs : (⟨(List.replicate (n - b.size) (32 : UInt8)).toArray⟩ : ByteArray).size = n - b.size := by
  show (List.replicate (n - b.size) (32 : UInt8)).length = _; rw [lnr]
 rw [ifn (by rw [hs]; omega)]
 refine congrArg some (zgz ?_)
 rw [zcz]
 rfl
theorem z8q (b : ByteArray) (n : Nat) : (⟨(bl b ++ List.replicate (n - b.size) 32).toArray⟩ : ByteArray).extract 0 n = zku b n := by
 refine zgz ?_
 rw [zel, dr0]
 show (bl b ++ List.replicate (n - b.size) 32).take n = (bl b).take n ++ List.replicate (n - b.size) 32
 rw [List.take_append, zam, List.take_replicate, Nat.min_self]
theorem z02 (b : ByteArray) (n : Nat) : (⟨(bl b ++ List.replicate (n - b.size) 32).toArray⟩ : ByteArray) = zku b (max b.size n) := by
 refine zgz ?_
 show bl b ++ List.replicate (n - b.size) 32 = (bl b).take (max b.size n) ++ List.replicate (max b.size n - b.size) 32
 rw [List.take_of_length_le (by rw [zam]; omega), show max b.size n - b.size = n - b.size by omega]
def zvz (x y : List UInt8) : Int := if Op.bytesLess x y = true then -1 else if x = y then 0 else 1
theorem z38 : ∀ (x y : List UInt8), x.length = y.length → (match (List.range x.length).find? (fun i => x.getD i 0 != y.getD i 0) with | some i => if x.getD i 0 < y.getD i 0 then (-1 : Int) else 1 | none => 0) = zvz x y
 | [], [], _ => rfl
 | [], _ :: _, h => by cases h
 | _ :: _, [], h => by cases h
 | a :: x, b :: y, h => by
  have ih := z38 x y (by simpa using h); rw [lnc, List.range_succ_eq_map, List.find?_cons]; rw [List.getD_cons_zero, List.getD_cons_zero]
  by_cases hab : a = b
  · subst hab; simp only [bsf]; rw [List.find?_map]; have e : ((fun i => (a :: x).getD i 0 != (a :: y).getD i 0) ∘ Nat.succ) = fun i => x.getD i 0 != y.getD i 0 := by
     funext i
     rfl
    rw [e]; have e2 : zvz (a :: x) (a :: y) = zvz x y := by
     unfold zvz; have e3 : Op.bytesLess (a :: x) (a :: y) = Op.bytesLess x y := by
      show (decide (a < a) || (a == a && Op.bytesLess x y)) = _; rw [dcf (UInt8.lt_irrefl a)]; simp
     rw [e3]; simp
    rw [e2, ← ih]; cases (List.range x.length).find? (fun i => x.getD i 0 != y.getD i 0) <;> rfl
  · have hne : (a != b) = true := by simpa using hab
    rw [hne]; simp only [List.getD_cons_zero]; unfold zvz; have e3 : Op.bytesLess (a :: x) (b :: y) = decide (a < b) := by
     show (decide (a < b) || (a == b && Op.bytesLess x y)) = _; rw [show (a == b) = false from beq_eq_false_iff_ne.2 hab, Bool.false_and, Bool.or_false]
    rw [e3]
    by_cases hlt : a < b
    · rw [ifp hlt, ifp (dct hlt)]
    · rw [ifn hlt, ifn (by rw [dcf hlt]; decide), ifn (by intro h; exact hab (List.cons.inj h).1)]
theorem zaey {a b : ByteArray} (h : a.size = b.size) : Extern.BytealgCompare.cmp a b = zvz (bl a) (bl b) := by
 unfold Extern.BytealgCompare.cmp
 rw [← z38 (bl a) (bl b) (by rw [zam, zam, h]), zam, show min a.size b.size = a.size by omega]
 have g : ∀ (c : ByteArray) (i : Nat), i < c.size → c[i]! = (bl c).getD i 0 := fun c i hi => by
  rw [getElem!_pos c i hi, gdd, lge (by rw [zam]; exact hi)]; rfl
 have e : (List.range a.size).find? (fun i => a[i]! != b[i]!) = (List.range a.size).find? (fun i => (bl a).getD i 0 != (bl b).getD i 0) := by
  have key : ∀ l : List Nat, (∀ i ∈ l, i < a.size) → l.find? (fun i => a[i]! != b[i]!) = l.find? (fun i => (bl a).getD i 0 != (bl b).getD i 0) := by
   intro l
   induction l with
   | nil => intro _; rfl
   | cons i l ih =>
    intro hl; have hi := hl i List.mem_cons_self; rw [List.find?_cons, List.find?_cons, g a i hi, g b i (by omega), ih fun j hj => hl j (List.mem_cons_of_mem _ hj)]
  exact key _ fun i hi => List.mem_range.1 hi
 rw [e]
 cases hf : (List.range a.size).find? (fun i => (bl a).getD i 0 != (bl b).getD i 0) with
 | none => simp only []; rw [ifn, ifn]
 | some i =>
  have hi := List.mem_range.1 (List.mem_of_find?_eq_some hf); simp only []; rw [g a i hi, g b i (by omega)]
def zn5 (o : Int) : Int := if o < 0 then 1 else if o = 0 then 2 else 4
theorem z3l (o : Int) : zee o = some (zn5 o) := by
 unfold zee zn5
 by_cases h : o < 0
 · rw [dct h, ifp h]; rfl
 · rw [dcf h, ifn h, cfa]
   by_cases h2 : o = 0
   · rw [dcf (by omega), ifp h2]; rfl
   · rw [dct (by omega), ifn h2]; rfl
theorem zqz (o : Int) : zgu o = some (zn5 o) := by
 unfold zgu zn5
 by_cases h : o < 0
 · rw [dct h, ifp h]; rfl
 · rw [dcf h, ifn h, cfa, zat]
   by_cases h2 : o = 0
   · rw [dct h2, ifp h2]; rfl
   · rw [dcf h2, ifn h2]; rfl
def znm (a b : ByteArray) : Int := zn5 (zvz (bl (zku a (max a.size b.size))) (bl (zku b (max a.size b.size))))
theorem zye (a b : ByteArray) (ha : a.size ≤ 5000) (hb : b.size ≤ 5000) : zcn a b = some (znm a b) := by
 unfold zcn zjj zdt
 rw [z3k a ha b.size hb, z3k b hb a.size ha]
 simp only [obs]
 rw [z02, z02, Nat.max_comm b.size a.size, zaey (by rw [zvi, zvi]), z3l]
 rfl
theorem zxu (N : Nat) (hN : 10000 < N) (a b : ByteArray) (ha : a.size ≤ 5000) (hb : b.size ≤ 5000) : zil N a b = some (znm a b) := by
 unfold zil
 have e : (if (b.size : Int) > (a.size : Int) then (b.size : Int) else (a.size : Int)) = ((max a.size b.size : Nat) : Int) := by split <;> omega
 rw [e, zu5 N hN a ha _ (by omega), zu5 N hN b hb _ (by omega)]
 simp only [obs]
 rw [zrl, zrl, zhf, zhf]
 simp only [obs]
 unfold znm zvz
 generalize bl (zku a (max a.size b.size)) = x
 generalize bl (zku b (max a.size b.size)) = y
 cases hx : Op.bytesLess x y with
 | true =>
  rw [ifp rfl]; simp only [Bool.true_or, bnt, cfa, ctr]; rw [show w6 ((0 : Int) - 1) = -1 by decide, zqz]; rfl
 | false =>
  rw [ifn (by decide)]; simp only [Bool.false_or, cfa]
  by_cases hxy : x = y
  · rw [hxy, ifp rfl]; simp only [bst, bnt, cfa]; rw [show w6 ((0 : Int) - 0) = 0 by decide, zqz]; rfl
  · rw [ifn hxy, show (x == y) = false from beq_eq_false_iff_ne.2 hxy]; simp only [Bool.not_false, ctr]; rw [show w6 ((1 : Int) - 0) = 1 by decide, zqz]; rfl
theorem zadm (x : Int) (i : Nat) : (x.tdiv (10 ^ i)).tdiv 10 = x.tdiv (10 ^ (i + 1)) := by
 have key : ∀ m : Nat, ((m : Int).tdiv (10 ^ i)).tdiv 10 = (m : Int).tdiv (10 ^ (i + 1)) := fun m => by
  rw [show (10 : Int) ^ i = ((10 ^ i : Nat) : Int) by rw [Int.natCast_pow]; rfl, show (10 : Int) ^ (i + 1) = ((10 ^ (i + 1) : Nat) : Int) by rw [Int.natCast_pow]; rfl, ← Int.ofNat_tdiv, ← Int.ofNat_tdiv, show (10 : Int) = ((10 : Nat) : Int) from rfl, ← Int.ofNat_tdiv, Nat.div_div_eq_div_mul, Nat.pow_succ]
 obtain ⟨m, rfl | rfl⟩ := Int.eq_nat_or_neg x
 · exact key m
 · rw [Int.neg_tdiv, Int.neg_tdiv, key m, Int.neg_tdiv]
def zf2 (x : Number) : Int := x.N.tdiv (10 ^ x.Scale.toNat)
theorem zut {x : Number} (hx : zcu x) : -999999999999999 ≤ zf2 x ∧ zf2 x ≤ 999999999999999 := by
 obtain ⟨⟨h1, h2⟩, _⟩ := hx
 have h := Int.natAbs_tdiv_le_natAbs x.N (10 ^ x.Scale.toNat)
 unfold zf2
 omega
theorem z3h (N : Nat) (hN : 100 < N) {x : Number} (hx : zcu x) : zbp N x = some (zf2 x) := by
 have hx' := hx
 obtain ⟨⟨h1, h2⟩, h3, h4⟩ := hx'
 unfold zbp
 obtain ⟨k, hk⟩ : ∃ k : Nat, x.Scale = (k : Int) := ⟨x.Scale.toNat, by omega⟩
 have := zbl (f := zbp.r0 N) (fun i => (x.Scale, (i : Int), (⟨x.N.tdiv (10 ^ i), x.Scale⟩ : Number))) k
  (fun i hi => by
   have hb := Int.natAbs_tdiv_le_natAbs x.N (10 ^ i); have hb2 := Int.natAbs_tdiv_le_natAbs (x.N.tdiv (10 ^ i)) 10; simp only [zbp.r0, zbp.b0, hk, dct (show (i : Int) < (k : Int) by omega), ctr]; rw [w6e (n := (i : Int) + 1), w6e, zadm]; rfl)
  (by simp only [zbp.r0, zbp.b0, hk, dcf (show ¬ (k : Int) < (k : Int) by omega), cfa]) (N := N) (by omega)
 simp only [nc0, Int.pow_zero, Int.tdiv_one, eN] at this
 rw [this]
 show some (x.N.tdiv (10 ^ k)) = some (zf2 x)
 unfold zf2
 rw [hk, itn]
theorem zy1 (N : Nat) (hN : 100 < N) {x : Number} (hx : zcu x) : zjq N x = some (zf2 x) := by
 have hw := zut hx
 obtain ⟨⟨h1, h2⟩, h3, h4⟩ := hx
 unfold zjq
 have hp := z2k N hN x.Scale.toNat (by omega)
 rw [Int.toNat_of_nonneg h3] at hp
 have hpos := zcb x.Scale.toNat
 rw [hp, obs, ifn, show ((10 ^ x.Scale.toNat : Nat) : Int) = 10 ^ x.Scale.toNat by rw [Int.natCast_pow]; rfl]
 show some (w6 (zf2 x)) = _
 rw [w6e]
def zmd (m scale : Nat) : List UInt8 := List.replicate (scale + 1 - (Lib.decDigits m).length) 48 ++ Lib.decDigits m
def ptT (l : List UInt8) (scale : Nat) : List UInt8 := if 0 < scale then l.take (l.length - scale) ++ [46] ++ l.drop (l.length - scale) else l
def sgT (n : Int) (l : List UInt8) : ByteArray := ⟨(if n < 0 then [45] ++ l else l).toArray⟩
def zo3 (x : Number) : ByteArray := sgT x.N (ptT (zmd x.N.natAbs x.Scale.toNat) x.Scale.toNat)
theorem z3p {x : Number} (h0 : 0 ≤ x.Scale) (B : ByteArray) (h1 : x.Scale < (B.size : Int)) (h2 : B.size ≤ 100) :
 ((cond (decide (x.Scale > 0))
 (if 0 ≤ (w6 ((B.size : Int) - x.Scale)) ∧ (w6 ((B.size : Int) - x.Scale)) ≤ (B.size : Int) then (if 0 ≤ (0 : Int) ∧ (0 : Int) ≤ (w6 ((B.size : Int) - x.Scale)) then (if (((B.extract (0 : Int).toNat (w6 ((B.size : Int) - x.Scale)).toNat).size + (⟨#[46]⟩ : ByteArray).size : Nat) : Int) > IntKind.i64.max then none else if 0 ≤ (w6 ((B.size : Int) - x.Scale)) ∧ (w6 ((B.size : Int) - x.Scale)) ≤ (B.size : Int) then (if ((((B.extract (0 : Int).toNat (w6 ((B.size : Int) - x.Scale)).toNat) ++ (⟨#[46]⟩ : ByteArray)).size + (B.extract (w6 ((B.size : Int) - x.Scale)).toNat B.size).size : Nat) : Int) > IntKind.i64.max then none else cond (decide (x.N < 0))
 (if (((⟨#[45]⟩ : ByteArray).size + (((B.extract (0 : Int).toNat (w6 ((B.size : Int) - x.Scale)).toNat) ++ (⟨#[46]⟩ : ByteArray)) ++ (B.extract (w6 ((B.size : Int) - x.Scale)).toNat B.size)).size : Nat) : Int) > IntKind.i64.max then none else some (((⟨#[45]⟩ : ByteArray) ++ (((B.extract (0 : Int).toNat (w6 ((B.size : Int) - x.Scale)).toNat) ++ (⟨#[46]⟩ : ByteArray)) ++ (B.extract (w6 ((B.size : Int) - x.Scale)).toNat B.size))), 0))
 (some ((((B.extract (0 : Int).toNat (w6 ((B.size : Int) - x.Scale)).toNat) ++ (⟨#[46]⟩ : ByteArray)) ++ (B.extract (w6 ((B.size : Int) - x.Scale)).toNat B.size)), 0))) else none) else none) else none)
 (cond (decide (x.N < 0)) (if (((⟨#[45]⟩ : ByteArray).size + B.size : Nat) : Int) > IntKind.i64.max then none else some (((⟨#[45]⟩ : ByteArray) ++ B), 0)) (some (B, 0)))) : Option (ByteArray × Int)) = some (sgT x.N (ptT (bl B) x.Scale.toNat), 0) := by
 have hmax : IntKind.i64.max = 9223372036854775807 := by decide
 have z1 : (⟨#[46]⟩ : ByteArray).size = 1 := rfl
 have z2 : (⟨#[45]⟩ : ByteArray).size = 1 := rfl
 rw [hmax, w6e]
 obtain ⟨k, hk⟩ : ∃ k : Nat, (B.size : Int) - x.Scale = (k : Int) := ⟨((B.size : Int) - x.Scale).toNat, by omega⟩
 have hk2 : k = B.size - x.Scale.toNat := by omega
 rw [hk, itn, show (0 : Int).toNat = 0 from rfl]
 have s1 : (B.extract 0 k).size = k := by rw [zcr _ _ _ (by omega) (by omega)]; omega
 have s2 : (B.extract k B.size).size = B.size - k := by rw [zcr _ _ _ (by omega) (by omega)]
 by_cases hs : x.Scale > 0
 · rw [dct hs, ctr, ifp, ifp, ifn (by rw [s1, z1]; omega), ifp, ifn (by rw [bsa, s1, z1, s2]; omega)]; have e : bl ((B.extract 0 k ++ (⟨#[46]⟩ : ByteArray)) ++ B.extract k B.size) = ptT (bl B) x.Scale.toNat := by
    unfold ptT; rw [zcz, zcz, zel, zel, dr0, ifp, ← zam B, List.take_length, zam, hk2]; rfl
   by_cases hn : x.N < 0
   · rw [dct hn, ctr, ifn (by rw [bsa, bsa, s1, z1, s2, z2]; omega)]
     congr 2
     refine zgz ?_; rw [zcz, e]; unfold sgT; rw [ifp hn]; rfl
   · rw [dcf hn, cfa]
     congr 2
     refine zgz ?_; rw [e]; unfold sgT; rw [ifn hn]; rfl
 · rw [dcf hs, cfa]; have e : ptT (bl B) x.Scale.toNat = bl B := by unfold ptT; rw [ifn]
   rw [e]
   by_cases hn : x.N < 0
   · rw [dct hn, ctr, ifn (by rw [z2]; omega)]
     congr 2
     refine zgz ?_; rw [zcz]; unfold sgT; rw [ifp hn]; rfl
   · rw [dcf hn, cfa]
     congr 2
     unfold sgT; rw [ifn hn]; rfl
theorem z9n {x : Number} (h0 : 0 ≤ x.Scale) (B : ByteArray) (h1 : x.Scale < (B.size : Int)) (h2 : B.size ≤ 100) :
 (cond (decide (x.Scale > 0))
 (if 0 ≤ (w6 ((B.size : Int) - x.Scale)) ∧ (w6 ((B.size : Int) - x.Scale)) ≤ (B.size : Int) then (if 0 ≤ (0 : Int) ∧ (0 : Int) ≤ (w6 ((B.size : Int) - x.Scale)) then (if (((B.extract (0 : Int).toNat (w6 ((B.size : Int) - x.Scale)).toNat).size + (⟨#[46]⟩ : ByteArray).size : Nat) : Int) > IntKind.i64.max then none else if 0 ≤ (w6 ((B.size : Int) - x.Scale)) ∧ (w6 ((B.size : Int) - x.Scale)) ≤ (B.size : Int) then (if ((((B.extract (0 : Int).toNat (w6 ((B.size : Int) - x.Scale)).toNat) ++ (⟨#[46]⟩ : ByteArray)).size + (B.extract (w6 ((B.size : Int) - x.Scale)).toNat B.size).size : Nat) : Int) > IntKind.i64.max then none else cond (decide (x.N < 0))
 (if (((⟨#[45]⟩ : ByteArray).size + (((B.extract (0 : Int).toNat (w6 ((B.size : Int) - x.Scale)).toNat) ++ (⟨#[46]⟩ : ByteArray)) ++ (B.extract (w6 ((B.size : Int) - x.Scale)).toNat B.size)).size : Nat) : Int) > IntKind.i64.max then none else some ((⟨#[45]⟩ : ByteArray) ++ (((B.extract (0 : Int).toNat (w6 ((B.size : Int) - x.Scale)).toNat) ++ (⟨#[46]⟩ : ByteArray)) ++ (B.extract (w6 ((B.size : Int) - x.Scale)).toNat B.size))))
 (some (((B.extract (0 : Int).toNat (w6 ((B.size : Int) - x.Scale)).toNat) ++ (⟨#[46]⟩ : ByteArray)) ++ (B.extract (w6 ((B.size : Int) - x.Scale)).toNat B.size)))) else none) else none) else none)
 (cond (decide (x.N < 0)) (if (((⟨#[45]⟩ : ByteArray).size + B.size : Nat) : Int) > IntKind.i64.max then none else some ((⟨#[45]⟩ : ByteArray) ++ B)) (some B))) = some (sgT x.N (ptT (bl B) x.Scale.toNat)) := by
 have hmax : IntKind.i64.max = 9223372036854775807 := by decide
 have z1 : (⟨#[46]⟩ : ByteArray).size = 1 := rfl
 have z2 : (⟨#[45]⟩ : ByteArray).size = 1 := rfl
 rw [hmax, w6e]
 obtain ⟨k, hk⟩ : ∃ k : Nat, (B.size : Int) - x.Scale = (k : Int) := ⟨((B.size : Int) - x.Scale).toNat, by omega⟩
 have hk2 : k = B.size - x.Scale.toNat := by omega
 rw [hk, itn, show (0 : Int).toNat = 0 from rfl]
 have s1 : (B.extract 0 k).size = k := by rw [zcr _ _ _ (by omega) (by omega)]; omega
 have s2 : (B.extract k B.size).size = B.size - k := by rw [zcr _ _ _ (by omega) (by omega)]
 by_cases hs : x.Scale > 0
 · rw [dct hs, ctr, ifp, ifp, ifn (by rw [s1, z1]; omega), ifp, ifn (by rw [bsa, s1, z1, s2]; omega)]; have e : bl ((B.extract 0 k ++ (⟨#[46]⟩ : ByteArray)) ++ B.extract k B.size) = ptT (bl B) x.Scale.toNat := by
    unfold ptT; rw [zcz, zcz, zel, zel, dr0, ifp, ← zam B, List.take_length, zam, hk2]; rfl
   by_cases hn : x.N < 0
   · rw [dct hn, ctr, ifn (by rw [bsa, bsa, s1, z1, s2, z2]; omega)]; refine congrArg some (zgz ?_); rw [zcz, e]; unfold sgT; rw [ifp hn]; rfl
   · rw [dcf hn, cfa]; refine congrArg some (zgz ?_); rw [e]; unfold sgT; rw [ifn hn]; rfl
 · rw [dcf hs, cfa]; have e : ptT (bl B) x.Scale.toNat = bl B := by unfold ptT; rw [ifn]
   rw [e]
   by_cases hn : x.N < 0
   · rw [dct hn, ctr, ifn (by rw [z2]; omega)]; refine congrArg some (zgz ?_); rw [zcz]; unfold sgT; rw [ifp hn]; rfl
   · rw [dcf hn, cfa]; unfold sgT; rw [ifn hn]; rfl
theorem zwl (m : Nat) : ∀ k, 0 < k → m < 10 ^ k → (Lib.decDigits m).length ≤ k ∧ 0 < (Lib.decDigits m).length := by
 induction m using Nat.strongRecOn with
 | _ m ih =>
  intro k hk hm; rw [Lib.decDigits]
  by_cases h : m < 10
  · rw [dif_pos h, lns]; omega
  · rw [dif_neg h, lna, lns]; obtain ⟨j, rfl⟩ : ∃ j, k = j + 1 := ⟨k - 1, by omega⟩; rw [Nat.pow_succ] at hm; have hj : 0 < j := by
     refine cbc fun h0 => ?_; rw [show j = 0 by omega] at hm; omega
    have := ih (m / 10) (by omega) j hj (by omega); omega
theorem zyh (m scale : Nat) (hm : m < 10 ^ 15) (hs : scale ≤ 15) : scale < (zmd m scale).length ∧ (zmd m scale).length ≤ 16 := by
 have := zwl m 15 (by decide) hm
 unfold zmd
 rw [lna, lnr]
 omega
theorem z8f {x : Number} (hx : zcu x) : zeh x = some (zo3 x, 0) := by
 have hx' := hx
 obtain ⟨⟨h1, h2⟩, h3, h4⟩ := hx'
 have hmax : IntKind.i64.max = 9223372036854775807 := by decide
 have hlen := zwl x.N.natAbs 15 (by decide) (by omega)
 have hdl := zyh x.N.natAbs x.Scale.toNat (by omega) (by omega)
 unfold zeh
 rw [zkj, zkc.2 hx]
 simp only [obs, bsf, cfa]
 rw [zn8 (by omega) (by omega)]
 have hi : zyn (((x.N.natAbs : Nat) : Int)) = some ⟨(Lib.decDigits x.N.natAbs).toArray⟩ := by
  unfold zyn Lib.itoa; rw [ifp ⟨by omega, by omega⟩, ifn, itn]
 rw [hi]
 simp only [obs]
 have hsz : (⟨(Lib.decDigits x.N.natAbs).toArray⟩ : ByteArray).size = (Lib.decDigits x.N.natAbs).length := rfl
 by_cases hle : ((Lib.decDigits x.N.natAbs).length : Int) ≤ x.Scale
 · rw [hsz, dct hle, ctr, w6e (n := x.Scale + 1), w6e]; have hr : zob (⟨#[48]⟩ : ByteArray) (x.Scale + 1 - ((Lib.decDigits x.N.natAbs).length : Int)) = some ⟨(List.replicate (x.Scale.toNat + 1 - (Lib.decDigits x.N.natAbs).length) 48).toArray⟩ := by
    unfold zob; have hs1 : (⟨#[48]⟩ : ByteArray).size = 1 := rfl; rw [ifp ⟨by omega, by omega, by rw [hs1]; omega⟩, zsd, show (x.Scale + 1 - ((Lib.decDigits x.N.natAbs).length : Int)).toNat = x.Scale.toNat + 1 - (Lib.decDigits x.N.natAbs).length by omega]
   rw [hr]; simp only [obs]; have hs2 : (⟨(List.replicate (x.Scale.toNat + 1 - (Lib.decDigits x.N.natAbs).length) (48 : UInt8)).toArray⟩ : ByteArray).size = x.Scale.toNat + 1 - (Lib.decDigits x.N.natAbs).length := by
    show (List.replicate (x.Scale.toNat + 1 - (Lib.decDigits x.N.natAbs).length) (48 : UInt8)).length = _; rw [lnr]
   rw [hmax, ifn (by rw [hs2]; omega)]; have hb : (⟨(List.replicate (x.Scale.toNat + 1 - (Lib.decDigits x.N.natAbs).length) (48 : UInt8)).toArray⟩ : ByteArray) ++ ⟨(Lib.decDigits x.N.natAbs).toArray⟩ = ⟨(zmd x.N.natAbs x.Scale.toNat).toArray⟩ := by
    refine zgz ?_; rw [zcz]; rfl
   rw [hb]; have := z3p h3 ⟨(zmd x.N.natAbs x.Scale.toNat).toArray⟩ (by show x.Scale < ((zmd x.N.natAbs x.Scale.toNat).length : Int); omega) (by show (zmd x.N.natAbs x.Scale.toNat).length ≤ 100; omega); rw [hmax, zabd] at this; unfold zo3; exact this
 · rw [hsz, dcf hle, cfa, ← hsz]; have hb : bl (⟨(Lib.decDigits x.N.natAbs).toArray⟩ : ByteArray) = zmd x.N.natAbs x.Scale.toNat := by
    unfold zmd; rw [show x.Scale.toNat + 1 - (Lib.decDigits x.N.natAbs).length = 0 by omega]; rfl
   have := z3p h3 ⟨(Lib.decDigits x.N.natAbs).toArray⟩ (by rw [hsz]; omega) (by rw [hsz]; omega); rw [hb] at this; unfold zo3; exact this
theorem zu7 : ∀ (N m : Nat), 0 < N → m < 10 ^ N → N ≤ 18 → ∀ K, zla (N + K) (m : Int) = some ⟨(Lib.decDigits m).toArray⟩
 | 0, m, h, _, _ => by omega
 | N + 1, m, _, hm, hN => fun K => by
  have hmax : IntKind.i64.max = 9223372036854775807 := by decide
  have h18 : 10 ^ (N + 1) ≤ 10 ^ 18 := zb4 hN; rw [show N + 1 + K = (N + K) + 1 by omega]; show (cond (decide ((m : Int) < (-9))) _ (cond (decide ((m : Int) < 0)) _ (cond (decide ((m : Int) < 10)) _ _))) = _; rw [dcf (by omega), dcf (by omega), cfa, cfa, Lib.decDigits]
  by_cases h : m < 10
  · rw [dct (by omega), ctr, dif_pos h, w6e, zkv (by omega) (by omega)]; refine congrArg some (zgz ?_); rw [zgi]; show [UInt8.ofNat (48 + (m : Int)).toNat] = [UInt8.ofNat (48 + m)]; rw [show (48 + (m : Int)).toNat = 48 + m by omega]
  · rw [Nat.pow_succ] at hm; have hN0 : 0 < N := by
     refine cbc fun h0 => ?_; rw [show N = 0 by omega] at hm; omega
    have ih := zu7 N (m / 10) hN0 (by omega) (by omega) K; rw [dcf (by omega), cfa, dif_neg h, tde, tme, w6e (n := (m : Int) / 10), show (m : Int) / 10 = ((m / 10 : Nat) : Int) by omega, ih, obs, w6e, zkv (by omega) (by omega), hmax]; have hl := zwl (m / 10) N hN0 (by omega); have hs : (⟨(Lib.decDigits (m / 10)).toArray⟩ : ByteArray).size = (Lib.decDigits (m / 10)).length := rfl; have hs2 : (zc2 ([48 + (m : Int) % 10] : List Int)).size = 1 := rfl; rw [ifn (by rw [hs, hs2]; omega)]; refine congrArg some (zgz ?_); rw [zcz, zgi]; show Lib.decDigits (m / 10) ++ [UInt8.ofNat (48 + (m : Int) % 10).toNat] = Lib.decDigits (m / 10) ++ [UInt8.ofNat (48 + m % 10)]; rw [show (48 + (m : Int) % 10).toNat = 48 + m % 10 by omega]
theorem zabz (N : Nat) (hN : 100 < N) {x : Number} (hx : zcu x) : zfo N x = some (zo3 x) := by
 have hx' := hx
 obtain ⟨⟨h1, h2⟩, h3, h4⟩ := hx'
 have hmax : IntKind.i64.max = 9223372036854775807 := by decide
 have hlen := zwl x.N.natAbs 15 (by decide) (by omega)
 have hdl := zyh x.N.natAbs x.Scale.toNat (by omega) (by omega)
 unfold zfo zj9
 rw [zn8 (by omega) (by omega)]
 simp only [obs, eN]
 have hd := zu7 15 x.N.natAbs (by decide) (by omega) (by decide) (N - 15)
 rw [show 15 + (N - 15) = N by omega] at hd
 rw [hd]
 simp only [obs]
 have z1 : (⟨#[48]⟩ : ByteArray).size = 1 := rfl
 have lp := zbl (f := zfo.r0 N) (fun i => ((⟨(List.replicate i (48 : UInt8) ++ Lib.decDigits x.N.natAbs).toArray⟩ : ByteArray), x)) (x.Scale.toNat + 1 - (Lib.decDigits x.N.natAbs).length)
  (fun i hi => by
   have hs : (⟨(List.replicate i (48 : UInt8) ++ Lib.decDigits x.N.natAbs).toArray⟩ : ByteArray).size = i + (Lib.decDigits x.N.natAbs).length := by
    show (List.replicate i (48 : UInt8) ++ Lib.decDigits x.N.natAbs).length = _; rw [lna, lnr]
   simp only [zfo.r0, zfo.b0]; rw [dct (by rw [hs]; omega), ctr, hmax, ifn (by rw [hs, z1]; omega)]; refine congrArg some (congrArg Stp.again (Prod.ext (zgz ?_) rfl)); show bl ((⟨#[48]⟩ : ByteArray) ++ ⟨(List.replicate i (48 : UInt8) ++ Lib.decDigits x.N.natAbs).toArray⟩) = List.replicate (i + 1) (48 : UInt8) ++ Lib.decDigits x.N.natAbs; rw [zcz, List.replicate_succ]; rfl)
  (by
   have hs : (⟨(List.replicate (x.Scale.toNat + 1 - (Lib.decDigits x.N.natAbs).length) (48 : UInt8) ++ Lib.decDigits x.N.natAbs).toArray⟩ : ByteArray).size = x.Scale.toNat + 1 - (Lib.decDigits x.N.natAbs).length + (Lib.decDigits x.N.natAbs).length := by
    show (List.replicate (x.Scale.toNat + 1 - (Lib.decDigits x.N.natAbs).length) (48 : UInt8) ++ Lib.decDigits x.N.natAbs).length = _; rw [lna, lnr]
   simp only [zfo.r0, zfo.b0]; rw [dcf (by rw [hs]; omega), cfa]) (N := N) (by omega)
 rw [List.replicate_zero, List.nil_append] at lp
 rw [lp]
 have := z9n h3 ⟨(zmd x.N.natAbs x.Scale.toNat).toArray⟩ (by show x.Scale < ((zmd x.N.natAbs x.Scale.toNat).length : Int); omega) (by show (zmd x.N.natAbs x.Scale.toNat).length ≤ 100; omega)
 rw [zabd] at this
 unfold zo3
 exact this
theorem z53 {x : Number} (hx : zcu x) : (zo3 x).size ≤ 256 := by
 obtain ⟨⟨h1, h2⟩, h3, h4⟩ := hx
 have hdl := zyh x.N.natAbs x.Scale.toNat (by omega) (by omega)
 have hp : (ptT (zmd x.N.natAbs x.Scale.toNat) x.Scale.toNat).length ≤ 17 := by
  unfold ptT; split
  · rw [lna, lna, lnt, List.length_drop, lns]; omega
  · omega
 unfold zo3 sgT
 show (if x.N < 0 then [45] ++ ptT (zmd x.N.natAbs x.Scale.toNat) x.Scale.toNat else ptT (zmd x.N.natAbs x.Scale.toNat) x.Scale.toNat).length ≤ 256
 split
 · rw [lna, lns]; omega
 · omega
structure InsV (m : zI) (c : zF) (x : zB) (u : zL) : Prop where
 r : u.R = true → 0 ≤ x.R ∧ x.R < m.Registers
 a : u.A = true → 0 ≤ x.A ∧ x.A < m.Registers
 b : u.B = true → 0 ≤ x.B ∧ x.B < m.Registers
 ty1 : u.zG = 1 → zig x.zG
 ty2 : u.zG = 2 → zdm x.zG = 0 ∧ x.zG.Kind = 0
 ty3 : u.zG = 3 → zdm x.zG = 0
 se1 : u.Second = 1 → zig x.Second
 se2 : u.Second = 2 → zdm x.Second = 0 ∧ x.Second.Kind = 0
 tg : u.Target = true → 0 ≤ x.Target ∧ x.Target < (c.zD.length : Int)
 ma : u.Mask = true → 1 ≤ x.Mask ∧ x.Mask ≤ 7
 pt : u.Pointer = true → zet c.Storage x.Pointer = true
 sr : u.Source = true → zet c.Storage x.Source = true
 pl : u.Place = true → zch c.Storage x.Place (szE (zgm x)) = true
 fr : u.From = true → zch c.Storage x.From (szE x.Second) = true
 ca : u.zK = true → 0 ≤ x.zK ∧ x.zK ≤ 4
 nu : zcu x.Number
 tx : x.Text.size ≤ 256
 ot : x.Other.size ≤ 256
 is : x.zM = true → x.Op = 4
theorem zaa1 {t : DataType} (h : zdx t 1 = 0) : zig t := by
 unfold zdx at h
 rw [ifn (by decide)] at h
 by_cases h0 : zdm t = 0
 · rw [ifp h0] at h; split at h
   · cases h
   · rename_i h1; refine ⟨h0, ?_⟩; refine cbc fun h2 => h1 (.inl ⟨rfl, h2⟩)
 · rw [ifn h0] at h; exact absurd h h0
theorem zaa0 {t : DataType} (h : zdx t 2 = 0) : zdm t = 0 ∧ t.Kind = 0 := by
 unfold zdx at h
 rw [ifn (by decide)] at h
 by_cases h0 : zdm t = 0
 · rw [ifp h0] at h; split at h
   · cases h
   · rename_i h1; refine ⟨h0, ?_⟩; refine cbc fun h2 => h1 (.inr (.inl ⟨rfl, h2⟩))
 · rw [ifn h0] at h; exact absurd h h0
theorem zaa7 {m : zI} {c : zF} {x : zB} (h : zou m c x = 0) : (0 ≤ x.Op ∧ x.Op ≤ 26) ∧ ∃ u, zfn x = some u ∧ InsV m c x u := by
 unfold zou at h
 by_cases hop : inB x.Op 0 26 = true
 · refine ⟨zay.1 hop, ?_⟩; obtain ⟨f, u, hf, hu, ag, _⟩ := z04 x hop; rw [ifp hop, hu] at h; have h' : zyc m c x u = 0 := h; unfold zyc at h'; cases he : zmn x u with
   | true => rw [he] at h'; cases h'
   | false =>
    rw [he] at h'; simp only [cfa] at h'; cases hl : zpw m x with
    | true => rw [hl] at h'; cases h'
    | false =>
     rw [hl] at h'; simp only [cfa] at h'
     by_cases h1 : zdx x.zG u.zG = 0
     · by_cases h2 : zdx x.Second u.Second = 0
       · rw [ifn, ifn] at h'; cases hr : zm0 m c x u with
         | true => rw [hr] at h'; simp at h'
         | false =>
          rw [hr] at h'; simp only [cfa] at h'
          by_cases h3 : zlv x.Number = 0
          · rw [ifn] at h'; cases hlg : zo9 x with
            | true => rw [hlg] at h'; cases h'
            | false =>
             unfold zm0 at hr; simp only [Bool.or_eq_false_iff] at hr; obtain ⟨r1, r2, r3, r4, r5, r6, r7, r8⟩ := hr; rw [List.any_eq_false] at r1; have reg : ∀ i, i ∈ zns x u → 0 ≤ i ∧ i < m.Registers := fun i hi => by
              have := r1 i hi; unfold zf4 at this; have h4 : inB i 0 (m.Registers - 1) = true := by simpa using this
              have := zay.1 h4; omega
             have andF : ∀ {p q : Bool}, (p && !q) = false → p = true → q = true := fun {p q} h hp => by subst hp; simpa using h
             unfold zo9 at hlg; simp only [Bool.or_eq_false_iff, decide_eq_false_iff_not] at hlg; refine ⟨u, hu, ?_⟩; exact {
              r := fun hx => reg _ (by unfold zns; rw [hx]; simp)
              a := fun hx => reg _ (by unfold zns; rw [hx]; simp)
              b := fun hx => reg _ (by unfold zns; rw [hx]; simp)
              ty1 := fun hx => zaa1 (by rw [hx] at h1; exact h1)
              ty2 := fun hx => zaa0 (by rw [hx] at h1; exact h1)
              ty3 := fun hx => zqb h1 (by rw [hx]; decide)
              se1 := fun hx => zaa1 (by rw [hx] at h2; exact h2)
              se2 := fun hx => zaa0 (by rw [hx] at h2; exact h2)
              tg := fun hx => by have := zay.1 (andF r2 hx); omega
              ma := fun hx => zay.1 (andF r3 hx)
              pt := fun hx => andF r4 hx
              sr := fun hx => andF r5 hx
              pl := fun hx => andF r6 hx
              fr := fun hx => andF r7 hx
              ca := fun hx => zay.1 (andF r8 hx)
              nu := zkc.1 h3
              tx := by omega
              ot := by omega
              is := (zsk he).1 }
          · rw [ifp h3] at h'; exact absurd h' h3
       · rw [ifn, ifp h2] at h'; exact absurd h' h2
     · rw [ifp h1] at h'; exact absurd h' h1
 · rw [ifn hop] at h; cases h
structure CodeV (m : zI) (c : zF) : Prop where
 m1 : 2 ≤ m.Registers
 m2 : m.Registers ≤ 8
 sto : zic c.Storage
 len : c.zD.length ≤ 240
 pos : 0 < c.zD.length
 traps : c.zN.length ≤ 40
 ins : ∀ x ∈ c.zD, zou m c x = 0
 trap : ∀ t ∈ c.zN, zqd c t = true
structure StV (m : zI) (c : zF) (s : zA) : Prop where
 regs : (s.Registers.length : Int) = m.Registers
 nums : ∀ r ∈ s.Registers, zcu r
 cnd : s.Condition = 0 ∨ s.Condition = 1 ∨ s.Condition = 2 ∨ s.Condition = 4
 sto : zic s.Storage
 size : s.Storage.Bytes.size = c.Storage.Bytes.size
 at0 : 0 ≤ s.At
 at1 : s.At < (c.zD.length : Int)
 stk : s.Stack.length ≤ 6
 calls : ∀ i ∈ s.Stack, (0 ≤ i ∧ i < (c.zD.length : Int)) ∧ ∃ x, c.zD[i.toNat]? = some x ∧ x.Op = 18
 lines : s.Lines.length ≤ 40
 long : ∀ l ∈ s.Lines, l.size ≤ 256
 st0 : 0 ≤ s.Status
 st1 : s.Status ≤ 3
 ex0 : 0 ≤ s.Exception
 ex1 : s.Exception ≤ 999
 mk0 : 0 ≤ s.Marks
 mk1 : s.Marks ≤ 300
 sp0 : 0 ≤ s.Steps
 sp1 : s.Steps ≤ 3000
def zlg (s : Storage) (p : zO) (n : Int) : Except Int Int :=
 if p.Based = true then (match ldV s p.Pointer with | none => .error 4 | some o => if o + p.Offset > (s.Bytes.size : Int) - n then .error 5 else .ok (o + p.Offset)) else .ok p.Offset
def zlf (s : Storage) (p : zO) (t : DataType) : Except Int ByteArray :=
 match zlg s p (szE t) with | .error e => .error e | .ok a => .ok (s.Bytes.extract a.toNat (a + szE t).toNat)
def zx8 (s : Storage) (p : zO) (t : DataType) : Except Int Number :=
 match zlf s p t with | .error e => .error e | .ok b => match zly t b with | none => .error 1 | some n => .ok ⟨n, t.Scale⟩
theorem zhz (s : zA) (c : zF) (b : Bool) (n : Int) (hn : n ≠ 0) : zf ⟨s, c, 0⟩ b n = some (!b, ⟨s, c, cond b n 0⟩) := by
 unfold zf
 cases b
 · rfl
 · simp only [bst, ctr, obs, zat, dcf hn]; rfl
theorem zqi (N : Nat) (hN : 2000 < N) (s : zA) (c : zF) (h : zic s.Storage) {a : Int} (ha : zet s.Storage a = true) :
 zax N ⟨s, c, 0⟩ a = some (match ldV s.Storage a with | some o => (zh8 o, true, ⟨s, c, 0⟩) | none => (zym, false, ⟨s, c, 4⟩)) := by
 unfold zax
 simp only []
 rw [zabl N hN h ha]
 cases ldV s.Storage a with
 | none => simp only [obs]; rw [zhz _ _ _ _ (by decide)]; rfl
 | some o => simp only [obs]; rw [zhz _ _ _ _ (by decide)]; rfl
theorem zna {s t : Storage} (h : s.Bytes.size = t.Bytes.size) (a : Int) : zet s a = zet t a := by unfold zet; rw [h]
theorem zgv {s t : Storage} (h : s.Bytes.size = t.Bytes.size) (p : zO) (n : Int) : zch s p n = zch t p n := by unfold zch; rw [h, zna h]
theorem zr6 (N : Nat) (hN : 2000 < N) (s : zA) (c : zF) (h : zic s.Storage) {p : zO} {n : Int} (hp : zch s.Storage p n = true) (hn : 0 < n) (hn2 : n ≤ 256) :
 (∃ e j k, (e = 4 ∨ e = 5) ∧ zlg s.Storage p n = .error e ∧ za4 N ⟨s, c, 0⟩ p n = some (j, false, ⟨s, c, e⟩) ∧ zc3 N s p n = some (k, e)) ∨
 ∃ a, zlg s.Storage p n = .ok a ∧ za4 N ⟨s, c, 0⟩ p n = some (a, true, ⟨s, c, 0⟩) ∧ zc3 N s p n = some (a, 0) ∧ 0 ≤ a ∧ a + n ≤ (s.Storage.Bytes.size : Int) := by
 have hl := h.le
 unfold zch at hp
 unfold zlg za4 zc3
 try simp only [eS]
 by_cases hb : p.Based = true
 · rw [ifp hb] at hp; rw [Bool.and_eq_true] at hp; obtain ⟨hp1, hp2⟩ := hp; have hp3 := zay.1 hp2; rw [ifp hb, hb]; simp only [bnt, cfa]; rw [zqi N hN s c h hp1, zwc N hN h hp1]; cases hld : ldV s.Storage p.Pointer with
   | none =>
    left; exact ⟨4, 0, 0, .inl rfl, rfl, rfl, rfl⟩
   | some o =>
    have ho := zvo h hld; simp only [obs, bnt, cfa, bsf]; rw [zhz _ _ _ _ (by decide)]; simp only [obs]; rw [show (zh8 o).Address.Offset = o from rfl, w6e (n := o + p.Offset), w6e (n := (s.Storage.Bytes.size : Int) - n)]; unfold zh6; rw [zh2, zh2, w6e (n := (s.Storage.Bytes.size : Int) - (o + p.Offset))]; simp only [obs]
    by_cases hgt : o + p.Offset > (s.Storage.Bytes.size : Int) - n
    · left; refine ⟨5, o + p.Offset, 0, .inr rfl, ?_, ?_, ?_⟩
      · show (if o + p.Offset > (s.Storage.Bytes.size : Int) - n then (Except.error 5 : Except Int Int) else .ok (o + p.Offset)) = _; rw [ifp hgt]
      · rw [dct hgt]; rfl
      · by_cases h1 : inB (o + p.Offset) 0 (s.Storage.Bytes.size : Int) = true
        · rw [h1, ctr]; rw [show inB n 0 ((s.Storage.Bytes.size : Int) - (o + p.Offset)) = false by
           cases hh : inB n 0 ((s.Storage.Bytes.size : Int) - (o + p.Offset)) with
           | false => rfl
           | true => have := zay.1 hh; omega]
          rfl
        · rw [show inB (o + p.Offset) 0 (s.Storage.Bytes.size : Int) = false by simpa using h1]; rfl
    · right; refine ⟨o + p.Offset, ?_, ?_, ?_, by omega, by omega⟩
      · show (if o + p.Offset > (s.Storage.Bytes.size : Int) - n then (Except.error 5 : Except Int Int) else .ok (o + p.Offset)) = _; rw [ifn hgt]
      · rw [dcf hgt]; rfl
      · rw [show inB (o + p.Offset) 0 (s.Storage.Bytes.size : Int) = true from zay.2 ⟨by omega, by omega⟩, ctr, show inB n 0 ((s.Storage.Bytes.size : Int) - (o + p.Offset)) = true from zay.2 ⟨by omega, by omega⟩]; rfl
 · have hb' : p.Based = false := by simpa using hb
   rw [ifn hb] at hp; have hp3 := zay.1 hp; rw [ifn hb, hb']; right; exact ⟨p.Offset, rfl, rfl, rfl, by omega, by omega⟩
theorem zm9 (N : Nat) (hN : 2000 < N) (s : zA) (c : zF) (h : zic s.Storage) {p : zO} {t : DataType} (ht : zdm t = 0) (hp : zch s.Storage p (szE t) = true) :
 (∃ e b k, (e = 4 ∨ e = 5) ∧ zlf s.Storage p t = .error e ∧ zu N ⟨s, c, 0⟩ p t = some (b, false, ⟨s, c, e⟩) ∧ ze0 N s p t = some (k, e)) ∨
 ∃ b, zlf s.Storage p t = .ok b ∧ zu N ⟨s, c, 0⟩ p t = some (b, true, ⟨s, c, 0⟩) ∧ ze0 N s p t = some (b, 0) ∧ (b.size : Int) = szE t := by
 have hsz := zj5 ht
 have hl := h.le
 unfold zlf zu ze0
 try simp only [eS, eD, eP]
 rw [z0a N (by omega) ht, zje ht]
 simp only [obs]
 have eH : (⟨s.Registers, s.Condition, s.Storage, s.At, s.Stack, s.Lines, s.Status, s.Exception, s.Marks, s.Steps⟩ : zA) = s := rfl
 try rw [eH]
 rcases zr6 N hN s c h hp hsz.1 hsz.2 with ⟨e, j, k, he, h1, h2, h3⟩ | ⟨a, h1, h2, h3, h4, h5⟩
 · left; rw [h1, h2, h3]; refine ⟨e, ⟨#[]⟩, ⟨#[]⟩, he, rfl, rfl, ?_⟩; rcases he with rfl | rfl <;> rfl
 · right; rw [h1, h2, h3]; simp only [obs, bnt, cfa, bsf]; rw [w6e, ifp, ifp, ifp, ifp]; refine ⟨_, rfl, rfl, rfl, ?_⟩; rw [zcr _ _ _ (by omega) (by omega)]; omega
theorem z24 (N : Nat) (hN : 2000 < N) (s : zA) (c : zF) (h : zic s.Storage) {p : zO} {t : DataType} (ht : zig t) (hp : zch s.Storage p (szE t) = true) :
 (∃ e b k, (e = 4 ∨ e = 5 ∨ e = 1) ∧ zx8 s.Storage p t = .error e ∧ zbj N ⟨s, c, 0⟩ p t = some (b, false, ⟨s, c, e⟩) ∧ zi4 N s p t = some (k, e)) ∨
 ∃ n, zx8 s.Storage p t = .ok n ∧ zbj N ⟨s, c, 0⟩ p t = some (n, true, ⟨s, c, 0⟩) ∧ zi4 N s p t = some (n, 0) ∧ zcu n := by
 unfold zx8 zbj zi4
 rcases zm9 N hN s c h ht.1 hp with ⟨e, b, k, he, h1, h2, h3⟩ | ⟨b, h1, h2, h3, h4⟩
 · left; rw [h1, h2, h3]; refine ⟨e, ⟨0, 0⟩, ⟨0, 0⟩, by omega, rfl, rfl, ?_⟩; rcases he with rfl | rfl <;> rfl
 · obtain ⟨v1, a1, e1, g1, g2⟩ := z8i N hN ht h4; obtain ⟨v2, a2, e2, g3, g4⟩ := z75 N hN ht h4; rw [h1, h2, h3]; simp only [obs, bnt, cfa, bsf]; rw [g1, g3]; simp only [obs]; rw [zhz _ _ _ _ (by decide)]; simp only [obs]; have hbound : ∀ n, zly t b = some n → -((10 ^ t.Length.toNat : Nat) : Int) < n ∧ n < ((10 ^ t.Length.toNat : Nat) : Int) := by
    intro n hn; obtain ⟨⟨l1, l2⟩, l3, l4⟩ := zgd ht; unfold zly at hn; split at hn
    · split at hn
      · rename_i hh; cases hn; exact hh
      · cases hn
    · rename_i hk3; have key : ∀ l : List Int, (∀ d ∈ l, 0 ≤ d ∧ d ≤ 15) → (List.range (l.length - 1)).any (zih l t.Length) = false → (l.length : Int) - 1 - t.Length ≤ 1 → 0 ≤ ze3 (l.take (l.length - 1)) ∧ ze3 (l.take (l.length - 1)) < ((10 ^ t.Length.toNat : Nat) : Int) := by
       intro l hr hg hle; rw [List.any_eq_false] at hg; have g9 : ∀ i, i < l.length - 1 → 0 ≤ l.getD i 0 ∧ l.getD i 0 ≤ 9 := fun i hi => by
        have h1 := hg i (List.mem_range.2 hi); unfold zih at h1; have hx : l[i]? = some (l.getD i 0) := by rw [gdd, lge (by omega)]; rfl
        have h2 := hr _ (lmg hx); rw [Bool.or_eq_true, decide_eq_true_eq] at h1; omega
       have step : ∀ i, i ≤ l.length - 1 → 0 ≤ ze3 (l.take i) ∧ (ze3 (l.take i) < ((10 ^ (i - ((l.length : Int) - 1 - t.Length).toNat) : Nat) : Int)) := by
        intro i
        induction i with
        | zero => intro _; rw [List.take_zero]; exact ⟨by decide, by simp [ze3]⟩
        | succ i ih =>
         intro hi; have hx : l[i]? = some (l.getD i 0) := by rw [gdd, lge (by omega)]; rfl
         obtain ⟨i1, i2⟩ := ih (by omega); have hd := g9 i (by omega); rw [zd0 l i hx, zn1]; refine ⟨by omega, ?_⟩
         by_cases hlead : (i : Int) < (l.length : Int) - 1 - t.Length
         · have h1 := hg i (List.mem_range.2 (by omega)); unfold zih at h1; rw [Bool.or_eq_true, Bool.and_eq_true, decide_eq_true_eq, decide_eq_true_eq, decide_eq_true_eq] at h1; have h0 : l.getD i 0 = 0 := by
            refine cbc fun h2 => h1 (.inr ⟨by omega, hlead⟩)
           rw [show i - ((l.length : Int) - 1 - t.Length).toNat = 0 by omega, Nat.pow_zero] at i2; rw [h0, show i + 1 - ((l.length : Int) - 1 - t.Length).toNat = 0 by omega, Nat.pow_zero]; omega
         · rw [show i + 1 - ((l.length : Int) - 1 - t.Length).toNat = (i - ((l.length : Int) - 1 - t.Length).toNat) + 1 by omega, Nat.pow_succ]; omega
       obtain ⟨s1, s2⟩ := step (l.length - 1) (Nat.le_refl _); refine ⟨s1, ?_⟩; have hpw : 10 ^ (l.length - 1 - ((l.length : Int) - 1 - t.Length).toNat) ≤ 10 ^ t.Length.toNat := zb4 (by omega); omega
      have hbs := h4; rw [zqq ht] at hbs; obtain ⟨_, k1, k2⟩ := ht; have hlen : ((if t.Kind = 1 then zhy (bl b) else zdz (bl b)).length : Int) - 1 - t.Length ≤ 1 := by
       by_cases hk1 : t.Kind = 1
       · rw [ifp hk1] at hbs; rw [ifp hk1, zoo, zam]; omega
       · rw [ifn hk1, ifn hk3] at hbs; rw [ifn hk1]; unfold zdz zfe; rw [lna, lnm, zam, lns]; omega
      have hrange : ∀ d ∈ (if t.Kind = 1 then zhy (bl b) else zdz (bl b)), 0 ≤ d ∧ d ≤ 15 := by
       split
       · exact zpu.1
       · exact zpu.2
      generalize (if t.Kind = 1 then zhy (bl b) else zdz (bl b)) = l at *; unfold zvy at hn
      by_cases hbad : (List.range (l.length - 1)).any (zih l t.Length) = true ∨ zj7 l < 10
      · rw [ifp hbad] at hn; cases hn
      · rw [ifn hbad] at hn; rw [not_or] at hbad; obtain ⟨q1, q2⟩ := key l hrange (by simpa using hbad.1) hlen; have hn2 := Option.some.inj hn; split at hn2 <;> omega
   cases hdv : zly t b with
   | none =>
    rw [hdv] at g2 g4; simp only [] at g2 g4; left; refine ⟨1, ⟨v1.N, t.Scale⟩, ⟨0, 0⟩, by omega, rfl, ?_, ?_⟩
    · rw [zcj, dct g2]; rfl
    · rw [zcj, dct g4]; rfl
   | some n =>
    rw [hdv] at g2 g4; simp only [] at g2 g4; right; have hb := hbound n hdv; obtain ⟨⟨l1, l2⟩, l3, l4⟩ := zgd ht; have hpw : 10 ^ t.Length.toNat ≤ 10 ^ 15 := zb4 (by omega); refine ⟨⟨n, t.Scale⟩, rfl, ?_, ?_, ⟨⟨?_, ?_⟩, l3, ?_⟩⟩
    · rw [g2.2, g2.1]; rfl
    · rw [g4.2, g4.1]; rfl
    · show -999999999999999 ≤ n; omega
    · show n ≤ 999999999999999; omega
    · show t.Scale ≤ 15; omega
def updR (s : zA) (i : Int) (n : Number) : zA := ⟨s.Registers.set i.toNat n, s.Condition, s.Storage, s.At, s.Stack, s.Lines, s.Status, s.Exception, s.Marks, s.Steps⟩
def updS (s : zA) (t : Storage) : zA := ⟨s.Registers, s.Condition, t, s.At, s.Stack, s.Lines, s.Status, s.Exception, s.Marks, s.Steps⟩
def updC (s : zA) (k : Int) : zA := ⟨s.Registers, k, s.Storage, s.At, s.Stack, s.Lines, s.Status, s.Exception, s.Marks, s.Steps⟩
def updL (s : zA) (l : List ByteArray) : zA := ⟨s.Registers, s.Condition, s.Storage, s.At, s.Stack, l, s.Status, s.Exception, s.Marks, s.Steps⟩
def updT (s : zA) (k : Int) : zA := ⟨s.Registers, s.Condition, s.Storage, s.At, s.Stack, s.Lines, k, s.Exception, s.Marks, s.Steps⟩
def updK (s : zA) (l : List Int) : zA := ⟨s.Registers, s.Condition, s.Storage, s.At, l, s.Lines, s.Status, s.Exception, s.Marks, s.Steps⟩
def updM (s : zA) (k : Int) : zA := ⟨s.Registers, s.Condition, s.Storage, s.At, s.Stack, s.Lines, s.Status, s.Exception, k, s.Steps⟩
def rg (s : zA) (i : Int) : Number := s.Registers.getD i.toNat ⟨0, 0⟩
def zq1 (s : zA) (a b : Int) : Int := zn5 (zz7 (zak (rg s a) (zi (rg s a) (rg s b))) (zak (rg s b) (zi (rg s a) (rg s b))))
def zpl (s : zA) (l : ByteArray) : Except Int (Int × zA) := if s.Lines.length = 40 then .ok (s.At + 1, updT s 3) else .ok (s.At + 1, updL s (s.Lines ++ [l]))
def zeu (s : zA) (x : zB) : Except Int (Int × zA) :=
 match x.Op.toNat with
 | 0 => match zx8 s.Storage x.Place x.zG with | .error e => .error e | .ok n => .ok (s.At + 1, updR s x.R n)
 | 1 => if (zl7 (rg s x.R) x.zG x.Half).2 ≠ 0 then .error 2 else match zlg s.Storage x.Place (szE x.zG) with | .error e => .error e | .ok a => .ok (s.At + 1, updS s (wrV s.Storage a.toNat (zrd x.zG (zl7 (rg s x.R) x.zG x.Half).1.N)))
 | 2 => .ok (s.At + 1, updR s x.R x.Number)
 | 3 => .ok (s.At + 1, updR s x.R (rg s x.A))
 | 4 => match (if x.zM = true then zx8 s.Storage x.Place x.Second else .ok (rg s x.B)) with
  | .error e => .error e
  | .ok b => if (zhb x.zK (rg s x.A) b x.zG false).2 = 20 then .error 3 else if (zhb x.zK (rg s x.A) b x.zG false).2 ≠ 0 then .error 2 else .ok (s.At + 1, updR s x.R ⟨(zhb x.zK (rg s x.A) b x.zG false).1.N, x.zG.Scale⟩)
 | 5 => .ok (s.At + 1, updC s (zq1 s x.A x.B))
 | 6 => .ok (cond (zh .i64 s.Condition x.Mask != 0) x.Target (s.At + 1), s)
 | 7 => .ok (cond (zh .i64 (zq1 s x.A x.B) x.Mask != 0) x.Target (s.At + 1), s)
 | 8 => .ok (x.Target, s)
 | 9 => match zlf s.Storage x.From x.Second with
  | .error e => .error e
  | .ok b => match zlg s.Storage x.Place (szE x.zG) with | .error e => .error e | .ok a => .ok (s.At + 1, updS s (wrV s.Storage a.toNat (zku b x.zG.Length.toNat)))
 | 10 => match zlg s.Storage x.Place (szE x.zG) with | .error e => .error e | .ok a => .ok (s.At + 1, updS s (wrV s.Storage a.toNat (zku x.Text x.zG.Length.toNat)))
 | 11 => match zlf s.Storage x.Place x.zG with
  | .error e => .error e
  | .ok a => match zlf s.Storage x.From x.Second with | .error e => .error e | .ok b => .ok (s.At + 1, updC s (znm a b))
 | 12 => match zlf s.Storage x.Place x.zG with | .error e => .error e | .ok a => .ok (s.At + 1, updC s (znm a x.Text))
 | 13 => .ok (s.At + 1, updC s (znm x.Text x.Other))
 | 14 => match zlg s.Storage x.Place (szE x.zG) with | .error e => .error e | .ok a => .ok (s.At + 1, updS s (stV s.Storage x.Pointer.toNat a.toNat))
 | 15 => match ldV s.Storage x.Source with | none => .error 4 | some o => .ok (s.At + 1, updS s (stV s.Storage x.Pointer.toNat o.toNat))
 | 16 => match ldV s.Storage x.Pointer with
  | none => .error 4
  | some o => if inB (o + zf2 (rg s x.R)) 0 16777215 = true then .ok (s.At + 1, updS s (stV s.Storage x.Pointer.toNat (o + zf2 (rg s x.R)).toNat)) else .error 5
 | 17 => match ldV s.Storage x.Pointer with | none => .error 4 | some _ => .ok (s.At + 1, s)
 | 18 => if 6 ≤ s.Stack.length then .error 6 else .ok (x.Target, updK s (s.Stack ++ [s.At]))
 | 19 => if s.Stack.length = 0 then .ok (s.At, updT s 1) else .ok (s.Stack.getD (s.Stack.length - 1) 0 + 1, updK s (s.Stack.take (s.Stack.length - 1)))
 | 20 => if inB (zf2 (rg s x.R)) 100 999 = true then .error (zf2 (rg s x.R)) else .error 2
 | 21 => .ok (s.At + 1, updR s x.R ⟨s.Exception, 0⟩)
 | 22 => zpl s (zo3 (rg s x.R))
 | 23 => match zlf s.Storage x.Place x.zG with | .error e => .error e | .ok b => zpl s b
 | 24 => zpl s x.Text
 | 25 => if s.Marks = 300 then .ok (s.At + 1, updT s 3) else .ok (s.At + 1, updM s (s.Marks + 1))
 | _ => .ok (s.At + 1, updT s 1)
section
variable {m : zI} {c : zF} {s : zA}
theorem StV.updR (h : StV m c s) {i : Int} {n : Number} (hn : zcu n) : StV m c (updR s i n) := {
 regs := by show ((s.Registers.set i.toNat n).length : Int) = _; rw [List.length_set]; exact h.regs
 nums := fun r hr => by
  rcases List.mem_or_eq_of_mem_set (show r ∈ s.Registers.set i.toNat n from hr) with h1 | h1
  · exact h.nums r h1
  · rw [h1]; exact hn
 cnd := h.cnd, sto := h.sto, size := h.size, at0 := h.at0, at1 := h.at1, stk := h.stk, calls := h.calls, lines := h.lines, long := h.long, st0 := h.st0, st1 := h.st1, ex0 := h.ex0, ex1 := h.ex1, mk0 := h.mk0, mk1 := h.mk1, sp0 := h.sp0, sp1 := h.sp1 }
theorem StV.updS (h : StV m c s) {t : Storage} (ht : zic t) (hz : t.Bytes.size = s.Storage.Bytes.size) : StV m c (updS s t) := {
 regs := h.regs, nums := h.nums, cnd := h.cnd, sto := ht, size := hz.trans h.size, at0 := h.at0, at1 := h.at1, stk := h.stk, calls := h.calls, lines := h.lines, long := h.long, st0 := h.st0, st1 := h.st1, ex0 := h.ex0, ex1 := h.ex1, mk0 := h.mk0, mk1 := h.mk1, sp0 := h.sp0, sp1 := h.sp1 }
theorem StV.updC (h : StV m c s) {k : Int} (hk : k = 1 ∨ k = 2 ∨ k = 4) : StV m c (updC s k) := {
 regs := h.regs, nums := h.nums, cnd := .inr hk, sto := h.sto, size := h.size, at0 := h.at0, at1 := h.at1, stk := h.stk, calls := h.calls, lines := h.lines, long := h.long, st0 := h.st0, st1 := h.st1, ex0 := h.ex0, ex1 := h.ex1, mk0 := h.mk0, mk1 := h.mk1, sp0 := h.sp0, sp1 := h.sp1 }
theorem StV.updL (h : StV m c s) {l : ByteArray} (h1 : s.Lines.length < 40) (h2 : l.size ≤ 256) : StV m c (updL s (s.Lines ++ [l])) := {
 regs := h.regs, nums := h.nums, cnd := h.cnd, sto := h.sto, size := h.size, at0 := h.at0, at1 := h.at1, stk := h.stk, calls := h.calls
 lines := by show (s.Lines ++ [l]).length ≤ 40; rw [lna, lns]; omega
 long := fun y hy => by
  rcases List.mem_append.1 (show y ∈ s.Lines ++ [l] from hy) with h3 | h3
  · exact h.long y h3
  · rw [List.mem_singleton.1 h3]; exact h2
 st0 := h.st0, st1 := h.st1, ex0 := h.ex0, ex1 := h.ex1, mk0 := h.mk0, mk1 := h.mk1, sp0 := h.sp0, sp1 := h.sp1 }
theorem StV.updT (h : StV m c s) {k : Int} (h1 : 0 ≤ k) (h2 : k ≤ 3) : StV m c (updT s k) := {
 regs := h.regs, nums := h.nums, cnd := h.cnd, sto := h.sto, size := h.size, at0 := h.at0, at1 := h.at1, stk := h.stk, calls := h.calls, lines := h.lines, long := h.long, st0 := h1, st1 := h2, ex0 := h.ex0, ex1 := h.ex1, mk0 := h.mk0, mk1 := h.mk1, sp0 := h.sp0, sp1 := h.sp1 }
theorem StV.updK (h : StV m c s) {l : List Int} (h1 : l.length ≤ 6) (h2 : ∀ i ∈ l, (0 ≤ i ∧ i < (c.zD.length : Int)) ∧ ∃ x, c.zD[i.toNat]? = some x ∧ x.Op = 18) : StV m c (updK s l) := {
 regs := h.regs, nums := h.nums, cnd := h.cnd, sto := h.sto, size := h.size, at0 := h.at0, at1 := h.at1, stk := h1, calls := h2, lines := h.lines, long := h.long, st0 := h.st0, st1 := h.st1, ex0 := h.ex0, ex1 := h.ex1, mk0 := h.mk0, mk1 := h.mk1, sp0 := h.sp0, sp1 := h.sp1 }
theorem StV.updM (h : StV m c s) {k : Int} (h1 : 0 ≤ k) (h2 : k ≤ 300) : StV m c (updM s k) := {
 regs := h.regs, nums := h.nums, cnd := h.cnd, sto := h.sto, size := h.size, at0 := h.at0, at1 := h.at1, stk := h.stk, calls := h.calls, lines := h.lines, long := h.long, st0 := h.st0, st1 := h.st1, ex0 := h.ex0, ex1 := h.ex1, mk0 := h1, mk1 := h2, sp0 := h.sp0, sp1 := h.sp1 }
theorem zf3 (h : StV m c s) {i : Int} (hi : 0 ≤ i ∧ i < m.Registers) : 0 ≤ i ∧ i < (s.Registers.length : Int) ∧ s.Registers[i.toNat]? = some (rg s i) ∧ idx s.Registers i = some (rg s i) ∧ zcu (rg s i) := by
 have hr := h.regs
 have hx : s.Registers[i.toNat]? = some (rg s i) := by
  unfold rg; rw [gdd, lge (by omega)]; rfl
 refine ⟨hi.1, by omega, hx, ?_, h.nums _ (lmg hx)⟩
 unfold idx
 rw [ifp hi.1, hx]
theorem zpe (o : Int) : zn5 o = 1 ∨ zn5 o = 2 ∨ zn5 o = 4 := by
 unfold zn5
 repeat' split
 all_goals simp
theorem zvq (h : StV m c s) (hm : m.Registers ≤ 8) {i : Int} (hi : 0 ≤ i ∧ i < m.Registers) (n : Number) (e : Int) : zab ⟨s, c, e⟩ i n = some ⟨updR s i n, c, e⟩ := by
 obtain ⟨h1, h2, h3, _⟩ := zf3 h hi
 have hr := h.regs
 unfold zab zdi
 simp only []
 rw [zao (by omega), ctr, obs, ifp h1, ifp h2, h3]
 rfl
theorem z01 (N : Nat) (hN : 300 < N) (h : StV m c s) (x : zB) (ha : 0 ≤ x.A ∧ x.A < m.Registers) (hb : 0 ≤ x.B ∧ x.B < m.Registers) (e : Int) : zav N ⟨s, c, e⟩ x = some (zq1 s x.A x.B) := by
 obtain ⟨_, _, _, a4, a5⟩ := zf3 h ha
 obtain ⟨_, _, _, b4, b5⟩ := zf3 h hb
 unfold zav
 simp only []
 rw [a4, b4]
 simp only [obs]
 rw [z41 N hN a5 b5]
 simp only [obs]
 rw [z3l]
 rfl
theorem z1d (x y : Int) : zh .i64 x y = zh .i64 y x := by unfold zh; rw [BitVec.and_comm]
def zce (N : Nat) (m : zI) (c : zF) (s : zA) (x : zB) : Prop :=
 (∃ e nx ny t, zeu s x = .error e ∧ (1 ≤ e ∧ e ≤ 999) ∧ zd N ⟨s, c, 0⟩ x = some (nx, ⟨s, c, e⟩) ∧ ze N c s = some (ny, e, t)) ∨
 ∃ n k t, zeu s x = .ok (n, t) ∧ zd N ⟨s, c, 0⟩ x = some (n, ⟨t, c, 0⟩) ∧ ze N c s = some (k, 0, t) ∧ (t.Status = 0 → k = n ∧ 0 ≤ n ∧ n ≤ (c.zD.length : Int)) ∧ StV m c t ∧ t.At = s.At ∧ t.Steps = s.Steps ∧ t.Exception = s.Exception
theorem zg8 {x : zB} (hc : CodeV m c) (hx : x ∈ c.zD) {k : Int} (hop : x.Op = k) {U : zL} (hU : z51 k x.zM = some U) : InsV m c x U := by
 obtain ⟨_, u, h1, h2⟩ := zaa7 (hc.ins x hx)
 rw [z7m, hop, hU] at h1
 cases h1
 exact h2
end
section
variable {m : zI} {c : zF} {s : zA}
theorem zl3 {b : Bool} {p q : Nat} {t : DataType} {half : Bool} (h : (zh7 b p q t half).2 = 0) : -((10 ^ t.Length.toNat : Nat) : Int) < (zh7 b p q t half).1.N ∧ (zh7 b p q t half).1.N < ((10 ^ t.Length.toNat : Nat) : Int) := by
 unfold zh7 at h ⊢
 have := zcb t.Length.toNat
 generalize (p * 10 ^ t.Scale.toNat / q + cond (half && decide (q ≤ p * 10 ^ t.Scale.toNat % q + p * 10 ^ t.Scale.toNat % q)) 1 0) = Q at *
 generalize 10 ^ t.Length.toNat = T at *
 split at h
 · cases h
 · rename_i hn; rw [ifn hn]; cases b
   · show -(T : Int) < (Q : Int) ∧ (Q : Int) < T; omega
   · show -(T : Int) < -(Q : Int) ∧ -(Q : Int) < T; omega
theorem zad2 (b : Bool) (p q : Nat) (t : DataType) (half : Bool) : (zh7 b p q t half).1 = ⟨(zh7 b p q t half).1.N, ⟨#[]⟩⟩ := by
 unfold zh7
 split <;> rfl
theorem zact {x : Number} {t : DataType} {half : Bool} (h : (zl7 x t half).2 = 0) : (zh7 (decide (x.N < 0)) x.N.natAbs (10 ^ x.Scale.toNat) t half).2 = 0 := h
theorem zaew (x : Number) (t : DataType) (half : Bool) : (zl7 x t half).1 = ⟨(zl7 x t half).1.N, ⟨#[]⟩⟩ := zad2 _ _ _ _ _
theorem ex_0 (s : zA) {x : zB} (hop : x.Op = 0) : zeu s x = (match zx8 s.Storage x.Place x.zG with | .error e => .error e | .ok n => .ok (s.At + 1, updR s x.R n)) := by
 cases x; cases hop; rfl
theorem hx_0 (N : Nat) (M : zC) {x : zB} (hop : x.Op = 0) : zd N M x = (zbj N M x.Place x.zG).bind fun r1 => cond r1.2.1 ((zab r1.2.2 x.R r1.1).bind fun r => some (w6 (r.zA.At + 1), r)) (some (w6 (r1.2.2.zA.At + 1), r1.2.2)) := by
 cases x; cases hop; rfl
theorem rx_0 (N : Nat) {x : zB} (hop : x.Op = 0) (hi : idx c.zD s.At = some x) : ze N c s = ((zi4 N s x.Place x.zG).bind fun r1 => cond (r1.2 != 0) (some (r1.2, s)) (if 0 ≤ x.R then (if x.R < (s.Registers.length : Int) then ((s.Registers[x.R.toNat]?).bind fun _ => some (0, updR s x.R r1.1)) else none) else none)).bind fun r => some (w6 (s.At + 1), r.1, r.2) := by
 unfold ze
 rw [hi, obs]
 clear hi
 cases x; cases hop; rfl
theorem zae8 (N : Nat) (hN : 20000 < N) (hc : CodeV m c) (hs : StV m c s) {x : zB} (hx : c.zD[s.At.toNat]? = some x) (hop : x.Op = 0) : zce N m c s x := by
 have iv := zg8 hc (lmg hx) hop (U := ⟨true, false, false, true, false, false, false, false, false, false, false, false, false, false, 1, 0⟩) rfl
 have hi : idx c.zD s.At = some x := by unfold idx; rw [ifp hs.at0, hx]
 have m8 := hc.m2
 have a0 := hs.at0
 have a1 := hs.at1
 have n240 := hc.len
 have wn1 : w6 (s.At + 1) = s.At + 1 := w6e
 unfold zce
 rw [ex_0 s hop, hx_0 N _ hop, rx_0 N hop hi]
 obtain ⟨g1, g2, g3, g4, g5⟩ := zf3 hs (iv.r rfl)
 have hp : zch s.Storage x.Place (szE x.zG) = true := by rw [zgv hs.size]; have := iv.pl rfl; unfold zgm at this; rw [ifn] at this; exact this
 rcases z24 N (by omega) s c hs.sto (iv.ty1 rfl) hp with ⟨e, b, k, he, h1, h2, h3⟩ | ⟨n, h1, h2, h3, h4⟩
 · rw [h1, h2, h3]; refine .inl ⟨e, _, w6 (s.At + 1), s, rfl, by omega, rfl, ?_⟩; rcases he with rfl | rfl | rfl <;> rfl
 · rw [h1, h2, h3]; refine .inr ⟨_, _, _, rfl, ?_, ?_, fun _ => ⟨rfl, by omega, by omega⟩, hs.updR h4, rfl, rfl, rfl⟩
   · simp only [obs, ctr]; rw [zvq hs m8 (iv.r rfl)]; show some (w6 (s.At + 1), _) = _; rw [wn1]
   · simp only [obs, bsf, cfa]; rw [ifp g1, ifp g2, g3]; show some (w6 (s.At + 1), _) = _; rw [wn1]
theorem ex_1 (s : zA) {x : zB} (hop : x.Op = 1) : zeu s x = (if (zl7 (rg s x.R) x.zG x.Half).2 ≠ 0 then .error 2 else match zlg s.Storage x.Place (szE x.zG) with | .error e => .error e | .ok a => .ok (s.At + 1, updS s (wrV s.Storage a.toNat (zrd x.zG (zl7 (rg s x.R) x.zG x.Half).1.N)))) := by
 cases x; cases hop; rfl
theorem hx_1 (N : Nat) (M : zC) {x : zB} (hop : x.Op = 1) : zd N M x = (zex N M x).bind fun r => some (w6 (r.zA.At + 1), r) := by
 cases x; cases hop; rfl
theorem rx_1 (N : Nat) {x : zB} (hop : x.Op = 1) (hi : idx c.zD s.At = some x) : ze N c s = (if 0 ≤ x.R then (if x.R < (s.Registers.length : Int) then ((s.Registers[x.R.toNat]?).bind fun x3 => (zle N x3 x.zG x.Half).bind fun r4 =>
 cond (r4.2 != 0) (some (2, s)) ((zbi x.zG).bind fun r5 => (zc3 N s x.Place r5).bind fun r6 => cond (r6.2 != 0) (some (r6.2, s))
 ((zbk N x.zG r4.1).bind fun r7 => (zb8 N s.Storage r6.1 r7).bind fun r8 => some (0, updS s r8)))) else none) else none).bind fun r => some (w6 (s.At + 1), r.1, r.2) := by
 unfold ze
 rw [hi, obs]
 clear hi
 cases x; cases hop; rfl
theorem zae7 (N : Nat) (hN : 20000 < N) (hc : CodeV m c) (hs : StV m c s) {x : zB} (hx : c.zD[s.At.toNat]? = some x) (hop : x.Op = 1) : zce N m c s x := by
 have iv := zg8 hc (lmg hx) hop (U := ⟨true, false, false, true, false, true, false, false, false, false, false, false, false, false, 1, 0⟩) rfl
 have hi : idx c.zD s.At = some x := by unfold idx; rw [ifp hs.at0, hx]
 have m8 := hc.m2
 have a0 := hs.at0
 have a1 := hs.at1
 have n240 := hc.len
 have wn1 : w6 (s.At + 1) = s.At + 1 := w6e
 unfold zce
 rw [ex_1 s hop, hx_1 N _ hop, rx_1 N hop hi]
 obtain ⟨g1, g2, g3, g4, g5⟩ := zf3 hs (iv.r rfl)
 have ht := iv.ty1 rfl
 have hp : zch s.Storage x.Place (szE x.zG) = true := by rw [zgv hs.size]; have := iv.pl rfl; unfold zgm at this; rw [ifn] at this; exact this
 have hsz := zj5 ht.1
 unfold zex
 rw [ifp g1, ifp g2, g3]
 simp only []
 rw [g4]
 simp only [obs]
 rw [zacb N (by omega) g5 ht, zab1 N (by omega) g5 ht]
 simp only [obs]
 rw [zhz _ _ _ _ (by decide)]
 simp only [obs]
 by_cases hv : (zl7 (rg s x.R) x.zG x.Half).2 = 0
 · rw [hv, ifn (by decide)]; simp only [bsf, Bool.not_false, ctr, cfa]; have hr : -((10 ^ x.zG.Length.toNat : Nat) : Int) < (zl7 (rg s x.R) x.zG x.Half).1.N ∧ (zl7 (rg s x.R) x.zG x.Half).1.N < ((10 ^ x.zG.Length.toNat : Nat) : Int) := zl3 (zact hv); obtain ⟨n, hcv⟩ : ∃ n, (zl7 (rg s x.R) x.zG x.Half).1 = ⟨n, ⟨#[]⟩⟩ := ⟨_, zaew _ _ _⟩; rw [hcv] at hr ⊢; simp only [] at hr ⊢; rw [z8g N (by omega) ht _ hr, zje ht.1]; simp only [obs]; have hes := z8z ht n; unfold za6; rw [hes]; rcases zr6 N (by omega) s c hs.sto hp hsz.1 hsz.2 with ⟨e, j, k, he, h1, h2, h3⟩ | ⟨a, h1, h2, h3, h4, h5⟩
   · rw [h1, h2, h3]; refine .inl ⟨e, _, w6 (s.At + 1), s, rfl, by omega, rfl, ?_⟩; rcases he with rfl | rfl <;> rfl
   · rw [h1, h2, h3]; obtain ⟨a, rfl⟩ : ∃ k : Nat, a = (k : Int) := ⟨a.toNat, by omega⟩; have hw : a + (zrd x.zG n).size ≤ s.Storage.Bytes.size := by omega
     have hw0 : 0 < (zrd x.zG n).size := by omega
     refine .inr ⟨_, _, _, rfl, ?_, ?_, fun _ => ⟨rfl, by omega, by omega⟩, hs.updS (z1r hs.sto hw hw0) (ztb hw), rfl, rfl, rfl⟩
     · simp only [obs, ctr]; rw [z1t N (by omega) hs.sto hw hw0]; show some (w6 (s.At + 1), _) = _; rw [wn1]; rfl
     · simp only [obs, bsf, cfa]; rw [z91 N (by omega) ht _ hr]; simp only [obs]; rw [zxt N (by omega) hs.sto hw hw0]; show some (w6 (s.At + 1), _) = _; rw [wn1]; rfl
 · rw [ifp hv, zcj, dct hv]; exact .inl ⟨2, _, _, s, rfl, by omega, rfl, rfl⟩
theorem ex_2 (s : zA) {x : zB} (hop : x.Op = 2) : zeu s x = (.ok (s.At + 1, updR s x.R x.Number)) := by
 cases x; cases hop; rfl
theorem hx_2 (N : Nat) (M : zC) {x : zB} (hop : x.Op = 2) : zd N M x = (zab M x.R x.Number).bind fun r => some (w6 (r.zA.At + 1), r) := by
 cases x; cases hop; rfl
theorem rx_2 (N : Nat) {x : zB} (hop : x.Op = 2) (hi : idx c.zD s.At = some x) : ze N c s = (if 0 ≤ x.R then (if x.R < (s.Registers.length : Int) then ((s.Registers[x.R.toNat]?).bind fun _ => some (0, updR s x.R x.Number)) else none) else none).bind fun r => some (w6 (s.At + 1), r.1, r.2) := by
 unfold ze
 rw [hi, obs]
 clear hi
 cases x; cases hop; rfl
theorem zae6 (N : Nat) (hN : 20000 < N) (hc : CodeV m c) (hs : StV m c s) {x : zB} (hx : c.zD[s.At.toNat]? = some x) (hop : x.Op = 2) : zce N m c s x := by
 have iv := zg8 hc (lmg hx) hop (U := ⟨true, false, false, false, false, false, true, false, false, false, false, false, false, false, 0, 0⟩) rfl
 have hi : idx c.zD s.At = some x := by unfold idx; rw [ifp hs.at0, hx]
 have m8 := hc.m2
 have a0 := hs.at0
 have a1 := hs.at1
 have n240 := hc.len
 have wn1 : w6 (s.At + 1) = s.At + 1 := w6e
 unfold zce
 rw [ex_2 s hop, hx_2 N _ hop, rx_2 N hop hi]
 obtain ⟨g1, g2, g3, g4, g5⟩ := zf3 hs (iv.r rfl)
 refine .inr ⟨_, _, _, rfl, ?_, ?_, fun _ => ⟨rfl, by omega, by omega⟩, hs.updR iv.nu, rfl, rfl, rfl⟩
 · rw [zvq hs m8 (iv.r rfl)]; show some (w6 (s.At + 1), _) = _; rw [wn1]
 · rw [ifp g1, ifp g2, g3]; show some (w6 (s.At + 1), _) = _; rw [wn1]
theorem ex_3 (s : zA) {x : zB} (hop : x.Op = 3) : zeu s x = (.ok (s.At + 1, updR s x.R (rg s x.A))) := by
 cases x; cases hop; rfl
theorem hx_3 (N : Nat) (M : zC) {x : zB} (hop : x.Op = 3) : zd N M x = (idx M.zA.Registers x.A).bind fun v => (zab M x.R v).bind fun r => some (w6 (r.zA.At + 1), r) := by
 cases x; cases hop; rfl
theorem rx_3 (N : Nat) {x : zB} (hop : x.Op = 3) (hi : idx c.zD s.At = some x) : ze N c s = (if 0 ≤ x.A then (if x.A < (s.Registers.length : Int) then ((s.Registers[x.A.toNat]?).bind fun v => if 0 ≤ x.R then (if x.R < (s.Registers.length : Int) then ((s.Registers[x.R.toNat]?).bind fun _ => some (0, updR s x.R v)) else none) else none) else none) else none).bind fun r => some (w6 (s.At + 1), r.1, r.2) := by
 unfold ze
 rw [hi, obs]
 clear hi
 cases x; cases hop; rfl
theorem zae5 (N : Nat) (hN : 20000 < N) (hc : CodeV m c) (hs : StV m c s) {x : zB} (hx : c.zD[s.At.toNat]? = some x) (hop : x.Op = 3) : zce N m c s x := by
 have iv := zg8 hc (lmg hx) hop (U := ⟨true, true, false, false, false, false, false, false, false, false, false, false, false, false, 0, 0⟩) rfl
 have hi : idx c.zD s.At = some x := by unfold idx; rw [ifp hs.at0, hx]
 have m8 := hc.m2
 have a0 := hs.at0
 have a1 := hs.at1
 have n240 := hc.len
 have wn1 : w6 (s.At + 1) = s.At + 1 := w6e
 unfold zce
 rw [ex_3 s hop, hx_3 N _ hop, rx_3 N hop hi]
 obtain ⟨g1, g2, g3, g4, g5⟩ := zf3 hs (iv.r rfl)
 obtain ⟨f1, f2, f3, f4, f5⟩ := zf3 hs (iv.a rfl)
 refine .inr ⟨_, _, _, rfl, ?_, ?_, fun _ => ⟨rfl, by omega, by omega⟩, hs.updR f5, rfl, rfl, rfl⟩
 · show ((idx s.Registers x.A).bind _) = _; rw [f4, obs, zvq hs m8 (iv.r rfl)]; show some (w6 (s.At + 1), _) = _; rw [wn1]
 · rw [ifp f1, ifp f2, f3, obs, ifp g1, ifp g2, g3]; show some (w6 (s.At + 1), _) = _; rw [wn1]
theorem ex_5 (s : zA) {x : zB} (hop : x.Op = 5) : zeu s x = (.ok (s.At + 1, updC s (zq1 s x.A x.B))) := by
 cases x; cases hop; rfl
theorem hx_5 (N : Nat) (M : zC) {x : zB} (hop : x.Op = 5) : zd N M x = (zav N M x).bind fun r => some (w6 (M.zA.At + 1), ⟨updC M.zA r, M.code, M.raised⟩) := by
 cases x; cases hop; rfl
theorem rx_5 (N : Nat) {x : zB} (hop : x.Op = 5) (hi : idx c.zD s.At = some x) : ze N c s = (if 0 ≤ x.A then (if x.A < (s.Registers.length : Int) then ((s.Registers[x.A.toNat]?).bind fun v => if 0 ≤ x.B then (if x.B < (s.Registers.length : Int) then ((s.Registers[x.B.toNat]?).bind fun w => (zk2 N v w).bind fun r14 => (zgu r14).bind fun r15 => some (0, updC s r15)) else none) else none) else none) else none).bind fun r => some (w6 (s.At + 1), r.1, r.2) := by
 unfold ze
 rw [hi, obs]
 clear hi
 cases x; cases hop; rfl
theorem zae3 (N : Nat) (hN : 20000 < N) (hc : CodeV m c) (hs : StV m c s) {x : zB} (hx : c.zD[s.At.toNat]? = some x) (hop : x.Op = 5) : zce N m c s x := by
 have iv := zg8 hc (lmg hx) hop (U := ⟨false, true, true, false, false, false, false, false, false, false, false, false, false, false, 0, 0⟩) rfl
 have hi : idx c.zD s.At = some x := by unfold idx; rw [ifp hs.at0, hx]
 have m8 := hc.m2
 have a0 := hs.at0
 have a1 := hs.at1
 have n240 := hc.len
 have wn1 : w6 (s.At + 1) = s.At + 1 := w6e
 unfold zce
 rw [ex_5 s hop, hx_5 N _ hop, rx_5 N hop hi]
 obtain ⟨g1, g2, g3, g4, g5⟩ := zf3 hs (iv.b rfl)
 obtain ⟨f1, f2, f3, f4, f5⟩ := zf3 hs (iv.a rfl)
 refine .inr ⟨_, _, _, rfl, ?_, ?_, fun _ => ⟨rfl, by omega, by omega⟩, hs.updC (zpe _), rfl, rfl, rfl⟩
 · rw [z01 N (by omega) hs x (iv.a rfl) (iv.b rfl)]; show some (w6 (s.At + 1), _) = _; rw [wn1]
 · rw [ifp f1, ifp f2, f3, obs, ifp g1, ifp g2, g3, obs, z2n N (by omega) f5 g5, obs, zqz]; show some (w6 (s.At + 1), _) = _; rw [wn1]; rfl
theorem zahf (s : zA) {x : zB} (hop : x.Op = 21) : zeu s x = (.ok (s.At + 1, updR s x.R ⟨s.Exception, 0⟩)) := by
 cases x; cases hop; rfl
theorem zagu (N : Nat) (M : zC) {x : zB} (hop : x.Op = 21) : zd N M x = (zab M x.R ⟨M.zA.Exception, 0⟩).bind fun r => some (w6 (r.zA.At + 1), r) := by
 cases x; cases hop; rfl
theorem zaft (N : Nat) {x : zB} (hop : x.Op = 21) (hi : idx c.zD s.At = some x) : ze N c s = (if 0 ≤ x.R then (if x.R < (s.Registers.length : Int) then ((s.Registers[x.R.toNat]?).bind fun _ => some (0, updR s x.R ⟨s.Exception, 0⟩)) else none) else none).bind fun r => some (w6 (s.At + 1), r.1, r.2) := by
 unfold ze
 rw [hi, obs]
 clear hi
 cases x; cases hop; rfl
theorem zac2 (N : Nat) (hN : 20000 < N) (hc : CodeV m c) (hs : StV m c s) {x : zB} (hx : c.zD[s.At.toNat]? = some x) (hop : x.Op = 21) : zce N m c s x := by
 have iv := zg8 hc (lmg hx) hop (U := ⟨true, false, false, false, false, false, false, false, false, false, false, false, false, false, 0, 0⟩) rfl
 have hi : idx c.zD s.At = some x := by unfold idx; rw [ifp hs.at0, hx]
 have m8 := hc.m2
 have a0 := hs.at0
 have a1 := hs.at1
 have n240 := hc.len
 have wn1 : w6 (s.At + 1) = s.At + 1 := w6e
 unfold zce
 rw [zahf s hop, zagu N _ hop, zaft N hop hi]
 obtain ⟨g1, g2, g3, g4, g5⟩ := zf3 hs (iv.r rfl)
 have hn : zcu ⟨s.Exception, 0⟩ := by
  have := hs.ex0; have := hs.ex1; exact ⟨⟨by show -999999999999999 ≤ s.Exception; omega, by show s.Exception ≤ 999999999999999; omega⟩, by show (0 : Int) ≤ 0; omega, by show (0 : Int) ≤ 15; omega⟩
 refine .inr ⟨_, _, _, rfl, ?_, ?_, fun _ => ⟨rfl, by omega, by omega⟩, hs.updR hn, rfl, rfl, rfl⟩
 · rw [zvq hs m8 (iv.r rfl)]; show some (w6 (s.At + 1), _) = _; rw [wn1]
 · rw [ifp g1, ifp g2, g3]; show some (w6 (s.At + 1), _) = _; rw [wn1]
end
section
variable {m : zI} {c : zF} {s : zA}
theorem z45 {op : Int} {a b : Number} {t : DataType} {half : Bool} (h : (zhb op a b t half).2 = 0) : -((10 ^ t.Length.toNat : Nat) : Int) < (zhb op a b t half).1.N ∧ (zhb op a b t half).1.N < ((10 ^ t.Length.toNat : Nat) : Int) := by
 unfold zhb at h ⊢
 by_cases h1 : (op = 3 ∨ op = 4) ∧ b.N = 0
 · rw [ifp h1] at h; cases h
 · rw [ifn h1] at h ⊢
   by_cases h2 : op = 0
   · rw [ifp h2] at h ⊢; exact zl3 h
   · rw [ifn h2] at h ⊢
     by_cases h3 : op = 1
     · rw [ifp h3] at h ⊢; exact zl3 h
     · rw [ifn h3] at h ⊢
       by_cases h4 : op = 2
       · rw [ifp h4] at h ⊢; exact zl3 h
       · rw [ifn h4] at h ⊢
         by_cases h5 : op = 3
         · rw [ifp h5] at h ⊢; exact zl3 h
         · rw [ifn h5] at h ⊢; exact zl3 h
theorem zad8 {t : DataType} (ht : zig t) {n : Int} (h : -((10 ^ t.Length.toNat : Nat) : Int) < n ∧ n < ((10 ^ t.Length.toNat : Nat) : Int)) : zcu ⟨n, t.Scale⟩ := by
 obtain ⟨⟨l1, l2⟩, l3, l4⟩ := zgd ht
 have hpw : 10 ^ t.Length.toNat ≤ 10 ^ 15 := zb4 (by omega)
 refine ⟨⟨?_, ?_⟩, l3, ?_⟩
 · show -999999999999999 ≤ n; omega
 · show n ≤ 999999999999999; omega
 · show t.Scale ≤ 15; omega
theorem z39 (N : Nat) (hN : 20000 < N) (hs : StV m c s) (m8 : m.Registers ≤ 8) {x : zB} (hr : 0 ≤ x.R ∧ x.R < m.Registers) (ha : 0 ≤ x.A ∧ x.A < m.Registers) (ht : zig x.zG) (ho : 0 ≤ x.zK ∧ x.zK ≤ 4) {b : Number} (hb : zcu b) :
 (∃ e, (e = 3 ∨ e = 2) ∧ (if (zhb x.zK (rg s x.A) b x.zG false).2 = 20 then (.error 3 : Except Int (Int × zA)) else if (zhb x.zK (rg s x.A) b x.zG false).2 ≠ 0 then .error 2 else .ok (s.At + 1, updR s x.R ⟨(zhb x.zK (rg s x.A) b x.zG false).1.N, x.zG.Scale⟩)) = .error e ∧
  ((zci N x.zK (rg s x.A) b x.zG false).bind fun r3 => (zf ⟨s, c, 0⟩ (r3.2 == 20) 3).bind fun r4 => cond r4.1 ((zf r4.2 (r3.2 != 0) 2).bind fun r5 => cond r5.1 ((zab r5.2 x.R (⟨r3.1.N, x.zG.Scale⟩ : Number)).bind fun r6 => some r6) (some r5.2)) (some r4.2)) = some ⟨s, c, e⟩ ∧
  ((zfd N (⟨x.zK, x.zG, false⟩ : zV) (rg s x.A) b).bind fun r19 => cond (r19.2 == 20) (some ((3 : Int), s)) (cond (r19.2 != 0) (some (2, s)) (if 0 ≤ x.R then (if x.R < (s.Registers.length : Int) then ((s.Registers[x.R.toNat]?).bind fun _ => some (0, updR s x.R ⟨r19.1.N, x.zG.Scale⟩)) else none) else none))) = some (e, s)) ∨
 ∃ n, zcu n ∧ (if (zhb x.zK (rg s x.A) b x.zG false).2 = 20 then (.error 3 : Except Int (Int × zA)) else if (zhb x.zK (rg s x.A) b x.zG false).2 ≠ 0 then .error 2 else .ok (s.At + 1, updR s x.R ⟨(zhb x.zK (rg s x.A) b x.zG false).1.N, x.zG.Scale⟩)) = .ok (s.At + 1, updR s x.R n) ∧
  ((zci N x.zK (rg s x.A) b x.zG false).bind fun r3 => (zf ⟨s, c, 0⟩ (r3.2 == 20) 3).bind fun r4 => cond r4.1 ((zf r4.2 (r3.2 != 0) 2).bind fun r5 => cond r5.1 ((zab r5.2 x.R (⟨r3.1.N, x.zG.Scale⟩ : Number)).bind fun r6 => some r6) (some r5.2)) (some r4.2)) = some ⟨updR s x.R n, c, 0⟩ ∧
  ((zfd N (⟨x.zK, x.zG, false⟩ : zV) (rg s x.A) b).bind fun r19 => cond (r19.2 == 20) (some ((3 : Int), s)) (cond (r19.2 != 0) (some (2, s)) (if 0 ≤ x.R then (if x.R < (s.Registers.length : Int) then ((s.Registers[x.R.toNat]?).bind fun _ => some (0, updR s x.R ⟨r19.1.N, x.zG.Scale⟩)) else none) else none))) = some (0, updR s x.R n) := by
 obtain ⟨g1, g2, g3, g4, g5⟩ := zf3 hs hr
 obtain ⟨f1, f2, f3, f4, f5⟩ := zf3 hs ha
 rw [zacc N (by omega) ho f5 hb ht, zab2 N (by omega) ho f5 hb ht]
 simp only [obs]
 rw [zhz _ _ _ _ (by decide)]
 simp only [obs, zat]
 by_cases h20 : (zhb x.zK (rg s x.A) b x.zG false).2 = 20
 · left; rw [dct h20, ifp h20]; exact ⟨3, .inl rfl, rfl, rfl, rfl⟩
 · rw [dcf h20, ifn h20]; simp only [Bool.not_false, ctr, cfa]; rw [zhz _ _ _ _ (by decide)]; simp only [obs]
   by_cases h0 : (zhb x.zK (rg s x.A) b x.zG false).2 = 0
   · right; have hn := zad8 ht (z45 h0); rw [ifn (by rw [h0]; decide), h0]; refine ⟨_, hn, rfl, ?_, ?_⟩
     · simp only [bsf, Bool.not_false, ctr, cfa]; rw [zvq hs m8 hr]; rfl
     · simp only [bsf, cfa]; rw [ifp g1, ifp g2, g3]; rfl
   · left; rw [ifp h0, zcj, dct h0]; exact ⟨2, .inr rfl, rfl, rfl, rfl⟩
theorem ex_4 (s : zA) {x : zB} (hop : x.Op = 4) : zeu s x = (match (if x.zM = true then zx8 s.Storage x.Place x.Second else .ok (rg s x.B)) with
 | .error e => .error e
 | .ok b => if (zhb x.zK (rg s x.A) b x.zG false).2 = 20 then .error 3 else if (zhb x.zK (rg s x.A) b x.zG false).2 ≠ 0 then .error 2 else .ok (s.At + 1, updR s x.R ⟨(zhb x.zK (rg s x.A) b x.zG false).1.N, x.zG.Scale⟩)) := by
 cases x; cases hop; rfl
theorem hx_4 (N : Nat) (M : zC) {x : zB} (hop : x.Op = 4) : zd N M x = (cond x.zM ((zbj N M x.Place x.Second).bind fun r1 => cond (!r1.2.1) (some r1.2.2) ((idx r1.2.2.zA.Registers x.A).bind fun x2 =>
 (zci N x.zK x2 r1.1 x.zG false).bind fun r3 => (zf r1.2.2 (r3.2 == 20) 3).bind fun r4 =>
 cond r4.1 ((zf r4.2 (r3.2 != 0) 2).bind fun r5 => cond r5.1 ((zab r5.2 x.R (⟨r3.1.N, x.zG.Scale⟩ : Number)).bind fun r6 => some r6)
 (some r5.2)) (some r4.2))) ((idx M.zA.Registers x.B).bind fun x7 => (idx M.zA.Registers x.A).bind fun x8 =>
 (zci N x.zK x8 x7 x.zG false).bind fun r9 => (zf M (r9.2 == 20) 3).bind fun r10 =>
 cond r10.1 ((zf r10.2 (r9.2 != 0) 2).bind fun r11 => cond r11.1 ((zab r11.2 x.R (⟨r9.1.N, x.zG.Scale⟩ : Number)).bind fun r12 =>
 some r12) (some r11.2)) (some r10.2))).bind fun r => some (w6 (r.zA.At + 1), r) := by
 cases x; cases hop; rfl
theorem rx_4 (N : Nat) {x : zB} (hop : x.Op = 4) (hi : idx c.zD s.At = some x) : ze N c s = (cond x.zM ((zi4 N s x.Place x.Second).bind fun r17 => cond (r17.2 != 0) (some (r17.2, s))
 (if 0 ≤ x.A then (if x.A < (s.Registers.length : Int) then ((s.Registers[x.A.toNat]?).bind fun x18 =>
 (zfd N (⟨x.zK, x.zG, false⟩ : zV) x18 r17.1).bind fun r19 => cond (r19.2 == 20) (some (3, s)) (cond (r19.2 != 0) (some (2, s)) (if 0 ≤ x.R then (if x.R < (s.Registers.length : Int) then ((s.Registers[x.R.toNat]?).bind fun _ => some (0, updR s x.R ⟨r19.1.N, x.zG.Scale⟩)) else none) else none))) else none) else none))
 (if 0 ≤ x.B then (if x.B < (s.Registers.length : Int) then ((s.Registers[x.B.toNat]?).bind fun x21 =>
 if 0 ≤ x.A then (if x.A < (s.Registers.length : Int) then ((s.Registers[x.A.toNat]?).bind fun x22 =>
 (zfd N (⟨x.zK, x.zG, false⟩ : zV) x22 x21).bind fun r19 => cond (r19.2 == 20) (some (3, s)) (cond (r19.2 != 0) (some (2, s)) (if 0 ≤ x.R then (if x.R < (s.Registers.length : Int) then ((s.Registers[x.R.toNat]?).bind fun _ => some (0, updR s x.R ⟨r19.1.N, x.zG.Scale⟩)) else none) else none))) else none) else none) else none) else none)).bind fun r => some (w6 (s.At + 1), r.1, r.2) := by
 unfold ze
 rw [hi, obs]
 clear hi
 cases x; cases hop; rfl
theorem zae4 (N : Nat) (hN : 20000 < N) (hc : CodeV m c) (hs : StV m c s) {x : zB} (hx : c.zD[s.At.toNat]? = some x) (hop : x.Op = 4) : zce N m c s x := by
 have hi : idx c.zD s.At = some x := by unfold idx; rw [ifp hs.at0, hx]
 have m8 := hc.m2
 have a0 := hs.at0
 have a1 := hs.at1
 have n240 := hc.len
 have wn1 : w6 (s.At + 1) = s.At + 1 := w6e
 unfold zce
 rw [ex_4 s hop, hx_4 N _ hop, rx_4 N hop hi]
 by_cases hst : x.zM = true
 · have iv := zg8 hc (lmg hx) hop (U := ⟨true, true, false, true, false, false, false, true, false, false, false, false, false, false, 1, 1⟩) (by rw [hst]; rfl); obtain ⟨f1, f2, f3, f4, f5⟩ := zf3 hs (iv.a rfl); have hp : zch s.Storage x.Place (szE x.Second) = true := by rw [zgv hs.size]; have := iv.pl rfl; unfold zgm at this; rw [ifp hop] at this; exact this
   rw [hst]; simp only [ctr, if_true]; rcases z24 N (by omega) s c hs.sto (iv.se1 rfl) hp with ⟨e, b, k, he, h1, h2, h3⟩ | ⟨n, h1, h2, h3, h4⟩
   · rw [h1, h2, h3]; refine .inl ⟨e, _, w6 (s.At + 1), s, rfl, by omega, rfl, ?_⟩; rcases he with rfl | rfl | rfl <;> rfl
   · rw [h1, h2, h3]; simp only [obs, bnt, cfa, bsf]; rw [f4, ifp f1, ifp f2, f3]; simp only [obs]; rcases z39 (c := c) N hN hs m8 (iv.r rfl) (iv.a rfl) (iv.ty1 rfl) (iv.ca rfl) h4 with ⟨e, he, k1, k2, k3⟩ | ⟨n, hn, k1, k2, k3⟩
     · rw [k1, k2, k3]; exact .inl ⟨e, _, w6 (s.At + 1), s, rfl, by omega, rfl, rfl⟩
     · rw [k1, k2, k3]; refine .inr ⟨_, _, _, rfl, ?_, ?_, fun _ => ⟨rfl, by omega, by omega⟩, hs.updR hn, rfl, rfl, rfl⟩
       · show some (w6 (s.At + 1), _) = _; rw [wn1]
       · show some (w6 (s.At + 1), _) = _; rw [wn1]
 · have hst' : x.zM = false := by simpa using hst
   have iv := zg8 hc (lmg hx) hop (U := ⟨true, true, true, false, false, false, false, true, false, false, false, false, false, false, 1, 0⟩) (by rw [hst']; rfl); obtain ⟨f1, f2, f3, f4, f5⟩ := zf3 hs (iv.a rfl); obtain ⟨b1, b2, b3, b4, b5⟩ := zf3 hs (iv.b rfl); rw [hst']; simp only [cfa, Bool.false_eq_true, if_false]; rw [b4, obs, f4, ifp b1, ifp b2, b3]; simp only [obs]; rw [ifp f1, ifp f2, f3]; simp only [obs]; rcases z39 (c := c) N hN hs m8 (iv.r rfl) (iv.a rfl) (iv.ty1 rfl) (iv.ca rfl) b5 with ⟨e, he, k1, k2, k3⟩ | ⟨n, hn, k1, k2, k3⟩
   · rw [k1, k2, k3]; exact .inl ⟨e, _, w6 (s.At + 1), s, rfl, by omega, rfl, rfl⟩
   · rw [k1, k2, k3]; refine .inr ⟨_, _, _, rfl, ?_, ?_, fun _ => ⟨rfl, by omega, by omega⟩, hs.updR hn, rfl, rfl, rfl⟩
     · show some (w6 (s.At + 1), _) = _; rw [wn1]
     · show some (w6 (s.At + 1), _) = _; rw [wn1]
theorem ex_6 (s : zA) {x : zB} (hop : x.Op = 6) : zeu s x = (.ok (cond (zh .i64 s.Condition x.Mask != 0) x.Target (s.At + 1), s)) := by
 cases x; cases hop; rfl
theorem hx_6 (N : Nat) (M : zC) {x : zB} (hop : x.Op = 6) : zd N M x = (cond ((zh .i64 M.zA.Condition x.Mask) != 0) (some (x.Target, M)) (some ((w6 (M.zA.At + 1)), M))).bind fun r => some (r.1, r.2) := by
 cases x; cases hop; rfl
theorem rx_6 (N : Nat) {x : zB} (hop : x.Op = 6) (hi : idx c.zD s.At = some x) : ze N c s = cond ((zh .i64 x.Mask s.Condition) != 0) (some (x.Target, 0, s)) (some ((w6 (s.At + 1)), 0, s)) := by
 unfold ze
 rw [hi, obs]
 clear hi
 cases x; cases hop; rfl
theorem zae2 (N : Nat) (hN : 20000 < N) (hc : CodeV m c) (hs : StV m c s) {x : zB} (hx : c.zD[s.At.toNat]? = some x) (hop : x.Op = 6) : zce N m c s x := by
 have iv := zg8 hc (lmg hx) hop (U := ⟨false, false, false, false, false, false, false, false, true, true, false, false, false, false, 0, 0⟩) rfl
 have hi : idx c.zD s.At = some x := by unfold idx; rw [ifp hs.at0, hx]
 have m8 := hc.m2
 have a0 := hs.at0
 have a1 := hs.at1
 have n240 := hc.len
 have wn1 : w6 (s.At + 1) = s.At + 1 := w6e
 unfold zce
 rw [ex_6 s hop, hx_6 N _ hop, rx_6 N hop hi]
 have ht := iv.tg rfl
 rw [z1d x.Mask s.Condition]
 simp only [wn1]
 cases (zh .i64 s.Condition x.Mask != 0) with
 | true => exact .inr ⟨_, _, _, rfl, rfl, rfl, fun _ => ⟨rfl, by show 0 ≤ x.Target; omega, by show x.Target ≤ _; omega⟩, hs, rfl, rfl, rfl⟩
 | false => exact .inr ⟨_, _, _, rfl, rfl, rfl, fun _ => ⟨rfl, by show 0 ≤ s.At + 1; omega, by show s.At + 1 ≤ _; omega⟩, hs, rfl, rfl, rfl⟩
theorem ex_7 (s : zA) {x : zB} (hop : x.Op = 7) : zeu s x = (.ok (cond (zh .i64 (zq1 s x.A x.B) x.Mask != 0) x.Target (s.At + 1), s)) := by
 cases x; cases hop; rfl
theorem hx_7 (N : Nat) (M : zC) {x : zB} (hop : x.Op = 7) : zd N M x = ((zav N M x).bind fun r3 => cond ((zh .i64 r3 x.Mask) != 0) (some (x.Target, M)) (some ((w6 (M.zA.At + 1)), M))).bind fun r => some (r.1, r.2) := by
 cases x; cases hop; rfl
theorem rx_7 (N : Nat) {x : zB} (hop : x.Op = 7) (hi : idx c.zD s.At = some x) : ze N c s = if 0 ≤ x.A then (if x.A < (s.Registers.length : Int) then ((s.Registers[x.A.toNat]?).bind fun x2 =>
 if 0 ≤ x.B then (if x.B < (s.Registers.length : Int) then ((s.Registers[x.B.toNat]?).bind fun x3 => (zk2 N x2 x3).bind fun r4 => (zgu r4).bind fun r5 =>
 cond ((zh .i64 x.Mask r5) != 0) (some (x.Target, 0, s)) (some ((w6 (s.At + 1)), 0, s))) else none) else none) else none) else none := by
 unfold ze
 rw [hi, obs]
 clear hi
 cases x; cases hop; rfl
theorem zae1 (N : Nat) (hN : 20000 < N) (hc : CodeV m c) (hs : StV m c s) {x : zB} (hx : c.zD[s.At.toNat]? = some x) (hop : x.Op = 7) : zce N m c s x := by
 have iv := zg8 hc (lmg hx) hop (U := ⟨false, true, true, false, false, false, false, false, true, true, false, false, false, false, 0, 0⟩) rfl
 have hi : idx c.zD s.At = some x := by unfold idx; rw [ifp hs.at0, hx]
 have m8 := hc.m2
 have a0 := hs.at0
 have a1 := hs.at1
 have n240 := hc.len
 have wn1 : w6 (s.At + 1) = s.At + 1 := w6e
 unfold zce
 rw [ex_7 s hop, hx_7 N _ hop, rx_7 N hop hi]
 have ht := iv.tg rfl
 obtain ⟨g1, g2, g3, g4, g5⟩ := zf3 hs (iv.b rfl)
 obtain ⟨f1, f2, f3, f4, f5⟩ := zf3 hs (iv.a rfl)
 rw [z01 N (by omega) hs x (iv.a rfl) (iv.b rfl), ifp f1, ifp f2, f3, obs, obs, ifp g1, ifp g2, g3, obs, z2n N (by omega) f5 g5, obs, zqz, obs]
 rw [show zn5 (zz7 (zak (rg s x.A) (zi (rg s x.A) (rg s x.B))) (zak (rg s x.B) (zi (rg s x.A) (rg s x.B)))) = zq1 s x.A x.B from rfl, z1d x.Mask]
 simp only [wn1]
 cases (zh .i64 (zq1 s x.A x.B) x.Mask != 0) with
 | true => exact .inr ⟨_, _, _, rfl, rfl, rfl, fun _ => ⟨rfl, by show 0 ≤ x.Target; omega, by show x.Target ≤ _; omega⟩, hs, rfl, rfl, rfl⟩
 | false => exact .inr ⟨_, _, _, rfl, rfl, rfl, fun _ => ⟨rfl, by show 0 ≤ s.At + 1; omega, by show s.At + 1 ≤ _; omega⟩, hs, rfl, rfl, rfl⟩
theorem ex_8 (s : zA) {x : zB} (hop : x.Op = 8) : zeu s x = (.ok (x.Target, s)) := by
 cases x; cases hop; rfl
theorem hx_8 (N : Nat) (M : zC) {x : zB} (hop : x.Op = 8) : zd N M x = some (x.Target, M) := by
 cases x; cases hop; rfl
theorem rx_8 (N : Nat) {x : zB} (hop : x.Op = 8) (hi : idx c.zD s.At = some x) : ze N c s = some (x.Target, 0, s) := by
 unfold ze
 rw [hi, obs]
 clear hi
 cases x; cases hop; rfl
theorem zae0 (N : Nat) (hN : 20000 < N) (hc : CodeV m c) (hs : StV m c s) {x : zB} (hx : c.zD[s.At.toNat]? = some x) (hop : x.Op = 8) : zce N m c s x := by
 have iv := zg8 hc (lmg hx) hop (U := ⟨false, false, false, false, false, false, false, false, false, true, false, false, false, false, 0, 0⟩) rfl
 have hi : idx c.zD s.At = some x := by unfold idx; rw [ifp hs.at0, hx]
 have m8 := hc.m2
 have a0 := hs.at0
 have a1 := hs.at1
 have n240 := hc.len
 have wn1 : w6 (s.At + 1) = s.At + 1 := w6e
 unfold zce
 rw [ex_8 s hop, hx_8 N _ hop, rx_8 N hop hi]
 have ht := iv.tg rfl
 exact .inr ⟨_, _, _, rfl, rfl, rfl, fun _ => ⟨rfl, by omega, by omega⟩, hs, rfl, rfl, rfl⟩
theorem z28 (N : Nat) (hN : 20000 < N) (hc : CodeV m c) (hs : StV m c s) {p : zO} {t : DataType} (ht : zdm t = 0) (hk : t.Kind = 0) (hp : zch s.Storage p (szE t) = true) (b : ByteArray) (hb : b.size ≤ 5000) :
 (∃ e, (e = 4 ∨ e = 5) ∧ zlg s.Storage p (szE t) = .error e ∧
  ((zdu b t.Length).bind fun r4 => if 0 ≤ t.Length ∧ t.Length ≤ (r4.size : Int) then (if 0 ≤ (0 : Int) ∧ (0 : Int) ≤ t.Length then ((za6 N ⟨s, c, 0⟩ p (r4.extract (0 : Int).toNat t.Length.toNat)).bind fun r5 => some r5) else none) else none) = some ⟨s, c, e⟩ ∧
  (((zc3 N s p (szE t)).bind fun r12 => cond (r12.2 != 0) (some (r12.2, s)) ((zgb N b (szE t)).bind fun r13 => (zb8 N s.Storage r12.1 r13).bind fun r14 => some (0, updS s r14))) = some (e, s))) ∨
 ∃ a, zlg s.Storage p (szE t) = .ok a ∧ StV m c (updS s (wrV s.Storage a.toNat (zku b t.Length.toNat))) ∧
  ((zdu b t.Length).bind fun r4 => if 0 ≤ t.Length ∧ t.Length ≤ (r4.size : Int) then (if 0 ≤ (0 : Int) ∧ (0 : Int) ≤ t.Length then ((za6 N ⟨s, c, 0⟩ p (r4.extract (0 : Int).toNat t.Length.toNat)).bind fun r5 => some r5) else none) else none) = some ⟨updS s (wrV s.Storage a.toNat (zku b t.Length.toNat)), c, 0⟩ ∧
  (((zc3 N s p (szE t)).bind fun r12 => cond (r12.2 != 0) (some (r12.2, s)) ((zgb N b (szE t)).bind fun r13 => (zb8 N s.Storage r12.1 r13).bind fun r14 => some (0, updS s r14))) = some (0, updS s (wrV s.Storage a.toNat (zku b t.Length.toNat)))) := by
 have hsz := zj5 ht
 have hle : szE t = t.Length := by unfold szE; rw [ifn, ifn, ifn]
 have hL : t.Length = ((t.Length.toNat : Nat) : Int) := by omega
 have hpad := z3k b hb t.Length.toNat (by omega)
 rw [← hL] at hpad
 rw [hpad, obs]
 have hps : (⟨(bl b ++ List.replicate (t.Length.toNat - b.size) 32).toArray⟩ : ByteArray).size = b.size + (t.Length.toNat - b.size) := by
  show (bl b ++ List.replicate (t.Length.toNat - b.size) 32).length = _; rw [lna, lnr, zam]
 rw [ifp ⟨by omega, by rw [hps]; omega⟩, ifp, show (0 : Int).toNat = 0 from rfl, z8q]
 have hrp : zgb N b (szE t) = some (zku b t.Length.toNat) := by
  have h := zu5 N (by omega) b hb t.Length.toNat (by omega); rw [← hL] at h; rw [hle]; exact h
 unfold za6
 have hpz : ((zku b t.Length.toNat).size : Int) = szE t := by rw [zvi]; omega
 rw [hpz]
 rcases zr6 N (by omega) s c hs.sto hp hsz.1 hsz.2 with ⟨e, j, k, he, h1, h2, h3⟩ | ⟨a, h1, h2, h3, h4, h5⟩
 · left; rw [h1, h2, h3]; refine ⟨e, he, rfl, rfl, ?_⟩; rcases he with rfl | rfl <;> rfl
 · right; rw [h1, h2, h3]; obtain ⟨a, rfl⟩ : ∃ k : Nat, a = (k : Int) := ⟨a.toNat, by omega⟩; have hw : a + (zku b t.Length.toNat).size ≤ s.Storage.Bytes.size := by omega
   have hw0 : 0 < (zku b t.Length.toNat).size := by omega
   refine ⟨_, rfl, hs.updS (z1r hs.sto hw hw0) (ztb hw), ?_, ?_⟩
   · simp only [obs, ctr]; rw [z1t N (by omega) hs.sto hw hw0]; rfl
   · simp only [obs, bsf, cfa]; rw [hrp]; simp only [obs]; rw [zxt N (by omega) hs.sto hw hw0]; rfl
theorem ex_9 (s : zA) {x : zB} (hop : x.Op = 9) : zeu s x = (match zlf s.Storage x.From x.Second with
 | .error e => .error e
 | .ok b => match zlg s.Storage x.Place (szE x.zG) with | .error e => .error e | .ok a => .ok (s.At + 1, updS s (wrV s.Storage a.toNat (zku b x.zG.Length.toNat)))) := by
 cases x; cases hop; rfl
theorem hx_9 (N : Nat) (M : zC) {x : zB} (hop : x.Op = 9) : zd N M x = ((zu N M x.From x.Second).bind fun r1 => cond r1.2.1 ((zdu r1.1 x.zG.Length).bind fun r4 => if 0 ≤ x.zG.Length ∧ x.zG.Length ≤ (r4.size : Int) then (if 0 ≤ (0 : Int) ∧ (0 : Int) ≤ x.zG.Length then ((za6 N r1.2.2 x.Place (r4.extract (0 : Int).toNat x.zG.Length.toNat)).bind fun r5 => some r5) else none) else none) (some r1.2.2)).bind fun r => some (w6 (r.zA.At + 1), r) := by
 cases x; cases hop; rfl
theorem rx_9 (N : Nat) {x : zB} (hop : x.Op = 9) (hi : idx c.zD s.At = some x) : ze N c s = ((zbi x.zG).bind fun r1 => (ze0 N s x.From x.Second).bind fun r8 => cond (r8.2 != 0) (some (r8.2, s)) ((zc3 N s x.Place r1).bind fun r12 => cond (r12.2 != 0) (some (r12.2, s)) ((zgb N r8.1 r1).bind fun r13 => (zb8 N s.Storage r12.1 r13).bind fun r14 => some (0, updS s r14)))).bind fun r => some (w6 (s.At + 1), r.1, r.2) := by
 unfold ze
 rw [hi, obs]
 clear hi
 cases x; cases hop; rfl
theorem zaez (N : Nat) (hN : 20000 < N) (hc : CodeV m c) (hs : StV m c s) {x : zB} (hx : c.zD[s.At.toNat]? = some x) (hop : x.Op = 9) : zce N m c s x := by
 have iv := zg8 hc (lmg hx) hop (U := ⟨false, false, false, true, true, false, false, false, false, false, false, false, false, false, 2, 2⟩) rfl
 have hi : idx c.zD s.At = some x := by unfold idx; rw [ifp hs.at0, hx]
 have m8 := hc.m2
 have a0 := hs.at0
 have a1 := hs.at1
 have n240 := hc.len
 have wn1 : w6 (s.At + 1) = s.At + 1 := w6e
 unfold zce
 rw [ex_9 s hop, hx_9 N _ hop, rx_9 N hop hi]
 have hp : zch s.Storage x.Place (szE x.zG) = true := by rw [zgv hs.size]; have := iv.pl rfl; unfold zgm at this; rw [ifn] at this; exact this
 have hf : zch s.Storage x.From (szE x.Second) = true := by rw [zgv hs.size]; exact iv.fr rfl
 rw [zje (iv.ty2 rfl).1, obs]
 have hz2 := zj5 (iv.se2 rfl).1
 rcases zm9 N (by omega) s c hs.sto (iv.se2 rfl).1 hf with ⟨e, b, k, he, h1, h2, h3⟩ | ⟨b, h1, h2, h3, h4⟩
 · rw [h1, h2, h3]; refine .inl ⟨e, _, w6 (s.At + 1), s, rfl, by omega, rfl, ?_⟩; rcases he with rfl | rfl <;> rfl
 · rw [h1, h2, h3]; simp only [obs, ctr, bsf, cfa]; rcases z28 N hN hc hs (iv.ty2 rfl).1 (iv.ty2 rfl).2 hp b (by omega) with ⟨e, he, k1, k2, k3⟩ | ⟨a, k1, k4, k2, k3⟩
   · rw [k1, k2, k3]; exact .inl ⟨e, _, w6 (s.At + 1), s, rfl, by omega, rfl, rfl⟩
   · rw [k1, k2, k3]; refine .inr ⟨_, _, _, rfl, ?_, ?_, fun _ => ⟨rfl, by omega, by omega⟩, k4, rfl, rfl, rfl⟩
     · show some (w6 (s.At + 1), _) = _; rw [wn1]
     · show some (w6 (s.At + 1), _) = _; rw [wn1]
theorem zahq (s : zA) {x : zB} (hop : x.Op = 10) : zeu s x = (match zlg s.Storage x.Place (szE x.zG) with | .error e => .error e | .ok a => .ok (s.At + 1, updS s (wrV s.Storage a.toNat (zku x.Text x.zG.Length.toNat)))) := by
 cases x; cases hop; rfl
theorem zag5 (N : Nat) (M : zC) {x : zB} (hop : x.Op = 10) : zd N M x = ((zdu x.Text x.zG.Length).bind fun r4 => if 0 ≤ x.zG.Length ∧ x.zG.Length ≤ (r4.size : Int) then (if 0 ≤ (0 : Int) ∧ (0 : Int) ≤ x.zG.Length then ((za6 N M x.Place (r4.extract (0 : Int).toNat x.zG.Length.toNat)).bind fun r5 => some r5) else none) else none).bind fun r => some (w6 (r.zA.At + 1), r) := by
 cases x; cases hop; rfl
theorem zaf4 (N : Nat) {x : zB} (hop : x.Op = 10) (hi : idx c.zD s.At = some x) : ze N c s = ((zbi x.zG).bind fun r1 => (zc3 N s x.Place r1).bind fun r12 => cond (r12.2 != 0) (some (r12.2, s)) ((zgb N x.Text r1).bind fun r13 => (zb8 N s.Storage r12.1 r13).bind fun r14 => some (0, updS s r14))).bind fun r => some (w6 (s.At + 1), r.1, r.2) := by
 unfold ze
 rw [hi, obs]
 clear hi
 cases x; cases hop; rfl
theorem zadd (N : Nat) (hN : 20000 < N) (hc : CodeV m c) (hs : StV m c s) {x : zB} (hx : c.zD[s.At.toNat]? = some x) (hop : x.Op = 10) : zce N m c s x := by
 have iv := zg8 hc (lmg hx) hop (U := ⟨false, false, false, true, false, false, false, false, false, false, true, false, false, false, 2, 0⟩) rfl
 have hi : idx c.zD s.At = some x := by unfold idx; rw [ifp hs.at0, hx]
 have m8 := hc.m2
 have a0 := hs.at0
 have a1 := hs.at1
 have n240 := hc.len
 have wn1 : w6 (s.At + 1) = s.At + 1 := w6e
 unfold zce
 rw [zahq s hop, zag5 N _ hop, zaf4 N hop hi]
 have hp : zch s.Storage x.Place (szE x.zG) = true := by rw [zgv hs.size]; have := iv.pl rfl; unfold zgm at this; rw [ifn] at this; exact this
 have htx := iv.tx
 rw [zje (iv.ty2 rfl).1, obs]
 rcases z28 N hN hc hs (iv.ty2 rfl).1 (iv.ty2 rfl).2 hp x.Text (by omega) with ⟨e, he, k1, k2, k3⟩ | ⟨a, k1, k4, k2, k3⟩
 · rw [k1, k2, k3]; exact .inl ⟨e, _, w6 (s.At + 1), s, rfl, by omega, rfl, rfl⟩
 · rw [k1, k2, k3]; refine .inr ⟨_, _, _, rfl, ?_, ?_, fun _ => ⟨rfl, by omega, by omega⟩, k4, rfl, rfl, rfl⟩
   · show some (w6 (s.At + 1), _) = _; rw [wn1]
   · show some (w6 (s.At + 1), _) = _; rw [wn1]
theorem zahp (s : zA) {x : zB} (hop : x.Op = 11) : zeu s x = (match zlf s.Storage x.Place x.zG with
 | .error e => .error e
 | .ok a => match zlf s.Storage x.From x.Second with | .error e => .error e | .ok b => .ok (s.At + 1, updC s (znm a b))) := by
 cases x; cases hop; rfl
theorem zag4 (N : Nat) (M : zC) {x : zB} (hop : x.Op = 11) : zd N M x = ((zu N M x.Place x.zG).bind fun r1 => (cond r1.2.1 (some true) (some false)).bind fun g2 => cond g2 ((zu N r1.2.2 x.From x.Second).bind fun r3 => cond r3.2.1 ((zcn r1.1 r3.1).bind fun r4 => some (⟨updC r3.2.2.zA r4, r3.2.2.code, r3.2.2.raised⟩ : zC)) (some r3.2.2)) (cond r1.2.1 ((zcn r1.1 x.Text).bind fun r5 => some (⟨updC r1.2.2.zA r5, r1.2.2.code, r1.2.2.raised⟩ : zC)) (some r1.2.2))).bind fun r => some (w6 (r.zA.At + 1), r) := by
 cases x; cases hop; rfl
theorem zaf3 (N : Nat) {x : zB} (hop : x.Op = 11) (hi : idx c.zD s.At = some x) : ze N c s = ((zbi x.zG).bind fun r1 => (ze0 N s x.Place x.zG).bind fun r5 => cond (r5.2 != 0) (some (r5.2, s)) ((ze0 N s x.From x.Second).bind fun r6 => cond (r6.2 != 0) (some (r6.2, s)) ((zil N r5.1 r6.1).bind fun r7 => some (0, updC s r7)))).bind fun r => some (w6 (s.At + 1), r.1, r.2) := by
 unfold ze
 rw [hi, obs]
 clear hi
 cases x; cases hop; rfl
theorem zadc (N : Nat) (hN : 20000 < N) (hc : CodeV m c) (hs : StV m c s) {x : zB} (hx : c.zD[s.At.toNat]? = some x) (hop : x.Op = 11) : zce N m c s x := by
 have iv := zg8 hc (lmg hx) hop (U := ⟨false, false, false, true, true, false, false, false, false, false, false, false, false, false, 2, 2⟩) rfl
 have hi : idx c.zD s.At = some x := by unfold idx; rw [ifp hs.at0, hx]
 have m8 := hc.m2
 have a0 := hs.at0
 have a1 := hs.at1
 have n240 := hc.len
 have wn1 : w6 (s.At + 1) = s.At + 1 := w6e
 unfold zce
 rw [zahp s hop, zag4 N _ hop, zaf3 N hop hi]
 have hp : zch s.Storage x.Place (szE x.zG) = true := by rw [zgv hs.size]; have := iv.pl rfl; unfold zgm at this; rw [ifn] at this; exact this
 have hf : zch s.Storage x.From (szE x.Second) = true := by rw [zgv hs.size]; exact iv.fr rfl
 rw [zje (iv.ty2 rfl).1, obs]
 have hz1 := zj5 (iv.ty2 rfl).1
 have hz2 := zj5 (iv.se2 rfl).1
 rcases zm9 N (by omega) s c hs.sto (iv.ty2 rfl).1 hp with ⟨e, b, k, he, h1, h2, h3⟩ | ⟨b, h1, h2, h3, h4⟩
 · rw [h1, h2, h3]; refine .inl ⟨e, _, w6 (s.At + 1), s, rfl, by omega, rfl, ?_⟩; rcases he with rfl | rfl <;> rfl
 · rw [h1, h2, h3]; simp only [obs, ctr, bsf, cfa]; rcases zm9 N (by omega) s c hs.sto (iv.se2 rfl).1 hf with ⟨e, d, k, he, k1, k2, k3⟩ | ⟨d, k1, k2, k3, k4⟩
   · rw [k1, k2, k3]; refine .inl ⟨e, _, w6 (s.At + 1), s, rfl, by omega, rfl, ?_⟩; rcases he with rfl | rfl <;> rfl
   · rw [k1, k2, k3]; refine .inr ⟨_, _, _, rfl, ?_, ?_, fun _ => ⟨rfl, by omega, by omega⟩, hs.updC (zpe _), rfl, rfl, rfl⟩
     · simp only [obs, ctr]; rw [zye b d (by omega) (by omega)]; show some (w6 (s.At + 1), _) = _; rw [wn1]
     · simp only [obs, bsf, cfa]; rw [zxu N (by omega) b d (by omega) (by omega)]; show some (w6 (s.At + 1), _) = _; rw [wn1]
theorem zaho (s : zA) {x : zB} (hop : x.Op = 12) : zeu s x = (match zlf s.Storage x.Place x.zG with | .error e => .error e | .ok a => .ok (s.At + 1, updC s (znm a x.Text))) := by
 cases x; cases hop; rfl
theorem zag3 (N : Nat) (M : zC) {x : zB} (hop : x.Op = 12) : zd N M x = ((zu N M x.Place x.zG).bind fun r1 => (cond r1.2.1 (some false) (some false)).bind fun g2 => cond g2 ((zu N r1.2.2 x.From x.Second).bind fun r3 => cond r3.2.1 ((zcn r1.1 r3.1).bind fun r4 => some (⟨updC r3.2.2.zA r4, r3.2.2.code, r3.2.2.raised⟩ : zC)) (some r3.2.2)) (cond r1.2.1 ((zcn r1.1 x.Text).bind fun r5 => some (⟨updC r1.2.2.zA r5, r1.2.2.code, r1.2.2.raised⟩ : zC)) (some r1.2.2))).bind fun r => some (w6 (r.zA.At + 1), r) := by
 cases x; cases hop; rfl
theorem zaf2 (N : Nat) {x : zB} (hop : x.Op = 12) (hi : idx c.zD s.At = some x) : ze N c s = ((zbi x.zG).bind fun r1 => (ze0 N s x.Place x.zG).bind fun r5 => cond (r5.2 != 0) (some (r5.2, s)) ((zil N r5.1 x.Text).bind fun r7 => some (0, updC s r7))).bind fun r => some (w6 (s.At + 1), r.1, r.2) := by
 unfold ze
 rw [hi, obs]
 clear hi
 cases x; cases hop; rfl
theorem zadb (N : Nat) (hN : 20000 < N) (hc : CodeV m c) (hs : StV m c s) {x : zB} (hx : c.zD[s.At.toNat]? = some x) (hop : x.Op = 12) : zce N m c s x := by
 have iv := zg8 hc (lmg hx) hop (U := ⟨false, false, false, true, false, false, false, false, false, false, true, false, false, false, 2, 0⟩) rfl
 have hi : idx c.zD s.At = some x := by unfold idx; rw [ifp hs.at0, hx]
 have m8 := hc.m2
 have a0 := hs.at0
 have a1 := hs.at1
 have n240 := hc.len
 have wn1 : w6 (s.At + 1) = s.At + 1 := w6e
 unfold zce
 rw [zaho s hop, zag3 N _ hop, zaf2 N hop hi]
 have hp : zch s.Storage x.Place (szE x.zG) = true := by rw [zgv hs.size]; have := iv.pl rfl; unfold zgm at this; rw [ifn] at this; exact this
 rw [zje (iv.ty2 rfl).1, obs]
 have hz1 := zj5 (iv.ty2 rfl).1
 have htx := iv.tx
 rcases zm9 N (by omega) s c hs.sto (iv.ty2 rfl).1 hp with ⟨e, b, k, he, h1, h2, h3⟩ | ⟨b, h1, h2, h3, h4⟩
 · rw [h1, h2, h3]; refine .inl ⟨e, _, w6 (s.At + 1), s, rfl, by omega, rfl, ?_⟩; rcases he with rfl | rfl <;> rfl
 · rw [h1, h2, h3]; refine .inr ⟨_, _, _, rfl, ?_, ?_, fun _ => ⟨rfl, by omega, by omega⟩, hs.updC (zpe _), rfl, rfl, rfl⟩
   · simp only [obs, ctr, cfa]; rw [zye b x.Text (by omega) (by omega)]; show some (w6 (s.At + 1), _) = _; rw [wn1]
   · simp only [obs, bsf, cfa]; rw [zxu N (by omega) b x.Text (by omega) (by omega)]; show some (w6 (s.At + 1), _) = _; rw [wn1]
theorem zahn (s : zA) {x : zB} (hop : x.Op = 13) : zeu s x = (.ok (s.At + 1, updC s (znm x.Text x.Other))) := by
 cases x; cases hop; rfl
theorem zag2 (N : Nat) (M : zC) {x : zB} (hop : x.Op = 13) : zd N M x = (zcn x.Text x.Other).bind fun r => some (w6 (M.zA.At + 1), ⟨updC M.zA r, M.code, M.raised⟩) := by
 cases x; cases hop; rfl
theorem zaf1 (N : Nat) {x : zB} (hop : x.Op = 13) (hi : idx c.zD s.At = some x) : ze N c s = ((zbi x.zG).bind fun r1 => (zil N x.Text x.Other).bind fun r2 => some (0, updC s r2)).bind fun r => some (w6 (s.At + 1), r.1, r.2) := by
 unfold ze
 rw [hi, obs]
 clear hi
 cases x; cases hop; rfl
theorem zada (N : Nat) (hN : 20000 < N) (hc : CodeV m c) (hs : StV m c s) {x : zB} (hx : c.zD[s.At.toNat]? = some x) (hop : x.Op = 13) : zce N m c s x := by
 have iv := zg8 hc (lmg hx) hop (U := ⟨false, false, false, false, false, false, false, false, false, false, true, true, false, false, 0, 0⟩) rfl
 have hi : idx c.zD s.At = some x := by unfold idx; rw [ifp hs.at0, hx]
 have m8 := hc.m2
 have a0 := hs.at0
 have a1 := hs.at1
 have n240 := hc.len
 have wn1 : w6 (s.At + 1) = s.At + 1 := w6e
 unfold zce
 rw [zahn s hop, zag2 N _ hop, zaf1 N hop hi]
 have htx := iv.tx
 have hot := iv.ot
 have hsz : ∃ k, zbi x.zG = some k := by
  unfold zbi; rw [zhf]; cases (x.zG.Kind == 1) <;> cases (x.zG.Kind == 3) <;> cases (x.zG.Kind == 4) <;> exact ⟨_, rfl⟩
 obtain ⟨k, hk⟩ := hsz
 rw [hk, obs, zye _ _ (by omega) (by omega), zxu N (by omega) _ _ (by omega) (by omega)]
 refine .inr ⟨_, _, _, rfl, ?_, ?_, fun _ => ⟨rfl, by omega, by omega⟩, hs.updC (zpe _), rfl, rfl, rfl⟩
 · show some (w6 (s.At + 1), _) = _; rw [wn1]
 · show some (w6 (s.At + 1), _) = _; rw [wn1]
end
end
end Go.Proofs.YtppbpnknfigboaaGreatDoor.M
