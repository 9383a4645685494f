/- The plain law of InterpretSteps: part 0. -/
import Derived.Test.YtmifhmfokbigiaaGreatDoorF2
import Derived.Test.YtmifhmfokbigiaaGreatDoorA4
import Derived.Lib.Strings
namespace Go.Proofs.YtmifhmfokbigiaaGreatDoor.M
open Go Go.Amx
set_option linter.unusedVariables false
set_option linter.unusedSimpArgs false
set_option maxRecDepth 100000
noncomputable section
theorem obs {α β : Type} (a : α) (f : α → Option β) : (some a).bind f = f a := rfl
theorem dct {p : Prop} [Decidable p] (h : p) : decide p = true := decide_eq_true h
theorem dcf {p : Prop} [Decidable p] (h : ¬ p) : decide p = false := decide_eq_false h
theorem lna {α : Type} {a b : List α} : (a ++ b).length = a.length + b.length := List.length_append
theorem lns {α : Type} {a : α} : [a].length = 1 := List.length_singleton
theorem lge {α : Type} {l : List α} {i : Nat} (h : i < l.length) : l[i]? = some l[i] := List.getElem?_eq_getElem h
theorem itn (n : Nat) : Int.toNat (n : Int) = n := Int.toNat_natCast n
theorem ctr {α : Sort _} (a b : α) : cond true a b = a := rfl
theorem cfa {α : Sort _} (a b : α) : cond false a b = b := rfl
theorem ifp {c : Prop} {h : Decidable c} (hc : c := by omega) {α : Sort _} {t e : α} : ite c t e = t := if_pos hc
theorem ifn {c : Prop} {h : Decidable c} (hc : ¬c := by omega) {α : Sort _} {t e : α} : ite c t e = e := if_neg hc
theorem bsf {α : Type _} [BEq α] [LawfulBEq α] (a : α) : (a != a) = false := bne_self_eq_false a
theorem tde {a b : Int} (h : 0 ≤ a := by omega) : a.tdiv b = a / b := Int.tdiv_eq_ediv_of_nonneg h
theorem tme {a b : Int} (h : 0 ≤ a := by omega) : a.tmod b = a % b := Int.tmod_eq_emod_of_nonneg h
theorem lnt {α : Type _} {i : Nat} {l : List α} : (l.take i).length = min i l.length := List.length_take
theorem lnr {α : Type _} {n : Nat} {a : α} : (List.replicate n a).length = n := List.length_replicate
theorem gdd {α : Type _} {l : List α} {i : Nat} {a : α} : l.getD i a = l[i]?.getD a := List.getD_eq_getElem?_getD
theorem cbc {p : Prop} (h : ¬p → False) : p := Classical.byContradiction h
theorem lnc {α : Type _} {a : α} {l : List α} : (a :: l).length = l.length + 1 := List.length_cons
theorem gei {α : Type _} {i : Nat} {a : α} {l : List α} (h : l[i]? = some a) : ∃ h : i < l.length, l[i] = a := List.getElem?_eq_some_iff.1 h
theorem eof {α β : Type _} {b : β} {f : α → Option β} {l : List α} (h : l.findSome? f = some b) : ∃ a, a ∈ l ∧ f a = some b := List.exists_of_findSome?_eq_some h
theorem ln0 {α : Type _} : ([] : List α).length = 0 := rfl
theorem lnm {α β : Type _} {l : List α} (f : α → β) : (l.map f).length = l.length := List.length_map f
theorem dr0 {α : Type _} {l : List α} : l.drop 0 = l := rfl
theorem bsa {a b : ByteArray} : (a ++ b).size = a.size + b.size := ByteArray.size_append
theorem bnt : (!true) = false := rfl
theorem mel {a b : Nat} (h : a < b) : a % b = a := Nat.mod_eq_of_lt h
theorem nc0 : ((0 : Nat) : Int) = 0 := Int.natCast_zero
theorem bst {α : Type _} [BEq α] [ReflBEq α] (a : α) : (a == a) = true := beq_self_eq_true a
theorem lmg {α : Type _} {l : List α} {i : Nat} {a : α} (h : l[i]? = some a) : a ∈ l := List.mem_of_getElem? h
theorem w6e {n : Int} (h1 : -9223372036854775808 ≤ n := by omega) (h2 : n ≤ 9223372036854775807 := by omega) : w6 n = n := z6n h1 h2
theorem zrx (N : Nat) (l : List Int) (h : l.length < N) (hl : l.length < 1000000000) : zt N l = some (zhe l) := by
 unfold zt
 have := zbh (f := zt.r0 N) (fun i => (l, (l.length : Int), (i : Int))) (fun i => (l[i]?).bind fun x => if x = 0 then none else some x) l.length
  (fun i hi => by
   have hx := lge hi; simp only [zt.r0, zt.b0, zai, hx, obs, dct (show (i : Int) < (l.length : Int) by omega), ctr]
   by_cases h0 : l[i] = 0
   · simp only [h0, bsf, cfa, if_true]; rw [w6e]; rfl
   · simp only [h0, if_false]; rw [show (l[i] != 0) = true by simpa using h0]; rfl)
  (by simp only [zt.r0, zt.b0, dcf (show ¬ (l.length : Int) < (l.length : Int) by omega), cfa]) h
 simp only [nc0] at this
 rw [this, zmh, ← zot]
 simp only [obs]
 cases l.findSome? (fun x => if x = 0 then none else some x) <;> rfl
def inB (n lo hi : Int) : Bool := decide (lo ≤ n) && decide (n ≤ hi)
theorem z4x (n lo hi : Int) : zfa n lo hi = some (inB n lo hi) := by
 unfold zfa inB
 cases decide (lo ≤ n) <;> rfl
theorem zie (n lo hi : Int) : zf n lo hi = some (inB n lo hi) := by
 unfold zf inB
 cases decide (lo ≤ n) <;> rfl
theorem zsq (b : Bool) (e : Int) : za7 b e = some (cond b e 0) := by cases b <;> rfl
theorem zjs (b : Bool) : zao b = some (cond b 1 0) := by cases b <;> rfl
def zf2 (t : DataType) : Int :=
 if t.Kind = 0 then (if inB t.Length 1 256 then (if t.Scale = 0 then 0 else 3) else 18)
 else if t.Kind = 1 ∨ t.Kind = 2 then (if inB t.Length 1 15 then (if inB t.Scale 0 t.Length then 0 else 3) else 18)
 else if t.Kind = 3 then (if t.Length = 4 ∨ t.Length = 9 then (if inB t.Scale 0 t.Length then 0 else 3) else 18)
 else if t.Kind = 4 then (if t.Length = 0 then (if t.Scale = 0 then 0 else 3) else 18)
 else 4
theorem z1z (a b : Bool) (x y : Int) (hx : x ≠ 0) (hy : y ≠ 0) : zhe [cond a x 0, cond b y 0] = cond a x (cond b y 0) := by
 cases a <;> cases b <;> simp [zhe, hx, hy]
theorem zsn (N : Nat) (hN : 10 < N) (t : DataType) : zbs N t = some (zf2 t) := by
 have f2 : ∀ a b : Int, zt N [a, b] = some (zhe [a, b]) := fun a b => zrx N _ (by simp; omega) (by simp)
 unfold zbs zf2
 simp only [z4x, zsq, f2, obs, z1z _ _ 18 3 (by decide) (by decide)]
 by_cases h0 : t.Kind = 0
 · simp only [h0, bst, ctr, if_true]; cases inB t.Length 1 256 <;> by_cases hs : t.Scale = 0 <;> simp [zcn, hs]
 · simp only [beq_eq_false_iff_ne.2 h0, h0, cfa, if_false]
   by_cases h1 : t.Kind = 1
   · simp only [h1, bst, ctr, true_or, if_true, obs]; cases inB t.Length 1 15 <;> cases inB t.Scale 0 t.Length <;> simp
   · by_cases h2 : t.Kind = 2
     · simp only [h2, h1]; cases inB t.Length 1 15 <;> cases inB t.Scale 0 t.Length <;> simp
     · by_cases h3 : t.Kind = 3
       · simp only [h3]
         by_cases h4 : t.Length = 4 <;> by_cases h5 : t.Length = 9 <;> cases inB t.Scale 0 t.Length <;> simp [zcn, h4, h5]
       · by_cases h4 : t.Kind = 4
         · simp only [h4]
           by_cases h5 : t.Length = 0 <;> by_cases h6 : t.Scale = 0 <;> simp [zcn, h5, h6]
         · simp [zcn, h1, h2, h3, h4]
theorem zvr (k : Int) : zcu k = some (inB k 1 3) := by simp only [zcu, zie, obs]
theorem z19 (t : DataType) : zfc t = some (zf2 t) := by
 have w0' : w6 0 = 0 := by decide
 have w1 : w6 3 = 3 := by decide
 have hz : inB t.Scale 0 0 = decide (t.Scale = 0) := by
  unfold inB
  by_cases h : t.Scale = 0
  · simp [h]
  · simp only [h, decide_false]
    by_cases h1 : 0 ≤ t.Scale
    · simp [h1, show ¬ t.Scale ≤ 0 by omega]
    · simp [h1]
 unfold zfc zf2
 simp only [zie, zvr, zjs, obs, hz]
 by_cases h0 : t.Kind = 0
 · have e : inB (0 : Int) 0 4 = true := by decide
   have e' : inB (0 : Int) 1 3 = false := by decide
   simp only [h0, e, e']; cases inB t.Length 1 256 <;> by_cases hs : t.Scale = 0 <;> simp [zcn, hs, w0', w1]
 · by_cases h1 : t.Kind = 1
   · have e : inB (1 : Int) 0 4 = true := by decide
     have e' : inB (1 : Int) 1 3 = true := by decide
     simp only [h1, e, e']; cases inB t.Length 1 15 <;> cases inB t.Scale 0 t.Length <;> simp [w0', w1]
   · by_cases h2 : t.Kind = 2
     · have e : inB (2 : Int) 0 4 = true := by decide
       have e' : inB (2 : Int) 1 3 = true := by decide
       simp only [h2, e, e']; cases inB t.Length 1 15 <;> cases inB t.Scale 0 t.Length <;> simp [w0', w1]
     · by_cases h3 : t.Kind = 3
       · have e : inB (3 : Int) 0 4 = true := by decide
         have e' : inB (3 : Int) 1 3 = true := by decide
         simp only [h3, e, e']
         by_cases h4 : t.Length = 4 <;> by_cases h5 : t.Length = 9 <;> cases inB t.Scale 0 t.Length <;> simp [zcn, h4, h5, w0', w1]
       · by_cases h4 : t.Kind = 4
         · have e : inB (4 : Int) 0 4 = true := by decide
           have e' : inB (4 : Int) 1 3 = false := by decide
           simp only [h4, e, e']
           by_cases h5 : t.Length = 0 <;> by_cases h6 : t.Scale = 0 <;> simp [zcn, h5, h6, w0', w1]
         · have e : inB t.Kind 0 4 = false := by
            unfold inB
            by_cases hh : 0 ≤ t.Kind
            · simp only [hh, decide_true, Bool.true_and, decide_eq_false_iff_not]; omega
            · simp [hh]
           simp [zcn, h0, h1, h2, h3, h4, e]
theorem zbj {n lo hi : Int} : inB n lo hi = true ↔ lo ≤ n ∧ n ≤ hi := by simp [inB]
theorem zqg {t : DataType} (h : zf2 t = 0) : (t.Kind = 0 ∧ 1 ≤ t.Length ∧ t.Length ≤ 256) ∨ ((t.Kind = 1 ∨ t.Kind = 2) ∧ 1 ≤ t.Length ∧ t.Length ≤ 15) ∨ (t.Kind = 3 ∧ (t.Length = 4 ∨ t.Length = 9)) ∨ (t.Kind = 4 ∧ t.Length = 0) := by
 unfold zf2 at h
 split at h
 · rename_i h0; split at h
   · rename_i h1; exact .inl ⟨h0, (zbj.1 h1).1, (zbj.1 h1).2⟩
   · cases h
 · split at h
   · rename_i h0; split at h
     · rename_i h1; exact .inr (.inl ⟨h0, (zbj.1 h1).1, (zbj.1 h1).2⟩)
     · cases h
   · split at h
     · rename_i h0; split at h
       · rename_i h1; exact .inr (.inr (.inl ⟨h0, h1⟩))
       · cases h
     · split at h
       · rename_i h0; split at h
         · rename_i h1; exact .inr (.inr (.inr ⟨h0, h1⟩))
         · cases h
       · cases h
def szE (t : DataType) : Int := if t.Kind = 1 then t.Length / 2 + 1 else if t.Kind = 3 then (if t.Length = 9 then 4 else 2) else if t.Kind = 4 then 16 else t.Length
theorem zf3 {t : DataType} (h : zf2 t = 0) : 0 < szE t ∧ szE t ≤ 256 := by
 unfold szE
 rcases zqg h with ⟨h0, h1, h2⟩ | ⟨h0 | h0, h1, h2⟩ | ⟨h0, h1 | h1⟩ | ⟨h0, h1⟩ <;> simp only [h0] <;> simp <;> omega
theorem zt3 {t : DataType} (h : zf2 t = 0) : zdd t = some (szE t) := by
 unfold zdd szE
 rcases zqg h with ⟨h0, h1, h2⟩ | ⟨h0 | h0, h1, h2⟩ | ⟨h0, h1 | h1⟩ | ⟨h0, h1⟩ <;> simp only [h0, h1, zcn, zjs] <;> simp
 · rw [tde, w6e (n := t.Length / 2), w6e]
 · decide
 · decide
theorem z2m {t : DataType} (h : zf2 t = 0) : zir t = some (szE t) := by
 unfold zir szE
 rcases zqg h with ⟨h0, h1, h2⟩ | ⟨h0 | h0, h1, h2⟩ | ⟨h0, h1 | h1⟩ | ⟨h0, h1⟩ <;> simp only [h0, h1, zcn] <;> simp
 · rw [tde, w6e (n := t.Length / 2), w6e]
 · decide
 · decide
structure StoOk (s : Storage) : Prop where
 le : s.Bytes.size ≤ 1024
 quad : s.Bytes.size % 16 = 0
def zus (s : Storage) (a : Int) : Bool := decide (0 ≤ a) && (decide (a % 16 = 0) && decide (a < (s.Bytes.size : Int)))
theorem zaey {s : Storage} (ok : StoOk s) (a : Int) : zl4 s a = some (zus s a) := by
 have h1 := ok.le
 have h2 := ok.quad
 unfold zl4 zus
 rw [w6e, zie]
 simp only [obs]
 by_cases h : 0 ≤ a
 · rw [tme h]; simp only [inB, h, decide_true, Bool.true_and, zcn]
   by_cases h3 : a % 16 = 0
   · have e : decide (a ≤ (s.Bytes.size : Int) - 16) = decide (a < (s.Bytes.size : Int)) := by
      by_cases h4 : a < (s.Bytes.size : Int)
      · rw [dct h4]; exact dct (by omega)
      · rw [dcf h4]; exact dcf (by omega)
     simp only [h3, decide_true, Bool.true_and, e]; cases decide (a < (s.Bytes.size : Int)) <;> rfl
   · simp only [h3, decide_false, Bool.false_and]; cases decide (a ≤ (s.Bytes.size : Int) - 16) <;> rfl
 · simp [inB, h]
def z55 (n : Number) : Int := cond (inB n.N (-999999999999999) 999999999999999 && inB n.Scale 0 15) 0 3
theorem zsp (n : Number) : zbw n = some (z55 n) := by
 unfold zbw z55
 simp only [z4x, zsq, obs]
 cases inB n.N (-999999999999999) 999999999999999 <;> cases inB n.Scale 0 15 <;> rfl
theorem z07 (n : Number) : zgp n = some (z55 n) := by
 have w0 : w6 (3 * 0) = 0 := by decide
 have w1 : w6 (3 * 1) = 3 := by decide
 unfold zgp z55
 simp only [zie, zjs, obs]
 cases inB n.N (-999999999999999) 999999999999999 <;> cases inB n.Scale 0 15 <;> simp [w0, w1, zjs] <;> decide
theorem orB (a b : Bool) : (cond a (some true) (some b)) = some (a || b) := by cases a <;> rfl
theorem zxw (a b : Bool) : (cond a (some b) (some false)) = some (a && b) := by cases a <;> rfl
theorem bbeq (a b : ByteArray) : (a == b) = decide (a = b) := by
 cases a with | mk x =>
 cases b with | mk y =>
 show ByteArray.beq _ _ = _
 unfold ByteArray.beq
 by_cases h : x = y
 · simp [h]
 · simp [h]
theorem eD (t : DataType) : (⟨t.Kind, t.Length, t.Scale⟩ : DataType) = t := rfl
theorem eS (t : Storage) : (⟨t.Bytes, t.Tags⟩ : Storage) = t := rfl
theorem eN (t : Number) : (⟨t.N, t.Scale⟩ : Number) = t := rfl
theorem zag5 (n lo hi : Int) : zf1 n lo hi = some (inB n lo hi) := by
 unfold zf1 inB
 cases decide (lo ≤ n) <;> rfl
theorem zdc (b : ByteArray) (i j : Nat) (h : j ≤ b.size) (hij : i ≤ j) : (b.extract i j).size = j - i := by
 rw [ByteArray.size_extract]
 omega
theorem zom {α : Type} {f : α → Option (Stp α)} (I : α → Prop) (m : α → Nat) (Q : α → Prop) (h : ∀ s, I s → (∃ s', f s = some (.again s') ∧ I s' ∧ m s' < m s) ∨ ∃ s', f s = some (.leave s') ∧ Q s') : ∀ {N : Nat} {s : α}, I s → m s < N → ∃ s', zl f N s = some s' ∧ Q s' := by
 intro N
 induction N with
 | zero => intro s _ h0; omega
 | succ N ih =>
  intro s hs hN; rcases h s hs with ⟨s1, h1, h2, h3⟩ | ⟨s', h1, h2⟩
  · obtain ⟨s', h4, h5⟩ := ih h2 (show m s1 < N by omega); exact ⟨s', by simp only [zl, h1, obs]; exact h4, h5⟩
  · exact ⟨s', by simp only [zl, h1, obs], h2⟩
theorem zacm {R α : Type} {f : α → Option (Round R α)} (I : α → Prop) (m : α → Nat) (J : R → Prop) (Q : α → Prop) (h : ∀ s, I s → (∃ s', f s = some (.again s') ∧ I s' ∧ m s' < m s) ∨ (∃ s', f s = some (.leave s') ∧ Q s') ∨ ∃ r, f s = some (.result r) ∧ J r) : ∀ {N : Nat} {s : α}, I s → m s < N → (∃ s', zj f N s = some (.inr s') ∧ Q s') ∨ ∃ r, zj f N s = some (.inl r) ∧ J r := by
 intro N
 induction N with
 | zero => intro s _ h0; omega
 | succ N ih =>
  intro s hs hN; rcases h s hs with ⟨s1, h1, h2, h3⟩ | ⟨s', h1, h2⟩ | ⟨r, h1, h2⟩
  · rcases ih h2 (show m s1 < N by omega) with ⟨s', h4, h5⟩ | ⟨r, h4, h5⟩
    · exact .inl ⟨s', by simp only [zj, h1, obs]; exact h4, h5⟩
    · exact .inr ⟨r, by simp only [zj, h1, obs]; exact h4, h5⟩
  · exact .inl ⟨s', by simp only [zj, h1, obs], h2⟩
  · exact .inr ⟨r, by simp only [zj, h1, obs], h2⟩
theorem zaeg {n : Int} (h1 : 0 ≤ n) (h2 : n < 18446744073709551616) : IntKind.wrap .u64 n = n := by
 have e : (2 : Int) ^ (IntKind.u64.bits) = 18446744073709551616 := by decide
 unfold IntKind.wrap
 simp only [e, show IntKind.u64.signed = false from rfl, Bool.false_and]
 simp only [Bool.false_eq_true, if_false]
 omega
theorem zo9 {n : Int} (h1 : 0 ≤ n) (h2 : n < 256) : IntKind.wrap .u8 n = n := by
 have e : (2 : Int) ^ (IntKind.u8.bits) = 256 := by decide
 unfold IntKind.wrap
 simp only [e, show IntKind.u8.signed = false from rfl, Bool.false_and]
 simp only [Bool.false_eq_true, if_false]
 omega
theorem orU (x y : Nat) (hx : x < 2 ^ 64) (hy : y < 2 ^ 64) : orI .u64 (x : Int) (y : Int) = ((x ||| y : Nat) : Int) := by
 have h := Nat.or_lt_two_pow hx hy
 unfold orI
 have e : (BitVec.ofInt IntKind.u64.bits (x : Int) ||| BitVec.ofInt IntKind.u64.bits (y : Int)).toNat = (x ||| y) := by
  show (BitVec.ofInt 64 (x : Int) ||| BitVec.ofInt 64 (y : Int)).toNat = _; rw [BitVec.toNat_or, BitVec.ofInt_natCast, BitVec.ofInt_natCast, BitVec.toNat_ofNat, BitVec.toNat_ofNat, mel hx, mel hy]
 rw [e]
 exact zaeg (by omega) (by omega)
theorem andU (x y : Nat) (hx : x < 2 ^ 64) (hy : y < 2 ^ 64) : zf7 .u64 (x : Int) (y : Int) = ((x &&& y : Nat) : Int) := by
 have h := Nat.and_lt_two_pow x hy
 unfold zf7
 have e : (BitVec.ofInt IntKind.u64.bits (x : Int) &&& BitVec.ofInt IntKind.u64.bits (y : Int)).toNat = (x &&& y) := by
  show (BitVec.ofInt 64 (x : Int) &&& BitVec.ofInt 64 (y : Int)).toNat = _; rw [BitVec.toNat_and, BitVec.ofInt_natCast, BitVec.ofInt_natCast, BitVec.toNat_ofNat, BitVec.toNat_ofNat, mel hx, mel hy]
 rw [e]
 exact zaeg (by omega) (by omega)
def wn (n : Nat) : zH := ⟨(n % 18446744073709551616 : Nat), (n / 18446744073709551616 % 18446744073709551616 : Nat), (n / 18446744073709551616 / 18446744073709551616 % 18446744073709551616 : Nat), (n / 18446744073709551616 / 18446744073709551616 / 18446744073709551616 % 18446744073709551616 : Nat)⟩
def znz : Nat := 115792089237316195423570985008687907853269984665640564039457584007913129639936
theorem zabr {x y : zH} (h0 : x.e0 = y.e0) (h1 : x.e1 = y.e1) (h2 : x.e2 = y.e2) (h3 : x.e3 = y.e3) : x = y := by
 cases x; cases y; simp_all
theorem z65 {n : Nat} (h : n < 18446744073709551616) : zby (n : Int) = some (wn n) := by
 unfold zby wn
 congr 2 <;> omega
theorem zahp (N : Nat) (a b w o : zH) : zy.r0 N (0, 0, a, b, w, o) = some (.again (((a.e0.toNat + b.e0.toNat + 0) / 2 ^ 64 : Nat), 1, a, b, w, ⟨((a.e0.toNat + b.e0.toNat + 0) % 2 ^ 64 : Nat), o.e1, o.e2, o.e3⟩)) := by kernel_rfl
theorem zaho (N c : Nat) (hc : ¬ c > 1) (a b w o : zH) : zy.r0 N (c, 1, a, b, w, o) = some (.again (((a.e1.toNat + b.e1.toNat + c) / 2 ^ 64 : Nat), 2, a, b, w, ⟨o.e0, ((a.e1.toNat + b.e1.toNat + c) % 2 ^ 64 : Nat), o.e2, o.e3⟩)) := by
 have : zy.r0 N (c, 1, a, b, w, o) = if c > 1 then none else some (.again (((a.e1.toNat + b.e1.toNat + c) / 2 ^ 64 : Nat), 2, a, b, w, ⟨o.e0, ((a.e1.toNat + b.e1.toNat + c) % 2 ^ 64 : Nat), o.e2, o.e3⟩)) := by kernel_rfl
 rw [this, ifn hc]
theorem zahn (N c : Nat) (hc : ¬ c > 1) (a b w o : zH) : zy.r0 N (c, 2, a, b, w, o) = some (.again (((a.e2.toNat + b.e2.toNat + c) / 2 ^ 64 : Nat), 3, a, b, w, ⟨o.e0, o.e1, ((a.e2.toNat + b.e2.toNat + c) % 2 ^ 64 : Nat), o.e3⟩)) := by
 have : zy.r0 N (c, 2, a, b, w, o) = if c > 1 then none else some (.again (((a.e2.toNat + b.e2.toNat + c) / 2 ^ 64 : Nat), 3, a, b, w, ⟨o.e0, o.e1, ((a.e2.toNat + b.e2.toNat + c) % 2 ^ 64 : Nat), o.e3⟩)) := by kernel_rfl
 rw [this, ifn hc]
theorem zahm (N c : Nat) (hc : ¬ c > 1) (a b w o : zH) : zy.r0 N (c, 3, a, b, w, o) = some (.again (((a.e3.toNat + b.e3.toNat + c) / 2 ^ 64 : Nat), 4, a, b, w, ⟨o.e0, o.e1, o.e2, ((a.e3.toNat + b.e3.toNat + c) % 2 ^ 64 : Nat)⟩)) := by
 have : zy.r0 N (c, 3, a, b, w, o) = if c > 1 then none else some (.again (((a.e3.toNat + b.e3.toNat + c) / 2 ^ 64 : Nat), 4, a, b, w, ⟨o.e0, o.e1, o.e2, ((a.e3.toNat + b.e3.toNat + c) % 2 ^ 64 : Nat)⟩)) := by kernel_rfl
 rw [this, ifn hc]
theorem zahl (N : Nat) (c : Int) (a b w o : zH) : zy.r0 N (c, 4, a, b, w, o) = some (.leave (c, 4, a, b, w, o)) := by kernel_rfl
theorem addc (x y c : Nat) : (x % 18446744073709551616 + y % 18446744073709551616 + c) % 2 ^ 64 = (x + y + c) % 18446744073709551616 ∧ x / 18446744073709551616 + y / 18446744073709551616 + (x % 18446744073709551616 + y % 18446744073709551616 + c) / 2 ^ 64 = (x + y + c) / 18446744073709551616 ∧ (c ≤ 1 → ¬ (x % 18446744073709551616 + y % 18446744073709551616 + c) / 2 ^ 64 > 1) := by omega
theorem z2n (N : Nat) (hN : 10 < N) (a b : Nat) : zy N (wn a) (wn b) = some (wn (a + b)) := by
 obtain ⟨n, rfl⟩ : ∃ n, N = n + 5 := ⟨N - 5, by omega⟩
 obtain ⟨l0, m0, c0⟩ := addc a b 0
 have c0' := c0 (by omega)
 obtain ⟨l1, m1, c1⟩ := addc (a / 18446744073709551616) (b / 18446744073709551616) ((a % 18446744073709551616 + b % 18446744073709551616 + 0) / 2 ^ 64)
 have c1' := c1 (by omega)
 rw [m0] at l1 m1
 obtain ⟨l2, m2, c2⟩ := addc (a / 18446744073709551616 / 18446744073709551616) (b / 18446744073709551616 / 18446744073709551616) ((a / 18446744073709551616 % 18446744073709551616 + b / 18446744073709551616 % 18446744073709551616 + (a % 18446744073709551616 + b % 18446744073709551616 + 0) / 2 ^ 64) / 2 ^ 64)
 have c2' := c2 (by omega)
 rw [m1] at l2 m2
 obtain ⟨l3, _, _⟩ := addc (a / 18446744073709551616 / 18446744073709551616 / 18446744073709551616) (b / 18446744073709551616 / 18446744073709551616 / 18446744073709551616) ((a / 18446744073709551616 / 18446744073709551616 % 18446744073709551616 + b / 18446744073709551616 / 18446744073709551616 % 18446744073709551616 + (a / 18446744073709551616 % 18446744073709551616 + b / 18446744073709551616 % 18446744073709551616 + (a % 18446744073709551616 + b % 18446744073709551616 + 0) / 2 ^ 64) / 2 ^ 64) / 2 ^ 64)
 rw [m2] at l3
 unfold zy
 simp only [zl, zahp, obs]
 simp only [wn, itn]
 rw [zaho _ _ c0']
 simp only [obs, itn]
 rw [zahn _ _ c1']
 simp only [obs, itn]
 rw [zahm _ _ c2']
 simp only [obs, itn]
 rw [zahl, l0, l1, l2, l3]
 rfl
theorem zagm (N : Nat) (a b w o : zH) : zx.r0 N (0, 0, a, b, w, o) = some (.again (((if a.e0.toNat < b.e0.toNat + 0 then 1 else 0 : Nat) : Int), 1, a, b, w, ⟨((a.e0.toNat + 2 ^ 64 - b.e0.toNat - 0) % 2 ^ 64 : Nat), o.e1, o.e2, o.e3⟩)) := by kernel_rfl
theorem zagl (N c : Nat) (hc : ¬ c > 1) (a b w o : zH) : zx.r0 N (c, 1, a, b, w, o) = some (.again (((if a.e1.toNat < b.e1.toNat + c then 1 else 0 : Nat) : Int), 2, a, b, w, ⟨o.e0, ((a.e1.toNat + 2 ^ 64 - b.e1.toNat - c) % 2 ^ 64 : Nat), o.e2, o.e3⟩)) := by
 have : zx.r0 N (c, 1, a, b, w, o) = if c > 1 then none else some (.again (((if a.e1.toNat < b.e1.toNat + c then 1 else 0 : Nat) : Int), 2, a, b, w, ⟨o.e0, ((a.e1.toNat + 2 ^ 64 - b.e1.toNat - c) % 2 ^ 64 : Nat), o.e2, o.e3⟩)) := by kernel_rfl
 rw [this, ifn hc]
theorem zagk (N c : Nat) (hc : ¬ c > 1) (a b w o : zH) : zx.r0 N (c, 2, a, b, w, o) = some (.again (((if a.e2.toNat < b.e2.toNat + c then 1 else 0 : Nat) : Int), 3, a, b, w, ⟨o.e0, o.e1, ((a.e2.toNat + 2 ^ 64 - b.e2.toNat - c) % 2 ^ 64 : Nat), o.e3⟩)) := by
 have : zx.r0 N (c, 2, a, b, w, o) = if c > 1 then none else some (.again (((if a.e2.toNat < b.e2.toNat + c then 1 else 0 : Nat) : Int), 3, a, b, w, ⟨o.e0, o.e1, ((a.e2.toNat + 2 ^ 64 - b.e2.toNat - c) % 2 ^ 64 : Nat), o.e3⟩)) := by kernel_rfl
 rw [this, ifn hc]
theorem zagj (N c : Nat) (hc : ¬ c > 1) (a b w o : zH) : zx.r0 N (c, 3, a, b, w, o) = some (.again (((if a.e3.toNat < b.e3.toNat + c then 1 else 0 : Nat) : Int), 4, a, b, w, ⟨o.e0, o.e1, o.e2, ((a.e3.toNat + 2 ^ 64 - b.e3.toNat - c) % 2 ^ 64 : Nat)⟩)) := by
 have : zx.r0 N (c, 3, a, b, w, o) = if c > 1 then none else some (.again (((if a.e3.toNat < b.e3.toNat + c then 1 else 0 : Nat) : Int), 4, a, b, w, ⟨o.e0, o.e1, o.e2, ((a.e3.toNat + 2 ^ 64 - b.e3.toNat - c) % 2 ^ 64 : Nat)⟩)) := by kernel_rfl
 rw [this, ifn hc]
theorem zagi (N : Nat) (c : Int) (a b w o : zH) : zx.r0 N (c, 4, a, b, w, o) = some (.leave (c, 4, a, b, w, o)) := by kernel_rfl
theorem z48 (p : Prop) [Decidable p] : (if p then 1 else 0 : Nat) ≤ 1 := by split <;> omega
theorem subc (x y c k : Nat) (hk : k = c) (hc : c ≤ 1) : ((x + y + c) % 18446744073709551616 + 2 ^ 64 - y % 18446744073709551616 - k) % 2 ^ 64 = x % 18446744073709551616 ∧ (if (x + y + c) % 18446744073709551616 < y % 18446744073709551616 + k then 1 else 0 : Nat) = (x % 18446744073709551616 + y % 18446744073709551616 + c) / 2 ^ 64 ∧ (x % 18446744073709551616 + y % 18446744073709551616 + c) / 2 ^ 64 ≤ 1 ∧ (x + y + c) / 18446744073709551616 = x / 18446744073709551616 + y / 18446744073709551616 + (x % 18446744073709551616 + y % 18446744073709551616 + c) / 2 ^ 64 := by
 subst hk
 refine ⟨by omega, ?_, by omega, by omega⟩
 split <;> omega
theorem z1w (N : Nat) (hN : 10 < N) (a b : Nat) : ∃ r, zx N (wn a) (wn b) = some r ∧ (b ≤ a → r = wn (a - b)) := by
 obtain ⟨n, rfl⟩ : ∃ n, N = n + 5 := ⟨N - 5, by omega⟩
 unfold zx
 simp only [zl, zagm, obs]
 have t1 : ¬ (if (wn a).e0.toNat < (wn b).e0.toNat + 0 then 1 else 0 : Nat) > 1 := by have := z48 ((wn a).e0.toNat < (wn b).e0.toNat + 0); omega
 rw [zagl _ _ t1]
 simp only [obs]
 have t2 := z48 ((wn a).e1.toNat < (wn b).e1.toNat + (if (wn a).e0.toNat < (wn b).e0.toNat + 0 then 1 else 0 : Nat))
 rw [zagk _ _ (by omega)]
 simp only [obs]
 have t3 := z48 ((wn a).e2.toNat < (wn b).e2.toNat + (if (wn a).e1.toNat < (wn b).e1.toNat + (if (wn a).e0.toNat < (wn b).e0.toNat + 0 then 1 else 0 : Nat) then 1 else 0 : Nat))
 rw [zagj _ _ (by omega)]
 simp only [obs]
 rw [zagi]
 refine ⟨_, rfl, fun hb => ?_⟩
 obtain ⟨d, rfl⟩ : ∃ d, a = d + b := ⟨a - b, by omega⟩
 clear t1 t2 t3
 rw [Nat.add_sub_cancel]
 obtain ⟨s0, u0, v0, w0⟩ := subc d b 0 0 rfl (by omega)
 rw [Nat.add_zero (d + b)] at s0 u0 w0
 obtain ⟨s1, u1, v1, w1⟩ := subc (d / 18446744073709551616) (b / 18446744073709551616) _ _ u0 v0
 rw [← w0] at s1 u1 w1
 obtain ⟨s2, u2, v2, w2⟩ := subc (d / 18446744073709551616 / 18446744073709551616) (b / 18446744073709551616 / 18446744073709551616) _ _ u1 v1
 rw [← w1] at s2 u2 w2
 obtain ⟨s3, u3, v3, w3⟩ := subc (d / 18446744073709551616 / 18446744073709551616 / 18446744073709551616) (b / 18446744073709551616 / 18446744073709551616 / 18446744073709551616) _ _ u2 v2
 rw [← w2] at s3
 refine zabr ?_ ?_ ?_ ?_
 · exact congrArg Int.ofNat s0
 · exact congrArg Int.ofNat s1
 · exact congrArg Int.ofNat s2
 · exact congrArg Int.ofNat s3
theorem z36 (N : Nat) (hN : 10 < N) {a b : Nat} (h : b ≤ a) : zx N (wn a) (wn b) = some (wn (a - b)) := by
 obtain ⟨r, h1, h2⟩ := z1w N hN a b
 rw [h1, h2 h]
def zkm (a b : Nat) : Int := if a < b then -1 else if b < a then 1 else 0
theorem cmp3 (N : Nat) (a b : zH) : zk.r0 N (3, a, b) = cond (decide (a.e3 < b.e3)) (some (.result (-1))) (cond (decide (a.e3 > b.e3)) (some (.result 1)) (some (.again (2, a, b)))) := by kernel_rfl
theorem cmp2 (N : Nat) (a b : zH) : zk.r0 N (2, a, b) = cond (decide (a.e2 < b.e2)) (some (.result (-1))) (cond (decide (a.e2 > b.e2)) (some (.result 1)) (some (.again (1, a, b)))) := by kernel_rfl
theorem cmp1 (N : Nat) (a b : zH) : zk.r0 N (1, a, b) = cond (decide (a.e1 < b.e1)) (some (.result (-1))) (cond (decide (a.e1 > b.e1)) (some (.result 1)) (some (.again (0, a, b)))) := by kernel_rfl
theorem cmp0 (N : Nat) (a b : zH) : zk.r0 N (0, a, b) = cond (decide (a.e0 < b.e0)) (some (.result (-1))) (cond (decide (a.e0 > b.e0)) (some (.result 1)) (some (.again ((-1), a, b)))) := by kernel_rfl
theorem cmpE (N : Nat) (a b : zH) : zk.r0 N ((-1), a, b) = some (.leave ((-1), a, b)) := by kernel_rfl
def zt5 (x y R : Int) : Int := if x < y then -1 else if y < x then 1 else R
theorem zacw (n : Nat) (a b : zH) : zk (n + 5) a b = some (zt5 a.e3 b.e3 (zt5 a.e2 b.e2 (zt5 a.e1 b.e1 (zt5 a.e0 b.e0 0)))) := by
 unfold zk zt5
 simp only [zj, cmp3]
 by_cases h3 : a.e3 < b.e3
 · rw [ifp h3, dct h3]; rfl
 · rw [ifn h3, dcf h3]
   by_cases g3 : b.e3 < a.e3
   · rw [ifp g3, dct g3]; rfl
   · rw [ifn g3, dcf g3]; simp only [cfa, obs, cmp2]
     by_cases h2 : a.e2 < b.e2
     · rw [ifp h2, dct h2]; rfl
     · rw [ifn h2, dcf h2]
       by_cases g2 : b.e2 < a.e2
       · rw [ifp g2, dct g2]; rfl
       · rw [ifn g2, dcf g2]; simp only [cfa, obs, cmp1]
         by_cases h1 : a.e1 < b.e1
         · rw [ifp h1, dct h1]; rfl
         · rw [ifn h1, dcf h1]
           by_cases g1 : b.e1 < a.e1
           · rw [ifp g1, dct g1]; rfl
           · rw [ifn g1, dcf g1]; simp only [cfa, obs, cmp0]
             by_cases h0 : a.e0 < b.e0
             · rw [ifp h0, dct h0]; rfl
             · rw [ifn h0, dcf h0]
               by_cases g0 : b.e0 < a.e0
               · rw [ifp g0, dct g0]; rfl
               · rw [ifn g0, dcf g0]; simp only [cfa, obs, cmpE]; rfl
theorem zqp (N : Nat) (hN : 10 < N) {a b : Nat} (ha : a < znz) (hb : b < znz) : zk N (wn a) (wn b) = some (zkm a b) := by
 obtain ⟨n, rfl⟩ : ∃ n, N = n + 5 := ⟨N - 5, by omega⟩
 unfold znz at ha hb
 rw [zacw]
 have k0 : ∀ x y : Nat, zt5 (x : Int) (y : Int) 0 = zkm x y := fun x y => by
  unfold zt5 zkm
  repeat' split
  all_goals first | rfl | (exfalso; omega)
 have top : a / 18446744073709551616 / 18446744073709551616 / 18446744073709551616 < 18446744073709551616 := by omega
 have top2 : b / 18446744073709551616 / 18446744073709551616 / 18446744073709551616 < 18446744073709551616 := by omega
 have s1 : ∀ (x y : Nat) (R : Int), zt5 ((x : Nat) : Int) ((y : Nat) : Int) R = if zkm x y = 0 then R else zkm x y := fun x y R => by
  unfold zt5 zkm
  repeat' split
  all_goals first | rfl | (exfalso; omega) | contradiction
 have s2 : ∀ x y : Nat, zkm x y = if zkm (x / 18446744073709551616) (y / 18446744073709551616) = 0 then zkm (x % 18446744073709551616) (y % 18446744073709551616) else zkm (x / 18446744073709551616) (y / 18446744073709551616) := fun x y => by
  unfold zkm
  repeat' split
  all_goals first | rfl | (exfalso; omega) | contradiction
 show some (zt5 (((a / 18446744073709551616 / 18446744073709551616 / 18446744073709551616 % 18446744073709551616 : Nat) : Int)) (((b / 18446744073709551616 / 18446744073709551616 / 18446744073709551616 % 18446744073709551616 : Nat) : Int)) (zt5 (((a / 18446744073709551616 / 18446744073709551616 % 18446744073709551616 : Nat) : Int)) (((b / 18446744073709551616 / 18446744073709551616 % 18446744073709551616 : Nat) : Int)) (zt5 (((a / 18446744073709551616 % 18446744073709551616 : Nat) : Int)) (((b / 18446744073709551616 % 18446744073709551616 : Nat) : Int)) (zt5 (((a % 18446744073709551616 : Nat) : Int)) (((b % 18446744073709551616 : Nat) : Int)) 0)))) = _
 rw [mel top, mel top2, s1, s1, s1, s1]
 have r3 := s2 (a / 18446744073709551616 / 18446744073709551616) (b / 18446744073709551616 / 18446744073709551616)
 have r2 := s2 (a / 18446744073709551616) (b / 18446744073709551616)
 have r1 := s2 a b
 clear s1 s2 top top2 ha hb k0
 generalize zkm (a / 18446744073709551616 / 18446744073709551616 / 18446744073709551616) (b / 18446744073709551616 / 18446744073709551616 / 18446744073709551616) = o3 at *
 generalize zkm (a / 18446744073709551616 / 18446744073709551616 % 18446744073709551616) (b / 18446744073709551616 / 18446744073709551616 % 18446744073709551616) = m2 at *
 generalize zkm (a / 18446744073709551616 % 18446744073709551616) (b / 18446744073709551616 % 18446744073709551616) = m1 at *
 generalize zkm (a % 18446744073709551616) (b % 18446744073709551616) = m0 at *
 rw [r1, r2, r3]
 congr 1
 by_cases h3 : o3 = 0
 · by_cases h2 : m2 = 0
   · by_cases h1 : m1 = 0
     · by_cases h0 : m0 = 0
       · simp only [h3, h2, h1, h0, if_true]
       · simp only [h3, h2, h1, h0, if_true, if_false]
     · simp only [h3, h2, h1, if_true, if_false]
   · simp only [h3, h2, if_true, if_false]
 · simp only [h3, if_true, if_false]
theorem zxz (m : Nat) : IntKind.wrap .u64 (m : Int) = ((m % 18446744073709551616 : Nat) : Int) := by
 have e : (2 : Int) ^ (IntKind.u64.bits) = 18446744073709551616 := by decide
 unfold IntKind.wrap
 simp only [e, show IntKind.u64.signed = false from rfl, Bool.false_and]
 simp only [Bool.false_eq_true, if_false]
 omega
theorem zz4 (p q : Nat) : (p : Int).fdiv (q : Int) = ((p / q : Nat) : Int) := by
 rw [Int.fdiv_eq_ediv_of_nonneg _ (by omega)]
 exact (Int.natCast_ediv p q).symm
theorem z9j (p : Nat) : (p : Int).fdiv (2 ^ (min (32 : Int).toNat 64)) = ((p / 4294967296 : Nat) : Int) := zz4 p 4294967296
theorem zabo (p : Nat) (h : p < 18446744073709551616) : zf7 .u64 (p : Int) 4294967295 = ((p % 4294967296 : Nat) : Int) := by
 rw [show (4294967295 : Int) = ((4294967295 : Nat) : Int) from rfl, andU p 4294967295 h (by decide)]
 rw [show (4294967295 : Nat) = 2 ^ 32 - 1 from rfl, Nat.and_two_pow_sub_one_eq_mod]
theorem z44 (p q : Nat) (hp : p < 18446744073709551616) (hq : q < 18446744073709551616) : zd8 (p : Int) (q : Int) = some (((p * q / 18446744073709551616 : Nat) : Int), ((p * q % 18446744073709551616 : Nat) : Int)) := by
 unfold zd8
 simp only [z9j, zabo p hp, zabo q hq, ← Int.natCast_mul, zxz, ← Int.natCast_add, z9j]
 rw [zabo _ (Nat.mod_lt _ (by decide))]
 simp only [z9j, ← Int.natCast_mul, zxz, ← Int.natCast_add]
 have e1 := Nat.div_add_mod p 4294967296
 have e2 := Nat.div_add_mod q 4294967296
 have b1 : p / 4294967296 ≤ 4294967295 := by omega
 have b2 : q / 4294967296 ≤ 4294967295 := by omega
 have b3 : p % 4294967296 ≤ 4294967295 := by omega
 have b4 : q % 4294967296 ≤ 4294967295 := by omega
 have m : p * q = 18446744073709551616 * ((p / 4294967296) * (q / 4294967296)) + 4294967296 * ((p / 4294967296) * (q % 4294967296)) + (4294967296 * ((p % 4294967296) * (q / 4294967296)) + (p % 4294967296) * (q % 4294967296)) := by
  conv => lhs; rw [← e1, ← e2]
  rw [Nat.add_mul, Nat.mul_add, Nat.mul_add, Nat.mul_mul_mul_comm, Nat.mul_assoc 4294967296 (p / 4294967296) (q % 4294967296), Nat.mul_left_comm (p % 4294967296) 4294967296 (q / 4294967296)]
 have c1 := Nat.mul_le_mul b1 b2
 have c2 := Nat.mul_le_mul b1 b4
 have c3 := Nat.mul_le_mul b3 b2
 have c4 := Nat.mul_le_mul b3 b4
 rw [m]
 clear m e1 e2 b1 b2 b3 b4
 generalize (p / 4294967296) * (q / 4294967296) = A at *
 generalize (p / 4294967296) * (q % 4294967296) = B at *
 generalize (p % 4294967296) * (q / 4294967296) = C at *
 generalize (p % 4294967296) * (q % 4294967296) = D at *
 simp only [Option.some.injEq, Prod.mk.injEq, Int.natCast_inj]
 refine ⟨?_, trivial⟩
 omega
theorem zafy (N : Nat) (n c : Int) (a w o : zH) : za8.r0 N (n, c, 0, a, w, o) = (zd8 a.e0 n).bind fun r => some (.again (n, (IntKind.wrap .u64 (r.1 + (((r.2.toNat + c.toNat + 0) / 2 ^ 64 : Nat) : Int))), 1, a, w, ⟨((r.2.toNat + c.toNat + 0) % 2 ^ 64 : Nat), o.e1, o.e2, o.e3⟩)) := by kernel_rfl
theorem zafx (N : Nat) (n c : Int) (a w o : zH) : za8.r0 N (n, c, 1, a, w, o) = (zd8 a.e1 n).bind fun r => some (.again (n, (IntKind.wrap .u64 (r.1 + (((r.2.toNat + c.toNat + 0) / 2 ^ 64 : Nat) : Int))), 2, a, w, ⟨o.e0, ((r.2.toNat + c.toNat + 0) % 2 ^ 64 : Nat), o.e2, o.e3⟩)) := by kernel_rfl
theorem zafw (N : Nat) (n c : Int) (a w o : zH) : za8.r0 N (n, c, 2, a, w, o) = (zd8 a.e2 n).bind fun r => some (.again (n, (IntKind.wrap .u64 (r.1 + (((r.2.toNat + c.toNat + 0) / 2 ^ 64 : Nat) : Int))), 3, a, w, ⟨o.e0, o.e1, ((r.2.toNat + c.toNat + 0) % 2 ^ 64 : Nat), o.e3⟩)) := by kernel_rfl
theorem zafv (N : Nat) (n c : Int) (a w o : zH) : za8.r0 N (n, c, 3, a, w, o) = (zd8 a.e3 n).bind fun r => some (.again (n, (IntKind.wrap .u64 (r.1 + (((r.2.toNat + c.toNat + 0) / 2 ^ 64 : Nat) : Int))), 4, a, w, ⟨o.e0, o.e1, o.e2, ((r.2.toNat + c.toNat + 0) % 2 ^ 64 : Nat)⟩)) := by kernel_rfl
theorem zafu (N : Nat) (n c : Int) (a w o : zH) : za8.r0 N (n, c, 4, a, w, o) = some (.leave (n, c, 4, a, w, o)) := by kernel_rfl
theorem word (x c n : Nat) (hn : n < 18446744073709551616) (hc : c ≤ n) : IntKind.wrap .u64 ((((x % 18446744073709551616) * n / 18446744073709551616 : Nat) : Int) + ((((x % 18446744073709551616) * n % 18446744073709551616 + c + 0) / 2 ^ 64 : Nat) : Int)) = ((((x % 18446744073709551616) * n + c) / 18446744073709551616 : Nat) : Int) ∧ ((x % 18446744073709551616) * n % 18446744073709551616 + c + 0) % 2 ^ 64 = (x * n + c) % 18446744073709551616 ∧ ((x % 18446744073709551616) * n + c) / 18446744073709551616 ≤ n ∧ x / 18446744073709551616 * n + ((x % 18446744073709551616) * n + c) / 18446744073709551616 = (x * n + c) / 18446744073709551616 := by
 have hp : (x % 18446744073709551616) * n ≤ 18446744073709551615 * n := Nat.mul_le_mul_right n (by omega)
 have e : x * n = (x % 18446744073709551616) * n + 18446744073709551616 * (x / 18446744073709551616 * n) := by
  have := Nat.mod_add_div x 18446744073709551616
  conv => lhs; rw [← this]
  rw [Nat.add_mul, Nat.mul_assoc]
 rw [e]
 generalize (x % 18446744073709551616) * n = p at *
 generalize x / 18446744073709551616 * n = q at *
 refine ⟨?_, by omega, by omega, by omega⟩
 rw [← Int.natCast_add, zxz]
 omega
theorem z85 (N : Nat) (hN : 10 < N) (a n : Nat) (hn : n < 18446744073709551616) : za8 N (wn a) (n : Int) = some (wn (a * n)) := by
 obtain ⟨k, rfl⟩ : ∃ k, N = k + 5 := ⟨N - 5, by omega⟩
 have hB : ∀ x : Nat, x % 18446744073709551616 < 18446744073709551616 := fun x => Nat.mod_lt _ (by decide)
 obtain ⟨w1, w2, w3, w4⟩ := word a 0 n hn (Nat.zero_le _)
 rw [Nat.add_zero (a * n)] at w2 w4
 obtain ⟨x1, x2, x3, x4⟩ := word (a / 18446744073709551616) _ n hn w3
 rw [w4] at x2 x4
 obtain ⟨y1, y2, y3, y4⟩ := word (a / 18446744073709551616 / 18446744073709551616) _ n hn x3
 rw [x4] at y2 y4
 obtain ⟨z1, z2, z3, z4⟩ := word (a / 18446744073709551616 / 18446744073709551616 / 18446744073709551616) _ n hn y3
 rw [y4] at z2
 unfold za8
 simp only [zl, zafy]
 rw [show (wn a).e0 = ((a % 18446744073709551616 : Nat) : Int) from rfl, z44 _ _ (hB _) hn]
 simp only [obs, itn, zafx]
 rw [show (wn a).e1 = ((a / 18446744073709551616 % 18446744073709551616 : Nat) : Int) from rfl, z44 _ _ (hB _) hn]
 simp only [obs, itn, zafw]
 rw [show (wn a).e2 = ((a / 18446744073709551616 / 18446744073709551616 % 18446744073709551616 : Nat) : Int) from rfl, z44 _ _ (hB _) hn]
 simp only [obs, itn, zafv]
 rw [show (wn a).e3 = ((a / 18446744073709551616 / 18446744073709551616 / 18446744073709551616 % 18446744073709551616 : Nat) : Int) from rfl, z44 _ _ (hB _) hn]
 simp only [obs, itn, zafu]
 rw [show Int.toNat 0 = 0 from rfl, w1, itn, x1, itn, y1, itn, w2, x2, y2, z2]
 rfl
theorem zzl (N : Nat) (hN : 100 < N) (a k : Nat) (hk : k < 100) : zh N (wn a) (k : Int) = some (wn (a * 10 ^ k)) := by
 unfold zh
 have := za1 (f := zh.r0 N) (fun i => ((k : Int), (i : Int), wn (a * 10 ^ i), (⟨0, 0, 0, 0⟩ : zH))) k
  (fun i hi => by
   simp only [zh.r0, zh.b0, dct (show (i : Int) < (k : Int) by omega), ctr]; rw [show (10 : Int) = ((10 : Nat) : Int) from rfl, z85 N (by omega) _ 10 (by decide), w6e]; simp only [obs, Nat.mul_assoc, ← Nat.pow_succ, Int.natCast_add, Int.natCast_one])
  (by simp only [zh.r0, zh.b0, dcf (show ¬ (k : Int) < (k : Int) by omega), cfa]) (N := N) (by omega)
 simp only [Nat.pow_zero, Nat.mul_one, nc0] at this
 rw [this]
 rfl
theorem z95 (a j r : Nat) (hr : r < 64) : (a / 2 ^ (64 * j) % 2 ^ 64 / 2 ^ r) &&& 1 = a / 2 ^ (64 * j + r) % 2 := by
 rw [Nat.and_one_is_mod]
 have h : (a / 2 ^ (64 * j) % 2 ^ 64 / 2 ^ r).testBit 0 = (a / 2 ^ (64 * j) % 2 ^ 64).testBit (r + 0) := by rw [Nat.testBit_div_two_pow, Nat.add_comm]
 have h1 : Nat.testBit (a / 2 ^ (64 * j) % 2 ^ 64) (r + 0) = Nat.testBit (a / 2 ^ (64 * j + r)) 0 := by
  rw [Nat.testBit_mod_two_pow, Nat.testBit_div_two_pow, Nat.testBit_div_two_pow]; simp [hr, Nat.add_comm, Nat.add_left_comm]
 rw [Nat.testBit_zero] at h
 rw [h1, Nat.testBit_zero] at h
 have := Nat.mod_two_eq_zero_or_one (a / 2 ^ (64 * j) % 2 ^ 64 / 2 ^ r)
 have := Nat.mod_two_eq_zero_or_one (a / 2 ^ (64 * j + r))
 simp only [decide_eq_decide] at h
 omega
theorem zaer (Q i j : Nat) (h : Q % 2 ^ (i + 1) = 0) : (Q + 2 ^ i) / 2 ^ (64 * j) % 2 ^ 64 = if i / 64 = j then (Q / 2 ^ (64 * j) % 2 ^ 64) ||| 2 ^ (i % 64) else Q / 2 ^ (64 * j) % 2 ^ 64 := by
 have e : Q + 2 ^ i = Q ||| 2 ^ i := by
  have := Nat.two_pow_add_eq_or_of_lt (i := i + 1) (b := 2 ^ i) (Nat.pow_lt_pow_right (by decide) (by omega)) (Q / 2 ^ (i + 1)); have e2 : 2 ^ (i + 1) * (Q / 2 ^ (i + 1)) = Q := by
   have := Nat.div_add_mod Q (2 ^ (i + 1)); omega
  rw [e2] at this; exact this
 rw [e]
 refine Nat.eq_of_testBit_eq fun k => ?_
 split
 · rename_i hj; simp only [Nat.testBit_mod_two_pow, Nat.testBit_div_two_pow, Nat.testBit_or, Nat.testBit_two_pow]
   by_cases hk : k < 64
   · simp only [hk, decide_true, Bool.true_and]
     congr 1
     simp only [decide_eq_decide]; omega
   · simp only [hk, decide_false, Bool.false_and, Bool.false_or]; rw [dcf (by omega)]
 · rename_i hj; simp only [Nat.testBit_mod_two_pow, Nat.testBit_div_two_pow, Nat.testBit_or, Nat.testBit_two_pow]
   by_cases hk : k < 64
   · simp only [hk, decide_true, Bool.true_and]; rw [dcf (by omega), Bool.or_false]
   · simp only [hk, decide_false, Bool.false_and]
def z9r (a : zH) (s : Int) : Int := zf7 .u64 (((zaq [a.e0, a.e1, a.e2, a.e3] ((w6 (s.tdiv 64)).toNat)) : Int).fdiv (2 ^ (min (s.tmod 64).toNat 64))) 1
def dsh (x : zH) (t : Int) : zH := ⟨orI .u64 x.e0 t, x.e1, x.e2, x.e3⟩
def dset (q : zH) (j : Nat) (v : Int) : zH := ⟨if j = 0 then v else q.e0, if j = 1 then v else q.e1, if j = 2 then v else q.e2, if j = 3 then v else q.e3⟩
theorem z7o (N : Nat) (s : Int) (a b q r : zH) : zbe.r0 N (s, a, b, q, r) =
 cond (decide (s ≥ 0)) ((zy N r r).bind fun x => if 0 ≤ w6 (s.tdiv 64) then (if w6 (s.tdiv 64) < 4 then (if (s.tmod 64) < 0 then none else (zk N (dsh x (z9r a s)) b).bind fun c =>
  cond (decide (c ≥ 0)) ((zx N (dsh x (z9r a s)) b).bind fun y => if 0 ≤ w6 (s.tdiv 64) then (if w6 (s.tdiv 64) < 4 then (if (s.tmod 64) < 0 then none else if 0 ≤ w6 (s.tdiv 64) then (if w6 (s.tdiv 64) < 4 then
   (some (.again (w6 (s - 1), a, b, dset q (w6 (s.tdiv 64)).toNat (orI .u64 (zaq [q.e0, q.e1, q.e2, q.e3] ((w6 (s.tdiv 64)).toNat)) (IntKind.wrap .u64 (1 * 2 ^ (min (s.tmod 64).toNat 64)))), y))) else none) else none) else none) else none)
   (some (.again (w6 (s - 1), a, b, q, dsh x (z9r a s))))) else none) else none)
  (some (.leave (s, a, b, q, r))) := by kernel_rfl
theorem div2 (a : Nat) : a / 18446744073709551616 / 18446744073709551616 = a / 340282366920938463463374607431768211456 := Nat.div_div_eq_div_mul _ _ _
theorem div3 (a : Nat) : a / 18446744073709551616 / 18446744073709551616 / 18446744073709551616 = a / 6277101735386680763835789423207666416102355444464034512896 := by rw [div2]; exact Nat.div_div_eq_div_mul _ _ _
theorem limb (a j : Nat) (hj : j < 4) : zaq [(wn a).e0, (wn a).e1, (wn a).e2, (wn a).e3] j = ((a / 2 ^ (64 * j) % 2 ^ 64 : Nat) : Int) := by
 match j, hj with
 | 0, _ => show ((a % 18446744073709551616 : Nat) : Int) = ((a / 1 % 18446744073709551616 : Nat) : Int); rw [Nat.div_one]
 | 1, _ => rfl
 | 2, _ => show ((a / 18446744073709551616 / 18446744073709551616 % 18446744073709551616 : Nat) : Int) = ((a / 340282366920938463463374607431768211456 % 18446744073709551616 : Nat) : Int); rw [div2]
 | 3, _ => show ((a / 18446744073709551616 / 18446744073709551616 / 18446744073709551616 % 18446744073709551616 : Nat) : Int) = ((a / 6277101735386680763835789423207666416102355444464034512896 % 18446744073709551616 : Nat) : Int); rw [div3]
theorem zafe (a i : Nat) (hi : i < 256) : z9r (wn a) (i : Int) = ((a / 2 ^ i % 2 : Nat) : Int) := by
 unfold z9r
 have e1 : w6 ((i : Int).tdiv 64) = ((i / 64 : Nat) : Int) := by
  rw [tde, w6e]; omega
 have e2 : ((i : Int).tmod 64) = ((i % 64 : Nat) : Int) := by
  rw [tme]; omega
 rw [e1, e2, itn, itn, limb a _ (by omega), Nat.min_eq_left (by omega)]
 rw [show (2 : Int) ^ (i % 64) = ((2 ^ (i % 64) : Nat) : Int) by rw [Int.natCast_pow]; rfl, zz4]
 have hb : a / 2 ^ (64 * (i / 64)) % 2 ^ 64 / 2 ^ (i % 64) < 2 ^ 64 := Nat.lt_of_le_of_lt (Nat.div_le_self _ _) (Nat.mod_lt _ (by decide))
 rw [show (1 : Int) = ((1 : Nat) : Int) from rfl, andU _ 1 hb (by decide), z95 a _ _ (by omega), show 64 * (i / 64) + i % 64 = i by omega]
theorem zags (x t : Nat) (ht : t < 2) : dsh (wn (x + x)) (t : Int) = wn (2 * x + t) := by
 have h0 : (x + x) % 18446744073709551616 ||| t = (2 * x + t) % 18446744073709551616 := by
  have := Nat.two_pow_add_eq_or_of_lt (i := 1) (b := t) (by omega) ((x + x) % 18446744073709551616 / 2); have e : 2 ^ 1 * ((x + x) % 18446744073709551616 / 2) = (x + x) % 18446744073709551616 := by omega
  rw [e] at this; rw [← this]; omega
 unfold dsh
 simp only [wn]
 have h1 : (x + x) / 18446744073709551616 = (2 * x + t) / 18446744073709551616 := by omega
 rw [orU _ t (Nat.mod_lt _ (by decide)) (by omega), h0, h1]
theorem zafd (Q i : Nat) (hi : i < 256) (h : Q % 2 ^ (i + 1) = 0) :
 dset (wn Q) (w6 ((i : Int).tdiv 64)).toNat (orI .u64 (zaq [(wn Q).e0, (wn Q).e1, (wn Q).e2, (wn Q).e3] ((w6 ((i : Int).tdiv 64)).toNat)) (IntKind.wrap .u64 (1 * 2 ^ (min ((i : Int).tmod 64).toNat 64)))) = wn (Q + 2 ^ i) := by
 have e1 : w6 ((i : Int).tdiv 64) = ((i / 64 : Nat) : Int) := by
  rw [tde, w6e]; omega
 have e2 : ((i : Int).tmod 64) = ((i % 64 : Nat) : Int) := by
  rw [tme]; omega
 have e3 : IntKind.wrap .u64 (1 * 2 ^ (i % 64)) = ((2 ^ (i % 64) : Nat) : Int) := by
  rw [Int.one_mul, show (2 : Int) ^ (i % 64) = ((2 ^ (i % 64) : Nat) : Int) by rw [Int.natCast_pow]; rfl, zxz, mel]; exact Nat.pow_lt_pow_right (a := 2) (n := 64) (m := i % 64) (by decide) (by omega)
 rw [e1, e2, itn, itn, limb Q _ (by omega), Nat.min_eq_left (by omega), e3]
 rw [orU (Q / 2 ^ (64 * (i / 64)) % 2 ^ 64) (2 ^ (i % 64)) (Nat.mod_lt _ (by decide)) (Nat.pow_lt_pow_right (a := 2) (n := 64) (m := i % 64) (by decide) (by omega))]
 have w := fun j => zaer Q i j h
 have w0 := w 0
 rw [show 2 ^ (64 * 0) = 1 from rfl, Nat.div_one, Nat.div_one] at w0
 have w1 := w 1
 have w2 := w 2
 have w3 := w 3
 have k1 : (2 : Nat) ^ (64 * 1) = 18446744073709551616 := by decide
 have k2 : (2 : Nat) ^ (64 * 2) = 340282366920938463463374607431768211456 := by decide
 have k3 : (2 : Nat) ^ (64 * 3) = 6277101735386680763835789423207666416102355444464034512896 := by decide
 have k0 : (2 : Nat) ^ 64 = 18446744073709551616 := by decide
 simp only [k1, k0] at w1
 simp only [k2, k0] at w2
 simp only [k3, k0] at w3
 simp only [k0] at w0
 unfold dset
 refine zabr ?_ ?_ ?_ ?_
 · simp only [wn]; rw [w0]
   by_cases hj : i / 64 = 0
   · rw [ifp hj, ifp hj, hj, show 64 * 0 = 0 from rfl, Nat.pow_zero, Nat.div_one, k0]
   · rw [ifn hj, ifn hj]
 · simp only [wn]; rw [w1]
   by_cases hj : i / 64 = 1
   · rw [ifp hj, ifp hj, hj]
   · rw [ifn hj, ifn hj]
 · simp only [wn, div2]; rw [w2]
   by_cases hj : i / 64 = 2
   · rw [ifp hj, ifp hj, hj]
   · rw [ifn hj, ifn hj]
 · simp only [wn, div3]; rw [w3]
   by_cases hj : i / 64 = 3
   · rw [ifp hj, ifp hj, hj]
   · rw [ifn hj, ifn hj]
theorem zx3 (a b : Nat) : decide (zkm a b ≥ 0) = decide (b ≤ a) := by
 unfold zkm
 by_cases h : a < b
 · rw [ifp h, dcf (show ¬ b ≤ a by omega)]; rfl
 · rw [ifn h, dct (show b ≤ a by omega)]
   by_cases h2 : b < a
   · rw [ifp h2]; rfl
   · rw [ifn h2]; rfl
theorem zacu (N : Nat) (hN : 10 < N) (i : Nat) (hi : i < 256) (a d : Nat) (hd : 0 < d) (hd2 : d ≤ 57896044618658097711785492504343953926634992332820282019728792003956564819968) :
 zbe.r0 N ((i : Int), wn a, wn d, wn (a / 2 ^ (i + 1) / d * 2 ^ (i + 1)), wn (a / 2 ^ (i + 1) % d)) = some (.again ((i : Int) - 1, wn a, wn d, wn (a / 2 ^ i / d * 2 ^ i), wn (a / 2 ^ i % d))) := by
 have e1 : w6 ((i : Int).tdiv 64) = ((i / 64 : Nat) : Int) := by
  rw [tde, w6e]; omega
 have e2 : ((i : Int).tmod 64) = ((i % 64 : Nat) : Int) := by
  rw [tme]; omega
 have c1 : 0 ≤ w6 ((i : Int).tdiv 64) := by rw [e1]; omega
 have c2 : w6 ((i : Int).tdiv 64) < 4 := by rw [e1]; omega
 have c3 : ¬ (i : Int).tmod 64 < 0 := by rw [e2]; omega
 have hp : a / 2 ^ i = 2 * (a / 2 ^ (i + 1)) + a / 2 ^ i % 2 := by
  rw [Nat.pow_succ, ← Nat.div_div_eq_div_mul]; omega
 have hbit : a / 2 ^ i % 2 < 2 := Nat.mod_lt _ (by decide)
 have hdm := Nat.div_add_mod (a / 2 ^ (i + 1)) d
 have hr := Nat.mod_lt (a / 2 ^ (i + 1)) hd
 rw [z7o, dct (show (i : Int) ≥ 0 by omega), ctr, z2n N hN, obs, ifp c1, ifp c2, ifn c3, zafe a i hi, zags _ _ hbit]
 rw [zqp N hN (by unfold znz; omega) (by unfold znz; omega), obs, zx3]
 rw [w6e (n := (i : Int) - 1)]
 generalize hq : a / 2 ^ (i + 1) / d = q at *
 generalize hs : a / 2 ^ (i + 1) % d = r at *
 generalize hb : a / 2 ^ i % 2 = t at *
 have hp2 : a / 2 ^ i = d * (2 * q) + (2 * r + t) := by
  rw [hp, ← hdm, Nat.mul_left_comm]; omega
 by_cases h : d ≤ 2 * r + t
 · rw [dct h, ctr, z36 N hN h, obs, ifp c1, ifp c2, ifn c3, ifp c1, ifp c2]; rw [zafd _ i hi (Nat.mul_mod_left _ _)]; have hp3 : a / 2 ^ i = d * (2 * q + 1) + (2 * r + t - d) := by rw [hp2, Nat.mul_add d]; omega
   rw [hp3, Nat.mul_add_div hd, Nat.mul_add_mod, Nat.div_eq_of_lt (show 2 * r + t - d < d by omega), mel (show 2 * r + t - d < d by omega)]; have : q * 2 ^ (i + 1) + 2 ^ i = (2 * q + 1 + 0) * 2 ^ i := by
    rw [Nat.pow_succ, Nat.add_zero, Nat.add_mul, Nat.one_mul, Nat.mul_comm (2 ^ i) 2, ← Nat.mul_assoc, Nat.mul_comm q 2]
   rw [this]
 · rw [dcf h, cfa]; rw [hp2, Nat.mul_add_div hd, Nat.mul_add_mod, Nat.div_eq_of_lt (show 2 * r + t < d by omega), mel (show 2 * r + t < d by omega)]; have : q * 2 ^ (i + 1) = (2 * q + 0) * 2 ^ i := by
    rw [Nat.pow_succ, Nat.add_zero, Nat.mul_comm (2 ^ i) 2, ← Nat.mul_assoc, Nat.mul_comm q 2]
   rw [this]
theorem z40 (N : Nat) (hN : 300 < N) (a d : Nat) (ha : a < znz) (hd : 0 < d) (hd2 : d ≤ 57896044618658097711785492504343953926634992332820282019728792003956564819968) :
 zbe N (wn a) (wn d) = some (wn (a / d), wn (a % d)) := by
 unfold zbe
 have := za1 (f := zbe.r0 N) (fun k => ((255 : Int) - (k : Int), wn a, wn d, wn (a / 2 ^ (256 - k) / d * 2 ^ (256 - k)), wn (a / 2 ^ (256 - k) % d))) 256
  (fun k hk => by
   have e := zacu N (by omega) (255 - k) (by omega) a d hd hd2; rw [show 255 - k + 1 = 256 - k by omega, show ((255 - k : Nat) : Int) = (255 : Int) - (k : Int) by omega] at e; rw [e, show 256 - (k + 1) = 255 - k by omega, show (255 : Int) - (k : Int) - 1 = (255 : Int) - ((k + 1 : Nat) : Int) by omega])
  (by rw [z7o]; rfl) (N := N) (by omega)
 have z : a / 2 ^ (256 - 0) = 0 := Nat.div_eq_of_lt (by unfold znz at ha; exact Nat.lt_of_lt_of_le ha (by decide))
 simp only [z, Nat.zero_div, Nat.zero_mul, Nat.zero_mod] at this
 have z2 : a / 2 ^ (256 - 256) = a := Nat.div_one a
 simp only [z2] at this
 rw [show ((255 : Int) - ((0 : Nat) : Int)) = 255 from rfl, show wn 0 = (⟨0, 0, 0, 0⟩ : zH) from rfl] at this
 rw [this, obs, show a / d * 2 ^ (256 - 256) = a / d from Nat.mul_one _]
def zd6 (x : Number) : Prop := (-999999999999999 ≤ x.N ∧ x.N ≤ 999999999999999) ∧ 0 ≤ x.Scale ∧ x.Scale ≤ 15
theorem zqn {x : Number} : z55 x = 0 ↔ zd6 x := by
 unfold z55 zd6
 cases h : (inB x.N (-999999999999999) 999999999999999 && inB x.Scale 0 15) with
 | true =>
  rw [Bool.and_eq_true, zbj, zbj] at h; simp [h]
 | false =>
  simp only [cfa]; constructor
  · intro h2; cases h2
  · intro h2; rw [show (inB x.N (-999999999999999) 999999999999999) = true from zbj.2 h2.1, show inB x.Scale 0 15 = true from zbj.2 h2.2] at h; cases h
def zkz (t : DataType) : Prop := zf2 t = 0 ∧ 1 ≤ t.Kind ∧ t.Kind ≤ 3
theorem zgq {t : DataType} (h : zkz t) : (1 ≤ t.Length ∧ t.Length ≤ 15) ∧ 0 ≤ t.Scale ∧ t.Scale ≤ t.Length := by
 obtain ⟨h0, h1, h2⟩ := h
 unfold zf2 at h0
 rw [ifn] at h0
 by_cases hk : t.Kind = 3
 · rw [ifn, ifp hk] at h0; split at h0
   · split at h0
     · rename_i h3 h4; have := zbj.1 h4; omega
     · cases h0
   · cases h0
 · rw [ifp] at h0; split at h0
   · split at h0
     · rename_i h3 h4; have := zbj.1 h4; have := zbj.1 h3; omega
     · cases h0
   · cases h0
theorem zcv {k m : Nat} (h : k ≤ m) : 10 ^ k ≤ 10 ^ m := Nat.pow_le_pow_right (by decide) h
theorem zcz (k : Nat) : 0 < 10 ^ k := Nat.pow_pos (by decide)
theorem zvd (N : Nat) (hN : 300 < N) {x : Number} (hx : zd6 x) (k : Nat) (hk : k < 100) : zdh N x (k : Int) = some (wn (x.N.natAbs * 10 ^ k)) := by
 obtain ⟨⟨h1, h2⟩, _⟩ := hx
 unfold zdh
 have e : (if w6 (0 - x.N) > x.N then w6 (0 - x.N) else x.N) = ((x.N.natAbs : Nat) : Int) := by
  rw [w6e]; split <;> omega
 rw [e, zxz, mel (by omega), z65 (by omega), obs, zzl N (by omega) _ k hk]
 rfl
theorem z42 (N : Nat) (hN : 300 < N) {x : Number} (hx : zd6 x) : zdh N x 0 = some (wn x.N.natAbs) := by
 have := zvd N hN hx 0 (by decide)
 rw [Nat.pow_zero, Nat.mul_one] at this
 exact this
theorem zws : zby 1 = some (wn 1) := z65 (n := 1) (by decide)
theorem z1r (N : Nat) (hN : 300 < N) {k : Int} (h0 : 0 ≤ k) (h1 : k < 100) : zh N (wn 1) k = some (wn (10 ^ k.toNat)) := by
 have := zzl N (by omega) 1 k.toNat (by omega)
 rw [Nat.one_mul, Int.toNat_of_nonneg h0] at this
 exact this
def zj9 (b : Bool) (p q : Nat) (t : DataType) (half : Bool) : Value × Int :=
 if 10 ^ t.Length.toNat ≤ p * 10 ^ t.Scale.toNat / q + cond (half && decide (q ≤ p * 10 ^ t.Scale.toNat % q + p * 10 ^ t.Scale.toNat % q)) 1 0 then (⟨0, ⟨#[]⟩⟩, 19)
 else (⟨cond b (-((p * 10 ^ t.Scale.toNat / q + cond (half && decide (q ≤ p * 10 ^ t.Scale.toNat % q + p * 10 ^ t.Scale.toNat % q)) 1 0 : Nat) : Int)) ((p * 10 ^ t.Scale.toNat / q + cond (half && decide (q ≤ p * 10 ^ t.Scale.toNat % q + p * 10 ^ t.Scale.toNat % q)) 1 0 : Nat) : Int), ⟨#[]⟩⟩, 0)
theorem eW (a : zH) : (⟨a.e0, a.e1, a.e2, a.e3⟩ : zH) = a := rfl
theorem zaab (N : Nat) (hN : 300 < N) (b : Bool) (Q : Nat) (hQ : Q < znz) {t : DataType} (ht : zkz t) :
 ((zby 1).bind fun r11 => (zh N r11 t.Length).bind fun r12 => (zk N (wn Q) r12).bind fun r13 => cond (decide (r13 ≥ 0)) (some ((⟨0, (⟨#[]⟩ : ByteArray)⟩ : Value), (19 : Int)))
 (cond b (some ((⟨(w6 (0 - (w6 (zaq [(wn Q).e0, (wn Q).e1, (wn Q).e2, (wn Q).e3] 0)))), (⟨#[]⟩ : ByteArray)⟩ : Value), (0 : Int)))
 (some ((⟨(w6 (zaq [(wn Q).e0, (wn Q).e1, (wn Q).e2, (wn Q).e3] 0)), (⟨#[]⟩ : ByteArray)⟩ : Value), (0 : Int))))) =
 some (if 10 ^ t.Length.toNat ≤ Q then (⟨0, ⟨#[]⟩⟩, 19) else (⟨cond b (-(Q : Int)) (Q : Int), ⟨#[]⟩⟩, 0)) := by
 obtain ⟨⟨l1, l2⟩, l3, l4⟩ := zgq ht
 have hp : 10 ^ t.Length.toNat ≤ 10 ^ 15 := zcv (by omega)
 rw [zws, obs, z1r N hN (by omega) (by omega), obs, zqp N (by omega) hQ (by unfold znz; omega), obs, zx3]
 by_cases h : 10 ^ t.Length.toNat ≤ Q
 · rw [dct h, ifp h]; rfl
 · rw [dcf h, ifn h, cfa]; have e : zaq [(wn Q).e0, (wn Q).e1, (wn Q).e2, (wn Q).e3] 0 = (Q : Int) := by
    show ((Q % 18446744073709551616 : Nat) : Int) = Q; rw [mel (by omega)]
   rw [e, w6e (n := (Q : Int)), w6e]; cases b
   · rfl
   · simp only [ctr, Int.zero_sub]
theorem zx4 (N : Nat) (hN : 300 < N) (b : Bool) (p q : Nat) (hp : p ≤ 10 ^ 46) (hq : 0 < q) (hq2 : q ≤ 10 ^ 46) {t : DataType} (ht : zkz t) (half : Bool) : zer N ⟨b, wn p, wn q⟩ t half = some (zj9 b p q t half) := by
 obtain ⟨⟨l1, l2⟩, l3, l4⟩ := zgq ht
 have hs : p * 10 ^ t.Scale.toNat ≤ 10 ^ 46 * 10 ^ 15 := Nat.mul_le_mul hp (zcv (by omega))
 have hd : p * 10 ^ t.Scale.toNat / q ≤ 10 ^ 46 * 10 ^ 15 := Nat.le_trans (Nat.div_le_self _ _) hs
 have hm : p * 10 ^ t.Scale.toNat % q < q := Nat.mod_lt _ hq
 unfold zer zj9
 try simp only [eW]
 have e1 := zzl N (by omega) p t.Scale.toNat (by omega)
 rw [Int.toNat_of_nonneg l3] at e1
 rw [e1, obs, z40 N hN _ q (by unfold znz; omega) hq (by omega)]
 simp only [obs]
 rw [z2n N (by omega), obs, zqp N (by omega) (by unfold znz; omega) (by unfold znz; omega)]
 simp only [obs, zx3]
 have k : (cond half (some (decide (q ≤ p * 10 ^ t.Scale.toNat % q + p * 10 ^ t.Scale.toNat % q))) (some false)) = some (half && decide (q ≤ p * 10 ^ t.Scale.toNat % q + p * 10 ^ t.Scale.toNat % q)) := by cases half <;> rfl
 rw [k, obs]
 cases hc : (half && decide (q ≤ p * 10 ^ t.Scale.toNat % q + p * 10 ^ t.Scale.toNat % q)) with
 | true =>
  simp only [ctr]; rw [zws, obs, z2n N (by omega), obs, ← zws]; exact zaab N hN b _ (by unfold znz; omega) ht
 | false =>
  simp only [cfa, Nat.add_zero]; exact zaab N hN b _ (by unfold znz; omega) ht
theorem z4s (b : Bool) (p q k : Nat) (hk : 0 < k) (hq : 0 < q) (t : DataType) (half : Bool) : zj9 b (p * k) (q * k) t half = zj9 b p q t half := by
 have e : p * k * 10 ^ t.Scale.toNat = p * 10 ^ t.Scale.toNat * k := Nat.mul_right_comm _ _ _
 have e2 : p * k * 10 ^ t.Scale.toNat / (q * k) = p * 10 ^ t.Scale.toNat / q := by rw [e, Nat.mul_div_mul_right _ _ hk]
 have e3 : decide (q * k ≤ p * k * 10 ^ t.Scale.toNat % (q * k) + p * k * 10 ^ t.Scale.toNat % (q * k)) = decide (q ≤ p * 10 ^ t.Scale.toNat % q + p * 10 ^ t.Scale.toNat % q) := by
  rw [e, Nat.mul_mod_mul_right, ← Nat.add_mul]; simp only [decide_eq_decide]; exact ⟨fun h => Nat.le_of_mul_le_mul_right h hk, fun h => Nat.mul_le_mul_right k h⟩
 unfold zj9
 rw [e2, e3]
theorem z62 (b b' : Bool) (p q : Nat) (hq : 0 < q) (t : DataType) (half : Bool) (h : p ≠ 0 → b = b') : zj9 b p q t half = zj9 b' p q t half := by
 by_cases hp : p = 0
 · subst hp; unfold zj9; simp only [Nat.zero_mul, Nat.zero_div, Nat.zero_mod, Nat.zero_add, dcf (show ¬ q ≤ 0 by omega), Bool.and_false, cfa]; cases b <;> cases b' <;> rfl
 · rw [h hp]
def z1h (p : Int) (q : Nat) (t : DataType) (half : Bool) : Value × Int := zj9 (decide (p < 0)) p.natAbs q t half
theorem z8u (b : Bool) (p q : Nat) (hq : 0 < q) (t : DataType) (half : Bool) : zj9 b p q t half = z1h (cond b (-(p : Int)) p) q t half := by
 unfold z1h
 have : (cond b (-(p : Int)) (p : Int)).natAbs = p := by cases b <;> simp
 rw [this]
 refine z62 _ _ _ _ hq _ _ fun h => ?_
 cases b
 · symm; simp
 · symm; simp; omega
theorem zacg {t : DataType} (ht : zkz t) : zgl t = some true := by
 obtain ⟨_, h1, h2⟩ := ht
 unfold zgl
 rcases (by omega : t.Kind = 1 ∨ t.Kind = 2 ∨ t.Kind = 3) with h | h | h <;> rw [h] <;> rfl
def zo6 (x : Number) (t : DataType) (half : Bool) : Value × Int := z1h x.N (10 ^ x.Scale.toNat) t half
theorem zaag (N : Nat) (hN : 300 < N) {x : Number} (hx : zd6 x) {t : DataType} (ht : zkz t) (half : Bool) : zef N x t half = some (zo6 x t half) := by
 have f3 : ∀ a b c : Int, zt N [a, b, c] = some (zhe [a, b, c]) := fun a b c => zrx N _ (by simp; omega) (by simp)
 have hx' := hx
 obtain ⟨⟨h1, h2⟩, h3, h4⟩ := hx'
 have hp : 10 ^ x.Scale.toNat ≤ 10 ^ 15 := zcv (by omega)
 unfold zef ztd
 try simp only [eN, eD, eW]
 rw [zsp, zqn.2 hx]
 simp only [obs]
 rw [zsn N (by omega), ht.1]
 simp only [obs]
 rw [zacg ht]
 simp only [obs, zsq, f3]
 rw [z42 N hN hx, zws]
 simp only [obs]
 rw [z1r N hN h3 (by omega)]
 simp only [obs]
 rw [show zhe [0, 0, cond (!true) 17 0] = 0 from rfl]
 simp only [bsf, cfa]
 rw [zx4 N hN _ _ _ (by omega) (zcz _) (by omega) ht]
 simp only [obs]
 rfl
def zap (x : Number) (s : Int) : Int := x.N * 10 ^ (s - x.Scale).toNat
def zg (a b : Number) : Int := if b.Scale > a.Scale then b.Scale else a.Scale
theorem zk2 (x : Number) (s : Int) : (zap x s).natAbs = x.N.natAbs * 10 ^ (s - x.Scale).toNat := by
 unfold zap
 rw [Int.natAbs_mul, Int.natAbs_pow]
 rfl
theorem z4t (k : Nat) : (0 : Int) < 10 ^ k := Int.pow_pos (by decide)
theorem zs3 (x : Number) (s : Int) : (zap x s < 0) ↔ x.N < 0 := by
 unfold zap
 have := z4t (s - x.Scale).toNat
 constructor
 · intro h; refine cbc fun h2 => ?_; have := Int.mul_nonneg (show 0 ≤ x.N by omega) (Int.le_of_lt this); omega
 · intro h; exact Int.mul_neg_of_neg_of_pos h this
theorem z25 (x : Number) (s : Int) : zap x s = 0 ↔ x.N = 0 := by
 unfold zap
 have := z4t (s - x.Scale).toNat
 constructor
 · intro h; rcases Int.mul_eq_zero.1 h with h | h
   · exact h
   · omega
 · intro h; rw [h, Int.zero_mul]
theorem zzn (N : Nat) (hN : 300 < N) {a b : Number} (ha : zd6 a) (hb : zd6 b) : zfj N a b = some (wn (zap a (zg a b)).natAbs, wn (zap b (zg a b)).natAbs, zg a b) := by
 have ha' := ha
 have hb' := hb
 obtain ⟨_, a3, a4⟩ := ha'
 obtain ⟨_, b3, b4⟩ := hb'
 unfold zfj
 have hs : (if b.Scale > a.Scale then b.Scale else a.Scale) = zg a b := rfl
 have h1 : a.Scale ≤ zg a b ∧ b.Scale ≤ zg a b ∧ zg a b ≤ 15 := by unfold zg; split <;> omega
 rw [hs, w6e, w6e]
 have e1 := zvd N hN ha (zg a b - a.Scale).toNat (by omega)
 have e2 := zvd N hN hb (zg a b - b.Scale).toNat (by omega)
 rw [Int.toNat_of_nonneg (by omega)] at e1 e2
 rw [e1, obs, e2, obs, zk2, zk2]
theorem zle {x : Number} (hx : zd6 x) {s : Int} (hs : s ≤ 15) : (zap x s).natAbs ≤ 10 ^ 30 := by
 obtain ⟨⟨h1, h2⟩, h3, h4⟩ := hx
 rw [zk2]
 have := Nat.mul_le_mul (show x.N.natAbs ≤ 10 ^ 15 by omega) (zcv (k := (s - x.Scale).toNat) (m := 15) (by omega))
 exact Nat.le_trans this (by decide)
theorem zqh {a b : Number} (ha : zd6 a) (hb : zd6 b) : a.Scale ≤ zg a b ∧ b.Scale ≤ zg a b ∧ 0 ≤ zg a b ∧ zg a b ≤ 15 := by
 obtain ⟨_, a3, a4⟩ := ha
 obtain ⟨_, b3, b4⟩ := hb
 unfold zg; split <;> omega
def z81 (a b : Int) : Int := if a < b then -1 else if b < a then 1 else 0
theorem zxt (N : Nat) (hN : 300 < N) {a b : Number} (ha : zd6 a) (hb : zd6 b) : zkb N a b = some (z81 (zap a (zg a b)) (zap b (zg a b)), 0) := by
 have f2 : ∀ a b : Int, zt N [a, b] = some (zhe [a, b]) := fun a b => zrx N _ (by simp; omega) (by simp)
 obtain ⟨s1, s2, s3, s4⟩ := zqh ha hb
 have la := zle ha s4
 have lb := zle hb s4
 have na := zs3 a (zg a b)
 have nb := zs3 b (zg a b)
 unfold zkb
 rw [zsp, zsp, zqn.2 ha, zqn.2 hb]
 simp only [obs, f2]
 rw [zzn N hN ha hb]
 simp only [show zhe [0, 0] = 0 from rfl, bsf, cfa, obs]
 rw [zqp N (by omega) (by unfold znz; omega) (by unfold znz; omega), zqp N (by omega) (by unfold znz; omega) (by unfold znz; omega)]
 generalize zap a (zg a b) = A at *
 generalize zap b (zg a b) = B at *
 have k : ∀ x y, (cond (decide (a.N < 0)) x y : Option (Int × Int)) = if A < 0 then x else y := fun x y => by
  by_cases h : A < 0
  · rw [ifp h, dct (na.1 h), ctr]
  · rw [ifn h, dcf (fun h2 => h (na.2 h2)), cfa]
 have k2 : ∀ x y, (cond (decide (b.N < 0)) x y : Option (Int × Int)) = if B < 0 then x else y := fun x y => by
  by_cases h : B < 0
  · rw [ifp h, dct (nb.1 h), ctr]
  · rw [ifn h, dcf (fun h2 => h (nb.2 h2)), cfa]
 rw [show (cond (decide (a.N < 0)) (some (decide (b.N < 0))) (some false)) = some (decide (A < 0 ∧ B < 0)) by
  by_cases h : A < 0
  · rw [dct (na.1 h), ctr]
    by_cases h2 : B < 0
    · rw [dct (nb.1 h2), dct ⟨h, h2⟩]
    · rw [dcf (fun h3 => h2 (nb.2 h3)), dcf (fun h3 => h2 h3.2)]
  · rw [dcf (fun h2 => h (na.2 h2)), cfa, dcf (fun h3 => h h3.1)]]
 simp only [obs, k, k2]
 unfold zkm z81
 by_cases h1 : A < 0 ∧ B < 0
 · rw [dct h1]; simp only [ctr, Option.some.injEq, Prod.mk.injEq, and_true]
   repeat' split
   all_goals first | rfl | omega
 · rw [dcf h1]; simp only [cfa]
   repeat' split
   all_goals first | rfl | (exfalso; omega)
theorem zace (N : Nat) (hN : 300 < N) {a b : Number} (ha : zd6 a) (hb : zd6 b) : ∃ s p, zns N a b = some ⟨s, wn p, wn (10 ^ (zg a b).toNat)⟩ ∧ p ≤ 10 ^ 31 ∧ cond s (-(p : Int)) p = zap a (zg a b) + zap b (zg a b) := by
 obtain ⟨s1, s2, s3, s4⟩ := zqh ha hb
 have la := zle ha s4
 have lb := zle hb s4
 have na := zs3 a (zg a b)
 have nb := zs3 b (zg a b)
 unfold zns
 rw [zzn N hN ha hb]
 simp only [obs]
 rw [z2n N (by omega), zws]
 simp only [obs]
 rw [z1r N hN s3 (by omega)]
 simp only [obs]
 obtain ⟨r, hr1, hr2⟩ := z1w N (by omega) (zap a (zg a b)).natAbs (zap b (zg a b)).natAbs
 rw [hr1]
 simp only [obs]
 rw [zqp N (by omega) (by unfold znz; omega) (by unfold znz; omega)]
 simp only [obs]
 generalize zap a (zg a b) = A at *
 generalize zap b (zg a b) = B at *
 rw [show decide (a.N < 0) = decide (A < 0) by simp only [decide_eq_decide]; exact na.symm, show decide (b.N < 0) = decide (B < 0) by simp only [decide_eq_decide]; exact nb.symm]
 by_cases hA : A < 0
 · by_cases hB : B < 0
   · rw [dct hA, dct hB]; refine ⟨true, _, rfl, by omega, ?_⟩; simp only [ctr]; omega
   · rw [dct hA, dcf hB]; unfold zkm
     by_cases h : A.natAbs < B.natAbs
     · rw [ifp h, z36 N (by omega) (Nat.le_of_lt h)]; refine ⟨false, _, rfl, by omega, ?_⟩; simp only [cfa]; omega
     · rw [ifn h, hr2 (by omega)]; refine ⟨true, A.natAbs - B.natAbs, ?_, by omega, ?_⟩
       · split <;> rfl
       · simp only [ctr]; omega
 · by_cases hB : B < 0
   · rw [dcf hA, dct hB]; unfold zkm
     by_cases h : A.natAbs < B.natAbs
     · rw [ifp h, z36 N (by omega) (Nat.le_of_lt h)]; refine ⟨true, _, rfl, by omega, ?_⟩; simp only [ctr]; omega
     · rw [ifn h, hr2 (by omega)]; refine ⟨false, A.natAbs - B.natAbs, ?_, by omega, ?_⟩
       · split <;> rfl
       · simp only [cfa]; omega
   · rw [dcf hA, dcf hB]; refine ⟨false, _, rfl, by omega, ?_⟩; simp only [cfa]; omega
def zmr (op : Int) (a b : Number) (t : DataType) (half : Bool) : Value × Int :=
 if (op = 3 ∨ op = 4) ∧ b.N = 0 then (⟨0, ⟨#[]⟩⟩, 20)
 else if op = 0 then z1h (zap a (zg a b) + zap b (zg a b)) (10 ^ (zg a b).toNat) t half
 else if op = 1 then z1h (zap a (zg a b) - zap b (zg a b)) (10 ^ (zg a b).toNat) t half
 else if op = 2 then zj9 (decide (a.N < 0) != decide (b.N < 0)) (a.N.natAbs * b.N.natAbs) (10 ^ (a.Scale + b.Scale).toNat) t half
 else if op = 3 then zj9 (decide (a.N < 0) != decide (b.N < 0)) (a.N.natAbs * 10 ^ b.Scale.toNat) (b.N.natAbs * 10 ^ a.Scale.toNat) t half
 else zj9 (decide (a.N < 0)) ((zap a (zg a b)).natAbs % (zap b (zg a b)).natAbs) (10 ^ (zg a b).toNat) t half
theorem zae8 (N : Nat) (hN : 300 < N) {op : Int} (hop : 0 ≤ op ∧ op ≤ 4) {a b : Number} (ha : zd6 a) (hb : zd6 b) {t : DataType} (ht : zkz t) (half : Bool) : zhd N op a b t half = some (zmr op a b t half) := by
 have f5 : ∀ a b c d e : Int, zt N [a, b, c, d, e] = some (zhe [a, b, c, d, e]) := fun a b c d e => zrx N _ (by simp; omega) (by simp)
 obtain ⟨s1, s2, s3, s4⟩ := zqh ha hb
 have ha' := ha
 have hb' := hb
 obtain ⟨⟨a1, a2⟩, a3, a4⟩ := ha'
 obtain ⟨⟨b1, b2⟩, b3, b4⟩ := hb'
 have p15 : ∀ k : Int, k ≤ 15 → 10 ^ k.toNat ≤ 10 ^ 15 := fun k hk => zcv (by omega)
 have q1 := p15 _ s4
 have q2 := p15 _ a4
 have q3 := p15 _ b4
 unfold zhd zp8 zks zna
 simp only [z4x, zsq, obs]
 rw [zsp, zsp, zqn.2 ha, zqn.2 hb, show inB op 0 4 = true from zbj.2 hop]
 simp only [obs]
 rw [zsn N (by omega), ht.1]
 simp only [obs]
 rw [zacg ht]
 simp only [obs, f5, show zhe [cond (!true) 4 0, 0, 0, 0, cond (!true) 17 0] = 0 from rfl, bsf, cfa]
 have g : ((cond (op == 3) (some true) (some (op == 4))).bind fun g1 => some g1) = some (decide (op = 3 ∨ op = 4)) := by
  rw [zcn, zcn]
  by_cases h : op = 3
  · rw [dct h, dct (Or.inl h)]; rfl
  · rw [dcf h]
    by_cases h2 : op = 4
    · rw [dct h2, dct (Or.inr h2)]; rfl
    · rw [dcf h2, dcf (by omega)]; rfl
 rw [g]
 simp only [obs]
 rw [show (cond (decide (op = 3 ∨ op = 4)) (some (b.N == 0)) (some false)) = some (decide ((op = 3 ∨ op = 4) ∧ b.N = 0)) by
  rw [zcn]
  by_cases h : op = 3 ∨ op = 4
  · rw [dct h, ctr]; congr 1; simp [h]
  · rw [dcf h, cfa]; congr 1; simp [h]]
 simp only [obs]
 unfold zmr
 by_cases hz : (op = 3 ∨ op = 4) ∧ b.N = 0
 · rw [dct hz, ifp hz]; rfl
 · rw [dcf hz, ifn hz, cfa]; unfold zoj
   by_cases o0 : op = 0
   · obtain ⟨s, p, h1, h2, h3⟩ := zace N hN ha hb; rw [ifp o0, o0, h1]; simp only [bst, ctr, obs]; rw [zx4 N hN _ _ _ (by omega) (zcz _) (by omega) ht, ← h3, z8u _ _ _ (zcz _)]; rfl
   · rw [ifn o0, zcn, dcf o0, cfa]
     by_cases o1 : op = 1
     · have hb2 : zd6 ⟨-b.N, b.Scale⟩ := ⟨⟨by show -999999999999999 ≤ -b.N; omega, by show -b.N ≤ 999999999999999; omega⟩, b3, b4⟩; obtain ⟨s, p, h1, h2, h3⟩ := zace N hN ha hb2; rw [ifp o1, zcn, dct o1, ctr, w6e, Int.zero_sub, h1]; simp only [obs]; have e1 : zg a ⟨-b.N, b.Scale⟩ = zg a b := rfl; have e2 : zap ⟨-b.N, b.Scale⟩ (zg a b) = -zap b (zg a b) := by unfold zap; exact Int.neg_mul _ _
       rw [e1] at h3 ⊢; rw [e2] at h3; rw [zx4 N hN _ _ _ (by omega) (zcz _) (by omega) ht, Int.sub_eq_add_neg, ← h3, z8u _ _ _ (zcz _)]; rfl
     · rw [ifn o1, zcn, dcf o1, cfa]
       by_cases o2 : op = 2
       · rw [ifp o2, zcn, dct o2, ctr, z42 N hN ha, obs]; have e : (if w6 (0 - b.N) > b.N then w6 (0 - b.N) else b.N) = ((b.N.natAbs : Nat) : Int) := by
          rw [w6e]; split <;> omega
         rw [e, zxz, mel (by omega), z85 N (by omega) _ _ (by omega), obs, zws, obs, w6e, z1r N hN (by omega) (by omega)]; simp only [obs]; have hm : a.N.natAbs * b.N.natAbs ≤ 10 ^ 15 * 10 ^ 15 := Nat.mul_le_mul (by omega) (by omega); have hm2 : 10 ^ (a.Scale + b.Scale).toNat ≤ 10 ^ 30 := zcv (by omega); rw [zx4 N hN _ _ _ (by omega) (zcz _) (by omega) ht]; rfl
       · rw [ifn o2, zcn, dcf o2, cfa]
         by_cases o3 : op = 3
         · have hb0 : b.N ≠ 0 := fun h => hz ⟨.inl o3, h⟩; have e1 := zvd N hN ha b.Scale.toNat (by omega); have e2 := zvd N hN hb a.Scale.toNat (by omega); rw [Int.toNat_of_nonneg (by omega)] at e1 e2; have hm : a.N.natAbs * 10 ^ b.Scale.toNat ≤ 10 ^ 15 * 10 ^ 15 := Nat.mul_le_mul (by omega) (by omega); have hm2 : b.N.natAbs * 10 ^ a.Scale.toNat ≤ 10 ^ 15 * 10 ^ 15 := Nat.mul_le_mul (by omega) (by omega); rw [ifp o3, zcn, dct o3, ctr, e1, obs, e2, obs, obs]; rw [zx4 N hN _ _ _ (by omega) (Nat.mul_pos (by omega) (zcz _)) (by omega) ht]; rfl
         · have hb0 : b.N ≠ 0 := fun h => hz ⟨by omega, h⟩; have la := zle ha s4; have lb := zle hb s4; have hb1 : (zap b (zg a b)).natAbs ≠ 0 := fun h => hb0 ((z25 b (zg a b)).1 (Int.natAbs_eq_zero.1 h)); have hm := Nat.mod_lt (zap a (zg a b)).natAbs (show 0 < (zap b (zg a b)).natAbs by omega); rw [ifn o3, zcn, dcf o3, cfa, zzn N hN ha hb, obs]; simp only []; rw [z40 N hN _ _ (by unfold znz; omega) (by omega) (by omega), obs, zws, obs]; rw [z1r N hN s3 (by omega)]; simp only [obs]; rw [zx4 N hN _ _ _ (by omega) (zcz _) (by omega) ht]; rfl
def dv : List Int → Nat
 | [] => 0
 | d :: l => d.toNat + 10 * dv l
def dok (l : List Int) : Prop := ∀ d ∈ l, 0 ≤ d ∧ d < 10
def zrz (l : List Int) : Prop := l.getLast? ≠ some 0
def dg (n : Nat) : List Int := if n = 0 then [] else ((n % 10 : Nat) : Int) :: dg (n / 10)
termination_by n
decreasing_by omega
theorem zok : dg 0 = [] := by rw [dg]; rfl
theorem ztm {n : Nat} (h : n ≠ 0) : dg n = ((n % 10 : Nat) : Int) :: dg (n / 10) := by rw [dg, ifn h]
theorem z4e (n : Nat) : dv (dg n) = n ∧ dok (dg n) ∧ zrz (dg n) ∧ (dg n = [] ↔ n = 0) := by
 induction n using Nat.strongRecOn with
 | _ n ih =>
  by_cases h : n = 0
  · subst h; rw [zok]; exact ⟨rfl, fun d hd => (List.not_mem_nil hd).elim, by unfold zrz; simp, by simp⟩
  · obtain ⟨h1, h2, h3, h4⟩ := ih (n / 10) (by omega); rw [ztm h]; refine ⟨?_, ?_, ?_, by simp [h]⟩
    · simp only [dv, h1, itn]; omega
    · intro d hd; rcases List.mem_cons.1 hd with rfl | hd
      · omega
      · exact h2 d hd
    · unfold zrz at h3 ⊢; cases hl : dg (n / 10) with
      | nil =>
       have := h4.1 hl; simp only [List.getLast?_singleton, ne_eq, Option.some.injEq]; omega
      | cons x l =>
       rw [hl] at h3; rw [List.getLast?_cons_cons]; exact h3
theorem zn6 (n : Nat) : dv (dg n) = n := (z4e n).1
theorem zne (n : Nat) : dok (dg n) := (z4e n).2.1
theorem zaap (n : Nat) : zrz (dg n) := (z4e n).2.2.1
theorem z5g : ∀ {l : List Int}, dok l → zrz l → dg (dv l) = l
 | [], _, _ => zok
 | d :: l, h, hc => by
  have hl : dok l := fun x hx => h x (List.mem_cons_of_mem _ hx); obtain ⟨h0, h1⟩ := h d List.mem_cons_self; cases l with
  | nil =>
   unfold zrz at hc; simp only [List.getLast?_singleton, ne_eq, Option.some.injEq] at hc; have e : dv [d] = d.toNat := by simp [dv]
   rw [e, ztm (by omega), show d.toNat / 10 = 0 by omega, zok, show ((d.toNat % 10 : Nat) : Int) = d by omega]
  | cons x l =>
   have hcl : zrz (x :: l) := by
    unfold zrz at hc ⊢; rw [List.getLast?_cons_cons] at hc; exact hc
   have ih := z5g hl hcl; have hn : dv (x :: l) ≠ 0 := fun h => by rw [h, zok] at ih; cases ih
   have e : dv (d :: x :: l) = d.toNat + 10 * dv (x :: l) := rfl; rw [e, ztm (by omega), show (d.toNat + 10 * dv (x :: l)) / 10 = dv (x :: l) by omega, ih, show (((d.toNat + 10 * dv (x :: l)) % 10 : Nat) : Int) = d by omega]
theorem zxg : ∀ (a b : List Int), dv (a ++ b) = dv a + 10 ^ a.length * dv b
 | [], b => by simp [dv]
 | d :: a, b => by
  simp only [List.cons_append, dv, zxg a b, lnc, Nat.pow_succ]; rw [Nat.mul_add, Nat.add_assoc, Nat.mul_comm (10 ^ a.length) 10, Nat.mul_assoc]
theorem zwz : ∀ k : Nat, dv (List.replicate k (0 : Int)) = 0
 | 0 => rfl
 | k + 1 => by simp only [List.replicate_succ, dv, zwz k]; rfl
theorem zvj (k : Nat) : dok (List.replicate k (0 : Int)) := fun d hd => by
 obtain ⟨_, rfl⟩ := List.mem_replicate.1 hd
 omega
theorem zz7 {a b : List Int} (ha : dok a) (hb : dok b) : dok (a ++ b) := fun d hd => (List.mem_append.1 hd).elim (ha d) (hb d)
theorem z5c : ∀ {l : List Int}, dok l → dv l < 10 ^ l.length
 | [], _ => by simp [dv]
 | d :: l, h => by
  have ih := z5c (l := l) fun x hx => h x (List.mem_cons_of_mem _ hx); obtain ⟨h0, h1⟩ := h d List.mem_cons_self; simp only [dv, lnc, Nat.pow_succ]; omega
theorem zj2 (n k : Nat) : (dg n).length ≤ k ↔ n < 10 ^ k := by
 induction k generalizing n with
 | zero =>
  by_cases h : n = 0
  · rw [h, zok]; simp
  · rw [ztm h]; simp; omega
 | succ k ih =>
  by_cases h : n = 0
  · rw [h, zok]; simp [zcz]
  · rw [ztm h, lnc, Nat.add_le_add_iff_right, ih (n / 10), Nat.pow_succ]; omega
theorem z9q (l : List Int) (i : Nat) (hi : i < l.length) : dv l = dv (l.take i) + 10 ^ i * (l[i].toNat + 10 * dv (l.drop (i + 1))) := by
 have h := List.take_append_drop i l
 have e : l.drop i = l[i] :: l.drop (i + 1) := List.drop_eq_getElem_cons hi
 conv => lhs; rw [← h, zxg, e]
 simp only [dv, lnt, Nat.min_eq_left (Nat.le_of_lt hi)]
theorem z4a {l : List Int} (h : dok l) (i : Nat) : dok (l.take i) := fun d hd => h d (List.mem_of_mem_take hd)
theorem zad9 {l : List Int} (h : dok l) (i : Nat) : dok (l.drop i) := fun d hd => h d (List.mem_of_mem_drop hd)
theorem zact {a b : List Int} (ha : dok a) (hb : dok b) (i : Nat) (hi : i < a.length) (hj : i < b.length) (h : a.drop (i + 1) = b.drop (i + 1)) (hlt : a[i] < b[i]) : dv a < dv b := by
 rw [z9q a i hi, z9q b i hj, h]
 have l1 := z5c (z4a ha i)
 rw [lnt, Nat.min_eq_left (Nat.le_of_lt hi)] at l1
 obtain ⟨x0, _⟩ := ha a[i] (List.getElem_mem hi)
 have : 10 ^ i * (a[i].toNat + 10 * dv (b.drop (i + 1))) + 10 ^ i ≤ 10 ^ i * (b[i].toNat + 10 * dv (b.drop (i + 1))) := by
  rw [← Nat.mul_succ]; exact Nat.mul_le_mul_left _ (by omega)
 omega
theorem z5f {a b : Nat} (h : (dg a).length < (dg b).length) : a < b := by
 have h1 := (zj2 a (dg a).length).1 (Nat.le_refl _)
 refine Nat.lt_of_lt_of_le h1 (cbc fun h2 => ?_)
 have := (zj2 b (dg a).length).2 (by omega)
 omega
def bl (b : ByteArray) : List UInt8 := b.data.toList
theorem zax (b : ByteArray) : (bl b).length = b.size := rfl
theorem zjv {a b : ByteArray} (h : bl a = bl b) : a = b := by
 cases a; cases b
 unfold bl at h
 simp only at h
 congr 1
 exact Array.toList_inj.1 h
theorem zkc (b : ByteArray) (i : Nat) : zhl b (i : Int) = (bl b)[i]? := by
 unfold zhl bl
 rw [ifp]
 show b[i]? = _
 by_cases h : i < b.size
 · rw [getElem?_pos b i h, lge (by simpa using h)]
   congr 1
 · rw [getElem?_neg b i h, List.getElem?_eq_none (by simpa using h)]
theorem zfy (b : ByteArray) (i j : Nat) : bl (b.extract i j) = ((bl b).take j).drop i := by
 unfold bl
 rw [ByteArray.data_extract, Array.toList_extract, List.extract_eq_drop_take', List.drop_take]
theorem zd2 (a b : ByteArray) : bl (a ++ b) = bl a ++ bl b := by
 unfold bl
 rw [ByteArray.data_append, Array.toList_append]
theorem zaen (l : List UInt8) : bl ⟨l.toArray⟩ = l := rfl
def beV (l : List UInt8) : Nat := l.foldl (fun n c => n * 256 + c.toNat) 0
theorem zw1 (l : List UInt8) (x : UInt8) : beV (l ++ [x]) = beV l * 256 + x.toNat := by
 unfold beV; rw [List.foldl_append]; rfl
theorem z5j (l : List UInt8) : beV l < 256 ^ l.length := by
 have key : ∀ (l r : List UInt8), l = r.reverse → beV l < 256 ^ l.length := by
  intro l r
  induction r generalizing l with
  | nil => intro h; subst h; decide
  | cons x r ih =>
   intro h; rw [List.reverse_cons] at h; subst h; have := ih _ rfl; rw [zw1, lna, lns, Nat.pow_succ]; have := x.toNat_lt; omega
 exact key l l.reverse (by simp)
theorem ze4 {α : Type} (l : List α) (i : Nat) {x : α} (h : l[i]? = some x) : l.take (i + 1) = l.take i ++ [x] := by
 obtain ⟨h1, h2⟩ := gei h
 rw [List.take_succ_eq_append_getElem h1, h2]
theorem zfx {α : Type} {l : List α} {i : Nat} (h : i < l.length) : ∃ x, l[i]? = some x := ⟨_, lge h⟩
theorem or8 (n : Int) (c : Nat) (h1 : -36028797018963968 ≤ n) (h2 : n < 36028797018963968) (hc : c < 256) : orI .i64 (n * 256) (c : Int) = n * 256 + c := by
 unfold orI
 have e : (BitVec.ofInt IntKind.i64.bits (n * 256) ||| BitVec.ofInt IntKind.i64.bits (c : Int)).toNat = ((n * 256) % 18446744073709551616).toNat + c := by
  show (BitVec.ofInt 64 (n * 256) ||| BitVec.ofInt 64 (c : Int)).toNat = _; rw [BitVec.toNat_or, BitVec.ofInt_natCast, BitVec.toNat_ofNat, BitVec.toNat_ofInt, mel (by omega)]; show ((n * 256) % 18446744073709551616).toNat ||| c = _; have := Nat.two_pow_add_eq_or_of_lt (i := 8) (b := c) hc (((n * 256) % 18446744073709551616).toNat / 256); rw [show 2 ^ 8 * (((n * 256) % 18446744073709551616).toNat / 256) = ((n * 256) % 18446744073709551616).toNat by omega] at this; exact this.symm
 rw [e]
 have k : (2 : Int) ^ (IntKind.i64.bits) = 18446744073709551616 := by decide
 have k' : (2 : Int) ^ (IntKind.i64.bits - 1) = 9223372036854775808 := by decide
 unfold IntKind.wrap
 simp only [k, k', show IntKind.i64.signed = true from rfl, Bool.true_and, decide_eq_true_eq, ge_iff_le]
 split <;> omega
theorem z8b (N : Nat) (hN : 20 < N) (b : ByteArray) (hb : b.size ≤ 6) : zcs N b = some (beV (bl b) : Int) := by
 unfold zcs
 have := za1 (f := zcs.r0 N) (fun i => (b, ((beV ((bl b).take i) : Nat) : Int), (b.size : Int), (i : Int))) b.size
  (fun i hi => by
   obtain ⟨x, hx⟩ : ∃ x, (bl b)[i]? = some x := zfx (by rw [zax]; exact hi); have hl := z5j ((bl b).take i); have hl2 : 256 ^ ((bl b).take i).length ≤ 256 ^ 6 := Nat.pow_le_pow_right (by decide) (by rw [lnt, zax]; omega); have hc := x.toNat_lt; simp only [zcs.r0, zcs.b0, dct (show (i : Int) < (b.size : Int) by omega), ctr, zkc, hx, obs]; rw [show (2 : Int) ^ (min (8 : Int).toNat 64) = 256 from rfl, w6e (n := ((beV ((bl b).take i) : Nat) : Int) * 256), w6e (n := (x.toNat : Int)), w6e (n := (i : Int) + 1), or8 _ _ (by omega) (by omega) hc, ze4 _ _ hx, zw1]; simp only [Int.natCast_add, Int.natCast_mul, Int.natCast_one]; rfl)
  (by simp only [zcs.r0, zcs.b0, dcf (show ¬ (b.size : Int) < (b.size : Int) by omega), cfa]) (N := N) (by omega)
 simp only [List.take_zero, nc0] at this
 rw [show ((beV [] : Nat) : Int) = 0 from rfl] at this
 rw [this, ← zax, List.take_length]
 rfl
theorem z2i (N : Nat) (hN : 20 < N) (b : ByteArray) (k n : Nat) (hn : n ≤ 6) (hk : k + n ≤ b.size) (hb : b.size < 1000000) : zdv N b (k : Int) (n : Int) = some (beV (((bl b).drop k).take n) : Int) := by
 unfold zdv
 have := za1 (f := zdv.r0 N) (fun i => (b, (k : Int), (n : Int), ((beV (((bl b).drop k).take i) : Nat) : Int), (i : Int))) n
  (fun i hi => by
   have hlen : i < ((bl b).drop k).length := by rw [List.length_drop, zax]; omega
   obtain ⟨x, hy⟩ : ∃ x, ((bl b).drop k)[i]? = some x := zfx hlen; have hx : (bl b)[k + i]? = some x := by rw [← List.getElem?_drop]; exact hy
   have hl := z5j (((bl b).drop k).take i); have hl2 : 256 ^ (((bl b).drop k).take i).length ≤ 256 ^ 6 := Nat.pow_le_pow_right (by decide) (by rw [lnt]; omega); have hc := x.toNat_lt; simp only [zdv.r0, zdv.b0, dct (show (i : Int) < (n : Int) by omega), ctr]; rw [w6e (n := (k : Int) + (i : Int)), ← Int.natCast_add, zkc, hx]; simp only [obs]; rw [w6e (n := ((beV (((bl b).drop k).take i) : Nat) : Int) * 256), w6e (n := (x.toNat : Int)), w6e (n := (i : Int) + 1), w6e, ze4 _ _ hy, zw1]; simp only [Int.natCast_add, Int.natCast_mul, Int.natCast_one]; rfl)
  (by simp only [zdv.r0, zdv.b0, dcf (show ¬ (n : Int) < (n : Int) by omega), cfa]) (N := N) (by omega)
 simp only [List.take_zero, nc0] at this
 rw [show ((beV [] : Nat) : Int) = 0 from rfl] at this
 rw [this]
 rfl
def zbt (v k : Nat) : List Int := (List.range k).map fun j => ((v / 256 ^ (k - 1 - j) % 256 : Nat) : Int)
theorem z4f (v k : Nat) : (zbt v k).length = k := by simp [zbt]
def zjj (f : Nat → Int) (k i : Nat) : List Int := (List.range k).map fun j => if k - i ≤ j then f (k - 1 - j) else 0
theorem zwm (f : Nat → Int) (k i : Nat) : (zjj f k i).length = k := by simp [zjj]
theorem zu9 (f : Nat → Int) (k : Nat) : zjj f k 0 = List.replicate k (0 : Int) := by
 unfold zjj
 refine List.ext_getElem? fun j => ?_
 rw [List.getElem?_map, List.getElem?_replicate]
 by_cases h : j < k
 · rw [lge (by simpa using h), ifp h]; simp only [List.getElem_range, Option.map_some]; rw [ifn]
 · rw [List.getElem?_eq_none (by simpa using h), ifn h]; rfl
theorem zvb (f : Nat → Int) (k : Nat) : zjj f k k = (List.range k).map fun j => f (k - 1 - j) := by
 unfold zjj
 refine List.map_congr_left fun j _ => ?_
 rw [ifp]
theorem zva (f : Nat → Int) (k i : Nat) (h : i < k) : (zjj f k i).set (k - 1 - i) (f i) = zjj f k (i + 1) := by
 refine List.ext_getElem? fun j => ?_
 rw [List.getElem?_set]
 unfold zjj
 simp only [lnm, List.length_range, List.getElem?_map]
 by_cases hj : j < k
 · rw [lge (by simpa using hj)]; simp only [List.getElem_range, Option.map_some]
   by_cases he : k - 1 - i = j
   · rw [ifp he, ifp, ifp, show k - 1 - j = i by omega]
   · rw [ifn he]
     congr 1
     by_cases h2 : k - i ≤ j
     · rw [ifp h2, ifp]
     · rw [ifn h2, ifn]
 · rw [List.getElem?_eq_none (by simpa using hj)]
   by_cases he : k - 1 - i = j
   · omega
   · rw [ifn he]; rfl
def z6l (v k i : Nat) : List Int := zjj (fun e => ((v / 256 ^ e % 256 : Nat) : Int)) k i
theorem zac1 (v k : Nat) : z6l v k 0 = List.replicate k (0 : Int) := zu9 _ k
theorem zac3 (v k : Nat) : z6l v k k = zbt v k := zvb _ k
theorem zac2 (v k i : Nat) (h : i < k) : (z6l v k i).set (k - 1 - i) ((v / 256 ^ i % 256 : Nat) : Int) = z6l v k (i + 1) := zva _ k i h
theorem zaeq (m : Nat) : IntKind.wrap .u8 (m : Int) = ((m % 256 : Nat) : Int) := by
 have e : (2 : Int) ^ (IntKind.u8.bits) = 256 := by decide
 unfold IntKind.wrap
 simp only [e, show IntKind.u8.signed = false from rfl, Bool.false_and]
 simp only [Bool.false_eq_true, if_false]
 omega
theorem zafz (N : Nat) (hN : 20 < N) (v k : Nat) (hk : k ≤ 8) : zcl N (v : Int) (k : Int) = some (zbt v k) := by
 unfold zcl
 have := za1 (f := zcl.r0 N) (fun i => ((v : Int), (k : Int), z6l v k i, (k : Int), (i : Int))) k
  (fun i hi => by
   have hl : (z6l v k i).length = k := zwm _ _ _; simp only [zcl.r0, zcl.b0, dct (show (i : Int) < (k : Int) by omega), ctr, hl]; rw [w6e (n := 8 * (i : Int)), w6e (n := (k : Int) - 1), w6e (n := (k : Int) - 1 - (i : Int)), ifn, ifp, ifp]; have e0 : ((k : Int) - 1 - (i : Int)).toNat = k - 1 - i := by omega
   rw [e0, lge (by omega), obs, w6e (n := (i : Int) + 1)]; have e1 : ((v : Int).fdiv (2 ^ (min (8 * (i : Int)).toNat 64))) = ((v / 256 ^ i : Nat) : Int) := by
    rw [show (8 * (i : Int)).toNat = 8 * i by omega, Nat.min_eq_left (by omega), show (2 : Int) ^ (8 * i) = ((256 ^ i : Nat) : Int) by
     rw [show (256 : Nat) = 2 ^ 8 from rfl, ← Nat.pow_mul, Int.natCast_pow]; rfl, zz4]
   rw [e1, zaeq, zac2 v k i hi]; rfl)
  (by simp only [zcl.r0, zcl.b0, dcf (show ¬ (k : Int) < (k : Int) by omega), cfa]) (N := N) (by omega)
 rw [ifp, ifp]
 have hr : Nat.ble ((k : Int).toNat * 1) zbr = true := by
  rw [Nat.ble_eq]; unfold zbr; omega
 rw [hr, ctr, itn, lnr]
 simp only [zac1, nc0] at this
 rw [this, obs, zac3]
def z4i : Pointer := ⟨0, ⟨0, 0⟩, 0⟩
def zka (off : Int) : Pointer := ⟨0, ⟨1, off⟩, 0⟩
def zr1 (p : Pointer) : Int := cond (!inB p.Kind 0 2) 4 (cond (!inB p.Address.zT 0 1099511627775 || (!inB p.Address.Offset 0 16777215 || !inB p.Authority 0 1023)) 3 (cond (p.Authority != 0 && p.Kind != 1) 5 0))
theorem z6q (p : Pointer) : ze7 p = some (zr1 p) := by
 unfold ze7 zr1
 simp only [zag5, obs, zxw]
 generalize inB p.Kind 0 2 = a
 generalize inB p.Address.zT 0 1099511627775 = b
 generalize inB p.Address.Offset 0 16777215 = c
 generalize inB p.Authority 0 1023 = d
 generalize (p.Authority != 0 && p.Kind != 1) = e
 cases a <;> cases b <;> cases c <;> cases d <;> cases e <;> rfl
theorem zab8 (p : Pointer) : zj7 p = some (zr1 p) := by
 unfold zj7 zr1
 rw [Bool.and_comm (p.Authority != 0) (p.Kind != 1)]
 simp only [zie, obs, zxw, orB]
 generalize inB p.Kind 0 2 = a
 generalize inB p.Address.zT 0 1099511627775 = b
 generalize inB p.Address.Offset 0 16777215 = c
 generalize inB p.Authority 0 1023 = d
 generalize (p.Kind != 1 && p.Authority != 0) = e
 cases a <;> cases b <;> cases c <;> cases d <;> cases e <;> rfl
def zwo (l : List UInt8) : Pointer := ⟨((l.getD 0 0).toNat : Nat), ⟨(beV ((l.drop 4).take 6) : Nat), (beV ((l.drop 10).take 6) : Nat)⟩, (beV ((l.drop 2).take 2) : Nat)⟩
def zmc (l : List UInt8) : Pointer × Int := if (l.getD 1 0).toNat ≠ 0 then (z4i, 5) else if zr1 (zwo l) ≠ 0 then (z4i, zr1 (zwo l)) else (zwo l, 0)
theorem zwi {l : List UInt8} {i : Nat} (h : i < l.length) : l[i]? = some (l.getD i 0) := by
 rw [gdd, lge h]; rfl
theorem z8a (N : Nat) (hN : 20 < N) (b : ByteArray) (hb : b.size = 16) : zg0 N b = some (zmc (bl b)) := by
 have hl : (bl b).length = 16 := hb
 have i1 : zhl b 1 = some ((bl b).getD 1 0) := by rw [show (1 : Int) = ((1 : Nat) : Int) from rfl, zkc, zwi (by omega)]
 have i0 : zhl b 0 = some ((bl b).getD 0 0) := by rw [show (0 : Int) = ((0 : Nat) : Int) from rfl, zkc, zwi (by omega)]
 have z1 : (b.extract (2 : Int).toNat (4 : Int).toNat).size = 2 := zdc b 2 4 (by omega) (by omega)
 have z2 : (b.extract (4 : Int).toNat (10 : Int).toNat).size = 6 := zdc b 4 10 (by omega) (by omega)
 have z3 : (b.extract (10 : Int).toNat b.size).size = 6 := (zdc b 10 b.size (by omega) (by omega)).trans (by omega)
 have e1 := z8b N hN (b.extract (2 : Int).toNat (4 : Int).toNat) (by omega)
 have e2 := z8b N hN (b.extract (4 : Int).toNat (10 : Int).toNat) (by omega)
 have e3 := z8b N hN (b.extract (10 : Int).toNat b.size) (by omega)
 rw [zfy, show (2 : Int).toNat = 2 from rfl, show (4 : Int).toNat = 4 from rfl, List.drop_take] at e1
 rw [zfy, show (4 : Int).toNat = 4 from rfl, show (10 : Int).toNat = 10 from rfl, List.drop_take] at e2
 rw [zfy, show (10 : Int).toNat = 10 from rfl, List.drop_take, hb] at e3
 unfold zg0
 rw [show ((b.size : Int) != 16) = false by rw [hb]; rfl]
 simp only [cfa, i1, i0, obs]
 by_cases h : ((bl b).getD 1 0).toNat = 0
 · rw [h, show ((((0 : Nat) : Int)) != 0) = false from rfl, cfa]; rw [ifp, ifp, show (2 : Int).toNat = 2 from rfl, show (4 : Int).toNat = 4 from rfl, e1]; simp only [obs]; rw [ifp, ifp, show (10 : Int).toNat = 10 from rfl, e2]; simp only [obs]; rw [ifp, hb, e3]; simp only [obs]; have hx := ((bl b).getD 0 0).toNat_lt; rw [w6e]; rw [show (⟨(((bl b).getD 0 0).toNat : Int), ⟨(beV (((bl b).drop 4).take (10 - 4)) : Int), (beV (((bl b).drop 10).take (16 - 10)) : Int)⟩, (beV (((bl b).drop 2).take (4 - 2)) : Int)⟩ : Pointer) = zwo (bl b) from rfl, z6q]; simp only [obs]; unfold zmc; rw [ifn]
   by_cases h2 : zr1 (zwo (bl b)) = 0
   · rw [h2]; rfl
   · rw [ifp h2, zd1, dct h2]; rfl
 · unfold zmc; rw [ifp h, zd1, dct (by omega)]; rfl
theorem z8l (N : Nat) (hN : 20 < N) (b : ByteArray) (hb : b.size = 16) : zps N b = some (zmc (bl b)) := by
 have hl : (bl b).length = 16 := hb
 have i1 : zhl b 1 = some ((bl b).getD 1 0) := by rw [show (1 : Int) = ((1 : Nat) : Int) from rfl, zkc, zwi (by omega)]
 have i0 : zhl b 0 = some ((bl b).getD 0 0) := by rw [show (0 : Int) = ((0 : Nat) : Int) from rfl, zkc, zwi (by omega)]
 have e1 : zdv N b 2 2 = _ := z2i N hN b 2 2 (by omega) (by omega) (by omega)
 have e2 : zdv N b 4 6 = _ := z2i N hN b 4 6 (by omega) (by omega) (by omega)
 have e3 : zdv N b 10 6 = _ := z2i N hN b 10 6 (by omega) (by omega) (by omega)
 unfold zps
 rw [show ((b.size : Int) != 16) = false by rw [hb]; rfl]
 simp only [cfa, i1, i0, obs]
 by_cases h : ((bl b).getD 1 0).toNat = 0
 · rw [h, show ((((0 : Nat) : Int)) != 0) = false from rfl, cfa]; rw [e1, e2, e3]; simp only [obs]; have hx := ((bl b).getD 0 0).toNat_lt; rw [w6e]; rw [show (⟨(((bl b).getD 0 0).toNat : Int), ⟨(beV (((bl b).drop 4).take 6) : Int), (beV (((bl b).drop 10).take 6) : Int)⟩, (beV (((bl b).drop 2).take 2) : Int)⟩ : Pointer) = zwo (bl b) from rfl, zab8]; simp only [obs]; unfold zmc; rw [ifn]
   by_cases h2 : zr1 (zwo (bl b)) = 0
   · rw [h2]; rfl
   · rw [ifp h2, zd1, dct h2]; rfl
 · unfold zmc; rw [ifp h, zd1, dct (by omega)]; rfl
def zmo (s : Storage) (i : Nat) : List UInt8 := ((bl s.Bytes).drop (16 * i)).take 16
def gS (s : Storage) (i : Nat) : Option (Int × Int) := (s.Tags[i]?).bind fun t => if t = true ∧ (zmc (zmo s i)).2 ≠ 0 then some ((i : Int), 22) else none
def zrv (s : Storage) : Int × Int :=
 if s.Bytes.size > 1024 then (0, 2) else if s.Bytes.size % 16 ≠ 0 then (0, 18) else if s.Tags.length ≠ s.Bytes.size / 16 then (0, 6)
 else match (List.range s.Tags.length).findSome? (gS s) with | some r => r | none => ((s.Tags.length : Int), 0)
theorem zoh (s : Storage) (i : Nat) : bl (s.Bytes.extract (16 * i) (16 * i + 16)) = zmo s i := by
 rw [zfy, List.drop_take, zmo, show 16 * i + 16 - 16 * i = 16 by omega]
theorem zru (N : Nat) (hN : 2000 < N) (s : Storage) : zaa N s = some (zrv s) ∧ zee N s = some (zrv s) := by
 unfold zaa zee zrv
 by_cases h1 : (s.Bytes.size : Int) > 1024
 · rw [dct h1, ifp]; exact ⟨rfl, rfl⟩
 · rw [dcf h1, ifn]; have hm : (s.Bytes.size : Int).tmod 16 = (s.Bytes.size : Int) % 16 := tme; have hd : (s.Bytes.size : Int).tdiv 16 = (s.Bytes.size : Int) / 16 := tde
   by_cases h2 : (s.Bytes.size : Int) % 16 = 0
   · rw [hm, hd, w6e, ifn]
     by_cases h3 : (s.Tags.length : Int) = (s.Bytes.size : Int) / 16
     · rw [show (((s.Bytes.size : Int) % 16) != 0) = false by rw [h2]; rfl, show ((s.Tags.length : Int) != (s.Bytes.size : Int) / 16) = false by rw [← h3]; exact bsf _, ifn]; simp only [cfa]; have hw : ∀ i : Nat, i < s.Tags.length → w6 ((i : Int) * 16) = (i : Int) * 16 ∧ w6 ((i : Int) * 16 + 16) = (i : Int) * 16 + 16 := fun i hi => ⟨w6e, w6e⟩; have hx : ∀ i : Nat, i < s.Tags.length → s.Bytes.extract ((i : Int) * 16).toNat ((i : Int) * 16 + 16).toNat = s.Bytes.extract (16 * i) (16 * i + 16) := fun i hi => by
        rw [show ((i : Int) * 16).toNat = 16 * i by omega, show ((i : Int) * 16 + 16).toNat = 16 * i + 16 by omega]
       have hz : ∀ i : Nat, i < s.Tags.length → (s.Bytes.extract (16 * i) (16 * i + 16)).size = 16 := fun i hi => by
        rw [zdc _ _ _ (by omega) (by omega)]; omega
       constructor
       · have l1 := zbh (f := zaa.r1 N) (fun i => (s.Tags, (s.Tags.length : Int), (i : Int), s)) (gS s) s.Tags.length
          (fun i hi => by
           obtain ⟨w1, w2⟩ := hw i hi; have hx1 := lge hi; simp only [zaa.r1, zaa.b1, zai, hx1, obs, dct (show (i : Int) < (s.Tags.length : Int) by omega), ctr, gS]; rw [w6e (n := (i : Int) + 1)]; cases hb : s.Tags[i] with
           | false => simp
           | true =>
            simp only [bnt, cfa, w1, w2]; rw [ifp, ifp, hx i hi, z8a N (by omega) _ (hz i hi), zoh]; simp only [obs]
            by_cases hq : (zmc (zmo s i)).2 = 0
            · rw [hq]; simp
            · rw [zd1, dct hq, ifp ⟨trivial, hq⟩]; rfl)
          (by simp only [zaa.r1, zaa.b1, dcf (show ¬ (s.Tags.length : Int) < (s.Tags.length : Int) by omega), cfa]) (N := N) (by omega)
         simp only [nc0] at l1; rw [l1]; simp only [obs]; cases (List.range s.Tags.length).findSome? (gS s) <;> rfl
       · have l1 := zbh (f := zee.r0 N) (fun i => ((s.Bytes.size : Int) / 16, (i : Int), s)) (gS s) s.Tags.length
          (fun i hi => by
           obtain ⟨w1, w2⟩ := hw i hi; have hx1 := lge hi; simp only [zee.r0, zee.b0, zai, hx1, obs, dct (show (i : Int) < (s.Bytes.size : Int) / 16 by omega), ctr, gS]; rw [w6e (n := (i : Int) + 1)]; cases hb : s.Tags[i] with
           | false => simp
           | true =>
            simp only [ctr, zk7, w1, w2]; rw [ifp, ifp]; simp only [obs]; rw [hx i hi, z8l N (by omega) _ (hz i hi), zoh]; simp only [obs]
            by_cases hq : (zmc (zmo s i)).2 = 0
            · rw [hq]; simp
            · rw [zd1, dct hq, ifp ⟨trivial, hq⟩]; rfl)
          (by simp only [zee.r0, zee.b0, dcf (show ¬ (s.Tags.length : Int) < (s.Bytes.size : Int) / 16 by omega), cfa]) (N := N) (by omega)
         simp only [nc0] at l1; rw [l1]; simp only [obs]; cases (List.range s.Tags.length).findSome? (gS s) with
         | some r => rfl
         | none => simp only [zb5, ← h3]
     · rw [show (((s.Bytes.size : Int) % 16) != 0) = false by rw [h2]; rfl, show ((s.Tags.length : Int) != (s.Bytes.size : Int) / 16) = true by rw [zd1]; exact dct h3, ifp]; exact ⟨rfl, rfl⟩
   · rw [hm, show (((s.Bytes.size : Int) % 16) != 0) = true by rw [zd1]; exact dct h2, ifp]; exact ⟨rfl, rfl⟩
structure zqf (s : Storage) : Prop where
 le : s.Bytes.size ≤ 1024
 quad : s.Bytes.size % 16 = 0
 tags : s.Tags.length = s.Bytes.size / 16
 ptr : ∀ i, s.Tags[i]? = some true → ∃ off : Int, (0 ≤ off ∧ off ≤ 16777215) ∧ zmc (zmo s i) = (zka off, 0)
theorem zqf.err {s : Storage} (h : zqf s) : zrv s = ((s.Tags.length : Int), 0) := by
 obtain ⟨h1, h2, h3, h4⟩ := h
 unfold zrv
 rw [ifn, ifn, ifn]
 have : (List.range s.Tags.length).findSome? (gS s) = none := by
  rw [List.findSome?_eq_none_iff]; intro i _; unfold gS; cases ht : s.Tags[i]? with
  | none => rfl
  | some t =>
   rw [obs]; split
   · rename_i h5; rw [h5.1] at ht; obtain ⟨off, _, h6⟩ := h4 i ht; rw [h6] at h5; exact absurd rfl h5.2
   · rfl
 rw [this]
theorem zqf.ok {s : Storage} (h : zqf s) : StoOk s := ⟨h.le, h.quad⟩
def ldV (s : Storage) (at_ : Int) : Option Int := if s.Tags[(at_ / 16).toNat]? = some true then some (zmc (zmo s (at_ / 16).toNat)).1.Address.Offset else none
theorem z1x {s : Storage} (h : zqf s) {at_ o : Int} (hl : ldV s at_ = some o) : 0 ≤ o ∧ o ≤ 16777215 := by
 unfold ldV at hl
 split at hl
 · rename_i ht; obtain ⟨off, h1, h2⟩ := h.ptr _ ht; rw [h2] at hl; cases hl; exact h1
 · cases hl
theorem zuo {s : Storage} {a : Int} (h : zus s a = true) : 0 ≤ a ∧ a % 16 = 0 ∧ a < (s.Bytes.size : Int) := by
 unfold zus at h
 simpa using h
theorem zaet (N : Nat) (hN : 2000 < N) {s : Storage} (h : zqf s) {a : Int} (ha : zus s a = true) :
 zdw N s a = some (match ldV s a with | some o => (zka o, 0) | none => (z4i, 22)) := by
 obtain ⟨a1, a2, a3⟩ := zuo ha
 have hl := h.le
 have hq := h.quad
 have ht := h.tags
 unfold zdw zjr
 rw [(zru N hN s).1, h.err]
 simp only [obs, bsf, cfa]
 rw [dcf (show ¬ a < 0 by omega), dcf (show ¬ a ≥ (s.Bytes.size : Int) by omega), tme a1, a2]
 simp only [bsf, cfa, obs]
 have ed : w6 (a.tdiv 16) = (((a / 16).toNat : Nat) : Int) := by
  rw [tde a1, w6e]; omega
 have hi : (a / 16).toNat < s.Tags.length := by omega
 rw [ed, zai, lge hi]
 simp only [obs]
 unfold ldV
 rw [lge hi]
 cases hb : s.Tags[(a / 16).toNat] with
 | false => rfl
 | true =>
  simp only [bnt, cfa, if_true]; rw [w6e, ifp, ifp]; have e : s.Bytes.extract a.toNat (a + 16).toNat = s.Bytes.extract (16 * (a / 16).toNat) (16 * (a / 16).toNat + 16) := by
   rw [show a.toNat = 16 * (a / 16).toNat by omega, show (a + 16).toNat = 16 * (a / 16).toNat + 16 by omega]
  rw [e, z8a N (by omega) _ (by rw [zdc _ _ _ (by omega) (by omega)]; omega), zoh]; obtain ⟨off, _, h2⟩ := h.ptr (a / 16).toNat (by rw [lge hi, hb]); rw [h2]; rfl
theorem za3 {n : Nat} (h : n ≤ 1000000) : Nat.ble n zbr = true := by
 rw [Nat.ble_eq]; unfold zbr; omega
def spl (l : List UInt8) (a : Nat) (d : List UInt8) : List UInt8 := l.take a ++ d ++ l.drop (a + d.length)
theorem zaeu {l : List UInt8} {a : Nat} {d : List UInt8} (h : a + d.length ≤ l.length) : (spl l a d).length = l.length := by
 unfold spl
 simp only [lna, lnt, List.length_drop]
 omega
def clr (t : List Bool) (a n : Nat) : List Bool := (List.range t.length).map fun k => if 16 * k < a + n ∧ a < 16 * k + 16 then false else t.getD k false
theorem z2s (t : List Bool) (a n : Nat) : (clr t a n).length = t.length := by simp [clr]
theorem z2v (t : List Bool) (a n k : Nat) : (clr t a n)[k]? = if 16 * k < a + n ∧ a < 16 * k + 16 then (if k < t.length then some false else none) else t[k]? := by
 unfold clr
 rw [List.getElem?_map]
 by_cases h : k < t.length
 · rw [lge (by simpa using h)]; simp only [List.getElem_range, Option.map_some]; split
   · simp [h]
   · rw [lge h, gdd, lge h]; rfl
 · rw [List.getElem?_eq_none (by simpa using h), List.getElem?_eq_none (by simpa using h)]; simp [h]
def wrV (s : Storage) (a : Nat) (d : ByteArray) : Storage := ⟨⟨(spl (bl s.Bytes) a (bl d)).toArray⟩, clr s.Tags a d.size⟩
theorem z3i {s : Storage} {a : Nat} {d : ByteArray} (h : a + d.size ≤ s.Bytes.size) : (wrV s a d).Bytes.size = s.Bytes.size := zaeu (l := bl s.Bytes) (d := bl d) h
theorem zad8 {l : List UInt8} {a : Nat} {d : List UInt8} (h : a + d.length ≤ l.length) (i n : Nat) (hi : i + n ≤ a ∨ a + d.length ≤ i) : ((spl l a d).drop i).take n = (l.drop i).take n := by
 refine List.ext_getElem? fun k => ?_
 rw [List.getElem?_take, List.getElem?_take]
 by_cases hk : k < n
 · rw [ifp hk, ifp hk, List.getElem?_drop, List.getElem?_drop]; unfold spl; rcases hi with hi | hi
   · rw [List.append_assoc, List.getElem?_append_left (by rw [lnt]; omega), List.getElem?_take, ifp]
   · rw [List.getElem?_append_right (by rw [lna, lnt]; omega), lna, lnt, List.getElem?_drop]
     congr 1
     omega
 · rw [ifn hk, ifn hk]
theorem zaf3 {l : List UInt8} {a : Nat} {d : List UInt8} (h : a + d.length ≤ l.length) : ((spl l a d).drop a).take d.length = d := by
 unfold spl
 rw [List.append_assoc, List.drop_append_of_le_length (by rw [lnt]; omega), List.drop_of_length_le (by rw [lnt]; omega), List.nil_append, List.take_append_of_le_length (Nat.le_refl _), List.take_length]
theorem zabq {s : Storage} (h : zqf s) {a : Nat} {d : ByteArray} (hd : a + d.size ≤ s.Bytes.size) (hd0 : 0 < d.size) : zqf (wrV s a d) := by
 have hs := z3i hd
 refine ⟨by rw [hs]; exact h.le, by rw [hs]; exact h.quad, by rw [hs]; exact (z2s _ _ _).trans h.tags, fun i hi => ?_⟩
 have hi' : (clr s.Tags a d.size)[i]? = some true := hi
 rw [z2v] at hi'
 split at hi'
 · split at hi' <;> cases hi'
 · rename_i hn; obtain ⟨off, h1, h2⟩ := h.ptr i hi'; refine ⟨off, h1, ?_⟩; have : zmo (wrV s a d) i = zmo s i := zad8 (l := bl s.Bytes) (d := bl d) hd _ _ (by rw [zax]; omega); rw [this]; exact h2
theorem zol (b : ByteArray) : b.toList = bl b := ByteArray.toList_eq b
theorem zabs {s : Storage} (h : zqf s) {a : Nat} {d : ByteArray} (hd : a + d.size ≤ s.Bytes.size) (hd0 : 0 < d.size) : zm0 s (a : Int) d = some (wrV s a d) := by
 have hl := h.le
 have hq := h.quad
 have ht := h.tags
 have hmax : IntKind.i64.max = 9223372036854775807 := by decide
 unfold zm0
 rw [hmax]
 have z1 : (s.Bytes.extract (0 : Int).toNat (a : Int).toNat).size = a := by rw [zdc _ _ _ (by omega) (by omega)]; omega
 rw [ifp, ifp, ifn (by rw [z1]; omega), w6e (n := (a : Int) + (d.size : Int)), ifp]
 have z2 : (s.Bytes.extract ((a : Int) + (d.size : Int)).toNat s.Bytes.size).size = s.Bytes.size - (a + d.size) := by rw [zdc _ _ _ (by omega) (by omega)]; omega
 rw [ifn (by rw [z2, bsa, z1]; omega)]
 have hc : zki 1 s.Tags = some s.Tags := by unfold zki; rw [za3 (by omega)]; rfl
 rw [hc]
 simp only [obs]
 have hne : (d.toList == (⟨#[]⟩ : ByteArray).toList) = false := by
  rw [zol, zol]; refine beq_eq_false_iff_ne.2 fun h => ?_; have := congrArg List.length h; rw [zax, zax] at this; have : d.size = 0 := this; omega
 rw [hne]
 simp only [Bool.not_false, ctr]
 have e1 : w6 ((w6 ((w6 ((a : Int) + (d.size : Int) - 1)).tdiv 16)) + 1) = (((a + d.size - 1) / 16 + 1 : Nat) : Int) := by
  rw [w6e (n := (a : Int) + (d.size : Int) - 1), tde, w6e (n := ((a : Int) + (d.size : Int) - 1) / 16), w6e]; omega
 have e2 : w6 ((a : Int).tdiv 16) = ((a / 16 : Nat) : Int) := by
  rw [tde, w6e]; omega
 rw [e1, e2, ifp, ifp]
 simp only [itn]
 have f1 : ((s.Bytes.extract (0 : Int).toNat a) ++ d) ++ (s.Bytes.extract ((a : Int) + (d.size : Int)).toNat s.Bytes.size) = (wrV s a d).Bytes := by
  refine zjv ?_; rw [zd2, zd2, zfy, zfy, show (0 : Int).toNat = 0 from rfl, dr0, show ((a : Int) + (d.size : Int)).toNat = a + d.size by omega, ← zax s.Bytes, List.take_length]; rfl
 have f2 : s.Tags.take (a / 16) ++ List.replicate ((a + d.size - 1) / 16 + 1 - a / 16) false ++ s.Tags.drop (a / 16 + ((a + d.size - 1) / 16 + 1 - a / 16)) = (wrV s a d).Tags := by
  refine List.ext_getElem? fun k => ?_; show _ = (clr s.Tags a d.size)[k]?; rw [z2v]
  by_cases h1 : k < a / 16
  · rw [List.append_assoc, List.getElem?_append_left (by rw [lnt]; omega), List.getElem?_take, ifp h1, ifn]
  · by_cases h2 : k < (a + d.size - 1) / 16 + 1
    · rw [List.append_assoc, List.getElem?_append_right (by rw [lnt]; omega), List.getElem?_append_left (by rw [lnt, lnr]; omega), List.getElem?_replicate, ifp (by rw [lnt]; omega), ifp, ifp]
    · rw [List.getElem?_append_right (by rw [lna, lnt, lnr]; omega), lna, lnt, lnr, List.getElem?_drop, ifn]
      congr 1
      omega
 rw [f1, f2]
theorem zac6 (N : Nat) (hN : 2000 < N) {s : Storage} (h : zqf s) {a : Nat} {d : ByteArray} (hd : a + d.size ≤ s.Bytes.size) (hd0 : 0 < d.size) : zgh N s (a : Int) d = some (wrV s a d, 0) := by
 have hl := h.le
 unfold zgh zpd
 rw [(zru N hN s).1, h.err]
 simp only [obs, bsf, cfa]
 rw [dcf (show ¬ (a : Int) < 0 by omega), dcf (show ¬ (d.size : Int) < 0 by omega), dcf (show ¬ (a : Int) > (s.Bytes.size : Int) by omega), w6e, dcf (show ¬ (d.size : Int) > (s.Bytes.size : Int) - (a : Int) by omega)]
 simp only [cfa, obs, bsf]
 rw [zabs h hd hd0]
 rfl
def pbV (off : Nat) : ByteArray := zd3 (zbt 0 1 ++ zbt 0 1 ++ zbt 0 2 ++ zbt 1 6 ++ zbt off 6)
theorem ziu (l : List Int) : bl (zd3 l) = l.map fun n => UInt8.ofNat n.toNat := rfl
theorem zo5 (off : Nat) : (pbV off).size = 16 := by
 show (bl (pbV off)).length = 16
 unfold pbV
 rw [ziu]
 simp only [lnm, lna, z4f]
theorem z9v (v k : Nat) : beV ((zbt v k).map fun n => UInt8.ofNat n.toNat) = v % 256 ^ k := by
 induction k generalizing v with
 | zero => rw [Nat.pow_zero, Nat.mod_one]; rfl
 | succ k ih =>
  have e : zbt v (k + 1) = zbt (v / 256) k ++ [((v % 256 : Nat) : Int)] := by
   unfold zbt; rw [List.range_succ, List.map_append]
   congr 1
   · refine List.map_congr_left fun j hj => ?_; have := List.mem_range.1 hj; rw [Nat.div_div_eq_div_mul, ← Nat.pow_succ', show k + 1 - 1 - j = k - 1 - j + 1 by omega]
   · simp
  rw [e, List.map_append, List.map_singleton, zw1, ih, itn, UInt8.toNat_ofNat', show 256 ^ (k + 1) = 256 * 256 ^ k from Nat.pow_succ', Nat.mod_mul]; omega
theorem zae2 (off : Nat) (h : off ≤ 16777215) : zmc (bl (pbV off)) = (zka off, 0) := by
 have e : bl (pbV off) = (zbt 0 1).map (fun n => UInt8.ofNat n.toNat) ++ ((zbt 0 1).map (fun n => UInt8.ofNat n.toNat) ++ ((zbt 0 2).map (fun n => UInt8.ofNat n.toNat) ++ ((zbt 1 6).map (fun n => UInt8.ofNat n.toNat) ++ (zbt off 6).map (fun n => UInt8.ofNat n.toNat)))) := by
  unfold pbV; rw [ziu]; simp only [List.map_append, List.append_assoc]
 have l6 : ∀ v, ((zbt v 6).map (fun n => UInt8.ofNat n.toNat)).length = 6 := fun v => by simp [z4f]
 have e2 : bl (pbV off) = 0 :: 0 :: 0 :: 0 :: ((zbt 1 6).map (fun n => UInt8.ofNat n.toNat) ++ (zbt off 6).map (fun n => UInt8.ofNat n.toNat)) := e
 have hp : zwo (bl (pbV off)) = zka off := by
  unfold zwo zka; rw [e2]; simp only [List.drop_succ_cons, dr0, List.take_succ_cons, List.take_zero, List.getD_cons_zero]; rw [List.take_append_of_le_length (by rw [l6]; omega), List.take_of_length_le (by rw [l6]; omega), z9v, List.drop_append_of_le_length (by rw [l6]; omega), List.drop_of_length_le (by rw [l6]; omega), List.nil_append, List.take_of_length_le (by rw [l6]; omega), z9v, mel (show off < 256 ^ 6 by omega)]; rfl
 have h1 : ((bl (pbV off)).getD 1 0).toNat = 0 := by rw [e2]; rfl
 have hc : zr1 (zka off) = 0 := by
  unfold zr1 zka; rw [show inB (off : Int) 0 16777215 = true from zbj.2 ⟨by omega, by omega⟩]; rfl
 unfold zmc
 rw [ifn (by rw [h1]; exact fun h => h rfl), hp, hc]
 rfl
def stV (s : Storage) (a : Nat) (off : Nat) : Storage := ⟨(wrV s a (pbV off)).Bytes, (wrV s a (pbV off)).Tags.set (a / 16) true⟩
theorem zadb {s : Storage} {a off : Nat} (h : a + 16 ≤ s.Bytes.size) : (stV s a off).Bytes.size = s.Bytes.size := z3i (d := pbV off) (by rw [zo5]; exact h)
theorem zaf2 {s : Storage} (h : zqf s) {a off : Nat} (ha : a + 16 ≤ s.Bytes.size) (hq : a % 16 = 0) (ho : off ≤ 16777215) : zqf (stV s a off) := by
 have hw := zabq h (a := a) (d := pbV off) (by rw [zo5]; exact ha) (by rw [zo5]; omega)
 refine ⟨hw.le, hw.quad, ?_, fun i hi => ?_⟩
 · show ((wrV s a (pbV off)).Tags.set (a / 16) true).length = _; rw [List.length_set]; exact hw.tags
 · have hi' : ((wrV s a (pbV off)).Tags.set (a / 16) true)[i]? = some true := hi; rw [List.getElem?_set] at hi'; split at hi'
   · rename_i he; refine ⟨off, ⟨by omega, by omega⟩, ?_⟩; have : zmo (stV s a off) i = bl (pbV off) := by
      have := zaf3 (l := bl s.Bytes) (a := a) (d := bl (pbV off)) (by rw [zax, zax, zo5]; exact ha); rw [zax, zo5] at this; unfold zmo; rw [← he, show 16 * (a / 16) = a by omega]; exact this
     rw [this]; exact zae2 off ho
   · obtain ⟨o, h1, h2⟩ := hw.ptr i hi'; exact ⟨o, h1, h2⟩
theorem zaav (N : Nat) (hN : 100 < N) (off : Nat) (h : off ≤ 16777215) : zln N (zka off) = some (pbV off) := by
 unfold zln zka
 have b := fun v k hk => zafz N (by omega) v k hk
 rw [show zcl N 0 1 = _ from b 0 1 (by decide), show zcl N 0 2 = _ from b 0 2 (by decide), show zcl N 1 6 = _ from b 1 6 (by decide), show zcl N (off : Int) 6 = _ from b off 6 (by decide)]
 simp only [obs]
 unfold zbi
 obtain ⟨n, rfl⟩ : ∃ n, N = n + 10 := ⟨N - 10, by omega⟩
 have c1 : zl (zbi.r0 (n + 10)) (n + 10) ([zbt 0 1, zbt 0 1, zbt 0 2, zbt 1 6, zbt off 6], 0, [zbt 0 1, zbt 0 1, zbt 0 2, zbt 1 6, zbt off 6], (([zbt 0 1, zbt 0 1, zbt 0 2, zbt 1 6, zbt off 6] : List (List Int)).length : Int), 0) = some ([zbt 0 1, zbt 0 1, zbt 0 2, zbt 1 6, zbt off 6], 16, [zbt 0 1, zbt 0 1, zbt 0 2, zbt 1 6, zbt off 6], 5, 5) := by rfl
 rw [c1]
 simp only [obs]
 have c2 : zl1 () 16 = some [] := by rfl
 rw [c2]
 simp only [obs]
 have c3 : zl (zbi.r2 (n + 10)) (n + 10) ([], [zbt 0 1, zbt 0 1, zbt 0 2, zbt 1 6, zbt off 6], (([zbt 0 1, zbt 0 1, zbt 0 2, zbt 1 6, zbt off 6] : List (List Int)).length : Int), 0) = some ((((([] ++ zbt 0 1) ++ zbt 0 1) ++ zbt 0 2) ++ zbt 1 6) ++ zbt off 6, [zbt 0 1, zbt 0 1, zbt 0 2, zbt 1 6, zbt off 6], 5, 5) := by rfl
 rw [c3]
 rfl
theorem zaff (off : Nat) (h : off ≤ 16777215) : zr1 (zka off) = 0 := by
 unfold zr1 zka
 rw [show inB (off : Int) 0 16777215 = true from zbj.2 ⟨by omega, by omega⟩]
 rfl
theorem zac7 (N : Nat) (hN : 2000 < N) {s : Storage} (h : zqf s) {a : Int} (ha : zus s a = true) (off : Nat) (ho : off ≤ 16777215) : zc1 N s a (zka off) = some (stV s a.toNat off, 0) := by
 obtain ⟨a1, a2, a3⟩ := zuo ha
 have hl := h.le
 have hq := h.quad
 have ht := h.tags
 have hA : a = ((a.toNat : Nat) : Int) := by omega
 have hw : a.toNat + (pbV off).size ≤ s.Bytes.size := by rw [zo5]; omega
 unfold zc1 zjr
 rw [(zru N hN s).1, h.err]
 simp only [obs, bsf, cfa]
 rw [dcf (show ¬ a < 0 by omega), dcf (show ¬ a ≥ (s.Bytes.size : Int) by omega), tme a1, a2]
 simp only [bsf, cfa, obs]
 rw [z6q, zaff off ho]
 simp only [obs, bsf, cfa]
 rw [zaav N (by omega) off ho]
 simp only [obs, eS]
 have hp := zabs h hw (by rw [zo5]; omega)
 rw [← hA] at hp
 rw [hp]
 simp only [obs]
 have ed : w6 (a.tdiv 16) = ((a.toNat / 16 : Nat) : Int) := by
  rw [tde a1, w6e]; omega
 have hlen : (wrV s a.toNat (pbV off)).Tags.length = s.Tags.length := z2s _ _ _
 rw [ed, ifp, ifp (by rw [hlen]; omega), itn, lge (by rw [hlen]; omega)]
 rfl
def zgs (l : List Int) : Int := l.foldl (fun n d => n * 10 + d) 0
theorem ztj (l : List Int) (x : Int) : zgs (l ++ [x]) = zgs l * 10 + x := by
 unfold zgs; rw [List.foldl_append]; rfl
theorem zrc : ∀ (l r : List Int), l = r.reverse → (∀ d ∈ l, 0 ≤ d ∧ d ≤ 15) → 0 ≤ zgs l ∧ zgs l ≤ 2 * (10 ^ l.length : Nat) - 2 := by
 intro l r
 induction r generalizing l with
 | nil => intro h _; subst h; decide
 | cons x r ih =>
  intro h hd; rw [List.reverse_cons] at h; subst h; have h1 := ih _ rfl fun d hd' => hd d (List.mem_append_left _ hd'); have h2 := hd x (List.mem_append_right _ List.mem_cons_self); rw [ztj, lna, lns, Nat.pow_succ]; omega
def zkt (l : List UInt8) : List Int := l.flatMap fun b => [((b.toNat / 16 : Nat) : Int), ((b.toNat % 16 : Nat) : Int)]
def zhf (l : List UInt8) : List Int := l.map fun b => ((b.toNat % 16 : Nat) : Int)
def zez (l : List UInt8) : List Int := zhf l ++ [(((l.getD (l.length - 1) 0).toNat / 16 : Nat) : Int)]
def zla (l : List Int) (len : Int) (i : Nat) : Bool := decide (l.getD i 0 > 9) || (decide (l.getD i 0 > 0) && decide ((i : Int) < (l.length : Int) - 1 - len))
def zoa (l : List Int) : Int := l.getD (l.length - 1) 0
def z14 (l : List Int) (len : Int) : Option Int :=
 if (List.range (l.length - 1)).any (zla l len) = true ∨ zoa l < 10 then none
 else some (if zoa l = 11 ∨ zoa l = 13 then -zgs (l.take (l.length - 1)) else zgs (l.take (l.length - 1)))
def zpo (l : List UInt8) : Int := if 128 ≤ (l.getD 0 0).toNat then (beV l : Int) - (256 ^ l.length : Nat) else (beV l : Int)
def zqa (t : DataType) (b : ByteArray) : Option Int :=
 if t.Kind = 3 then (if -((10 ^ t.Length.toNat : Nat) : Int) < zpo (bl b) ∧ zpo (bl b) < ((10 ^ t.Length.toNat : Nat) : Int) then some (zpo (bl b)) else none)
 else z14 (if t.Kind = 1 then zkt (bl b) else zez (bl b)) t.Length
theorem zt6 (l : List UInt8) : (zkt l).length = 2 * l.length := by
 unfold zkt
 induction l with
 | nil => rfl
 | cons x l ih => simp only [List.flatMap_cons, lna, lnc, ln0, ih]; omega
theorem zve {l : List UInt8} : (∀ d ∈ zkt l, 0 ≤ d ∧ d ≤ 15) ∧ (∀ d ∈ zez l, 0 ≤ d ∧ d ≤ 15) := by
 constructor
 · intro d hd; obtain ⟨b, _, hb⟩ := List.mem_flatMap.1 hd; have := b.toNat_lt; rcases List.mem_cons.1 hb with rfl | hb
   · omega
   · rcases List.mem_cons.1 hb with rfl | hb
     · omega
     · cases hb
 · intro d hd; rcases List.mem_append.1 hd with hd | hd
   · obtain ⟨b, _, rfl⟩ := List.mem_map.1 hd; omega
   · rcases List.mem_cons.1 hd with rfl | hd
     · have := (l.getD (l.length - 1) 0).toNat_lt; omega
     · cases hd
theorem zaeo (x : UInt8) : zf7 .u8 (x.toNat : Int) 15 = ((x.toNat % 16 : Nat) : Int) := by
 have hx := x.toNat_lt
 unfold zf7
 have e : (BitVec.ofInt IntKind.u8.bits (x.toNat : Int) &&& BitVec.ofInt IntKind.u8.bits 15).toNat = x.toNat % 16 := by
  show (BitVec.ofInt 8 (x.toNat : Int) &&& BitVec.ofInt 8 ((15 : Nat) : Int)).toNat = _; rw [BitVec.toNat_and, BitVec.ofInt_natCast, BitVec.ofInt_natCast, BitVec.toNat_ofNat, BitVec.toNat_ofNat, mel (by omega), mel (by omega)]; exact Nat.and_two_pow_sub_one_eq_mod _ 4
 rw [e]
 exact zo9 (by omega) (by omega)
theorem zacq (x : UInt8) : ((x.toNat : Int).fdiv (2 ^ (min (4 : Int).toNat 8))) = ((x.toNat / 16 : Nat) : Int) := zz4 x.toNat 16
def z1m (n : Nat) : List Int := (List.range n).flatMap fun (i : Nat) => [(i : Int), (i : Int)]
def zyz (n : Nat) : List Int := (List.range n).map fun (i : Nat) => (i : Int)
theorem z8x (n : Nat) : (z1m n).length = 2 * n := by
 unfold z1m
 induction n with
 | zero => rfl
 | succ n ih => rw [List.range_succ, List.flatMap_append, lna, ih]; simp; omega
theorem zach (N : Nat) (hN : 2000 < N) (t : DataType) (hk : t.Kind = 1 ∨ t.Kind = 2) (b : ByteArray) (hb : 0 < b.size) (hb2 : b.size ≤ 1000) :
 ∃ pl, zbm N t b = some (if t.Kind = 1 then zkt (bl b) else zez (bl b), pl) ∧ pl.length = (if t.Kind = 1 then zkt (bl b) else zez (bl b)).length := by
 unfold zbm
 rcases hk with hk | hk
 · have := za1 (f := zbm.r0 N) (fun i => (b, zkt ((bl b).take i), z1m i, (b.size : Int), (i : Int), t)) b.size
    (fun i hi => by
     obtain ⟨x, hx⟩ : ∃ x, (bl b)[i]? = some x := zfx (by rw [zax]; exact hi); simp only [zbm.r0, zbm.b0, dct (show (i : Int) < (b.size : Int) by omega), ctr, zkc, hx, obs, hk, bst, zacq, zaeo]; have hl := zt6 ((bl b).take i); rw [lnt, zax] at hl; rw [za3 (by rw [hl]; simp only [lnc, ln0]; omega), za3 (by rw [z8x]; simp only [lnc, ln0]; omega)]; simp only [ctr]; rw [w6e, ze4 _ _ hx]; have e1 : zkt ((bl b).take i ++ [x]) = zkt ((bl b).take i) ++ [((x.toNat / 16 : Nat) : Int), ((x.toNat % 16 : Nat) : Int)] := by
      unfold zkt; rw [List.flatMap_append]; rfl
     have e2 : z1m (i + 1) = z1m i ++ [(i : Int), (i : Int)] := by
      unfold z1m; rw [List.range_succ, List.flatMap_append]; rfl
     rw [e1, e2]; rfl)
    (by simp only [zbm.r0, zbm.b0, dcf (show ¬ (b.size : Int) < (b.size : Int) by omega), cfa]) (N := N) (by omega)
   simp only [List.take_zero, nc0] at this; rw [show zkt [] = [] from rfl, show z1m 0 = [] from rfl] at this; rw [this]; simp only [obs, hk, if_true]; refine ⟨z1m b.size, ?_, by rw [z8x, zt6, zax]⟩; rw [show ((1 : Int) == 2) = false from rfl, cfa, ← zax, List.take_length]
 · have := za1 (f := zbm.r0 N) (fun i => (b, zhf ((bl b).take i), zyz i, (b.size : Int), (i : Int), t)) b.size
    (fun i hi => by
     obtain ⟨x, hx⟩ : ∃ x, (bl b)[i]? = some x := zfx (by rw [zax]; exact hi); simp only [zbm.r0, zbm.b0, dct (show (i : Int) < (b.size : Int) by omega), ctr, zkc, hx, obs, hk, show ((2 : Int) == 1) = false from rfl, cfa, zaeo]; have hl : (zhf ((bl b).take i)).length = i := by unfold zhf; rw [lnm, lnt, zax]; omega
     have hl2 : (zyz i).length = i := by simp [zyz]
     rw [za3 (by rw [hl]; simp only [lnc, ln0]; omega), za3 (by rw [hl2]; simp only [lnc, ln0]; omega)]; simp only [ctr]; rw [w6e, ze4 _ _ hx]; have e1 : zhf ((bl b).take i ++ [x]) = zhf ((bl b).take i) ++ [((x.toNat % 16 : Nat) : Int)] := by
      unfold zhf; rw [List.map_append]; rfl
     have e2 : zyz (i + 1) = zyz i ++ [(i : Int)] := by
      unfold zyz; rw [List.range_succ, List.map_append]; rfl
     rw [e1, e2]; rfl)
    (by simp only [zbm.r0, zbm.b0, dcf (show ¬ (b.size : Int) < (b.size : Int) by omega), cfa]) (N := N) (by omega)
   simp only [List.take_zero, nc0] at this; rw [show zhf [] = [] from rfl, show zyz 0 = [] from rfl] at this; rw [this]; have hx : (bl b)[b.size - 1]? = some ((bl b).getD (b.size - 1) 0) := zwi (by rw [zax]; omega); have hl : (zhf (bl b)).length = b.size := by unfold zhf; rw [lnm, zax]
   have hl2 : (zyz b.size).length = b.size := by simp [zyz]
   simp only [obs, hk, bst, ctr]; rw [← zax, List.take_length, zax, w6e, show (b.size : Int) - 1 = ((b.size - 1 : Nat) : Int) by omega, zkc, hx]; simp only [obs, zacq]; rw [za3 (by rw [hl]; simp only [lnc, ln0]; omega), za3 (by rw [hl2]; simp only [lnc, ln0]; omega)]; simp only [ctr]; rw [ifn]; refine ⟨_, rfl, ?_⟩; unfold zez; rw [lna, lna, hl, hl2]; rfl
theorem zaa8 (N : Nat) (hN : 2000 < N) (t : DataType) (hk : t.Kind = 1 ∨ t.Kind = 2) (b : ByteArray) (hb : 0 < b.size) (hb2 : (if t.Kind = 1 then zkt (bl b) else zez (bl b)).length ≤ 17) (hb3 : b.size ≤ 16) (hlen : 0 ≤ t.Length ∧ t.Length ≤ 15) :
 ∃ n a e, zb6 N t b = some (n, a, e) ∧ (match zqa t b with | some v => n = v ∧ e = 0 | none => e ≠ 0) := by
 obtain ⟨pl, h1, h2⟩ := zach N hN t hk b hb (by omega)
 have hr : ∀ d ∈ (if t.Kind = 1 then zkt (bl b) else zez (bl b)), 0 ≤ d ∧ d ≤ 15 := by
  split
  · exact zve.1
  · exact zve.2
 have hpos : 0 < (if t.Kind = 1 then zkt (bl b) else zez (bl b)).length := by
  split
  · rw [zt6, zax]; omega
  · unfold zez; rw [lna, lns]; omega
 have hd : zqa t b = z14 (if t.Kind = 1 then zkt (bl b) else zez (bl b)) t.Length := by
  unfold zqa; rw [ifn]
 rw [hd]
 unfold zb6
 rw [h1]
 simp only [obs]
 generalize (if t.Kind = 1 then zkt (bl b) else zez (bl b)) = l at *
 have hi2 : w6 ((l.length : Int) - 1) = ((l.length - 1 : Nat) : Int) := by rw [w6e]; omega
 rw [hi2, ifp, ifp]
 rw [show (0 : Int).toNat = 0 from rfl, dr0, itn]
 have hlt : (l.take (l.length - 1)).length = l.length - 1 := by rw [lnt]; omega
 have lp := zbh (f := zb6.r0 N) (fun i => (l, pl, ((l.length - 1 : Nat) : Int), zgs (l.take i), l.take (l.length - 1), ((l.length - 1 : Nat) : Int), (i : Int), t))
  (fun i => if zla l t.Length i = true then some ((0 : Int), pl.getD i 0, (21 : Int)) else none) (l.length - 1)
  (fun i hi => by
   have hx : l[i]? = some (l.getD i 0) := by rw [gdd, lge (by omega)]; rfl
   have hx2 : (l.take (l.length - 1))[i]? = some (l.getD i 0) := by rw [List.getElem?_take, ifp hi, hx]
   have hp : pl[i]? = some (pl.getD i 0) := by rw [gdd, lge (by omega)]; rfl
   have hxr := hr (l.getD i 0) (lmg hx); have hf := zrc (l.take i) _ (List.reverse_reverse _).symm fun d hd => hr d (List.mem_of_mem_take hd); have hpow : 10 ^ (l.take i).length ≤ 10 ^ 16 := zcv (by rw [lnt]; omega); simp only [zb6.r0, zb6.b0, dct (show (i : Int) < ((l.length - 1 : Nat) : Int) by omega), ctr, zai, hx2, hp, obs]; rw [w6e (n := ((l.length - 1 : Nat) : Int) - t.Length), w6e (n := (i : Int) + 1), w6e (n := l.getD i 0), w6e (n := zgs (l.take i) * 10), w6e]; have e : (cond (decide (l.getD i 0 > 9)) (some true) ((cond (decide (l.getD i 0 > 0)) (some (decide ((i : Int) < ((l.length - 1 : Nat) : Int) - t.Length))) (some false)).bind fun g1002 => some g1002)) = some (zla l t.Length i) := by
    unfold zla; rw [show ((l.length - 1 : Nat) : Int) = (l.length : Int) - 1 by omega]; cases decide (l.getD i 0 > 9) <;> cases decide (l.getD i 0 > 0) <;> rfl
   rw [e]; simp only [obs]; rw [ze4 l i hx, ztj]; cases zla l t.Length i with
   | true => rfl
   | false => simp)
  (by simp only [zb6.r0, zb6.b0, dcf (show ¬ ((l.length - 1 : Nat) : Int) < ((l.length - 1 : Nat) : Int) by omega), cfa]) (N := N) (by omega)
 simp only [List.take_zero, nc0] at lp
 rw [show zgs [] = 0 from rfl] at lp
 rw [hlt, lp]
 simp only [obs]
 have hany : (List.range (l.length - 1)).any (zla l t.Length) = ((List.range (l.length - 1)).findSome? (fun i => if zla l t.Length i = true then some ((0 : Int), pl.getD i 0, (21 : Int)) else none)).isSome := by
  rw [Bool.eq_iff_iff, List.any_eq_true, List.findSome?_isSome_iff]; constructor
  · rintro ⟨x, hx, hb⟩
    exact ⟨x, hx, by rw [ifp hb]; rfl⟩
  · rintro ⟨x, hx, hb⟩
    refine ⟨x, hx, ?_⟩; split at hb
    · assumption
    · cases hb
 unfold z14
 rw [hany]
 cases hf : (List.range (l.length - 1)).findSome? (fun i => if zla l t.Length i = true then some ((0 : Int), pl.getD i 0, (21 : Int)) else none) with
 | some r =>
  obtain ⟨i, _, hi⟩ := eof hf; split at hi
  · cases hi; exact ⟨_, _, _, rfl, by simp⟩
  · cases hi
 | none =>
  have hx : l[l.length - 1]? = some (zoa l) := by unfold zoa; rw [gdd, lge (by omega)]; rfl
  have hp : pl[l.length - 1]? = some (pl.getD (l.length - 1) 0) := by rw [gdd, lge (by omega)]; rfl
  have hb := zrc (l.take (l.length - 1)) _ (List.reverse_reverse _).symm fun d hd => hr d (List.mem_of_mem_take hd); have hpow : 10 ^ (l.take (l.length - 1)).length ≤ 10 ^ 16 := zcv (by omega); simp only [zb5, zai, hx, hp, obs, Option.isSome_none, Bool.false_eq_true, false_or]
  by_cases hs : zoa l < 10
  · rw [dct hs, ifp hs]; exact ⟨_, _, _, rfl, by decide⟩
  · rw [dcf hs, ifn hs, cfa, w6e, zcn, zcn]
    by_cases h11 : zoa l = 11
    · rw [dct h11, ifp (.inl h11)]; exact ⟨_, _, _, rfl, by omega, rfl⟩
    · rw [dcf h11]
      by_cases h13 : zoa l = 13
      · rw [dct h13, ifp (.inr h13)]; exact ⟨_, _, _, rfl, by omega, rfl⟩
      · rw [dcf h13, ifn]; exact ⟨_, _, _, rfl, rfl, rfl⟩
theorem z86 (N : Nat) (hN : 100 < N) (k : Nat) (hk : k ≤ 18) : zc5 N (k : Int) = some ((10 ^ k : Nat) : Int) := by
 unfold zc5
 have := za1 (f := zc5.r0 N) (fun i => (((10 ^ i : Nat) : Int), (k : Int), (i : Int))) k
  (fun i hi => by
   have : 10 ^ (i + 1) ≤ 10 ^ 18 := zcv (by omega); rw [Nat.pow_succ] at this; simp only [zc5.r0, zc5.b0, dct (show (i : Int) < (k : Int) by omega), ctr]; rw [w6e (n := ((10 ^ i : Nat) : Int) * 10), w6e, Nat.pow_succ]; simp only [Int.natCast_add, Int.natCast_mul, Int.natCast_one]; rfl)
  (by simp only [zc5.r0, zc5.b0, dcf (show ¬ (k : Int) < (k : Int) by omega), cfa]) (N := N) (by omega)
 simp only [Nat.pow_zero, nc0] at this
 rw [ifn, show (1 : Int) = ((1 : Nat) : Int) from rfl, this]
 rfl
theorem z0l (N : Nat) (hN : 100 < N) {t : DataType} (ht : zkz t) (n : Int) : zb8 N t ⟨n, ⟨#[]⟩⟩ = some (if -((10 ^ t.Length.toNat : Nat) : Int) < n ∧ n < ((10 ^ t.Length.toNat : Nat) : Int) then 0 else 19) := by
 have f2 : ∀ a b : Int, zt N [a, b] = some (zhe [a, b]) := fun a b => zrx N _ (by simp; omega) (by simp)
 obtain ⟨⟨l1, l2⟩, l3, l4⟩ := zgq ht
 have hp := z86 N hN t.Length.toNat (by omega)
 rw [Int.toNat_of_nonneg (by omega)] at hp
 have hp2 : 10 ^ t.Length.toNat ≤ 10 ^ 15 := zcv (by omega)
 have hp3 := zcz t.Length.toNat
 obtain ⟨h0, h1, h2⟩ := ht
 unfold zb8
 rw [zsn N (by omega), h0, zcn, zcn, dcf (show ¬ t.Kind = 4 by omega), dcf (show ¬ t.Kind = 0 by omega)]
 simp only [zsq, cfa, obs, f2, show zhe [0, 0] = 0 from rfl, bsf]
 rw [hp]
 simp only [obs, bst, bnt, cfa, z4x, zsq]
 generalize 10 ^ t.Length.toNat = P at *
 rw [w6e (n := (P : Int) - 1), w6e]
 by_cases h : -(P : Int) < n ∧ n < (P : Int)
 · rw [ifp h, show inB n (0 - ((P : Int) - 1)) ((P : Int) - 1) = true from zbj.2 ⟨by omega, by omega⟩]; rfl
 · rw [ifn h, show inB n (0 - ((P : Int) - 1)) ((P : Int) - 1) = false by
    cases hb : inB n (0 - ((P : Int) - 1)) ((P : Int) - 1) with
    | false => rfl
    | true => have := zbj.1 hb; omega]
   rfl
theorem zac0 {l : List UInt8} (h : l ≠ []) (x : UInt8) : zpo (l ++ [x]) = zpo l * 256 + x.toNat := by
 cases l with
 | nil => exact absurd rfl h
 | cons y l =>
  unfold zpo; rw [List.cons_append, List.getD_cons_zero, List.getD_cons_zero, ← List.cons_append, zw1, lna, lns, Nat.pow_succ]; split
  · simp only [Int.natCast_add, Int.natCast_mul]; omega
  · simp only [Int.natCast_add, Int.natCast_mul]; omega
theorem zabl {l : List UInt8} (h : l.length ≤ 4) : -4294967296 ≤ zpo l ∧ zpo l < 4294967296 := by
 have h1 := z5j l
 have h2 : 256 ^ l.length ≤ 256 ^ 4 := Nat.pow_le_pow_right (by decide) h
 unfold zpo
 split <;> omega
theorem zack (N : Nat) (hN : 100 < N) (b : ByteArray) (h0 : 0 < b.size) (h4 : b.size ≤ 4) : zck N b = some (zpo (bl b)) := by
 obtain ⟨x0, hx0⟩ : ∃ x, (bl b)[0]? = some x := zfx (by rw [zax]; exact h0)
 have i0 : zhl b 0 = some x0 := by rw [show (0 : Int) = ((0 : Nat) : Int) from rfl, zkc, hx0]
 have hL : zex (b.extract (1 : Int).toNat b.size) = ((bl b).drop 1).map fun x => (x.toNat : Int) := by
  unfold zex; have := zfy b 1 b.size; unfold bl at this ⊢; rw [show (1 : Int).toNat = 1 from rfl, this]
  congr 2
  exact List.take_of_length_le (Nat.le_of_eq rfl)
 have hlen : (((bl b).drop 1).map fun x => (x.toNat : Int)).length = b.size - 1 := by rw [lnm, List.length_drop, zax]
 have hx00 := x0.toNat_lt
 unfold zck
 rw [i0]
 simp only [obs]
 rw [ifp, hL, hlen]
 have hw : w6 (IntKind.wrap .i8 (x0.toNat : Int)) = zpo ((bl b).take 1) := by
  have e : (bl b).take 1 = [x0] := by rw [ze4 _ _ hx0]; rfl
  have e8 : (2 : Int) ^ (IntKind.i8.bits) = 256 := by decide
  have e8' : (2 : Int) ^ (IntKind.i8.bits - 1) = 128 := by decide
  have : IntKind.wrap .i8 (x0.toNat : Int) = if 128 ≤ x0.toNat then (x0.toNat : Int) - 256 else x0.toNat := by
   unfold IntKind.wrap; simp only [e8, e8', show IntKind.i8.signed = true from rfl, Bool.true_and, decide_eq_true_eq, ge_iff_le]
   repeat' split
   all_goals omega
  rw [this, e, w6e (by split <;> omega) (by split <;> omega)]; unfold zpo; rw [List.getD_cons_zero, show beV [x0] = x0.toNat by unfold beV; simp]; rfl
 rw [hw]
 have := za1 (f := zck.r0 N) (fun i => (zpo ((bl b).take (i + 1)), ((bl b).drop 1).map (fun x => (x.toNat : Int)), ((b.size - 1 : Nat) : Int), (i : Int))) (b.size - 1)
  (fun i hi => by
   obtain ⟨x, hx⟩ : ∃ x, (bl b)[i + 1]? = some x := zfx (by rw [zax]; omega); have hm : (((bl b).drop 1).map (fun x => (x.toNat : Int)))[i]? = some (x.toNat : Int) := by
    rw [List.getElem?_map, List.getElem?_drop, Nat.add_comm 1 i, hx]; rfl
   have hb := zabl (l := (bl b).take (i + 1)) (by rw [lnt]; omega); have hxl := x.toNat_lt; simp only [zck.r0, zck.b0, dct (show (i : Int) < ((b.size - 1 : Nat) : Int) by omega), ctr, hlen]; rw [ifp, ifp, itn, hm]; simp only [obs]; rw [show (2 : Int) ^ (min (8 : Int).toNat 64) = 256 from rfl, w6e (n := zpo ((bl b).take (i + 1)) * 256), w6e (n := (x.toNat : Int)), w6e (n := (i : Int) + 1), or8 _ _ (by omega) (by omega) hxl, ze4 _ _ hx, zac0]
   · rfl
   · intro h; have := congrArg List.length h; rw [lnt, zax] at this; simp only [ln0] at this; omega)
  (by simp only [zck.r0, zck.b0, dcf (show ¬ ((b.size - 1 : Nat) : Int) < ((b.size - 1 : Nat) : Int) by omega), cfa]) (N := N) (by omega)
 simp only [Nat.zero_add, nc0] at this
 rw [this, show b.size - 1 + 1 = (bl b).length by rw [zax]; omega, List.take_length]
 rfl
theorem zwb {t : DataType} (ht : zkz t) : szE t = (if t.Kind = 1 then t.Length / 2 + 1 else if t.Kind = 3 then (if t.Length = 9 then 4 else 2) else t.Length) := by
 obtain ⟨_, h1, h2⟩ := ht
 unfold szE
 split
 · rfl
 · split
   · rfl
   · rw [ifn]
theorem zacj (N : Nat) (hN : 2000 < N) {t : DataType} (ht : zkz t) {b : ByteArray} (hb : (b.size : Int) = szE t) :
 ∃ v a e, zlu N t b = some (v, a, e) ∧ (match zqa t b with | some n => v.N = n ∧ e = 0 | none => e ≠ 0) := by
 have f2 : ∀ a b : Int, zt N [a, b] = some (zhe [a, b]) := fun a b => zrx N _ (by simp; omega) (by simp)
 obtain ⟨⟨l1, l2⟩, l3, l4⟩ := zgq ht
 have hsz := zwb ht
 have ht' := ht
 obtain ⟨h0, h1, h2⟩ := ht'
 unfold zlu
 rw [zsn N (by omega), h0, zcn, zcn, zcn, dcf (show ¬ t.Kind = 4 by omega), dcf (show ¬ t.Kind = 0 by omega)]
 simp only [zsq, cfa, obs, f2, show zhe [0, 0] = 0 from rfl, bst, ctr]
 rw [z2m h0]
 simp only [obs]
 rw [hb]
 simp only [bsf, cfa, eD]
 by_cases hk : t.Kind = 3
 · rw [dct hk, ctr]; have hs4 : b.size ≤ 4 ∧ 0 < b.size := by
    rw [hsz, ifn, ifp hk] at hb; split at hb <;> omega
   rw [zack N (by omega) b hs4.2 hs4.1]; simp only [obs]; rw [z0l N (by omega) ht]; simp only [obs]; unfold zqa; rw [ifp hk]
   by_cases hr : -((10 ^ t.Length.toNat : Nat) : Int) < zpo (bl b) ∧ zpo (bl b) < ((10 ^ t.Length.toNat : Nat) : Int)
   · rw [ifp hr, ifp hr]; exact ⟨_, _, _, rfl, rfl, rfl⟩
   · rw [ifn hr, ifn hr]; exact ⟨_, _, _, rfl, by decide⟩
 · rw [dcf hk, cfa]; have hs : 0 < b.size ∧ b.size ≤ 15 ∧ (t.Kind = 1 → b.size ≤ 8) := by
    rw [hsz] at hb
    by_cases h1 : t.Kind = 1
    · rw [ifp h1] at hb; omega
    · rw [ifn h1, ifn hk] at hb; omega
   have hn : (if t.Kind = 1 then zkt (bl b) else zez (bl b)).length ≤ 17 := by
    split
    · rename_i hk1; have := hs.2.2 hk1; rw [zt6, zax]; omega
    · unfold zez zhf; rw [lna, lnm, lns, zax]; omega
   obtain ⟨n, a, e, g1, g2⟩ := zaa8 N hN t (by omega) b hs.1 hn (by omega) ⟨by omega, l2⟩; rw [g1]; exact ⟨_, _, _, rfl, g2⟩
def zw0 (n len : Nat) : List Int := (List.range len).map fun j => ((n / 10 ^ (len - 1 - j) % 10 : Nat) : Int)
theorem z0d (n len : Nat) : (zw0 n len).length = len := by simp [zw0]
theorem z0c {n len : Nat} : ∀ d ∈ zw0 n len, 0 ≤ d ∧ d ≤ 9 := by
 intro d hd
 obtain ⟨j, _, rfl⟩ := List.mem_map.1 hd
 omega
def z79 (l : List Int) (neg : Bool) : List Int := (l.take (l.length - 1)).map (· + 240) ++ [l.getD (l.length - 1) 0 + cond neg 208 240]
def zm9 : List Int → List Int
 | a :: b :: l => (16 * a + b) :: zm9 l
 | _ => []
def encB (n : Int) (k : Nat) : List Int := (List.range k).map fun j => n / 256 ^ (k - 1 - j) % 256
def zxs (t : DataType) (n : Int) : List Int := (if t.Length % 2 = 0 then [0] else []) ++ zw0 n.natAbs t.Length.toNat ++ [if n < 0 then 13 else 15]
def zz6 (t : DataType) (n : Int) : ByteArray :=
 zd3 (if t.Kind = 3 then encB n (szE t).toNat else if t.Kind = 2 then z79 (zw0 n.natAbs t.Length.toNat) (decide (n < 0)) else zm9 (zxs t n))
theorem zaci (N : Nat) (hN : 100 < N) (n len : Nat) (hn : n ≤ 1000000000000000000) (hl : len ≤ 20) : zbg N (n : Int) (len : Int) = some (zw0 n len) := by
 unfold zbg
 have := za1 (f := zbg.r0 N) (fun i => (((n / 10 ^ i : Nat) : Int), zjj (fun e => ((n / 10 ^ e % 10 : Nat) : Int)) len i, (len : Int) - 1 - (i : Int))) len
  (fun i hi => by
   have hl2 : n / 10 ^ i ≤ n := Nat.div_le_self _ _; have hl : (zjj (fun e => ((n / 10 ^ e % 10 : Nat) : Int)) len i).length = len := zwm _ _ _; have e1 : n / 10 ^ (i + 1) = n / 10 ^ i / 10 := by rw [Nat.pow_succ, ← Nat.div_div_eq_div_mul]
   have e2 : (zjj (fun e => ((n / 10 ^ e % 10 : Nat) : Int)) len i).set (len - 1 - i) ((n / 10 ^ i % 10 : Nat) : Int) = zjj (fun e => ((n / 10 ^ e % 10 : Nat) : Int)) len (i + 1) := zva _ len i hi; rw [e1, ← e2]; generalize (zjj (fun e => ((n / 10 ^ e % 10 : Nat) : Int)) len i) = P at *; generalize n / 10 ^ i = q at *; simp only [zbg.r0, zbg.b0, dct (show (len : Int) - 1 - (i : Int) ≥ 0 by omega), ctr, hl]; rw [ifp, ifp]; obtain ⟨x, hx⟩ : ∃ x, P[((len : Int) - 1 - (i : Int)).toNat]? = some x := zfx (by omega); rw [hx]; simp only [obs]
   rw [tde, tme, w6e (n := (q : Int) / 10), w6e (n := (len : Int) - 1 - (i : Int) - 1), zo9 (by omega) (by omega), show ((len : Int) - 1 - (i : Int)).toNat = len - 1 - i by omega, show (q : Int) % 10 = ((q % 10 : Nat) : Int) by omega, show (q : Int) / 10 = ((q / 10 : Nat) : Int) by omega, show (len : Int) - 1 - (i : Int) - 1 = (len : Int) - 1 - ((i + 1 : Nat) : Int) by omega])
  (by simp only [zbg.r0, zbg.b0, dcf (show ¬ (len : Int) - 1 - (len : Int) ≥ 0 by omega), cfa]) (N := N) (by omega)
 rw [ifp, ifp, za3 (by omega), ctr, itn, w6e]
 simp only [Nat.pow_zero, Nat.div_one, zu9, nc0, Int.sub_zero, zvb] at this
 rw [this]
 rfl
theorem or4 (x y : Nat) (hx : x < 16) (hy : y < 16) : orI .u8 (IntKind.wrap .u8 ((x : Int) * 2 ^ (min (4 : Int).toNat 8))) (y : Int) = ((16 * x + y : Nat) : Int) := by
 rw [show (2 : Int) ^ (min (4 : Int).toNat 8) = 16 from rfl, zo9 (by omega) (by omega)]
 unfold orI
 have e : (BitVec.ofInt IntKind.u8.bits ((x : Int) * 16) ||| BitVec.ofInt IntKind.u8.bits (y : Int)).toNat = 16 * x + y := by
  show (BitVec.ofInt 8 ((x : Int) * 16) ||| BitVec.ofInt 8 (y : Int)).toNat = _; rw [show (x : Int) * 16 = ((16 * x : Nat) : Int) by omega, BitVec.toNat_or, BitVec.ofInt_natCast, BitVec.ofInt_natCast, BitVec.toNat_ofNat, BitVec.toNat_ofNat, mel (by omega), mel (by omega)]; exact (Nat.two_pow_add_eq_or_of_lt (i := 4) (b := y) hy x).symm
 rw [e]
 exact zo9 (by omega) (by omega)
theorem zy6 : ∀ (n : Nat) (l : List Int) (x y : Int), l.length = 2 * n → zm9 (l ++ [x, y]) = zm9 l ++ [16 * x + y]
 | 0, l, x, y, h => by
  obtain rfl := List.length_eq_zero_iff.1 (by omega : l.length = 0); rfl
 | n + 1, [], x, y, h => by simp at h
 | n + 1, [a], x, y, h => by simp at h; omega
 | n + 1, a :: b :: l, x, y, h => by
  simp only [List.cons_append, zm9]; rw [zy6 n l x y (by simp only [lnc] at h; omega)]
theorem zvc : ∀ (n : Nat) (l : List Int), l.length = 2 * n → (zm9 l).length = n
 | 0, l, h => by
  obtain rfl := List.length_eq_zero_iff.1 (by omega : l.length = 0); rfl
 | n + 1, [], h => by simp at h
 | n + 1, [a], h => by simp at h; omega
 | n + 1, a :: b :: l, h => by
  simp only [zm9, lnc]; rw [zvc n l (by simp only [lnc] at h; omega)]
theorem zacf (N : Nat) (hN : 100 < N) (l : List Int) (n : Nat) (hl : l.length = 2 * n) (hn : n ≤ 20) (hd : ∀ d ∈ l, 0 ≤ d ∧ d < 16) : zb0 N l = some (zd3 (zm9 l)) := by
 unfold zb0
 have := za1 (f := zb0.r0 N) (fun i => (l, zm9 (l.take (2 * i)), 2 * (i : Int))) n
  (fun i hi => by
   obtain ⟨x, hx⟩ : ∃ x, l[2 * i]? = some x := zfx (by omega); obtain ⟨y, hy⟩ : ∃ y, l[2 * i + 1]? = some y := zfx (by omega); obtain ⟨x1, x2⟩ := hd x (lmg hx); obtain ⟨y1, y2⟩ := hd y (lmg hy); have hlt : (l.take (2 * i)).length = 2 * i := by rw [lnt]; omega
   simp only [zb0.r0, zb0.b0, dct (show 2 * (i : Int) < (l.length : Int) by omega), ctr]; rw [w6e (n := 2 * (i : Int) + 1), w6e (n := 2 * (i : Int) + 2), show 2 * (i : Int) = ((2 * i : Nat) : Int) by omega, show ((2 * i : Nat) : Int) + 1 = ((2 * i + 1 : Nat) : Int) by omega, zai, zai, hx, hy]; simp only [obs]; obtain ⟨u, rfl⟩ : ∃ u : Nat, x = (u : Int) := ⟨x.toNat, by omega⟩; obtain ⟨v, rfl⟩ : ∃ v : Nat, y = (v : Int) := ⟨y.toNat, by omega⟩; rw [or4 u v (by omega) (by omega), za3 (by rw [zvc i _ hlt]; simp only [lnc, ln0]; omega), ctr]; rw [show 2 * (i + 1) = 2 * i + 1 + 1 by omega, ze4 _ _ hy, ze4 _ _ hx, List.append_assoc, show ([(u : Int)] ++ [(v : Int)] : List Int) = [(u : Int), (v : Int)] from rfl, zy6 i _ _ _ hlt]
   congr 4)
  (by simp only [zb0.r0, zb0.b0, dcf (show ¬ 2 * (n : Int) < (l.length : Int) by omega), cfa]) (N := N) (by omega)
 simp only [Nat.mul_zero, List.take_zero, nc0, Int.mul_zero] at this
 rw [show zm9 [] = [] from rfl] at this
 rw [this, obs, ← hl, List.take_length]
theorem zaev (f : Int → Int) (l : List Int) (i : Nat) {x : Int} (hx : l[i]? = some x) : ((l.take i).map f ++ l.drop i)[i]? = some x ∧ ((l.take i).map f ++ l.drop i).set i (f x) = (l.take (i + 1)).map f ++ l.drop (i + 1) := by
 obtain ⟨h1, h2⟩ := gei hx
 have hl : ((l.take i).map f).length = i := by rw [lnm, lnt]; omega
 have hd : l.drop i = x :: l.drop (i + 1) := by rw [List.drop_eq_getElem_cons h1, h2]
 constructor
 · rw [List.getElem?_append_right (by omega), hl, Nat.sub_self, hd]; rfl
 · rw [List.set_append_right _ _ (by omega), hl, Nat.sub_self, hd, ze4 l i hx, List.map_append, List.append_assoc]; rfl
theorem zabc {l : List Int} (h : 0 < l.length) : l = l.take (l.length - 1) ++ [l.getD (l.length - 1) 0] := by
 have hx : l[l.length - 1]? = some (l.getD (l.length - 1) 0) := by rw [gdd, lge (by omega)]; rfl
 have := ze4 l (l.length - 1) hx
 rw [show l.length - 1 + 1 = l.length by omega, List.take_length] at this
 exact this
theorem zaep (z : Int) : IntKind.wrap .u8 z = z % 256 := by
 have e : (2 : Int) ^ (IntKind.u8.bits) = 256 := by decide
 unfold IntKind.wrap
 simp only [e, show IntKind.u8.signed = false from rfl, Bool.false_and]
 simp only [Bool.false_eq_true, if_false]
theorem zvn {l : List Int} (h : 0 < l.length) : l.map (· + 240) = z79 l false := by
 conv => lhs; rw [zabc h]
 rw [List.map_append]
 rfl
theorem ztt {n : Int} (h1 : -9223372036854775807 ≤ n) (h2 : n ≤ 9223372036854775807) : (if w6 (0 - n) > n then w6 (0 - n) else n) = ((n.natAbs : Nat) : Int) := by
 rw [w6e]
 split <;> omega
theorem zze {t : DataType} (h1 : 1 ≤ t.Length) (n : Int) : (zxs t n).length = 2 * (t.Length.toNat / 2 + 1) ∧ ∀ d ∈ zxs t n, 0 ≤ d ∧ d < 16 := by
 unfold zxs
 constructor
 · rw [lna, lna, z0d, lns]; split
   · rw [lns]; omega
   · rw [ln0]; omega
 · intro d hd; rcases List.mem_append.1 hd with hd | hd
   · rcases List.mem_append.1 hd with hd | hd
     · split at hd
       · rcases List.mem_cons.1 hd with rfl | hd
         · omega
         · cases hd
       · cases hd
     · have := z0c d hd; omega
   · rcases List.mem_cons.1 hd with rfl | hd
     · split <;> omega
     · cases hd
theorem zaa7 (N : Nat) (hN : 100 < N) {t : DataType} (ht : zkz t) (n : Int) (hn : -((10 ^ t.Length.toNat : Nat) : Int) < n ∧ n < ((10 ^ t.Length.toNat : Nat) : Int)) : zad N t ⟨n, ⟨#[]⟩⟩ = some (zz6 t n) := by
 obtain ⟨⟨l1, l2⟩, l3, l4⟩ := zgq ht
 have hp2 : 10 ^ t.Length.toNat ≤ 10 ^ 15 := zcv (by omega)
 have hsz := zwb ht
 have ht' := ht
 obtain ⟨h0, h1, h2⟩ := ht'
 have hd := zaci N hN n.natAbs t.Length.toNat (by omega) (by omega)
 rw [Int.toNat_of_nonneg (by omega)] at hd
 unfold zad zz6
 try simp only [eD]
 rw [ztt (by omega) (by omega), hd]
 simp only [obs]
 have hlen := z0d n.natAbs t.Length.toNat
 have hrange := z0c (n := n.natAbs) (len := t.Length.toNat)
 have hpac := zze (t := t) l1 n
 have epac : zxs t n = (if t.Length % 2 = 0 then [0] else []) ++ zw0 n.natAbs t.Length.toNat ++ [if n < 0 then 13 else 15] := rfl
 generalize zw0 n.natAbs t.Length.toNat = d at *
 simp only [zcn]
 by_cases k2 : t.Kind = 2
 · rw [dct k2, ctr, ifn, ifp k2]; have lp := za1 (f := zad.r1 N) (fun i => ((d.take i).map (· + 240) ++ d.drop i, (d.length : Int), (i : Int), (⟨n, ⟨#[]⟩⟩ : Value))) d.length
    (fun i hi => by
     obtain ⟨x, hx⟩ : ∃ x, d[i]? = some x := zfx hi; obtain ⟨e1, e2⟩ := zaev (· + 240) d i hx; have hxr := hrange x (lmg hx); have hl : ((d.take i).map (· + 240) ++ d.drop i).length = d.length := by rw [lna, lnm, lnt, List.length_drop]; omega
     simp only [zad.r1, zad.b1, dct (show (i : Int) < (d.length : Int) by omega), ctr, hl]; rw [ifp, ifp, itn, e1]; simp only [obs]; rw [ifp, ifp, zo9 (by omega) (by omega), w6e, e2]; rfl)
    (by simp only [zad.r1, zad.b1, dcf (show ¬ (d.length : Int) < (d.length : Int) by omega), cfa]) (N := N) (by omega)
   simp only [List.take_zero, nc0, dr0, List.map_nil, List.nil_append, List.take_length, List.drop_length, List.append_nil] at lp; rw [lp]; simp only [obs, lnm]
   by_cases hneg : n < 0
   · rw [dct hneg, ctr, w6e, ifp, ifp]; have hi : (d.length : Int) - 1 = ((d.length - 1 : Nat) : Int) := by omega
     have hx : d[d.length - 1]? = some (d.getD (d.length - 1) 0) := by rw [gdd, lge (by omega)]; rfl
     have hxr := hrange _ (lmg hx); rw [hi, itn, List.getElem?_map, hx]; simp only [Option.map_some, obs]; rw [ifp, ifp, zo9 (by omega) (by omega)]
     congr 2
     conv => lhs; rw [show d.map (· + 240) = (d.take (d.length - 1)).map (· + 240) ++ [d.getD (d.length - 1) 0 + 240] from zvn (by omega)]
     have hl : ((d.take (d.length - 1)).map (· + 240)).length = d.length - 1 := by rw [lnm, lnt]; omega
     rw [List.set_append_right _ _ (by omega), hl, Nat.sub_self]; unfold z79
     congr 1
     show [_] = [_]
     congr 1
     simp only [ctr]; omega
   · rw [dcf hneg, cfa, zvn (by omega)]
 · rw [dcf k2, cfa, ifn (c := t.Kind = 2) k2]
   by_cases k1 : t.Kind = 1
   · rw [dct k1, ctr, ifn]; have pk := zacf N hN (zxs t n) _ hpac.1 (by omega) hpac.2; have ev : decide ((d.length : Int).tmod 2 = 0) = decide (t.Length % 2 = 0) := by
      rw [tme]; simp only [decide_eq_decide]; omega
     rw [ev]; rw [epac] at pk ⊢
     by_cases hneg : n < 0
     · rw [dct hneg, ctr]; rw [ifp hneg] at pk ⊢
       by_cases he : t.Length % 2 = 0
       · rw [dct he, ctr]; rw [ifp he] at pk ⊢; rw [za3 (by simp only [lnc, ln0]; omega), ctr, za3 (by simp only [lna, lnc, ln0]; omega), ctr, pk]; rfl
       · rw [dcf he, cfa]; rw [ifn he, List.nil_append] at pk ⊢; rw [za3 (by simp only [lnc, ln0]; omega), ctr, pk]; rfl
     · rw [dcf hneg, cfa]; rw [ifn hneg] at pk ⊢
       by_cases he : t.Length % 2 = 0
       · rw [dct he, ctr]; rw [ifp he] at pk ⊢; rw [za3 (by simp only [lnc, ln0]; omega), ctr, za3 (by simp only [lna, lnc, ln0]; omega), ctr, pk]; rfl
       · rw [dcf he, cfa]; rw [ifn he, List.nil_append] at pk ⊢; rw [za3 (by simp only [lnc, ln0]; omega), ctr, pk]; rfl
   · have k3 : t.Kind = 3 := by omega
     rw [dcf k1, cfa, dct k3, ctr, ifp k3, z2m h0]; have hs : (szE t).toNat ≤ 4 ∧ 0 < (szE t).toNat ∧ szE t = ((szE t).toNat : Int) := by
      rw [hsz, ifn k1, ifp k3]; split <;> decide
     obtain ⟨s1, s2, s3⟩ := hs; generalize (szE t).toNat = k at *; rw [s3]; simp only [obs]; rw [ifp, ifp, za3 (by omega), ctr, itn, lnr, w6e]; have lp := za1 (f := zad.r3 N) (fun i => (zjj (fun e => n / 256 ^ e % 256) k i, (k : Int) - 1 - (i : Int), n / 256 ^ i)) k
      (fun i hi => by
       have e2 : (zjj (fun e => n / 256 ^ e % 256) k i).set (k - 1 - i) (n / 256 ^ i % 256) = zjj (fun e => n / 256 ^ e % 256) k (i + 1) := zva _ k i hi; have hl : (zjj (fun e => n / 256 ^ e % 256) k i).length = k := zwm _ _ _; have e1 : n / 256 ^ (i + 1) = n / 256 ^ i / 256 := by rw [Int.pow_succ, Int.ediv_ediv_of_nonneg (Int.le_of_lt (Int.pow_pos (by decide)))]
       rw [e1, ← e2]; generalize zjj (fun e => n / 256 ^ e % 256) k i = P at *; simp only [zad.r3, zad.b3, dct (show (k : Int) - 1 - (i : Int) ≥ 0 by omega), ctr, hl]; rw [ifp, ifp]; obtain ⟨x, hx⟩ : ∃ x, P[((k : Int) - 1 - (i : Int)).toNat]? = some x := zfx (by omega); rw [hx]; simp only [obs]; rw [zaep, w6e, show (2 : Int) ^ (min (8 : Int).toNat 64) = 256 from rfl, Int.fdiv_eq_ediv_of_nonneg _ (by decide), show ((k : Int) - 1 - (i : Int)).toNat = k - 1 - i by omega, show (k : Int) - 1 - (i : Int) - 1 = (k : Int) - 1 - ((i + 1 : Nat) : Int) by omega])
      (by simp only [zad.r3, zad.b3, dcf (show ¬ (k : Int) - 1 - (k : Int) ≥ 0 by omega), cfa]) (N := N) (by omega)
     simp only [Int.pow_zero, Int.ediv_one, zu9, nc0, Int.sub_zero, zvb] at lp; rw [lp]; rfl
theorem z68 (N : Nat) (hN : 100 < N) {t : DataType} (ht : zkz t) (n : Int) (hn : -((10 ^ t.Length.toNat : Nat) : Int) < n ∧ n < ((10 ^ t.Length.toNat : Nat) : Int)) : zdi N t ⟨n, ⟨#[]⟩⟩ = some (zz6 t n, 0) := by
 unfold zdi
 rw [z0l N hN ht, ifp hn]
 simp only [obs, bsf, cfa, eD]
 rw [zaa7 N hN ht n hn]
 rfl
theorem z7l {t : DataType} (ht : zkz t) (n : Int) : ((zz6 t n).size : Int) = szE t := by
 obtain ⟨⟨l1, l2⟩, l3, l4⟩ := zgq ht
 have hsz := zwb ht
 obtain ⟨h0, h1, h2⟩ := ht
 rw [← zax]
 unfold zz6
 rw [ziu, lnm]
 by_cases k3 : t.Kind = 3
 · rw [ifp k3]; unfold encB; rw [lnm, List.length_range]; rw [hsz, ifn, ifp k3]; split <;> rfl
 · rw [ifn k3]
   by_cases k2 : t.Kind = 2
   · rw [ifp k2]; unfold z79; rw [lna, lnm, lnt, z0d, lns, hsz, ifn, ifn k3]; omega
   · rw [ifn k2, zvc _ _ (zze l1 n).1, hsz, ifp]; omega
theorem z3u (N : Nat) (hN : 100 < N) (k : Nat) (hk : k ≤ 18) : zea N (k : Int) = some ((10 ^ k : Nat) : Int) := by
 unfold zea
 have := za1 (f := zea.r0 N) (fun i => ((k : Int), ((10 ^ i : Nat) : Int), (i : Int))) k
  (fun i hi => by
   have : 10 ^ (i + 1) ≤ 10 ^ 18 := zcv (by omega); rw [Nat.pow_succ] at this; simp only [zea.r0, zea.b0, dct (show (i : Int) < (k : Int) by omega), ctr]; rw [w6e (n := ((10 ^ i : Nat) : Int) * 10), w6e, Nat.pow_succ]; simp only [Int.natCast_add, Int.natCast_mul, Int.natCast_one]; rfl)
  (by simp only [zea.r0, zea.b0, dcf (show ¬ (k : Int) < (k : Int) by omega), cfa]) (N := N) (by omega)
 simp only [Nat.pow_zero, nc0] at this
 rw [show (1 : Int) = ((1 : Nat) : Int) from rfl, this]
 rfl
theorem zab6 (N : Nat) (hN : 100 < N) (n len : Nat) (hn : n ≤ 1000000000000000000) (hl : len ≤ 20) : zdq N (n : Int) (len : Int) = some (zw0 n len) := by
 unfold zdq
 have := za1 (f := zdq.r0 N) (fun i => (((n / 10 ^ i : Nat) : Int), zjj (fun e => ((n / 10 ^ e % 10 : Nat) : Int)) len i, (len : Int) - 1 - (i : Int))) len
  (fun i hi => by
   have hl2 : n / 10 ^ i ≤ n := Nat.div_le_self _ _; have hl : (zjj (fun e => ((n / 10 ^ e % 10 : Nat) : Int)) len i).length = len := zwm _ _ _; have e1 : n / 10 ^ (i + 1) = n / 10 ^ i / 10 := by rw [Nat.pow_succ, ← Nat.div_div_eq_div_mul]
   have e2 : (zjj (fun e => ((n / 10 ^ e % 10 : Nat) : Int)) len i).set (len - 1 - i) ((n / 10 ^ i % 10 : Nat) : Int) = zjj (fun e => ((n / 10 ^ e % 10 : Nat) : Int)) len (i + 1) := zva _ len i hi; rw [e1, ← e2]; generalize (zjj (fun e => ((n / 10 ^ e % 10 : Nat) : Int)) len i) = P at *; generalize n / 10 ^ i = q at *; simp only [zdq.r0, zdq.b0, dct (show (len : Int) - 1 - (i : Int) ≥ 0 by omega), ctr, hl]; rw [ifp, ifp]; obtain ⟨x, hx⟩ : ∃ x, P[((len : Int) - 1 - (i : Int)).toNat]? = some x := zfx (by omega); rw [hx]; simp only [obs]; rw [tde, tme, w6e (n := (q : Int) / 10), w6e (n := (len : Int) - 1 - (i : Int) - 1), show ((len : Int) - 1 - (i : Int)).toNat = len - 1 - i by omega, show (q : Int) % 10 = ((q % 10 : Nat) : Int) by omega, show (q : Int) / 10 = ((q / 10 : Nat) : Int) by omega, show (len : Int) - 1 - (i : Int) - 1 = (len : Int) - 1 - ((i + 1 : Nat) : Int) by omega])
  (by simp only [zdq.r0, zdq.b0, dcf (show ¬ (len : Int) - 1 - (len : Int) ≥ 0 by omega), cfa]) (N := N) (by omega)
 rw [ifp, ifp, za3 (by omega), ctr, itn, w6e]
 simp only [Nat.pow_zero, Nat.div_one, zu9, nc0, Int.sub_zero, zvb] at this
 rw [this]
 rfl
theorem zxq (N : Nat) (hN : 100 < N) (v k : Nat) (hv : v < 9223372036854775807) (hk : k ≤ 8) : za4 N (v : Int) (k : Int) = some (zd3 (zbt v k)) := by
 unfold za4
 have := za1 (f := za4.r0 N) (fun i => (((v / 256 ^ i : Nat) : Int), (k : Int), zjj (fun e => ((v / 256 ^ e % 256 : Nat) : Int)) k i, (i : Int))) k
  (fun i hi => by
   have hl2 : v / 256 ^ i ≤ v := Nat.div_le_self _ _; have hl : (zjj (fun e => ((v / 256 ^ e % 256 : Nat) : Int)) k i).length = k := zwm _ _ _; have e1 : v / 256 ^ (i + 1) = v / 256 ^ i / 256 := by rw [Nat.pow_succ, ← Nat.div_div_eq_div_mul]
   have e2 : (zjj (fun e => ((v / 256 ^ e % 256 : Nat) : Int)) k i).set (k - 1 - i) ((v / 256 ^ i % 256 : Nat) : Int) = zjj (fun e => ((v / 256 ^ e % 256 : Nat) : Int)) k (i + 1) := zva _ k i hi; rw [e1, ← e2]; generalize (zjj (fun e => ((v / 256 ^ e % 256 : Nat) : Int)) k i) = P at *; generalize v / 256 ^ i = q at *; simp only [za4.r0, za4.b0, dct (show (i : Int) < (k : Int) by omega), ctr, hl]; rw [w6e (n := (k : Int) - 1), w6e (n := (k : Int) - 1 - (i : Int)), ifp, ifp]; obtain ⟨x, hx⟩ : ∃ x, P[((k : Int) - 1 - (i : Int)).toNat]? = some x := zfx (by omega); rw [hx]; simp only [obs]; rw [tde, tme, w6e (n := (q : Int) / 256), w6e (n := (i : Int) + 1), zo9 (by omega) (by omega), show ((k : Int) - 1 - (i : Int)).toNat = k - 1 - i by omega, show (q : Int) % 256 = ((q % 256 : Nat) : Int) by omega, show (q : Int) / 256 = ((q / 256 : Nat) : Int) by omega]; rfl)
  (by simp only [za4.r0, za4.b0, dcf (show ¬ (k : Int) < (k : Int) by omega), cfa]) (N := N) (by omega)
 rw [ifp, ifp, za3 (by omega), ctr, itn]
 simp only [Nat.pow_zero, Nat.div_one, zu9, nc0] at this
 rw [this, obs, zvb]
 rfl
theorem zadc (f : Int → Int) (l : List Int) (m i : Nat) {x : Int} (hx : l[i]? = some x) (hm : i < m) : ((l.take i).map f ++ List.replicate (m - i) 0)[i]? = some 0 ∧ ((l.take i).map f ++ List.replicate (m - i) 0).set i (f x) = (l.take (i + 1)).map f ++ List.replicate (m - (i + 1)) 0 := by
 obtain ⟨h1, h2⟩ := gei hx
 have hl : ((l.take i).map f).length = i := by rw [lnm, lnt]; omega
 have hd : List.replicate (m - i) (0 : Int) = 0 :: List.replicate (m - (i + 1)) 0 := by rw [show m - i = m - (i + 1) + 1 by omega, List.replicate_succ]
 constructor
 · rw [List.getElem?_append_right (by omega), hl, Nat.sub_self, hd]; rfl
 · rw [List.set_append_right _ _ (by omega), hl, Nat.sub_self, hd, ze4 l i hx, List.map_append, List.append_assoc]; rfl
theorem z9k (n : Int) (k : Nat) (m : Nat) (h : (m : Int) = n ∨ (m : Int) = n + (256 ^ k : Nat)) : zbt m k = encB n k := by
 unfold zbt encB
 refine List.map_congr_left fun j hj => ?_
 have hjk := List.mem_range.1 hj
 have hc : (256 : Int) ^ (k - 1 - j) = ((256 ^ (k - 1 - j) : Nat) : Int) := by rw [Int.natCast_pow]; rfl
 rw [hc]
 rcases h with h | h
 · rw [← h]; rfl
 · have hk : (256 ^ k : Nat) = 256 ^ (k - 1 - j) * (256 * 256 ^ j) := by
    rw [← Nat.pow_succ', ← Nat.pow_add]; congr 1; omega
   have hp : ((256 ^ (k - 1 - j) : Nat) : Int) ≠ 0 := by
    have : 0 < 256 ^ (k - 1 - j) := Nat.pow_pos (by decide); omega
   have e : ((m / 256 ^ (k - 1 - j) % 256 : Nat) : Int) = (m : Int) / ((256 ^ (k - 1 - j) : Nat) : Int) % 256 := rfl; rw [e, h, hk, Int.natCast_mul, Int.add_mul_ediv_left _ _ hp, Int.natCast_mul]; exact Int.add_mul_emod_self_left _ _ _
theorem z8n (N : Nat) (hN : 100 < N) {t : DataType} (ht : zkz t) (n : Int) (hn : -((10 ^ t.Length.toNat : Nat) : Int) < n ∧ n < ((10 ^ t.Length.toNat : Nat) : Int)) : zaf N t ⟨n, ⟨#[]⟩⟩ = some (zz6 t n) := by
 obtain ⟨⟨l1, l2⟩, l3, l4⟩ := zgq ht
 have hp2 : 10 ^ t.Length.toNat ≤ 10 ^ 15 := zcv (by omega)
 have hsz := zwb ht
 have ht' := ht
 obtain ⟨h0, h1, h2⟩ := ht'
 have hd := zab6 N hN n.natAbs t.Length.toNat (by omega) (by omega)
 rw [Int.toNat_of_nonneg (by omega)] at hd
 unfold zaf zz6 zha
 simp only [eD, zcn]
 rw [dcf (show ¬ t.Kind = 0 by omega), cfa]
 by_cases k3 : t.Kind = 3
 · rw [dct k3, ctr, ifp k3, zt3 h0]; have hs : (szE t).toNat ≤ 4 ∧ 0 < (szE t).toNat ∧ szE t = ((szE t).toNat : Int) ∧ ((szE t).toNat = 2 ∨ (szE t).toNat = 4) ∧ ((szE t).toNat = 2 → t.Length = 4) := by
    have h9 := h0; unfold zf2 at h9; rw [ifn, ifn, ifp k3] at h9; rw [hsz, ifn, ifp k3]; split at h9
    · split
      · exact ⟨by decide, by decide, by decide, by decide, fun h => by cases h⟩
      · exact ⟨by decide, by decide, by decide, by decide, fun _ => by omega⟩
    · cases h9
   obtain ⟨s1, s2, s3, s4, s5⟩ := hs; generalize (szE t).toNat = k at *; rw [s3]; simp only [obs]
   by_cases hneg : n < 0
   · rw [dct hneg, ctr, w6e (n := 8 * (k : Int)), ifn]; have hpow : (1 : Int) * 2 ^ (min (8 * (k : Int)).toNat 64) = ((256 ^ k : Nat) : Int) := by
      rcases s4 with rfl | rfl <;> decide
     have hlow : -((256 ^ k : Nat) : Int) ≤ n := by
      rcases s4 with rfl | rfl
      · have := s5 rfl; rw [this] at hn; have : (10 ^ (4 : Int).toNat : Nat) = 10000 := by decide
        rw [this] at hn; have : (256 ^ 2 : Nat) = 65536 := by decide
        omega
      · have hl9 : 10 ^ t.Length.toNat ≤ 10 ^ 9 := by
         refine zcv ?_; unfold zf2 at h0; rw [ifn, ifn, ifp k3] at h0; split at h0
         · omega
         · cases h0
        have : (256 ^ 4 : Nat) = 4294967296 := by decide
        omega
     have hup : 256 ^ k ≤ 4294967296 := by rcases s4 with rfl | rfl <;> decide
     rw [hpow, w6e (n := ((256 ^ k : Nat) : Int)), w6e]; obtain ⟨m, hm⟩ : ∃ m : Nat, (m : Int) = n + (256 ^ k : Nat) := ⟨(n + (256 ^ k : Nat)).toNat, by omega⟩; rw [← hm, zxq N hN m k (by omega) (by omega), z9k n k m (.inr hm)]; rfl
   · rw [dcf hneg, cfa]; obtain ⟨m, hm⟩ : ∃ m : Nat, (m : Int) = n := ⟨n.toNat, by omega⟩; rw [← hm, zxq N hN m k (by omega) (by omega), z9k (m : Int) k m (.inl rfl)]; rfl
 · rw [dcf k3, cfa, ifn k3, ztt (by omega) (by omega)]; simp only [obs]; rw [hd]; simp only [obs]; have hlen := z0d n.natAbs t.Length.toNat; have hrange := z0c (n := n.natAbs) (len := t.Length.toNat); have hpac := zze (t := t) l1 n; have epac : zxs t n = (if t.Length % 2 = 0 then [0] else []) ++ zw0 n.natAbs t.Length.toNat ++ [if n < 0 then 13 else 15] := rfl; generalize zw0 n.natAbs t.Length.toNat = d at *
   by_cases k2 : t.Kind = 2
   · rw [dct k2, ctr, ifp k2, ifp, ifp, za3 (by omega), ctr]; have lp := za1 (f := zaf.r1 N) (fun i => (d, (d.take i).map (· + 240) ++ List.replicate (d.length - i) 0, (i : Int), t, (⟨n, ⟨#[]⟩⟩ : Value))) d.length
      (fun i hi => by
       obtain ⟨x, hx⟩ : ∃ x, d[i]? = some x := zfx hi; obtain ⟨e1, e2⟩ := zadc (· + 240) d d.length i hx hi; have hxr := hrange x (lmg hx); have hl : ((d.take i).map (· + 240) ++ List.replicate (d.length - i) 0).length = d.length := by rw [lna, lnm, lnt, lnr]; omega
       simp only [zaf.r1, zaf.b1, dct (show (i : Int) < t.Length by omega), ctr, hl]; rw [ifp, ifp, itn, hx]; simp only [obs]; rw [ifp, ifp, e1]; simp only [obs]; rw [w6e (n := 240 + x), zo9 (by omega) (by omega), w6e, Int.add_comm 240 x, e2]; rfl)
      (by simp only [zaf.r1, zaf.b1, dcf (show ¬ (d.length : Int) < t.Length by omega), cfa]) (N := N) (by omega)
     simp only [List.take_zero, nc0, List.map_nil, List.nil_append, List.take_length, Nat.sub_self, Nat.sub_zero, List.replicate_zero, List.append_nil] at lp; rw [← hlen, lp]; simp only [obs, lnm]
     by_cases hneg : n < 0
     · rw [dct hneg, ctr, w6e (n := t.Length - 1), ifp, ifp]; have hi : t.Length - 1 = ((d.length - 1 : Nat) : Int) := by omega
       have hx : d[d.length - 1]? = some (d.getD (d.length - 1) 0) := by rw [gdd, lge (by omega)]; rfl
       have hxr := hrange _ (lmg hx); rw [hi, itn, hx]; simp only [obs]; rw [ifp, ifp, List.getElem?_map, hx]; simp only [Option.map_some, obs]; rw [w6e, zo9 (by omega) (by omega)]
       congr 2
       conv => lhs; rw [show d.map (· + 240) = (d.take (d.length - 1)).map (· + 240) ++ [d.getD (d.length - 1) 0 + 240] from zvn (by omega)]
       have hl : ((d.take (d.length - 1)).map (· + 240)).length = d.length - 1 := by rw [lnm, lnt]; omega
       rw [List.set_append_right _ _ (by omega), hl, Nat.sub_self]; unfold z79
       congr 1
       show [_] = [_]
       congr 1
       simp only [ctr]; omega
     · rw [dcf hneg, cfa, zvn (by omega)]
   · rw [dcf k2, cfa, ifn k2]; have lp : ∀ (l : List Int) (m : Nat), l.length = 2 * m → m ≤ 20 → (∀ d ∈ l, 0 ≤ d ∧ d < 16) → zl (zaf.r3 N) N (l, List.replicate m 0, 0) = some (l, zm9 l, (m : Int)) := fun l m hl hm hr => by
      have := za1 (f := zaf.r3 N) (fun i => (l, zm9 (l.take (2 * i)) ++ List.replicate (m - i) 0, (i : Int))) m
       (fun i hi => by
        obtain ⟨x, hx⟩ : ∃ x, l[2 * i]? = some x := zfx (by omega); obtain ⟨y, hy⟩ : ∃ y, l[2 * i + 1]? = some y := zfx (by omega); obtain ⟨x1, x2⟩ := hr x (lmg hx); obtain ⟨y1, y2⟩ := hr y (lmg hy); have hlt : (l.take (2 * i)).length = 2 * i := by rw [lnt]; omega
        have hpl := zvc i _ hlt; have hl2 : (zm9 (l.take (2 * i)) ++ List.replicate (m - i) 0).length = m := by rw [lna, hpl, lnr]; omega
        have hd : List.replicate (m - i) (0 : Int) = 0 :: List.replicate (m - (i + 1)) 0 := by rw [show m - i = m - (i + 1) + 1 by omega, List.replicate_succ]
        have e1 : (zm9 (l.take (2 * i)) ++ List.replicate (m - i) 0)[i]? = some 0 := by rw [List.getElem?_append_right (by omega), hpl, Nat.sub_self, hd]; rfl
        have e2 : (zm9 (l.take (2 * i)) ++ List.replicate (m - i) 0).set i (16 * x + y) = zm9 (l.take (2 * (i + 1))) ++ List.replicate (m - (i + 1)) 0 := by
         rw [List.set_append_right _ _ (by omega), hpl, Nat.sub_self, hd, show 2 * (i + 1) = 2 * i + 1 + 1 by omega, ze4 _ _ hy, ze4 _ _ hx, List.append_assoc, show ([x] ++ [y] : List Int) = [x, y] from rfl, zy6 i _ _ _ hlt, List.append_assoc]; rfl
        simp only [zaf.r3, zaf.b3, hl2, dct (show (i : Int) < (m : Int) by omega), ctr]; rw [w6e (n := 2 * (i : Int)), w6e (n := 2 * (i : Int) + 1), ifp, ifp, show (2 * (i : Int)).toNat = 2 * i by omega, hx]; simp only [obs]; rw [ifp, ifp, show (2 * (i : Int) + 1).toNat = 2 * i + 1 by omega, hy]; simp only [obs]; rw [ifp, ifp, itn, e1]; simp only [obs]; rw [w6e (n := 16 * x), w6e (n := 16 * x + y), zo9 (by omega) (by omega), w6e, e2]; rfl)
       (by simp only [zaf.r3, zaf.b3]; rw [lna, zvc m _ (by rw [lnt]; omega), Nat.sub_self, lnr, Nat.add_zero, dcf (show ¬ (m : Int) < (m : Int) by omega), cfa]) (N := N) (by omega)
      simp only [Nat.mul_zero, List.take_zero, nc0, Nat.sub_zero, Nat.sub_self, List.replicate_zero, List.append_nil] at this; rw [show zm9 [] = [] from rfl, List.nil_append, ← hl, List.take_length] at this; exact this
     have lpp := lp (zxs t n) _ hpac.1 (by omega) hpac.2; have hpl := hpac.1; rw [zjs, show decide (t.Length.tmod 2 = 0) = decide (t.Length % 2 = 0) by rw [tme]]; simp only [obs]; have hsg : w6 (15 - w6 (2 * cond (decide (n < 0)) 1 0)) = if n < 0 then 13 else 15 := by
      by_cases hneg : n < 0
      · rw [dct hneg, ifp hneg]; decide
      · rw [dcf hneg, ifn hneg]; decide
     rw [hsg]
     by_cases he : t.Length % 2 = 0
     · rw [ifp he] at epac; rw [dct he, ctr, za3 (by simp only [lnc, ln0]; omega), ctr, ← epac, za3 (by simp only [lna, lnc, ln0]; omega), ctr, tde, w6e, ifp, ifp, za3 (by omega), ctr, show ((zxs t n).length : Int) / 2 = ((t.Length.toNat / 2 + 1 : Nat) : Int) by omega, itn, lpp]; rfl
     · rw [ifn he, List.nil_append] at epac; rw [dcf he, cfa, za3 (by simp only [lnc, ln0]; omega), ctr, ← epac, tde, w6e, ifp, ifp, za3 (by omega), ctr, show ((zxs t n).length : Int) / 2 = ((t.Length.toNat / 2 + 1 : Nat) : Int) by omega, itn, lpp]; rfl
theorem z89 : ∀ (l : List UInt8) (i : Nat) (x : UInt8), l[i / 2]? = some x → (zkt l)[i]? = some (((if i % 2 = 1 then x.toNat % 16 else x.toNat / 16 : Nat) : Nat) : Int)
 | [], i, x, h => by simp at h
 | y :: l, 0, x, h => by
  simp only [Nat.zero_div, List.getElem?_cons_zero, Option.some.injEq] at h; subst h; rfl
 | y :: l, 1, x, h => by
  simp only [show 1 / 2 = 0 from rfl, List.getElem?_cons_zero, Option.some.injEq] at h; subst h; rfl
 | y :: l, i + 2, x, h => by
  rw [show (i + 2) / 2 = i / 2 + 1 by omega, List.getElem?_cons_succ] at h; have := z89 l i x h; have e : zkt (y :: l) = ((y.toNat / 16 : Nat) : Int) :: ((y.toNat % 16 : Nat) : Int) :: zkt l := rfl; rw [e, List.getElem?_cons_succ, List.getElem?_cons_succ, this]
  congr 3
  rw [show (i + 2) % 2 = i % 2 by omega]
theorem z6u (n h : Int) (hn : -9223372036854775807 ≤ n ∧ n ≤ 9223372036854775807) : zg4 n h = some (if h = 11 ∨ h = 13 then -n else n, decide (h ≥ 10)) := by
 unfold zg4
 rw [w6e, zcn, zcn]
 by_cases h1 : h = 11
 · rw [dct h1, ifp (.inl h1), Int.zero_sub]; rfl
 · rw [dcf h1]
   by_cases h2 : h = 13
   · rw [dct h2, ifp (.inr h2), Int.zero_sub]; rfl
   · rw [dcf h2, ifn]; rfl
theorem z9x (n : Nat) (bad : Nat → Bool) (f : Nat → Value × Int × Int) : (List.range n).any bad = ((List.range n).findSome? (fun i => if bad i = true then some (f i) else none)).isSome := by
 rw [Bool.eq_iff_iff, List.any_eq_true, List.findSome?_isSome_iff]
 constructor
 · rintro ⟨x, hx, hb⟩
   exact ⟨x, hx, by rw [ifp hb]; rfl⟩
 · rintro ⟨x, hx, hb⟩
   refine ⟨x, hx, ?_⟩; split at hb
   · assumption
   · cases hb
def zul : Value := ⟨0, ⟨#[]⟩⟩
theorem zadf (N : Nat) (hN : 2000 < N) (t : DataType) (hk : t.Kind = 2) (b : ByteArray) (hb : 0 < b.size) (hb3 : b.size ≤ 15) (hl : (b.size : Int) = t.Length) :
 ∃ v a e, zbp N b = some (v, a, e) ∧ (match zqa t b with | some n => v.N = n ∧ e = 0 | none => e ≠ 0) := by
 have hd : zqa t b = z14 (zez (bl b)) t.Length := by unfold zqa; rw [ifn, ifn]
 have hzl : (zez (bl b)).length = b.size + 1 := by unfold zez zhf; rw [lna, lnm, lns, zax]
 have hzs : zoa (zez (bl b)) = (((bl b).getD (b.size - 1) 0).toNat / 16 : Nat) := by
  unfold zoa; rw [hzl, Nat.add_sub_cancel]; unfold zez; have hl2 : (zhf (bl b)).length = b.size := by unfold zhf; rw [lnm, zax]
  rw [gdd, List.getElem?_append_right (by omega), hl2, Nat.sub_self]; rfl
 have hzd : ∀ i, i < b.size → ∀ x, (bl b)[i]? = some x → (zez (bl b)).getD i 0 = ((x.toNat % 16 : Nat) : Int) := fun i hi x hx => by
  have hl2 : (zhf (bl b)).length = b.size := by unfold zhf; rw [lnm, zax]
  unfold zez; rw [gdd, List.getElem?_append_left (by omega)]; unfold zhf; rw [List.getElem?_map, hx]; rfl
 have hzt : (zez (bl b)).take b.size = zhf (bl b) := by
  have hl2 : (zhf (bl b)).length = b.size := by unfold zhf; rw [lnm, zax]
  unfold zez; rw [List.take_append_of_le_length (by omega), List.take_of_length_le (by omega)]
 have hx1 : (bl b)[b.size - 1]? = some ((bl b).getD (b.size - 1) 0) := zwi (by rw [zax]; omega)
 have hlb := ((bl b).getD (b.size - 1) 0).toNat_lt
 generalize hS : ((bl b).getD (b.size - 1) 0).toNat / 16 = S at *
 have hS16 : S < 16 := by omega
 rw [hd]
 unfold zbp
 have lp := zbh (f := zbp.r0 N) (fun i => (b, zgs ((zhf (bl b)).take i), (if i = b.size then (S : Int) else 15), (i : Int), zul))
  (fun i => if (decide ((zez (bl b)).getD i 0 > 9) || (decide (i = b.size - 1) && decide ((S : Int) < 10))) = true then some (zul, (i : Int), (21 : Int)) else none) b.size
  (fun i hi => by
   obtain ⟨x, hx⟩ : ∃ x, (bl b)[i]? = some x := zfx (by rw [zax]; exact hi); have hxl := x.toNat_lt; have hnx : (zhf (bl b))[i]? = some ((x.toNat % 16 : Nat) : Int) := by unfold zhf; rw [List.getElem?_map, hx]; rfl
   have hf := zrc ((zhf (bl b)).take i) _ (List.reverse_reverse _).symm fun d hd => by
    obtain ⟨y, _, rfl⟩ := List.mem_map.1 (List.mem_of_mem_take hd); omega
   have hpow : 10 ^ ((zhf (bl b)).take i).length ≤ 10 ^ 15 := zcv (by rw [lnt]; omega); have hm : (w6 (x.toNat : Int)).tmod 16 = ((x.toNat % 16 : Nat) : Int) := by rw [w6e, tme]; omega
   have hm2 : ((x.toNat : Int).tmod 16) = ((x.toNat % 16 : Nat) : Int) := by rw [tme]; omega
   have hdv : w6 ((w6 (x.toNat : Int)).tdiv 16) = ((x.toNat / 16 : Nat) : Int) := by rw [w6e (n := (x.toNat : Int)), tde, w6e]; omega
   have hnext : zgs ((zhf (bl b)).take (i + 1)) = 10 * zgs ((zhf (bl b)).take i) + ((x.toNat % 16 : Nat) : Int) := by rw [ze4 _ _ hnx, ztj]; omega
   rw [hnext]; generalize zgs ((zhf (bl b)).take i) = F at *; rw [hzd i hi x hx]; simp only [zbp.r0, zbp.b0, dct (show (i : Int) < (b.size : Int) by omega), ctr, zkc, hx, obs, hm, hm2, hdv]; rw [w6e (n := (b.size : Int) - 1), w6e (n := (i : Int) + 1), w6e (n := 10 * F), w6e (n := 10 * F + ((x.toNat % 16 : Nat) : Int)), zcn]
   by_cases hi1 : i = b.size - 1
   · have hxe : x = (bl b).getD (b.size - 1) 0 := by rw [hi1] at hx; rw [hx1] at hx; exact (Option.some.inj hx).symm
     have hxS : x.toNat / 16 = S := by rw [hxe]; exact hS
     rw [dct (show (i : Int) = (b.size : Int) - 1 by omega), dct hi1, hxS, ifn (show ¬ i = b.size by omega), ifp (show i + 1 = b.size by omega)]; simp only [ctr, Bool.true_and]; cases h1 : decide ((S : Int) < 10) <;> cases h2 : decide (((x.toNat % 16 : Nat) : Int) > 9) <;> rfl
   · rw [dcf (show ¬ (i : Int) = (b.size : Int) - 1 by omega), dcf hi1, ifn (show ¬ i = b.size by omega), ifn (show ¬ i + 1 = b.size by omega)]; simp only [cfa, Bool.false_and, Bool.or_false]; cases h2 : decide (((x.toNat % 16 : Nat) : Int) > 9) <;> rfl)
  (by simp only [zbp.r0, zbp.b0, dcf (show ¬ (b.size : Int) < (b.size : Int) by omega), cfa]) (N := N) (by omega)
 simp only [List.take_zero, nc0] at lp
 rw [show zgs [] = 0 from rfl, ifn (show ¬ 0 = b.size by omega)] at lp
 rw [show (⟨0, (⟨#[]⟩ : ByteArray)⟩ : Value) = zul from rfl, lp]
 simp only [obs]
 have ha := z9x b.size (fun i => decide ((zez (bl b)).getD i 0 > 9) || (decide (i = b.size - 1) && decide ((S : Int) < 10))) (fun i => (zul, (i : Int), (21 : Int)))
 have hc : (List.range b.size).any (fun i => decide ((zez (bl b)).getD i 0 > 9) || (decide (i = b.size - 1) && decide ((S : Int) < 10))) = ((List.range ((zez (bl b)).length - 1)).any (zla (zez (bl b)) t.Length) || decide (zoa (zez (bl b)) < 10)) := by
  rw [hzl, Nat.add_sub_cancel, hzs, Bool.eq_iff_iff, Bool.or_eq_true, List.any_eq_true, List.any_eq_true]; constructor
  · rintro ⟨i, hi, hb⟩
    rw [Bool.or_eq_true, Bool.and_eq_true] at hb; rcases hb with hb | ⟨_, hb⟩
    · exact .inl ⟨i, hi, by unfold zla; rw [hb, Bool.true_or]⟩
    · exact .inr hb
  · rintro (⟨i, hi, hb⟩ | hb)
    · refine ⟨i, hi, ?_⟩; unfold zla at hb; rw [Bool.or_eq_true] at hb; rcases hb with hb | hb
      · rw [hb, Bool.true_or]
      · rw [Bool.and_eq_true] at hb; have h2 := of_decide_eq_true hb.2; rw [hzl] at h2; omega
    · exact ⟨b.size - 1, by rw [List.mem_range]; omega, by rw [hb]; simp⟩
 rw [ha] at hc
 unfold z14
 cases hf : (List.range b.size).findSome? (fun i => if (decide ((zez (bl b)).getD i 0 > 9) || (decide (i = b.size - 1) && decide ((S : Int) < 10))) = true then some (zul, (i : Int), (21 : Int)) else none) with
 | some r =>
  obtain ⟨i, _, hi⟩ := eof hf; split at hi
  · cases hi; rw [hf] at hc; have hc' : ((List.range ((zez (bl b)).length - 1)).any (zla (zez (bl b)) t.Length) || decide (zoa (zez (bl b)) < 10)) = true := hc.symm; rw [Bool.or_eq_true, decide_eq_true_eq] at hc'; rw [ifp hc']; exact ⟨_, _, _, rfl, by decide⟩
  · cases hi
 | none =>
  rw [hf] at hc; have hc' : ((List.range ((zez (bl b)).length - 1)).any (zla (zez (bl b)) t.Length) || decide (zoa (zez (bl b)) < 10)) = false := hc.symm; rw [Bool.or_eq_false_iff, decide_eq_false_iff_not] at hc'; have hf := zrc (zhf (bl b)) _ (List.reverse_reverse _).symm fun d hd => by
   obtain ⟨y, _, rfl⟩ := List.mem_map.1 hd; omega
  have hpow : 10 ^ (zhf (bl b)).length ≤ 10 ^ 15 := zcv (by unfold zhf; rw [lnm, zax]; omega); have hnc : ¬ ((List.range ((zez (bl b)).length - 1)).any (zla (zez (bl b)) t.Length) = true ∨ zoa (zez (bl b)) < 10) := by rw [hc'.1]; simpa using hc'.2
  rw [ifn hnc, hzl, Nat.add_sub_cancel, hzt, hzs]; simp only [zb5, if_true]; rw [show (zhf (bl b)).take b.size = zhf (bl b) from List.take_of_length_le (by unfold zhf; rw [lnm, zax]; omega), z6u _ _ ⟨by omega, by omega⟩]; refine ⟨_, _, _, rfl, ?_, rfl⟩
  by_cases h1 : (S : Int) = 11 ∨ (S : Int) = 13
  · rw [ifp h1]
  · rw [ifn h1]
theorem zab3 (N : Nat) (hN : 2000 < N) (t : DataType) (hk : t.Kind = 1) (b : ByteArray) (hl1 : 1 ≤ t.Length ∧ t.Length ≤ 15) (hl : (b.size : Int) = t.Length / 2 + 1) :
 ∃ v a e, zbn N t b = some (v, a, e) ∧ (match zqa t b with | some n => v.N = n ∧ e = 0 | none => e ≠ 0) := by
 have hd : zqa t b = z14 (zkt (bl b)) t.Length := by unfold zqa; rw [ifn, ifp hk]
 have hzl : (zkt (bl b)).length = 2 * b.size := by rw [zt6, zax]
 have hr := (zve (l := bl b)).1
 rw [hd]
 have zc := z89 (bl b)
 generalize zkt (bl b) = l at *
 have hS : zoa l = l.getD (2 * b.size - 1) 0 := by unfold zoa; rw [hzl]
 generalize zoa l = S at *
 unfold zbn
 have lp := zbh (f := zbn.r0 N) (fun i => (b, (if i = 2 * b.size then (if S = 11 ∨ S = 13 then -zgs (l.take (2 * b.size - 1)) else zgs (l.take (2 * b.size - 1))) else zgs (l.take i)), (i : Int), t, zul))
  (fun i => if (if i = 2 * b.size - 1 then decide (S < 10) else (decide (l.getD i 0 > 9) || (decide (i = 0) && (decide (t.Length % 2 = 0) && decide (l.getD i 0 ≠ 0))))) = true then some (zul, ((i / 2 : Nat) : Int), (21 : Int)) else none) (2 * b.size)
  (fun i hi => by
   obtain ⟨x, hx⟩ : ∃ x, (bl b)[i / 2]? = some x := zfx (by rw [zax]; omega); have hxl := x.toNat_lt; have hxi := zc i x hx; have hxd : l.getD i 0 = ((if i % 2 = 1 then x.toNat % 16 else x.toNat / 16 : Nat) : Int) := by rw [gdd, hxi]; rfl
   have hf := zrc (l.take i) _ (List.reverse_reverse _).symm fun d hd => hr d (List.mem_of_mem_take hd); have hpow : 10 ^ (l.take i).length ≤ 10 ^ 16 := zcv (by rw [lnt]; omega); have hm : ((w6 (x.toNat : Int)).tmod 16) = ((x.toNat % 16 : Nat) : Int) := by rw [w6e, tme]; omega
   have hdv : w6 ((w6 (x.toNat : Int)).tdiv 16) = ((x.toNat / 16 : Nat) : Int) := by rw [w6e (n := (x.toNat : Int)), tde, w6e]; omega
   have hnext : zgs (l.take (i + 1)) = 10 * zgs (l.take i) + l.getD i 0 := by rw [ze4 _ _ hxi, ztj, hxd]; omega
   have hidx : w6 ((i : Int).tdiv 2) = ((i / 2 : Nat) : Int) := by rw [tde, w6e]; omega
   have hpar : ((i : Int).tmod 2 == 1) = decide (i % 2 = 1) := by rw [tme, zcn]; simp only [decide_eq_decide]; omega
   have hev : (t.Length.tmod 2 == 0) = decide (t.Length % 2 = 0) := by rw [tme, zcn]
   have hw1 : w6 (2 * (b.size : Int)) = ((2 * b.size : Nat) : Int) := by rw [w6e]; omega
   have hw2 : w6 (((2 * b.size : Nat) : Int) - 1) = ((2 * b.size - 1 : Nat) : Int) := by rw [w6e]; omega
   have hi0 : ((i : Int) == 0) = decide (i = 0) := by rw [zcn]; simp only [decide_eq_decide]; omega
   have hil : ((i : Int) == ((2 * b.size - 1 : Nat) : Int)) = decide (i = 2 * b.size - 1) := by rw [zcn]; simp only [decide_eq_decide]; omega
   have sg := z6u (zgs (l.take i)) (l.getD i 0) ⟨by omega, by omega⟩; rw [hxd] at hnext sg ⊢; simp only [zbn.r0, zbn.b0, hw1, hw2, dct (show (i : Int) < ((2 * b.size : Nat) : Int) by omega), ctr, hidx, zkc, hx, obs, hm, hdv, hpar, hev, hi0, hil]; rw [w6e (n := (i : Int) + 1), ifn (show ¬ i = 2 * b.size by omega)]
   by_cases hp : i % 2 = 1
   · rw [ifp hp] at hnext sg; rw [dct hp, ctr]; simp only [ifp hp]; have hH : x.toNat % 16 < 16 := by omega
     by_cases hl : i = 2 * b.size - 1
     · have hSx : S = ((x.toNat % 16 : Nat) : Int) := by rw [hS, ← hl, hxd, ifp hp]
       rw [dct hl, ifp hl, ifp (show i + 1 = 2 * b.size by omega), ← hl, hSx, sg, dcf (show ¬ i = 0 by omega)]; simp only [ctr, cfa, obs]; cases h1 : decide (((x.toNat % 16 : Nat) : Int) < 10) <;> rfl
     · rw [dcf hl, ifn hl, ifn (show ¬ i + 1 = 2 * b.size by omega), hnext, dcf (show ¬ i = 0 by omega)]; generalize x.toNat % 16 = h at *; generalize zgs (l.take i) = F at *; simp only [ctr, cfa, obs, Bool.false_and, Bool.or_false]; rw [w6e (n := 10 * F), w6e (n := 10 * F + (h : Int))]; cases h1 : decide ((h : Int) > 9) <;> rfl
   · rw [ifn hp] at hnext sg; rw [dcf hp, cfa]; simp only [ifn hp]; have hl : ¬ i = 2 * b.size - 1 := by omega
     have hH : x.toNat / 16 < 16 := by omega
     rw [dcf hl, ifn hl, ifn (show ¬ i + 1 = 2 * b.size by omega), hnext]; generalize x.toNat / 16 = h at *; generalize zgs (l.take i) = F at *; simp only [ctr, cfa, obs]; rw [w6e (n := 10 * F), w6e (n := 10 * F + (h : Int)), zd1]; cases h1 : decide ((h : Int) > 9) <;> cases h2 : decide (i = 0) <;> cases h3 : decide (t.Length % 2 = 0) <;> cases h4 : decide ((h : Int) ≠ 0) <;> rfl)
  (by
   have hw1 : w6 (2 * (b.size : Int)) = ((2 * b.size : Nat) : Int) := by rw [w6e]; omega
   simp only [zbn.r0, zbn.b0, hw1, dcf (show ¬ ((2 * b.size : Nat) : Int) < ((2 * b.size : Nat) : Int) by omega), cfa]) (N := N) (by omega)
 simp only [List.take_zero, nc0, if_true] at lp
 rw [show zgs [] = 0 from rfl, ifn (show ¬ 0 = 2 * b.size by omega)] at lp
 rw [show (⟨0, (⟨#[]⟩ : ByteArray)⟩ : Value) = zul from rfl, lp]
 simp only [obs]
 have ha := z9x (2 * b.size) (fun i => (if i = 2 * b.size - 1 then decide (S < 10) else (decide (l.getD i 0 > 9) || (decide (i = 0) && (decide (t.Length % 2 = 0) && decide (l.getD i 0 ≠ 0)))))) (fun i => (zul, ((i / 2 : Nat) : Int), (21 : Int)))
 have hc : (List.range (2 * b.size)).any (fun i => (if i = 2 * b.size - 1 then decide (S < 10) else (decide (l.getD i 0 > 9) || (decide (i = 0) && (decide (t.Length % 2 = 0) && decide (l.getD i 0 ≠ 0)))))) = ((List.range (l.length - 1)).any (zla l t.Length) || decide (S < 10)) := by
  rw [hzl, Bool.eq_iff_iff, Bool.or_eq_true, List.any_eq_true, List.any_eq_true]; have key : ∀ i, i < 2 * b.size - 1 → (decide (l.getD i 0 > 9) || (decide (i = 0) && (decide (t.Length % 2 = 0) && decide (l.getD i 0 ≠ 0)))) = zla l t.Length i := by
   intro i hi; unfold zla; have hxi : l[i]? = some (l.getD i 0) := by rw [gdd, lge (by omega)]; rfl
   have := hr _ (lmg hxi); rw [hzl]; rw [Bool.eq_iff_iff]; simp only [Bool.or_eq_true, Bool.and_eq_true, decide_eq_true_eq]; omega
  constructor
  · rintro ⟨i, hi, hb⟩
    have hi' := List.mem_range.1 hi; split at hb
    · exact .inr hb
    · rw [key i (by omega)] at hb; exact .inl ⟨i, List.mem_range.2 (by omega), hb⟩
  · rintro (⟨i, hi, hb⟩ | hb)
    · have hi' := List.mem_range.1 hi; refine ⟨i, List.mem_range.2 (by omega), ?_⟩; rw [ifn, key i hi']; exact hb
    · exact ⟨2 * b.size - 1, List.mem_range.2 (by omega), by rw [ifp rfl]; exact hb⟩
 rw [ha] at hc
 unfold z14
 rw [show zoa l = S by unfold zoa; rw [hzl]; exact hS.symm]
 cases hf : (List.range (2 * b.size)).findSome? (fun i => if (if i = 2 * b.size - 1 then decide (S < 10) else (decide (l.getD i 0 > 9) || (decide (i = 0) && (decide (t.Length % 2 = 0) && decide (l.getD i 0 ≠ 0))))) = true then some (zul, ((i / 2 : Nat) : Int), (21 : Int)) else none) with
 | some r =>
  obtain ⟨i, _, hi⟩ := eof hf
  by_cases hq : (if i = 2 * b.size - 1 then decide (S < 10) else (decide (l.getD i 0 > 9) || (decide (i = 0) && (decide (t.Length % 2 = 0) && decide (l.getD i 0 ≠ 0))))) = true
  · rw [ifp hq] at hi; cases hi; rw [hf] at hc; have hc' : ((List.range (l.length - 1)).any (zla l t.Length) || decide (S < 10)) = true := hc.symm; rw [Bool.or_eq_true, decide_eq_true_eq] at hc'; rw [ifp hc']; exact ⟨_, _, _, rfl, by decide⟩
  · rw [ifn hq] at hi; cases hi
 | none =>
  rw [hf] at hc; have hc' : ((List.range (l.length - 1)).any (zla l t.Length) || decide (S < 10)) = false := hc.symm; rw [Bool.or_eq_false_iff, decide_eq_false_iff_not] at hc'; have hnc : ¬ ((List.range (l.length - 1)).any (zla l t.Length) = true ∨ S < 10) := by rw [hc'.1]; simpa using hc'.2
  rw [ifn hnc, hzl]; exact ⟨_, _, _, rfl, rfl, rfl⟩
theorem zab7 (N : Nat) (hN : 2000 < N) {t : DataType} (ht : zkz t) {b : ByteArray} (hb : (b.size : Int) = szE t) :
 ∃ v a e, zob N t b = some (v, a, e) ∧ (match zqa t b with | some n => v.N = n ∧ e = 0 | none => e ≠ 0) := by
 obtain ⟨⟨l1, l2⟩, l3, l4⟩ := zgq ht
 have hsz := zwb ht
 have ht' := ht
 obtain ⟨h0, h1, h2⟩ := ht'
 unfold zob
 rw [z19, h0]
 simp only [obs, bsf, cfa, zcn]
 rw [dcf (show ¬ t.Kind = 4 by omega), dcf (show ¬ t.Kind = 0 by omega), zt3 h0]
 simp only [obs, cfa]
 rw [hb]
 simp only [bsf, cfa]
 by_cases hk : t.Kind = 3
 · rw [dct hk, ctr]; have hs4 : b.size ≤ 4 ∧ 0 < b.size := by
    rw [hsz, ifn, ifp hk] at hb; split at hb <;> omega
   have hbig : zdv N b 0 (szE t) = some ((beV (bl b) : Nat) : Int) := by
    have := z2i N (by omega) b 0 b.size (by omega) (by omega) (by omega); rw [dr0, ← zax, List.take_length, zax, hb] at this; exact this
   obtain ⟨x0, hx0⟩ : ∃ x, (bl b)[0]? = some x := zfx (by rw [zax]; omega); have i0 : zhl b 0 = some x0 := by rw [show (0 : Int) = ((0 : Nat) : Int) from rfl, zkc, hx0]
   have hx00 : (bl b).getD 0 0 = x0 := by rw [gdd, hx0]; rfl
   have hp := z3u N (by omega) t.Length.toNat (by omega); rw [Int.toNat_of_nonneg (by omega)] at hp; have hp2 : 10 ^ t.Length.toNat ≤ 10 ^ 15 := zcv (by omega); have hp3 := zcz t.Length.toNat; have hv := z5j (bl b); have hv2 : 256 ^ (bl b).length ≤ 256 ^ 4 := Nat.pow_le_pow_right (by decide) (by rw [zax]; omega); rw [hbig, i0]; simp only [obs, zis, hp]; have hbd : zpo (bl b) = if 128 ≤ x0.toNat then (beV (bl b) : Int) - (256 ^ (bl b).length : Nat) else (beV (bl b) : Int) := by unfold zpo; rw [hx00]
   unfold zqa; rw [ifp hk, hbd]; have hsz8 : w6 (8 * szE t) = ((8 * b.size : Nat) : Int) := by rw [← hb, w6e]; omega
   rw [hsz8]; have hpow : (1 : Int) * 2 ^ (min (((8 * b.size : Nat) : Int)).toNat 64) = ((256 ^ (bl b).length : Nat) : Int) := by
    rw [itn, Nat.min_eq_left (by omega), Int.one_mul, zax, show (256 : Nat) = 2 ^ 8 from rfl, ← Nat.pow_mul, Int.natCast_pow]; rfl
   rw [hpow]; generalize 256 ^ (bl b).length = P at *; generalize 10 ^ t.Length.toNat = T at *; rw [w6e (n := (T : Int) - 1), w6e (n := 0 - ((T : Int) - 1)), w6e (n := (P : Int))]
   by_cases hx : 128 ≤ x0.toNat
   · rw [dct (show (x0.toNat : Int) ≥ 128 by omega), ctr, ifn, ifp hx, w6e, zie]; simp only [obs]
     by_cases hr : -(T : Int) < (beV (bl b) : Int) - (P : Int) ∧ (beV (bl b) : Int) - (P : Int) < (T : Int)
     · rw [ifp hr, zbj.2 ⟨by omega, by omega⟩]; exact ⟨_, _, _, rfl, rfl, rfl⟩
     · rw [ifn hr, show inB ((beV (bl b) : Int) - (P : Int)) (0 - ((T : Int) - 1)) ((T : Int) - 1) = false by
        cases hb : inB ((beV (bl b) : Int) - (P : Int)) (0 - ((T : Int) - 1)) ((T : Int) - 1) with
        | false => rfl
        | true => have := zbj.1 hb; omega]
       exact ⟨_, _, _, rfl, by decide⟩
   · rw [dcf (show ¬ (x0.toNat : Int) ≥ 128 by omega), cfa, ifn hx, zie]; simp only [obs]
     by_cases hr : -(T : Int) < (beV (bl b) : Int) ∧ (beV (bl b) : Int) < (T : Int)
     · rw [ifp hr, zbj.2 ⟨by omega, by omega⟩]; exact ⟨_, _, _, rfl, rfl, rfl⟩
     · rw [ifn hr, show inB ((beV (bl b) : Int)) (0 - ((T : Int) - 1)) ((T : Int) - 1) = false by
        cases hb : inB ((beV (bl b) : Int)) (0 - ((T : Int) - 1)) ((T : Int) - 1) with
        | false => rfl
        | true => have := zbj.1 hb; omega]
       exact ⟨_, _, _, rfl, by decide⟩
 · rw [dcf hk, cfa]
   by_cases hk2 : t.Kind = 2
   · rw [dct hk2, ctr]; have hl : (b.size : Int) = t.Length := by rw [hb, hsz, ifn, ifn hk]
     obtain ⟨v, a, e, g1, g2⟩ := zadf N hN t hk2 b (by omega) (by omega) hl; rw [g1]; exact ⟨_, _, _, rfl, g2⟩
   · rw [dcf hk2, cfa]; have hk1 : t.Kind = 1 := by omega
     obtain ⟨v, a, e, g1, g2⟩ := zab3 N hN t hk1 b ⟨l1, l2⟩ (by rw [hb, hsz, ifp hk1]); rw [g1]; exact ⟨_, _, _, rfl, g2⟩
set_option exponentiation.threshold 3000
theorem zs2 (l : List Int) (x : Int) : dv (l ++ [x]) = dv l + 10 ^ l.length * x.toNat := by
 rw [zxg]; simp [dv]
theorem zyd (l : List Int) (i : Nat) {x : Int} (h : l[i]? = some x) : dv (l.take (i + 1)) = dv (l.take i) + 10 ^ i * x.toNat := by
 have hl := (gei h).1
 rw [ze4 l i h, zs2, lnt, Nat.min_eq_left (Nat.le_of_lt hl)]
theorem zub (l : List Int) (i : Nat) {x : Int} (h : l[i]? = some x) : dv (l.drop i) = x.toNat + 10 * dv (l.drop (i + 1)) := by
 obtain ⟨h1, h2⟩ := gei h
 rw [List.drop_eq_getElem_cons h1, h2]; rfl
theorem zuc {l : List Int} (h : dok l) {x : Int} (h0 : 0 ≤ x) (h1 : x < 10) : dok (l ++ [x]) := zz7 h fun d hd => by
 rcases List.mem_cons.1 hd with rfl | hd
 · exact ⟨h0, h1⟩
 · cases hd
theorem zaao {l : List Int} (h : dok l) (hc : zrz l) (hl : l ≠ []) : 10 ^ (l.length - 1) ≤ dv l := by
 refine cbc fun hn => ?_
 have := (zj2 (dv l) (l.length - 1)).2 (by omega)
 rw [z5g h hc] at this
 have : l.length ≠ 0 := fun h => hl (List.length_eq_zero_iff.1 h)
 omega
theorem zabi {l : List Int} (h : dok l) (hg : l ≠ [] → 10 ^ (l.length - 1) ≤ dv l) : zrz l := by
 unfold zrz
 intro hlast
 have hne : l ≠ [] := by intro h; rw [h] at hlast; cases hlast
 have hg' := hg hne
 have hlen : l.length ≠ 0 := fun h => hne (List.length_eq_zero_iff.1 h)
 have hx : l[l.length - 1]? = some 0 := by rw [← List.getLast?_eq_getElem?]; exact hlast
 have := zyd l (l.length - 1) hx
 rw [show l.length - 1 + 1 = l.length by omega, List.take_length] at this
 have hlt := z5c (z4a h (l.length - 1))
 rw [lnt, Nat.min_eq_left (by omega)] at hlt
 simp only [Int.toNat_zero, Nat.mul_zero, Nat.add_zero] at this
 omega
theorem zvk {l : List Int} (h : dok l) {i : Nat} {x : Int} (hx : l[i]? = some x) : 0 ≤ x ∧ x < 10 := h x (lmg hx)
theorem zwd (N : Nat) (l : List Int) (h : dok l) (hN : l.length < N) (hl : l.length < 1000000) : zco N l = some (dg (dv l)) := by
 unfold zco
 obtain ⟨s', h1, h2⟩ := zom (f := zco.r0 N) (fun s => dok s ∧ dv s = dv l ∧ s.length < 1000000) (fun s => s.length) (fun s => s = dg (dv l))
  (fun s hs => by
   obtain ⟨s1, s2, s3⟩ := hs; simp only [zco.r0, zco.b0]
   by_cases h0 : s.length = 0
   · have hn : s = [] := List.length_eq_zero_iff.1 h0; right; rw [dcf (by omega)]; refine ⟨s, rfl, ?_⟩; rw [← s2, hn]; exact zok.symm
   · obtain ⟨x, hx⟩ : ∃ x, s[s.length - 1]? = some x := zfx (by omega); rw [dct (show (s.length : Int) > 0 by omega), w6e, show (s.length : Int) - 1 = ((s.length - 1 : Nat) : Int) by omega, zai, hx]; simp only [ctr, obs]
     by_cases hz : x = 0
     · left; rw [zcn, dct hz, ctr, ifp, ifp]; refine ⟨_, rfl, ⟨?_, ?_, ?_⟩, ?_⟩
       · rw [itn, show (0 : Int).toNat = 0 from rfl, dr0]; exact z4a s1 _
       · rw [itn, show (0 : Int).toNat = 0 from rfl, dr0, ← s2]; have := zyd s (s.length - 1) hx; rw [show s.length - 1 + 1 = s.length by omega, List.take_length, hz] at this; simp only [Int.toNat_zero, Nat.mul_zero, Nat.add_zero] at this; exact this.symm
       · rw [itn, show (0 : Int).toNat = 0 from rfl, dr0, lnt]; omega
       · rw [itn, show (0 : Int).toNat = 0 from rfl, dr0, lnt]; omega
     · right; rw [zcn, dcf hz, cfa]; refine ⟨s, rfl, ?_⟩; rw [← s2]; refine (z5g s1 ?_).symm; unfold zrz; rw [List.getLast?_eq_getElem?, hx]; intro h; exact hz (Option.some.inj h))
  (N := N) (s := l) ⟨h, rfl, hl⟩ hN
 rw [h1, h2]
 rfl
theorem zabb {n : Nat} (h : n ≠ 0) : (dg n).length = (dg (n / 10)).length + 1 := by rw [ztm h, lnc]
theorem z08 (N : Nat) (hN : 1000 < N) (n : Int) (hn : -1000000000000000 ≤ n ∧ n ≤ 1000000000000000) (z : Nat) (hz : z < 100) : zc9 N n (z : Int) = some ⟨decide (n < 0), dg (n.natAbs * 10 ^ z)⟩ := by
 unfold zc9 zha
 rw [ifp, ifp, za3 (by omega), ctr, ztt (by omega) (by omega), itn]
 simp only [obs]
 have hd19 : (dg n.natAbs).length ≤ 18 := (zj2 _ 18).2 (by omega)
 obtain ⟨s', h1, h2⟩ := zom (f := zc9.r0 N) (fun s => ∃ (l : List Int) (x : Nat), s = (n, l, (x : Int), (⟨false, []⟩ : zJ)) ∧ dok l ∧ dv l + 10 ^ l.length * x = n.natAbs * 10 ^ z ∧ l.length + (dg x).length ≤ 200 ∧ x ≤ 1000000000000000)
  (fun s => (dg s.2.2.1.toNat).length) (fun s => ∃ l : List Int, s = (n, l, 0, (⟨false, []⟩ : zJ)) ∧ dok l ∧ dv l = n.natAbs * 10 ^ z ∧ l.length ≤ 200)
  (fun s hs => by
   obtain ⟨l, x, rfl, s1, s2, s3, s4⟩ := hs; simp only [zc9.r0, zc9.b0]
   by_cases h0 : x = 0
   · right; subst h0; refine ⟨_, rfl, l, rfl, s1, by rw [← s2]; simp, by omega⟩
   · left; have hl := zabb h0; rw [dct (show (x : Int) > 0 by omega), ctr, za3 (by simp only [lnc, ln0]; omega), ctr, tme, tde, w6e]; refine ⟨_, rfl, ⟨l ++ [((x % 10 : Nat) : Int)], x / 10, ?_, zuc s1 (by omega) (by omega), ?_, ?_, by omega⟩, ?_⟩
     · rw [show (x : Int) % 10 = ((x % 10 : Nat) : Int) by omega, show (x : Int) / 10 = ((x / 10 : Nat) : Int) by omega]
     · rw [zs2, itn, lna, lns, Nat.pow_succ, ← s2, Nat.mul_assoc, Nat.add_assoc, ← Nat.mul_add]
       congr 2
       omega
     · rw [lna, lns]; omega
     · show (dg ((x : Int) / 10).toNat).length < (dg ((x : Int)).toNat).length; rw [itn, show ((x : Int) / 10).toNat = x / 10 by omega]; omega)
  (N := N) (s := (n, List.replicate z 0, ((n.natAbs : Nat) : Int), (⟨false, []⟩ : zJ))) ⟨List.replicate z 0, n.natAbs, rfl, zvj z, by rw [zwz, lnr, Nat.zero_add, Nat.mul_comm], by rw [lnr]; omega, by omega⟩ (by show (dg (((n.natAbs : Nat) : Int)).toNat).length < N; rw [itn]; omega)
 obtain ⟨l, rfl, l1, l2, l3⟩ := h2
 rw [h1]
 simp only [obs]
 rw [zwd N l l1 (by omega) (by omega), l2]
 rfl
theorem zk1 {l : List Int} {i : Nat} (h : l.length ≤ i) : dv (l.drop i) = 0 := by rw [List.drop_of_length_le h]; rfl
theorem zads (O c x y A B T P : Nat) (hP : O + P * (c + (x + 10 * A) + (y + 10 * B)) = T) : O + P * ((c + x + y) % 10) + P * 10 * ((c + x + y) / 10 + A + B) = T := by
 rw [← hP, Nat.mul_assoc, Nat.add_assoc, ← Nat.mul_add]
 congr 2
 omega
theorem z99 (N : Nat) (hN : 4000 < N) {a b : List Int} (ha : dok a) (hb : dok b) (la : a.length ≤ 1000) (lb : b.length ≤ 1000) :
 ∃ r, zdg N a b = some r ∧ dok r ∧ dv r = dv a + dv b ∧ r.length ≤ max a.length b.length + 1 ∧ (zrz a → zrz b → r = dg (dv a + dv b)) := by
 unfold zdg
 obtain ⟨s', h1, h2⟩ := zom (f := zdg.r0 N)
  (fun s => ∃ (o : List Int) (c i : Nat), s = (a, b, o, (c : Int), (i : Int)) ∧ o.length = i ∧ dok o ∧ c ≤ 1 ∧ dv o + 10 ^ i * (c + dv (a.drop i) + dv (b.drop i)) = dv a + dv b ∧ (i ≤ max a.length b.length ∨ (i = max a.length b.length + 1 ∧ c = 0 ∧ 10 ^ (max a.length b.length) ≤ dv o)))
  (fun s => 2 * (max a.length b.length - s.2.2.2.2.toNat) + s.2.2.2.1.toNat) (fun s => ∃ (o : List Int), s.2.2.1 = o ∧ dok o ∧ dv o = dv a + dv b ∧ o.length ≤ max a.length b.length + 1 ∧ (o.length ≤ max a.length b.length ∨ 10 ^ (o.length - 1) ≤ dv o) ∧ max a.length b.length ≤ o.length)
  (fun s hs => by
   obtain ⟨o, c, i, rfl, s1, s2, s3, s4, s5⟩ := hs; simp only [zdg.r0, zdg.b0]; have hg : ((cond (decide ((i : Int) < (a.length : Int))) (some true) (some (decide ((i : Int) < (b.length : Int))))).bind fun g1001 => (cond g1001 (some true) (some (decide ((c : Int) > 0))))) = some (decide (i < a.length ∨ i < b.length ∨ 0 < c)) := by
    by_cases h1 : i < a.length
    · rw [dct (show (i : Int) < (a.length : Int) by omega), dct (show i < a.length ∨ i < b.length ∨ 0 < c by omega)]; rfl
    · rw [dcf (show ¬ (i : Int) < (a.length : Int) by omega)]
      by_cases h2 : i < b.length
      · rw [dct (show (i : Int) < (b.length : Int) by omega), dct (show i < a.length ∨ i < b.length ∨ 0 < c by omega)]; rfl
      · rw [dcf (show ¬ (i : Int) < (b.length : Int) by omega)]
        by_cases h3 : 0 < c
        · rw [dct (show (c : Int) > 0 by omega), dct (show i < a.length ∨ i < b.length ∨ 0 < c by omega)]; rfl
        · rw [dcf (show ¬ (c : Int) > 0 by omega), dcf (by omega)]; rfl
   rw [← Option.bind_assoc, hg]; simp only [obs]
   by_cases hgo : i < a.length ∨ i < b.length ∨ 0 < c
   · left; rw [dct hgo, ctr]; have hi : i ≤ max a.length b.length := by
      rcases s5 with s5 | ⟨s5, s6, _⟩ <;> omega
     have hroom : ∀ x : Int, Nat.ble ((o.length + ([x] : List Int).length) * 8) zbr = true := fun x => za3 (by simp only [lnc, ln0]; omega); obtain ⟨x, A, hx1, hx2⟩ : ∃ (x A : Nat), dv (a.drop i) = x + 10 * A ∧ (dv (a.drop (i + 1)) = A ∧ x < 10 ∧ (if i < a.length then a[i]? = some (x : Int) else x = 0)) := by
      by_cases h : i < a.length
      · obtain ⟨x, hx⟩ : ∃ x, a[i]? = some x := zfx h; have hb := zvk ha hx; have hdr := zub a i hx; exact ⟨x.toNat, dv (a.drop (i + 1)), hdr, rfl, by omega, by rw [ifp h, hx]; congr 1; omega⟩
      · exact ⟨0, 0, by rw [zk1 (by omega)], by rw [zk1 (by omega)], by omega, by rw [ifn h]⟩
     obtain ⟨y, B, hy1, hy2⟩ : ∃ (y B : Nat), dv (b.drop i) = y + 10 * B ∧ (dv (b.drop (i + 1)) = B ∧ y < 10 ∧ (if i < b.length then b[i]? = some (y : Int) else y = 0)) := by
      by_cases h : i < b.length
      · obtain ⟨x, hx⟩ : ∃ x, b[i]? = some x := zfx h; have hb := zvk hb hx; have hdr := zub b i hx; exact ⟨x.toNat, dv (b.drop (i + 1)), hdr, rfl, by omega, by rw [ifp h, hx]; congr 1; omega⟩
      · exact ⟨0, 0, by rw [zk1 (by omega)], by rw [zk1 (by omega)], by omega, by rw [ifn h]⟩
     obtain ⟨hA, hx3, hx4⟩ := hx2; obtain ⟨hB, hy3, hy4⟩ := hy2; rw [hx1, hy1] at s4; have alg := zads _ _ _ _ _ _ _ _ s4; refine ⟨(a, b, o ++ [(((c + x + y) % 10 : Nat) : Int)], (((c + x + y) / 10 : Nat) : Int), ((i + 1 : Nat) : Int)), ?_, ⟨o ++ [(((c + x + y) % 10 : Nat) : Int)], (c + x + y) / 10, i + 1, rfl, by rw [lna, lns, s1], zuc s2 (by omega) (by omega), by omega, ?_, ?_⟩, ?_⟩
     · have fin : ∀ v : Int, v = ((c + x + y : Nat) : Int) → (cond (Nat.ble ((o.length + ([v.tmod 10] : List Int).length) * 8) zbr) (some (Stp.again (a, b, o ++ [v.tmod 10], w6 (v.tdiv 10), w6 ((i : Int) + 1)))) none) = some (.again (a, b, o ++ [(((c + x + y) % 10 : Nat) : Int)], (((c + x + y) / 10 : Nat) : Int), ((i + 1 : Nat) : Int))) := by
        intro v hv; rw [hroom, ctr, hv, tme, tde, w6e, w6e]
        congr 1
       by_cases h1 : i < a.length
       · rw [ifp h1] at hx4; rw [dct (show (i : Int) < (a.length : Int) by omega), ctr, zai, hx4, obs]
         by_cases h2 : i < b.length
         · rw [ifp h2] at hy4; rw [dct (show (i : Int) < (b.length : Int) by omega), ctr, zai, hy4, obs]; refine fin _ ?_; rw [w6e (n := (c : Int) + (x : Int)), w6e]; omega
         · rw [ifn h2] at hy4; rw [dcf (show ¬ (i : Int) < (b.length : Int) by omega), cfa]; refine fin _ ?_; rw [w6e]; omega
       · rw [ifn h1] at hx4; rw [dcf (show ¬ (i : Int) < (a.length : Int) by omega), cfa]
         by_cases h2 : i < b.length
         · rw [ifp h2] at hy4; rw [dct (show (i : Int) < (b.length : Int) by omega), ctr, zai, hy4, obs]; refine fin _ ?_; rw [w6e]; omega
         · rw [ifn h2] at hy4; rw [dcf (show ¬ (i : Int) < (b.length : Int) by omega), cfa]; refine fin _ ?_; omega
     · rw [zs2, s1, itn, hA, hB, Nat.pow_succ]; exact alg
     · by_cases him : i = max a.length b.length
       · right; have hx0 : x = 0 := by rw [ifn] at hx4; exact hx4
         have hy0 : y = 0 := by rw [ifn] at hy4; exact hy4
         have hc1 : c = 1 := by omega
         refine ⟨by omega, by omega, ?_⟩; rw [zs2, s1, itn, hx0, hy0, hc1, him]; omega
       · left; omega
     · show 2 * (max a.length b.length - ((i + 1 : Nat) : Int).toNat) + (((c + x + y) / 10 : Nat) : Int).toNat < 2 * (max a.length b.length - (i : Int).toNat) + (c : Int).toNat; simp only [itn]
       by_cases him : i = max a.length b.length
       · have hx0 : x = 0 := by rw [ifn] at hx4; exact hx4
         have hy0 : y = 0 := by rw [ifn] at hy4; exact hy4
         omega
       · omega
   · right; rw [dcf hgo, cfa]; rw [zk1 (by omega), zk1 (by omega), show c = 0 by omega] at s4; refine ⟨_, rfl, o, rfl, s2, by omega, ?_, ?_, by omega⟩
     · rcases s5 with s5 | ⟨s5, _, _⟩ <;> omega
     · rcases s5 with s5 | ⟨s5, _, s7⟩
       · left; omega
       · right; rw [s1, s5, Nat.add_sub_cancel]; exact s7)
  (N := N) (s := (a, b, [], 0, 0)) ⟨[], 0, 0, rfl, rfl, fun d hd => (List.not_mem_nil hd).elim, by omega, by simp [dv], .inl (by omega)⟩ (by show 2 * (max a.length b.length - (0 : Int).toNat) + (0 : Int).toNat < N; simp only [Int.toNat_zero]; omega)
 obtain ⟨o, ho, o1, o2, o3, o4, o5⟩ := h2
 rw [h1]
 simp only [obs, ho]
 refine ⟨o, rfl, o1, o2, o3, fun hca hcb => ?_⟩
 rw [← o2]
 refine (z5g o1 (zabi o1 fun hne => ?_)).symm
 rcases o4 with o4 | o4
 · have hol : o.length ≠ 0 := fun h => hne (List.length_eq_zero_iff.1 h); have hm : o.length = a.length ∨ o.length = b.length := by omega
   rcases hm with hm | hm
   · have := zaao ha hca (fun h => by rw [h] at hm; exact hol hm); rw [hm, o2]; omega
   · have := zaao hb hcb (fun h => by rw [h] at hm; exact hol hm); rw [hm, o2]; omega
 · exact o4
theorem z3v (N : Nat) (hN : 4000 < N) (a b : Nat) (ha : a < 10 ^ 900) (hb : b < 10 ^ 900) : zdg N (dg a) (dg b) = some (dg (a + b)) := by
 obtain ⟨r, h1, _, _, _, h2⟩ := z99 N hN (zne a) (zne b) (Nat.le_trans ((zj2 a 900).2 ha) (by decide)) (Nat.le_trans ((zj2 b 900).2 hb) (by decide))
 rw [h1, h2 (zaap a) (zaap b), zn6, zn6]
theorem z3w (N : Nat) (hN : 4000 < N) (a b : Nat) (ha : a < 10 ^ 900) (hb : b < 10 ^ 900) : zdj N (dg a) (dg b) = some (zkm a b) := by
 have la : (dg a).length ≤ 900 := (zj2 a 900).2 ha
 have lb : (dg b).length ≤ 900 := (zj2 b 900).2 hb
 unfold zdj
 by_cases hl : (dg a).length = (dg b).length
 · rw [zd1, dcf (by omega), cfa]; have key := zacm (f := zdj.r0 N) (fun s => ∃ i : Nat, s = (dg a, dg b, (i : Int) - 1) ∧ i ≤ (dg a).length ∧ (dg a).drop i = (dg b).drop i) (fun s => (s.2.2 + 1).toNat) (fun r => r = zkm a b) (fun s => dg a = dg b)
    (fun s hs => by
     obtain ⟨i, rfl, s1, s2⟩ := hs; simp only [zdj.r0, zdj.b0]; cases i with
     | zero =>
      right; left; refine ⟨_, rfl, ?_⟩; rw [dr0, dr0] at s2; exact s2
     | succ i =>
      obtain ⟨x, hx⟩ : ∃ x, (dg a)[i]? = some x := zfx (by omega); obtain ⟨y, hy⟩ : ∃ y, (dg b)[i]? = some y := zfx (by omega); rw [dct (show ((i + 1 : Nat) : Int) - 1 ≥ 0 by omega), ctr, show ((i + 1 : Nat) : Int) - 1 = (i : Int) by omega, zai, zai, hx, hy]; simp only [obs, zjs]; obtain ⟨hxl, hxe⟩ := gei hx; obtain ⟨hyl, hye⟩ := gei hy
      by_cases hxy : x = y
      · left; rw [zd1, dcf (by omega), cfa, w6e]; refine ⟨_, rfl, ⟨i, rfl, by omega, ?_⟩, ?_⟩
        · rw [List.drop_eq_getElem_cons hxl, List.drop_eq_getElem_cons hyl, hxe, hye, hxy, s2]
        · show ((i : Int) - 1 + 1).toNat < ((i : Int) + 1).toNat; omega
      · right; right; rw [zd1, dct hxy, ctr]; refine ⟨_, rfl, ?_⟩; unfold zkm
        by_cases hlt : x < y
        · have := zact (zne a) (zne b) i hxl hyl s2 (by rw [hxe, hye]; exact hlt); rw [zn6, zn6] at this; rw [dcf (by omega), ifp this]; decide
        · have := zact (zne b) (zne a) i hyl hxl s2.symm (by rw [hxe, hye]; omega); rw [zn6, zn6] at this; rw [dct (by omega), ifn, ifp this]; decide)
    (N := N) (s := (dg a, dg b, ((dg a).length : Int) - 1)) ⟨(dg a).length, rfl, Nat.le_refl _, by rw [List.drop_of_length_le (Nat.le_refl _), List.drop_of_length_le (by omega)]⟩ (by show (((dg a).length : Int) - 1 + 1).toNat < N; omega)
   rw [w6e]; rcases key with ⟨s', h1, h2⟩ | ⟨r, h1, h2⟩
   · have e := congrArg dv h2; rw [zn6, zn6] at e; rw [h1, e]; unfold zkm; rw [ifn, ifn]; rfl
   · rw [h1, h2]; rfl
 · rw [zd1, dct (by omega), ctr, zjs]; simp only [obs]; unfold zkm
   by_cases hlt : (dg a).length < (dg b).length
   · rw [dcf (by omega), ifp (z5f hlt)]; rfl
   · have h2 := z5f (a := b) (b := a) (by omega); rw [dct (by omega), ifn, ifp h2]; rfl
theorem z30 (N : Nat) (hN : 4000 < N) (a b : Nat) (ha : a < 10 ^ 900) (hba : b ≤ a) : zdx N (dg a) (dg b) = some (dg (a - b)) := by
 have la : (dg a).length ≤ 900 := (zj2 a 900).2 ha
 have lab : (dg b).length ≤ (dg a).length := (zj2 b _).2 (Nat.lt_of_le_of_lt hba ((zj2 a _).1 (Nat.le_refl _)))
 have hA := zne a
 have hB := zne b
 have vA := zn6 a
 have vB := zn6 b
 unfold zdx
 generalize dg a = A at *
 generalize dg b = B at *
 obtain ⟨s', h1, h2⟩ := zom (f := zdx.r0 N)
  (fun s => ∃ (o : List Int) (c i : Nat), s = (A, B, o, (c : Int), (i : Int)) ∧ o.length = i ∧ i ≤ A.length ∧ dok o ∧ c ≤ 1 ∧ dv o + dv (B.take i) = dv (A.take i) + 10 ^ i * c)
  (fun s => A.length - s.2.2.2.2.toNat) (fun s => ∃ c : Nat, dok s.2.2.1 ∧ s.2.2.1.length = A.length ∧ dv s.2.2.1 + b = a + 10 ^ A.length * c)
  (fun s hs => by
   obtain ⟨o, c, i, rfl, s1, s2, s3, s4, s5⟩ := hs; simp only [zdx.r0, zdx.b0]
   by_cases hi : i < A.length
   · left; obtain ⟨x, hx⟩ : ∃ x, A[i]? = some x := zfx hi; obtain ⟨x0, x1⟩ := zvk hA hx; have tA := zyd A i hx; have hroom : ∀ x : Int, Nat.ble ((o.length + ([x] : List Int).length) * 8) zbr = true := fun x => za3 (by simp only [lnc, ln0]; omega); rw [dct (show (i : Int) < (A.length : Int) by omega), ctr, zai, hx]; simp only [obs, zjs]; obtain ⟨y, hy1, hy2, hy3⟩ : ∃ y : Int, (0 ≤ y ∧ y < 10) ∧ dv (B.take (i + 1)) = dv (B.take i) + 10 ^ i * y.toNat ∧ (if i < B.length then B[i]? = some y else y = 0) := by
      by_cases h : i < B.length
      · obtain ⟨y, hy⟩ : ∃ y, B[i]? = some y := zfx h; exact ⟨y, zvk hB hy, zyd B i hy, by rw [ifp h]; exact hy⟩
      · exact ⟨0, by omega, by rw [List.take_of_length_le (by omega), List.take_of_length_le (by omega)]; simp, by rw [ifn h]⟩
     have fin : ∀ v : Int, v = x - (c : Int) - y → (cond (Nat.ble ((o.length + ([w6 (v + w6 (10 * cond (decide (v < 0)) 1 0))] : List Int).length) * 8) zbr) (some (Stp.again (A, B, o ++ [w6 (v + w6 (10 * cond (decide (v < 0)) 1 0))], cond (decide (v < 0)) (1 : Int) 0, w6 ((i : Int) + 1)))) none) = some (Stp.again (A, B, o ++ [if v < 0 then v + 10 else v], ((if v < 0 then 1 else 0 : Nat) : Int), ((i + 1 : Nat) : Int))) := by
      intro v hv; rw [hroom, ctr, w6e (n := (i : Int) + 1)]
      by_cases hneg : v < 0
      · rw [dct hneg, ifp hneg, ifp hneg, ctr, w6e (n := 10 * 1) (by decide) (by decide), w6e]; rfl
      · rw [dcf hneg, ifn hneg, ifn hneg, cfa, w6e (n := 10 * 0) (by decide) (by decide), w6e, Int.mul_zero, Int.add_zero]; rfl
     refine ⟨(A, B, o ++ [if x - (c : Int) - y < 0 then x - (c : Int) - y + 10 else x - (c : Int) - y], ((if x - (c : Int) - y < 0 then 1 else 0 : Nat) : Int), ((i + 1 : Nat) : Int)), ?_, ⟨_, _, _, rfl, by rw [lna, lns, s1], by omega, zuc s3 (by split <;> omega) (by split <;> omega), z48 _, ?_⟩, ?_⟩
     · by_cases h : i < B.length
       · rw [ifp h] at hy3; rw [dct (show (i : Int) < (B.length : Int) by omega), ctr, zai, hy3, obs, w6e (n := x - (c : Int)), w6e (n := x - (c : Int) - y)]; exact fin _ rfl
       · rw [ifn h] at hy3; rw [dcf (show ¬ (i : Int) < (B.length : Int) by omega), cfa, w6e (n := x - (c : Int))]; have := fin (x - (c : Int)) (by omega); rw [this, hy3, Int.sub_zero]
     · rw [zs2, hy2, tA, s1, Nat.pow_succ]; generalize 10 ^ i = P at *; have e : ∀ u : Nat, P * 10 * u = P * (10 * u) := fun u => Nat.mul_assoc _ _ _; rw [e]; have lin : (if x - (c : Int) - y < 0 then x - (c : Int) - y + 10 else x - (c : Int) - y).toNat + y.toNat + c = x.toNat + 10 * (if x - (c : Int) - y < 0 then 1 else 0) := by split <;> omega
       have := congrArg (P * ·) lin; simp only [Nat.mul_add] at this; generalize P * (if x - (c : Int) - y < 0 then x - (c : Int) - y + 10 else x - (c : Int) - y).toNat = U at *; generalize P * (10 * (if x - (c : Int) - y < 0 then 1 else 0)) = V at *; omega
     · show A.length - ((i + 1 : Nat) : Int).toNat < A.length - (i : Int).toNat; simp only [itn]; omega
   · right; rw [dcf (show ¬ (i : Int) < (A.length : Int) by omega), cfa]; rw [List.take_of_length_le (by omega), List.take_of_length_le (by omega), vA, vB] at s5; exact ⟨_, rfl, c, s3, (show o.length = A.length by omega), by rw [show A.length = i by omega]; exact s5⟩)
  (N := N) (s := (A, B, [], 0, 0)) ⟨[], 0, 0, rfl, rfl, by omega, fun d hd => (List.not_mem_nil hd).elim, by omega, by simp [dv]⟩ (by show A.length - (0 : Int).toNat < N; omega)
 obtain ⟨c, o1, o2, o3⟩ := h2
 have hlt := z5c o1
 rw [o2] at hlt
 have hc : c = 0 := by
  refine cbc fun h => ?_; have := Nat.mul_le_mul_left (10 ^ A.length) (show 1 ≤ c by omega); rw [Nat.mul_one] at this; clear ha; generalize 10 ^ A.length * c = M at *; generalize 10 ^ A.length = P at *; omega
 rw [h1]
 simp only [obs]
 rw [zwd N _ o1 (by omega) (by omega), show dv s'.2.2.1 = a - b by rw [hc] at o3; omega]
 rfl
def sgn (s : Bool) (m : Nat) : Int := cond s (-(m : Int)) m
theorem zwf (m : Nat) : decide (((dg m).length : Int) > 0) = decide (m ≠ 0) := by
 simp only [decide_eq_decide]
 constructor
 · intro h h2; rw [h2, zok] at h; simp at h
 · intro h; rw [ztm h, lnc]; omega
theorem z9b (m : Nat) : (((dg m).length : Int) == 0) = decide (m = 0) := by
 rw [zcn]
 simp only [decide_eq_decide]
 constructor
 · intro h; refine cbc fun h2 => ?_; rw [ztm h2, lnc] at h; omega
 · intro h; rw [h, zok]; rfl
theorem z8j (N : Nat) (hN : 4000 < N) (s u : Bool) (p q : Nat) (hp : p < 10 ^ 800) (hq : q < 10 ^ 800) : ∃ v m, zm4 N ⟨s, dg p⟩ ⟨u, dg q⟩ = some ⟨v, dg m⟩ ∧ sgn v m = sgn s p + sgn u q ∧ m ≤ p + q := by
 have h89 : (10 : Nat) ^ 800 < 10 ^ 900 := by decide
 unfold zm4
 rw [z3v N hN p q (by omega) (by omega), z3w N hN p q (by omega) (by omega)]
 simp only [obs]
 by_cases hsu : s = u
 · subst hsu; simp only [bst, ctr]; exact ⟨_, _, rfl, by unfold sgn; cases s <;> simp <;> omega, by omega⟩
 · rw [show (s == u) = false from beq_eq_false_iff_ne.2 hsu, cfa]; unfold zkm
   by_cases h : p < q
   · rw [ifp h, z30 N hN q p (by omega) (Nat.le_of_lt h)]; simp only [show decide ((-1 : Int) < 0) = true from rfl, ctr, obs, zwf]; have hz : decide (q - p ≠ 0) = true := dct (by omega); rw [hz]; refine ⟨u, q - p, by cases u <;> rfl, ?_, by omega⟩; unfold sgn; cases s <;> cases u <;> simp_all <;> omega
   · have hf : ∀ k : Int, decide ((if q < p then (1 : Int) else 0) < 0) = false := fun _ => by split <;> rfl
     rw [ifn h, hf 0, z30 N hN p q (by omega) (by omega)]; simp only [cfa, obs, zwf]; refine ⟨s && decide (p - q ≠ 0), p - q, by cases s <;> rfl, ?_, by omega⟩; unfold sgn
     by_cases hz : p - q = 0
     · rw [dcf (by omega)]; cases s <;> cases u <;> simp_all <;> omega
     · rw [dct hz]; cases s <;> cases u <;> simp_all <;> omega
theorem z27 (N : Nat) (hN : 1000 < N) {a b : Number} (ha : zd6 a) (hb : zd6 b) : zj1 N a b = some (⟨decide (a.N < 0), dg (zap a (zg a b)).natAbs⟩, ⟨decide (b.N < 0), dg (zap b (zg a b)).natAbs⟩, zg a b) := by
 obtain ⟨s1, s2, s3, s4⟩ := zqh ha hb
 obtain ⟨⟨a1, a2⟩, a3, a4⟩ := ha
 obtain ⟨⟨b1, b2⟩, b3, b4⟩ := hb
 unfold zj1
 rw [show (if b.Scale > a.Scale then b.Scale else a.Scale) = zg a b from rfl, w6e, w6e]
 have e1 := z08 N hN a.N ⟨by omega, by omega⟩ (zg a b - a.Scale).toNat (by omega)
 have e2 := z08 N hN b.N ⟨by omega, by omega⟩ (zg a b - b.Scale).toNat (by omega)
 rw [Int.toNat_of_nonneg (by omega)] at e1 e2
 rw [e1, obs, e2, obs, zk2, zk2]
theorem zvp (x : Number) (s : Int) : sgn (decide (x.N < 0)) (zap x s).natAbs = zap x s := by
 have := zs3 x s
 unfold sgn
 by_cases h : x.N < 0
 · rw [dct h, ctr]; have := this.2 h; omega
 · rw [dcf h, cfa]; have : ¬ zap x s < 0 := fun h2 => h (this.1 h2); omega
theorem z98 (s : Bool) (m : Nat) : sgn (!s) m = -sgn s m := by unfold sgn; cases s <;> simp
theorem p30 {n : Nat} (h : n ≤ 10 ^ 30) : n < 10 ^ 800 := Nat.lt_of_le_of_lt h (by decide)
theorem zadp (N : Nat) (hN : 4000 < N) {a b : Number} (ha : zd6 a) (hb : zd6 b) : zpl N a b = some (z81 (zap a (zg a b)) (zap b (zg a b))) := by
 obtain ⟨s1, s2, s3, s4⟩ := zqh ha hb
 unfold zpl
 try simp only [eN]
 rw [z27 N (by omega) ha hb]
 simp only [obs]
 obtain ⟨v, m, h1, h2, _⟩ := z8j N hN (decide (a.N < 0)) (!decide (b.N < 0)) _ _ (p30 (zle ha s4)) (p30 (zle hb s4))
 rw [h1]
 simp only [obs, z9b, zjs]
 rw [z98, zvp, zvp] at h2
 generalize zap a (zg a b) = A at *
 generalize zap b (zg a b) = B at *
 unfold sgn at h2
 unfold z81
 by_cases hz : m = 0
 · rw [dct hz, ctr]; have : A = B := by cases v <;> simp_all <;> omega
   rw [ifn, ifn]
 · rw [dcf hz, cfa]; cases v with
   | true =>
    rw [ctr] at h2; rw [ifp]; decide
   | false =>
    rw [cfa] at h2; rw [ifn, ifp]; decide
theorem zae9 (O c x y A P T : Nat) (hP : O + P * (c + (x + 10 * A) * y) = T) : O + P * ((c + x * y) % 10) + P * 10 * ((c + x * y) / 10 + A * y) = T := by
 rw [← hP, Nat.mul_assoc, Nat.add_assoc, ← Nat.mul_add, Nat.add_mul, Nat.mul_assoc 10 A y]
 congr 2
 generalize x * y = z at *
 generalize A * y = w at *
 omega
theorem zaf6 (N : Nat) (hN : 4000 < N) (p : Nat) (hp : p < 10 ^ 100) (o : List Int) (L3 L4 : zJ) (i : Nat) (hi : i ≤ 100) (y : Nat) (hy : y < 10) (hy2 : L3.zQ[i]? = some (y : Int)) (s : Bool) :
 ∃ row c k, zl (zbl.r2 N) N (o, (i : Int), List.replicate i (0 : Int), 0, 0, (⟨s, dg p⟩ : zJ), L3, L4) = some (o, (i : Int), row, c, k, ⟨s, dg p⟩, L3, L4) ∧ dok row ∧ dv row = 10 ^ i * (p * y) ∧ row.length ≤ 300 := by
 have lp : (dg p).length ≤ 100 := (zj2 p 100).2 hp
 have hA := zne p
 have vA := zn6 p
 generalize dg p = A at *
 obtain ⟨s', h1, h2⟩ := zom (f := zbl.r2 N)
  (fun t => ∃ (row : List Int) (c k : Nat), t = (o, (i : Int), row, (c : Int), (k : Int), (⟨s, A⟩ : zJ), L3, L4) ∧ row.length = i + k ∧ k ≤ A.length + 1 ∧ dok row ∧ c ≤ 8 ∧ dv row + 10 ^ (i + k) * (c + dv (A.drop k) * y) = 10 ^ i * (p * y) ∧ (A.length < k → c = 0))
  (fun t => 2 * (A.length - t.2.2.2.2.1.toNat) + (if t.2.2.2.1 = 0 then 0 else 1)) (fun t => ∃ (row : List Int) (c k : Int), t = (o, (i : Int), row, c, k, (⟨s, A⟩ : zJ), L3, L4) ∧ dok row ∧ dv row = 10 ^ i * (p * y) ∧ row.length ≤ 300)
  (fun t ht => by
   obtain ⟨row, c, k, rfl, s1, s2, s3, s4, s5, s6⟩ := ht; have hroom : ∀ x : Int, Nat.ble ((row.length + ([x] : List Int).length) * 8) zbr = true := fun x => za3 (by simp only [lnc, ln0]; omega); simp only [zbl.r2, zbl.b2]
   by_cases hk : k < A.length
   · left; obtain ⟨x, hx⟩ : ∃ x, A[k]? = some x := zfx hk; obtain ⟨x0, x1⟩ := zvk hA hx; obtain ⟨u, rfl⟩ : ∃ u : Nat, x = (u : Int) := ⟨x.toNat, by omega⟩; have hd := zub A k hx; rw [itn] at hd; have hmul : u * y ≤ 9 * 9 := Nat.mul_le_mul (by omega) (by omega); rw [dct (show (k : Int) < (A.length : Int) by omega)]; simp only [ctr, obs]; rw [zai, hx, zai, hy2]; simp only [obs]; have hv : w6 ((c : Int) + w6 ((u : Int) * (y : Int))) = ((c + u * y : Nat) : Int) := by
      rw [← Int.natCast_mul, w6e (n := ((u * y : Nat) : Int)), w6e]; omega
     rw [hv, hroom, ctr, tme, tde, w6e (n := ((c + u * y : Nat) : Int) / 10), w6e (n := (k : Int) + 1)]; rw [hd] at s5; have alg := zae9 _ _ _ _ _ _ _ s5; refine ⟨_, rfl, ⟨row ++ [(((c + u * y) % 10 : Nat) : Int)], (c + u * y) / 10, k + 1, ?_, ?_, by omega, zuc s3 (by omega) (by omega), by omega, ?_, fun h => by omega⟩, ?_⟩
     · generalize u * y = z; rw [show ((c + z : Nat) : Int) % 10 = (((c + z) % 10 : Nat) : Int) by omega, show ((c + z : Nat) : Int) / 10 = (((c + z) / 10 : Nat) : Int) by omega]; rfl
     · rw [lna, lns, s1]; omega
     · rw [zs2, s1, itn, show i + (k + 1) = i + k + 1 by omega, Nat.pow_succ]; exact alg
     · show 2 * (A.length - ((k : Int) + 1).toNat) + (if ((c + u * y : Nat) : Int) / 10 = 0 then 0 else 1) < 2 * (A.length - (k : Int).toNat) + (if (c : Int) = 0 then 0 else 1); have := z48 (((c + u * y : Nat) : Int) / 10 = 0); split <;> split <;> omega
   · rw [dcf (show ¬ (k : Int) < (A.length : Int) by omega)]; simp only [cfa, obs]; rw [zk1 (show A.length ≤ k by omega)] at s5
     by_cases hc : c = 0
     · right; rw [dcf (show ¬ (c : Int) > 0 by omega), cfa]; refine ⟨_, rfl, row, _, _, rfl, s3, ?_, by omega⟩; rw [hc] at s5; simpa using s5
     · left; have hkA : k = A.length := by
        refine cbc fun h => hc (s6 (by omega))
       rw [dct (show (c : Int) > 0 by omega), ctr, hroom, ctr, tme, tde, w6e (n := (c : Int) / 10), w6e (n := (k : Int) + 1)]; refine ⟨_, rfl, ⟨row ++ [(c : Int)], 0, k + 1, ?_, ?_, by omega, zuc s3 (by omega) (by omega), by omega, ?_, fun _ => rfl⟩, ?_⟩
       · rw [show (c : Int) % 10 = (c : Int) by omega, show (c : Int) / 10 = ((0 : Nat) : Int) by omega]; rfl
       · rw [lna, lns, s1]; omega
       · rw [zs2, s1, itn, zk1 (show A.length ≤ k + 1 by omega)]; simp only [Nat.zero_mul, Nat.add_zero, Nat.mul_zero] at s5 ⊢; exact s5
       · show 2 * (A.length - ((k : Int) + 1).toNat) + (if (c : Int) / 10 = 0 then 0 else 1) < 2 * (A.length - (k : Int).toNat) + (if (c : Int) = 0 then 0 else 1); rw [ifp, ifn]; omega)
  (N := N) (s := (o, (i : Int), List.replicate i (0 : Int), 0, 0, (⟨s, A⟩ : zJ), L3, L4)) ⟨List.replicate i 0, 0, 0, rfl, by rw [lnr]; rfl, by omega, zvj i, by omega, by rw [zwz, dr0, vA]; simp, fun h => rfl⟩ (by show 2 * (A.length - (0 : Int).toNat) + (if (0 : Int) = 0 then 0 else 1) < N; rw [ifp rfl]; omega)
 obtain ⟨row, c, k, rfl, r1, r2, r3⟩ := h2
 exact ⟨row, c, k, h1, r1, r2, r3⟩
theorem zaa4 (N : Nat) (hN : 4000 < N) (s u : Bool) (p q : Nat) (hp : p < 10 ^ 90) (hq : q < 10 ^ 90) : zbl N ⟨s, dg p⟩ ⟨u, dg q⟩ = some ⟨(s != u) && decide (p * q ≠ 0), dg (p * q)⟩ := by
 have lq : (dg q).length ≤ 90 := (zj2 q 90).2 hq
 have hB := zne q
 have vB := zn6 q
 unfold zbl
 obtain ⟨s', h1, h2⟩ := zom (f := zbl.r0 N)
  (fun t => ∃ (o : List Int) (i : Nat), t = (o, (i : Int), (⟨s, dg p⟩ : zJ), (⟨u, dg q⟩ : zJ), (⟨false, []⟩ : zJ)) ∧ i ≤ (dg q).length ∧ dok o ∧ o.length ≤ 300 + i ∧ dv o = p * dv ((dg q).take i))
  (fun t => (dg q).length - t.2.1.toNat) (fun t => ∃ o : List Int, (∃ i : Int, t = (o, i, (⟨s, dg p⟩ : zJ), (⟨u, dg q⟩ : zJ), (⟨false, []⟩ : zJ))) ∧ dok o ∧ o.length ≤ 400 ∧ dv o = p * q)
  (fun t ht => by
   obtain ⟨o, i, rfl, s1, s2, s3, s4⟩ := ht; simp only [zbl.r0, zbl.b0]
   by_cases hi : i < (dg q).length
   · left; obtain ⟨y, hy⟩ : ∃ y, (dg q)[i]? = some y := zfx hi; obtain ⟨y0, y1⟩ := zvk hB hy; obtain ⟨w, rfl⟩ : ∃ w : Nat, y = (w : Int) := ⟨y.toNat, by omega⟩; rw [dct (show (i : Int) < ((dg q).length : Int) by omega), ctr, ifp, ifp, za3 (by omega), ctr, itn]; obtain ⟨row, c, k, r1, r2, r3, r4⟩ := zaf6 N hN p (Nat.lt_of_lt_of_le hp (zcv (by decide))) o (⟨u, dg q⟩ : zJ) (⟨false, []⟩ : zJ) i (by omega) w (by omega) hy s; rw [r1]; simp only [obs]; obtain ⟨r, g1, g2, g3, g4, _⟩ := z99 N hN s2 r2 (by omega) (by omega); rw [g1]; simp only [obs]; rw [w6e]; refine ⟨_, rfl, ⟨r, i + 1, rfl, by omega, g2, ?_, ?_⟩, ?_⟩
     · omega
     · rw [g3, s4, r3, zyd _ i hy, itn, Nat.mul_add, Nat.mul_left_comm]
     · show (dg q).length - ((i : Int) + 1).toNat < (dg q).length - (i : Int).toNat; omega
   · right; rw [dcf (show ¬ (i : Int) < ((dg q).length : Int) by omega), cfa]; refine ⟨_, rfl, o, ⟨_, rfl⟩, s2, by omega, ?_⟩; rw [s4, List.take_of_length_le (by omega), vB])
  (N := N) (s := ([], 0, (⟨s, dg p⟩ : zJ), (⟨u, dg q⟩ : zJ), (⟨false, []⟩ : zJ))) ⟨[], 0, rfl, by omega, fun d hd => (List.not_mem_nil hd).elim, by simp, by simp [dv]⟩ (by show (dg q).length - (0 : Int).toNat < N; omega)
 obtain ⟨o, ⟨i, rfl⟩, o1, o2, o3⟩ := h2
 rw [h1]
 simp only [obs]
 rw [zwd N o o1 (by omega) (by omega), o3]
 simp only [obs, zwf]
 cases s <;> cases u <;> rfl
theorem zadn (N : Nat) (hN : 4000 < N) (A : List Int) (b r0 : Nat) (hb : 0 < b) (hb2 : b < 10 ^ 500) (Q : List Int) (hQ : dok Q) (i : Nat) (hi : i < Q.length) (hz : Q[i]? = some 0) (hr : r0 < 10 * b) :
 zl (zbf.r2 N) N (A, dg b, Q, dg r0, (i : Int)) = some (A, dg b, Q.set i ((r0 / b : Nat) : Int), dg (r0 % b), (i : Int)) := by
 have h56 : (10 : Nat) ^ 500 * 10 ≤ 10 ^ 900 := by decide
 obtain ⟨s', h1, h2⟩ := zom (f := zbf.r2 N)
  (fun t => ∃ (r c : Nat), t = (A, dg b, Q.set i (c : Int), dg r, (i : Int)) ∧ r + c * b = r0)
  (fun t => 10 - (zaq t.2.2.1 i).toNat) (fun t => t = (A, dg b, Q.set i ((r0 / b : Nat) : Int), dg (r0 % b), (i : Int)))
  (fun t ht => by
   obtain ⟨r, c, rfl, s1⟩ := ht; have hc : c < 10 := by
    refine cbc fun h => ?_; have := Nat.mul_le_mul_right b (show 10 ≤ c by omega); omega
   have hl : (Q.set i (c : Int)).length = Q.length := List.length_set; have hx : (Q.set i (c : Int))[i]? = some (c : Int) := by rw [List.getElem?_set, ifp rfl, ifp hi]
   have hr0 : r ≤ r0 := by omega
   simp only [zbf.r2, zbf.b2]; rw [z3w N hN r b (by omega) (by omega), obs, zx3]
   by_cases h : b ≤ r
   · left; rw [dct h, ctr, z30 N hN r b (by omega) h, obs, hl, ifp, ifp, itn, hx]; simp only [obs]; rw [ifp, ifp, w6e, List.set_set]; refine ⟨_, rfl, ⟨r - b, c + 1, rfl, ?_⟩, ?_⟩
     · rw [Nat.add_mul, Nat.one_mul]; omega
     · have g : ∀ v : Int, zaq (Q.set i v) i = v := by
        intro v; clear hx hl hz
        induction Q generalizing i with
        | nil => simp at hi
        | cons q Q ih =>
         cases i with
         | zero => rfl
         | succ i =>
          rw [List.set_cons_succ]; show (if i + 1 = 0 then q else zaq (Q.set i v) (i + 1 - 1)) = v; rw [ifn, Nat.add_sub_cancel]; exact ih (fun d hd => hQ d (List.mem_cons_of_mem _ hd)) i (by simpa using hi)
       show 10 - (zaq (Q.set i ((c : Int) + 1)) i).toNat < 10 - (zaq (Q.set i (c : Int)) i).toNat; rw [g, g]; omega
   · right; rw [dcf h, cfa]; refine ⟨_, rfl, ?_⟩; have e1 : r0 / b = c := by rw [← s1, Nat.add_mul_div_right _ _ hb, Nat.div_eq_of_lt (by omega), Nat.zero_add]
     have e2 : r0 % b = r := by rw [← s1, Nat.add_mul_mod_self_right, mel (by omega)]
     rw [e1, e2])
  (N := N) (s := (A, dg b, Q, dg r0, (i : Int))) ⟨r0, 0, by
   have : Q.set i ((0 : Nat) : Int) = Q := by
    refine List.ext_getElem? fun k => ?_; rw [List.getElem?_set]; split
    · rename_i hk; rw [← hk, hz]; rfl
    · rfl
   rw [this], by omega⟩ (by show 10 - (zaq Q i).toNat < N; omega)
 rw [h1, h2]
theorem z4p (N : Nat) (hN : 4000 < N) (a b : Nat) (ha : a < 10 ^ 400) (hb : 0 < b) (hb2 : b < 10 ^ 400) : zbf N (dg a) (dg b) = some (dg (a / b), dg (a % b)) := by
 have la : (dg a).length ≤ 400 := (zj2 a 400).2 ha
 have h45 : (10 : Nat) ^ 400 < 10 ^ 500 := by decide
 have hA := zne a
 have vA := zn6 a
 unfold zbf
 generalize dg a = A at *
 rw [ifp, ifp, za3 (by omega), ctr, itn, w6e]
 obtain ⟨s', h1, h2⟩ := zom (f := zbf.r0 N)
  (fun t => ∃ (Q : List Int) (i : Nat), t = (A, dg b, Q, dg (dv (A.drop i) % b), (i : Int) - 1) ∧ i ≤ A.length ∧ Q.length = A.length ∧ dok Q ∧ dv (Q.drop i) = dv (A.drop i) / b ∧ (∀ k, k < i → Q[k]? = some 0))
  (fun t => (t.2.2.2.2 + 1).toNat) (fun t => dok t.2.2.1 ∧ t.2.2.1.length = A.length ∧ dv t.2.2.1 = a / b ∧ t.2.2.2.1 = dg (a % b))
  (fun t ht => by
   obtain ⟨Q, i, rfl, s1, s2, s3, s4, s5⟩ := ht; simp only [zbf.r0, zbf.b0]; cases i with
   | zero =>
    right; rw [dr0, dr0, vA] at s4; refine ⟨_, rfl, s3, s2, s4, ?_⟩; rw [dr0, vA]
   | succ i =>
    left; obtain ⟨x, hx⟩ : ∃ x, A[i]? = some x := zfx (by omega); obtain ⟨x0, x1⟩ := zvk hA hx; obtain ⟨u, rfl⟩ : ∃ u : Nat, x = (u : Int) := ⟨x.toNat, by omega⟩; have hd := zub A i hx; rw [itn] at hd; have hrb : dv (A.drop (i + 1)) % b < b := Nat.mod_lt _ hb; have hdm := Nat.div_add_mod (dv (A.drop (i + 1))) b; rw [show ((i + 1 : Nat) : Int) - 1 = (i : Int) by omega, dct (show (i : Int) ≥ 0 by omega), ctr, zai, hx]; simp only [obs]; generalize dv (A.drop (i + 1)) = p at *; have lr : (dg (p % b)).length ≤ 500 := (zj2 _ 500).2 (by omega); rw [za3 (by simp only [lnc, ln0]; omega), ctr]; have hrest : dok ([(u : Int)] ++ dg (p % b)) := zz7 (fun d hd => by
     rcases List.mem_cons.1 hd with rfl | hd
     · omega
     · cases hd) (zne _)
    rw [zwd N _ hrest (by rw [lna, lns]; omega) (by rw [lna, lns]; omega)]; have hv : dv ([(u : Int)] ++ dg (p % b)) = u + 10 * (p % b) := by
     show (u : Int).toNat + 10 * dv (dg (p % b)) = _; rw [zn6, itn]
    rw [hv]; simp only [obs]; rw [zadn N hN A b (u + 10 * (p % b)) hb (by omega) Q s3 i (by omega) (s5 i (by omega)) (by omega)]; simp only [obs]; rw [w6e]; have eq1 : u + 10 * p = b * (10 * (p / b)) + (u + 10 * (p % b)) := by
     rw [Nat.mul_left_comm]; omega
    have ed : (u + 10 * p) / b = 10 * (p / b) + (u + 10 * (p % b)) / b := by rw [eq1, Nat.mul_add_div hb]
    have em : (u + 10 * p) % b = (u + 10 * (p % b)) % b := by rw [eq1, Nat.mul_add_mod]
    have hdig : (u + 10 * (p % b)) / b < 10 := Nat.div_lt_of_lt_mul (by rw [Nat.mul_comm]; omega); generalize (u + 10 * (p % b)) / b = G at *; refine ⟨_, rfl, ⟨Q.set i (G : Int), i, ?_, by omega, by rw [List.length_set]; exact s2, ?_, ?_, ?_⟩, ?_⟩
    · rw [hd, em]
    · intro d hd; rcases List.mem_or_eq_of_mem_set hd with h | h
      · exact s3 d h
      · rw [h]; omega
    · have hxs : (Q.set i (G : Int))[i]? = some (G : Int) := by rw [List.getElem?_set, ifp rfl, ifp]
      rw [zub _ i hxs, itn, List.drop_set_of_lt (by omega), s4, hd, ed]; omega
    · intro k hk; rw [List.getElem?_set, ifn]; exact s5 k (by omega)
    · show ((i : Int) - 1 + 1).toNat < ((i : Int) + 1).toNat; omega)
  (N := N) (s := (A, dg b, List.replicate A.length 0, [], (A.length : Int) - 1)) ⟨List.replicate A.length 0, A.length, by rw [zk1 (Nat.le_refl _), Nat.zero_mod, zok], by omega, lnr, zvj _, by rw [zk1 (Nat.le_refl _), Nat.zero_div, zk1 (by rw [lnr]; omega)], fun k hk => by rw [List.getElem?_replicate, ifp hk]⟩ (by show ((A.length : Int) - 1 + 1).toNat < N; omega)
 obtain ⟨o1, o2, o3, o4⟩ := h2
 rw [h1]
 simp only [obs]
 rw [zwd N _ o1 (by omega) (by omega), o3, o4]
 rfl
theorem z04 (k : Nat) (hk : k ≤ 100) : zio (k : Int) = some (dg (10 ^ k)) := by
 unfold zio
 rw [ifp, ifp, za3 (by omega), ctr, itn, lnr, za3 (by simp only [lnc, ln0]; omega), ctr]
 congr 1
 have h1 : dok (List.replicate k (0 : Int) ++ [1]) := zuc (zvj k) (by decide) (by decide)
 have h2 : dv (List.replicate k (0 : Int) ++ [1]) = 10 ^ k := by rw [zs2, zwz, lnr]; simp
 rw [← h2]
 refine (z5g h1 ?_).symm
 unfold zrz
 rw [List.getLast?_append]
 simp
def z33 (p q : Nat) (half : Bool) : Nat := p / q + cond (half && decide (q ≤ p % q + p % q)) 1 0
theorem zadg (N : Nat) (hN : 4000 < N) (s : Bool) (p q : Nat) (hp : p ≤ 10 ^ 100) (hq : 0 < q) (hq2 : q ≤ 10 ^ 100) (k : Nat) (hk : k ≤ 15) (half : Bool) :
 ∃ v, znp N ⟨⟨s, dg p⟩, dg q⟩ (k : Int) half = some ⟨v, dg (z33 (p * 10 ^ k) q half)⟩ ∧ (z33 (p * 10 ^ k) q half ≠ 0 → v = s) := by
 have hs : p * 10 ^ k ≤ 10 ^ 100 * 10 ^ 15 := Nat.mul_le_mul hp (zcv hk)
 have h115 : (10 : Nat) ^ 100 * 10 ^ 15 < 10 ^ 400 := by decide
 have h4 : (10 : Nat) ^ 400 < 10 ^ 900 := by decide
 have h14 : (10 : Nat) ^ 100 < 10 ^ 400 := by decide
 have hr := Nat.mod_lt (p * 10 ^ k) hq
 have hdl := Nat.div_le_self (p * 10 ^ k) q
 have lp : (dg p).length ≤ 101 := (zj2 p 101).2 (by have : (10 : Nat) ^ 100 < 10 ^ 101 := (by decide); omega)
 unfold znp
 rw [ifp, ifp, za3 (by omega), ctr, itn, lnr, za3 (by show (k + (dg p).length) * 8 ≤ 1000000; omega), ctr]
 have hd : dok (List.replicate k (0 : Int) ++ dg p) := zz7 (zvj k) (zne p)
 have hv : dv (List.replicate k (0 : Int) ++ dg p) = p * 10 ^ k := by rw [zxg, zwz, zn6, lnr, Nat.zero_add, Nat.mul_comm]
 show ∃ v, ((zco N (List.replicate k (0 : Int) ++ dg p)).bind _) = _ ∧ _
 rw [zwd N _ hd (by rw [lna, lnr]; omega) (by rw [lna, lnr]; omega), hv]
 simp only [obs]
 rw [z4p N hN _ q (by omega) hq (by omega)]
 simp only [obs]
 rw [z3v N hN _ _ (by omega) (by omega)]
 simp only [obs]
 rw [z3w N hN _ q (by omega) (by omega)]
 simp only [obs, zx3]
 have kk : (cond half (some (decide (q ≤ p * 10 ^ k % q + p * 10 ^ k % q))) (some false)) = some (half && decide (q ≤ p * 10 ^ k % q + p * 10 ^ k % q)) := by cases half <;> rfl
 rw [kk, obs]
 unfold z33
 cases (half && decide (q ≤ p * 10 ^ k % q + p * 10 ^ k % q)) with
 | true =>
  rw [ctr, ctr, show ([1] : List Int) = dg 1 by rw [ztm (by decide), show 1 / 10 = 0 from rfl, zok]; rfl, z3v N hN _ 1 (by omega) (by omega)]; simp only [obs, zwf]; refine ⟨s && decide (p * 10 ^ k / q + 1 ≠ 0), by cases s <;> rfl, fun h => ?_⟩; rw [dct h, Bool.and_true]
 | false =>
  rw [cfa, cfa]; simp only [obs, zwf, Nat.add_zero]; refine ⟨s && decide (p * 10 ^ k / q ≠ 0), by cases s <;> rfl, fun h => ?_⟩; rw [dct h, Bool.and_true]
theorem zadk (N : Nat) (hN : 4000 < N) (v : Bool) (m : Nat) (hm : m < 10 ^ 16) : zdz N ⟨v, dg m⟩ = some (sgn v m) := by
 have lm : (dg m).length ≤ 16 := (zj2 m 16).2 hm
 have hA := zne m
 have vA := zn6 m
 unfold zdz
 generalize dg m = A at *
 have lp := za1 (f := zdz.r0 N) (fun i => (((dv (A.drop (A.length - i)) : Nat) : Int), (A.length : Int) - 1 - (i : Int), (⟨v, A⟩ : zJ))) A.length
  (fun i hi => by
   obtain ⟨x, hx⟩ : ∃ x, A[A.length - 1 - i]? = some x := zfx (by omega); obtain ⟨x0, x1⟩ := zvk hA hx; have hd := zub A _ hx; rw [show A.length - 1 - i + 1 = A.length - i by omega] at hd; have hb := z5c (zad9 hA (A.length - i)); have hb2 : 10 ^ (A.drop (A.length - i)).length ≤ 10 ^ 16 := zcv (by rw [List.length_drop]; omega); simp only [zdz.r0, zdz.b0, dct (show (A.length : Int) - 1 - (i : Int) ≥ 0 by omega), ctr]; rw [show (A.length : Int) - 1 - (i : Int) = ((A.length - 1 - i : Nat) : Int) by omega, zai, hx]; simp only [obs]; rw [w6e (n := 10 * ((dv (A.drop (A.length - i)) : Nat) : Int)), w6e (n := 10 * ((dv (A.drop (A.length - i)) : Nat) : Int) + x), w6e, show A.length - (i + 1) = A.length - 1 - i by omega, hd]
   congr 3
   · omega
   · congr 1
     omega)
  (by simp only [zdz.r0, zdz.b0, dcf (show ¬ (A.length : Int) - 1 - (A.length : Int) ≥ 0 by omega), cfa]) (N := N) (by omega)
 simp only [Nat.sub_zero, nc0, Int.sub_zero, Nat.sub_self, dr0, zk1 (Nat.le_refl A.length), vA] at lp
 show ((zl (zdz.r0 N) N (0, w6 ((A.length : Int) - 1), (⟨v, A⟩ : zJ))).bind _) = _
 rw [w6e, lp]
 simp only [obs]
 unfold sgn
 cases v
 · rfl
 · rw [ctr, ctr, w6e, Int.zero_sub]
theorem zab2 (N : Nat) (hN : 4000 < N) (s : Bool) (p q : Nat) (hp : p ≤ 10 ^ 100) (hq : 0 < q) (hq2 : q ≤ 10 ^ 100) {t : DataType} (ht : zkz t) (half : Bool) :
 ∃ n e, zlk N ⟨⟨s, dg p⟩, dg q⟩ t half = some (n, e) ∧ ((⟨n, ⟨#[]⟩⟩ : Value), e) = zj9 s p q t half := by
 obtain ⟨⟨l1, l2⟩, l3, l4⟩ := zgq ht
 obtain ⟨v, h1, h2⟩ := zadg N hN s p q hp hq hq2 t.Scale.toNat (by omega) half
 rw [Int.toNat_of_nonneg l3] at h1
 unfold zlk
 show ∃ n e, ((znp N ⟨⟨s, dg p⟩, dg q⟩ t.Scale half).bind _) = _ ∧ _
 rw [h1]
 simp only [obs]
 have hl := zj2 (z33 (p * 10 ^ t.Scale.toNat) q half) t.Length.toNat
 have e : zj9 s p q t half = if 10 ^ t.Length.toNat ≤ z33 (p * 10 ^ t.Scale.toNat) q half then (⟨0, ⟨#[]⟩⟩, 19) else (⟨sgn s (z33 (p * 10 ^ t.Scale.toNat) q half), ⟨#[]⟩⟩, 0) := rfl
 rw [e]
 generalize z33 (p * 10 ^ t.Scale.toNat) q half = Q at *
 by_cases h : 10 ^ t.Length.toNat ≤ Q
 · rw [ifp h]; have : ¬ (dg Q).length ≤ t.Length.toNat := fun h3 => by have := hl.1 h3; omega
   rw [dct (by omega)]; exact ⟨_, _, rfl, rfl⟩
 · rw [ifn h]; have : (dg Q).length ≤ t.Length.toNat := hl.2 (by omega); have hQ : Q < 10 ^ 16 := Nat.lt_of_lt_of_le (by omega : Q < 10 ^ t.Length.toNat) (zcv (by omega)); rw [dcf (by omega), cfa, zadk N hN v Q hQ]; refine ⟨_, _, rfl, ?_⟩
   congr 2
   unfold sgn
   by_cases h0 : Q = 0
   · rw [h0]; cases v <;> cases s <;> rfl
   · rw [h2 h0]
theorem z0k {t : DataType} (ht : zkz t) : zg8 t = some 0 := by
 obtain ⟨h0, h1, h2⟩ := ht
 unfold zg8
 rw [z19, h0]
 simp only [obs, bsf, cfa]
 rw [zvr, zbj.2 ⟨h1, h2⟩]
 simp only [obs, zjs]
 decide
theorem zae0 (N : Nat) (hN : 4000 < N) {x : Number} (hx : zd6 x) {t : DataType} (ht : zkz t) (half : Bool) : zkx N x t half = some (zo6 x t half) := by
 have hx' := hx
 obtain ⟨⟨h1, h2⟩, h3, h4⟩ := hx'
 unfold zkx zl5
 rw [z07, zqn.2 hx]
 simp only [obs, bsf, cfa, eN]
 rw [z0k ht]
 simp only [obs, bsf, cfa]
 have e1 := z08 N (by omega) x.N ⟨by omega, by omega⟩ 0 (by omega)
 rw [Nat.pow_zero, Nat.mul_one, nc0] at e1
 have e2 := z04 x.Scale.toNat (by omega)
 rw [Int.toNat_of_nonneg h3] at e2
 rw [e1, obs, e2, obs]
 simp only [obs]
 have hp : x.N.natAbs ≤ 10 ^ 100 := Nat.le_trans (show x.N.natAbs ≤ 10 ^ 15 by omega) (by decide)
 obtain ⟨n, e, g1, g2⟩ := zab2 N hN (decide (x.N < 0)) x.N.natAbs (10 ^ x.Scale.toNat) hp (zcz _) (zcv (by omega)) ht half
 show ((zlk N ⟨⟨decide (x.N < 0), dg x.N.natAbs⟩, dg (10 ^ x.Scale.toNat)⟩ t half).bind _) = _
 rw [g1]
 simp only [obs]
 rw [g2]
 rfl
theorem z80 {n : Nat} (h : n ≤ 10 ^ 31) : n ≤ 10 ^ 100 := Nat.le_trans h (by decide)
theorem z8s (s : Bool) (p q : Nat) (hq : 0 < q) (t : DataType) (half : Bool) : zj9 s p q t half = z1h (sgn s p) q t half := z8u s p q hq t half
theorem zae1 (N : Nat) (hN : 4000 < N) {op : Int} (hop : 0 ≤ op ∧ op ≤ 4) {a b : Number} (ha : zd6 a) (hb : zd6 b) {t : DataType} (ht : zkz t) (half : Bool) : zg9 N ⟨op, t, half⟩ a b = some (zmr op a b t half) := by
 obtain ⟨s1, s2, s3, s4⟩ := zqh ha hb
 have la := zle ha s4
 have lb := zle hb s4
 have ha' := ha
 have hb' := hb
 obtain ⟨⟨a1, a2⟩, a3, a4⟩ := ha'
 obtain ⟨⟨b1, b2⟩, b3, b4⟩ := hb'
 have zb := z25 b (zg a b)
 have ga := zvp a (zg a b)
 have gb := zvp b (zg a b)
 have q1 : 10 ^ (zg a b).toNat ≤ 10 ^ 100 := zcv (by omega)
 unfold zg9
 try simp only [eD]
 rw [zie, zbj.2 hop]
 simp only [obs, bnt, cfa]
 rw [z07, z07, zqn.2 ha, zqn.2 hb]
 simp only [obs, bsf, cfa]
 rw [z0k ht]
 simp only [obs, bsf, cfa, eN]
 have fin : ∀ (s : Bool) (p q : Nat), p ≤ 10 ^ 100 → 0 < q → q ≤ 10 ^ 100 → ((zlk N ⟨⟨s, dg p⟩, dg q⟩ t half).bind fun r6 => some ((⟨r6.1, (⟨#[]⟩ : ByteArray)⟩ : Value), r6.2)) = some (zj9 s p q t half) := fun s p q hp hq hq2 => by
  obtain ⟨n, e, g1, g2⟩ := zab2 N hN s p q hp hq hq2 ht half; rw [g1, obs, g2]
 unfold zpu
 rw [z27 N (by omega) ha hb]
 simp only [obs, z9b]
 have ep := z04 (zg a b).toNat (by omega)
 rw [Int.toNat_of_nonneg s3] at ep
 have g : (cond (op == 3) (some true) (some (op == 4))) = some (decide (op = 3 ∨ op = 4)) := by
  rw [zcn, zcn]
  by_cases h : op = 3
  · rw [dct h, dct (show op = 3 ∨ op = 4 by omega)]; rfl
  · rw [dcf h]
    by_cases h2 : op = 4
    · rw [dct h2, dct (show op = 3 ∨ op = 4 by omega)]; rfl
    · rw [dcf h2, dcf (show ¬ (op = 3 ∨ op = 4) by omega)]; rfl
 rw [g]
 simp only [obs]
 have hbz : (zap b (zg a b)).natAbs = 0 ↔ b.N = 0 := by
  rw [Int.natAbs_eq_zero]; exact zb
 rw [show (cond (decide (op = 3 ∨ op = 4)) (some (decide ((zap b (zg a b)).natAbs = 0))) (some false)) = some (decide ((op = 3 ∨ op = 4) ∧ b.N = 0)) by
  by_cases h : op = 3 ∨ op = 4
  · rw [dct h, ctr]; congr 1; rw [decide_eq_decide]; constructor
    · intro h2; exact ⟨h, hbz.1 h2⟩
    · intro h2; exact hbz.2 h2.2
  · rw [dcf h, cfa, dcf (fun h2 => h h2.1)]]
 simp only [obs]
 unfold zmr
 by_cases hz : (op = 3 ∨ op = 4) ∧ b.N = 0
 · rw [dct hz, ifp hz]; rfl
 · rw [dcf hz, ifn hz, cfa]
   by_cases o0 : op = 0
   · obtain ⟨v, m, h1, h2, h3⟩ := z8j N hN (decide (a.N < 0)) (decide (b.N < 0)) _ _ (p30 la) (p30 lb); rw [ga, gb] at h2; rw [ifp o0, o0]; simp only [show ((0 : Int) == 1) = false from rfl, show ((0 : Int) == 2) = false from rfl, show ((0 : Int) == 3) = false from rfl, show ((0 : Int) == 4) = false from rfl, cfa]; rw [h1]; simp only [obs]; rw [ep]; simp only [obs, bsf, cfa]; rw [fin v m _ (z80 (by omega)) (zcz _) q1, z8s _ _ _ (zcz _), h2]
   · rw [ifn o0]
     by_cases o1 : op = 1
     · rw [ifp o1, zcn, dct o1, ctr]; have hneg : (cond (!decide (b.N < 0)) (some (decide ((((dg (zap b (zg a b)).natAbs).length : Nat) : Int) > 0))) (some false)) = some (!decide (b.N < 0) && decide ((zap b (zg a b)).natAbs ≠ 0)) := by
        rw [zwf]; cases decide (b.N < 0) <;> rfl
       rw [hneg]; simp only [obs]; obtain ⟨v, m, h1, h2, h3⟩ := z8j N hN (decide (a.N < 0)) (!decide (b.N < 0) && decide ((zap b (zg a b)).natAbs ≠ 0)) _ _ (p30 la) (p30 lb); have gb2 : sgn (!decide (b.N < 0) && decide ((zap b (zg a b)).natAbs ≠ 0)) (zap b (zg a b)).natAbs = -zap b (zg a b) := by
        by_cases h0 : (zap b (zg a b)).natAbs = 0
        · have h00 := Int.natAbs_eq_zero.1 h0; rw [h0, dcf (show ¬ (0 : Nat) ≠ 0 by omega), Bool.and_false, h00]; rfl
        · rw [dct h0, Bool.and_true, z98, gb]
       rw [ga, gb2] at h2; rw [h1]; simp only [obs]; rw [ep]; simp only [obs, bsf, cfa]; rw [fin v m _ (z80 (by omega)) (zcz _) q1, z8s _ _ _ (zcz _), h2, Int.sub_eq_add_neg]
     · rw [ifn o1, zcn, dcf o1, cfa]
       by_cases o2 : op = 2
       · rw [ifp o2, zcn, dct o2, ctr]; have p90 : ∀ n : Nat, n ≤ 10 ^ 30 → n < 10 ^ 90 := fun n h => Nat.lt_of_le_of_lt h (by decide); rw [zaa4 N hN _ _ _ _ (p90 _ la) (p90 _ lb)]; simp only [obs]; have e2 := z04 (2 * zg a b).toNat (by omega); rw [Int.toNat_of_nonneg (by omega)] at e2; rw [w6e, e2]; simp only [obs, bsf, cfa]; have hm : (zap a (zg a b)).natAbs * (zap b (zg a b)).natAbs ≤ 10 ^ 100 := Nat.le_trans (Nat.mul_le_mul la lb) (by decide); rw [fin _ _ _ hm (zcz _) (zcv (by omega))]; have e3 : (zap a (zg a b)).natAbs * (zap b (zg a b)).natAbs = a.N.natAbs * b.N.natAbs * 10 ^ ((zg a b - a.Scale).toNat + (zg a b - b.Scale).toNat) := by
          rw [zk2, zk2, Nat.mul_mul_mul_comm, ← Nat.pow_add]
         have e4 : 10 ^ (2 * zg a b).toNat = 10 ^ (a.Scale + b.Scale).toNat * 10 ^ ((zg a b - a.Scale).toNat + (zg a b - b.Scale).toNat) := by
          rw [← Nat.pow_add]; congr 1; omega
         rw [z62 _ (decide (a.N < 0) != decide (b.N < 0)) _ _ (zcz _) _ _ (fun h => by rw [dct h, Bool.and_true]), e3, e4, z4s _ _ _ _ (zcz _) (zcz _)]
       · rw [ifn o2, zcn, dcf o2, cfa]
         by_cases o3 : op = 3
         · have hb0 : b.N ≠ 0 := fun h => hz ⟨.inl o3, h⟩; have hbp : 0 < (zap b (zg a b)).natAbs := by
            have : ¬ (zap b (zg a b)).natAbs = 0 := fun h => hb0 (hbz.1 h); omega
           rw [ifp o3, zcn, dct o3, ctr]; simp only [obs, bsf, cfa]; rw [fin _ _ _ (z80 (by omega)) hbp (z80 (by omega))]; have hmin : 0 ≤ a.Scale + b.Scale - zg a b := by unfold zg; split <;> omega
           have e3 : a.N.natAbs * 10 ^ b.Scale.toNat = (zap a (zg a b)).natAbs * 10 ^ (a.Scale + b.Scale - zg a b).toNat := by
            rw [zk2, Nat.mul_assoc, ← Nat.pow_add]; congr 2; omega
           have e4 : b.N.natAbs * 10 ^ a.Scale.toNat = (zap b (zg a b)).natAbs * 10 ^ (a.Scale + b.Scale - zg a b).toNat := by
            rw [zk2, Nat.mul_assoc, ← Nat.pow_add]; congr 2; omega
           rw [e3, e4, z4s _ _ _ _ (zcz _) hbp]; rfl
         · have hb0 : b.N ≠ 0 := fun h => hz ⟨by omega, h⟩; have hbp : 0 < (zap b (zg a b)).natAbs := by
            have : ¬ (zap b (zg a b)).natAbs = 0 := fun h => hb0 (hbz.1 h); omega
           have p400 : ∀ n : Nat, n ≤ 10 ^ 30 → n < 10 ^ 400 := fun n h => Nat.lt_of_le_of_lt h (by decide); have hm := Nat.mod_lt (zap a (zg a b)).natAbs hbp; rw [ifn o3, zcn, dcf o3, cfa, zcn, dct (show op = 4 by omega), ctr, z4p N hN _ _ (p400 _ la) hbp (p400 _ lb)]; simp only [obs]; rw [ep]; simp only [obs, bsf, cfa]; rw [fin _ _ _ (z80 (by omega)) (zcz _) q1]
end
end Go.Proofs.YtmifhmfokbigiaaGreatDoor.M
