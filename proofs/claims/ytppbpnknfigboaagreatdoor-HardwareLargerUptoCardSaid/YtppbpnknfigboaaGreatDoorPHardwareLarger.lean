/- HardwareLarger: the law answers true for every input of bulk at most 1048576, and its arguments read as they did; by the seat's second form, tied to the program's text. -/
import Derived.Test.YtppbpnknfigboaaGreatDoorPHardwareLargerx1
import Derived.Test.YtppbpnknfigboaaGreatDoorWHardwareLarger
namespace Go.Proofs.YtppbpnknfigboaaGreatDoor.M
open Go Go.Amx
set_option linter.unusedVariables false
set_option linter.unusedSimpArgs false
set_option maxRecDepth 100000
noncomputable section
section
variable {m : zH} {c : zG} {s : zA}
theorem zag7 (s : zA) {x : zB} (hop : x.Op = 14) : zdu s x = (match zg7 s.Storage x.Place (szE x.zF) with | .error e => .error e | .ok a => .ok (s.At + 1, updS s (stV s.Storage x.Pointer.toNat a.toNat))) := by
 cases x; cases hop; rfl
theorem zagm (N : Nat) (M : zC) {x : zB} (hop : x.Op = 14) : zd N M x = ((zeo N x.zF).bind fun r1 => (za0 N M x.Place r1).bind fun r2 => cond r2.2.1 ((zb4 N r2.2.2.zA.Storage x.Pointer (⟨0, (⟨1, r2.1⟩ : Address), 0⟩ : Pointer)).bind fun r3 => some (⟨updS r2.2.2.zA r3.1, r2.2.2.code, r2.2.2.raised⟩ : zC)) (some r2.2.2)).bind fun r => some (w6 (r.zA.At + 1), r) := by
 cases x; cases hop; rfl
theorem zafk (N : Nat) {x : zB} (hop : x.Op = 14) (hi : idx c.zD s.At = some x) : ze N c s = ((zbe x.zF).bind fun r1 => (zcu N s x.Place r1).bind fun r2 => cond (r2.2 != 0) (some (r2.2, s)) ((zgo N s.Storage x.Pointer (⟨0, (⟨1, r2.1⟩ : Address), 0⟩ : Pointer)).bind fun r3 => some (0, updS s r3))).bind fun r => some (w6 (s.At + 1), r.1, r.2) := by
 unfold ze
 rw [hi, obs]
 clear hi
 cases x; cases hop; rfl
theorem zac3 (N : Nat) (hN : 20000 < N) (hc : CodeV m c) (hs : StV m c s) {x : zB} (hx : c.zD[s.At.toNat]? = some x) (hop : x.Op = 14) : zb9 N m c s x := by
 have iv := zg4 hc (lmg hx) hop (U := ⟨false, false, false, true, false, false, false, false, false, false, false, false, true, false, 3, 0⟩) rfl
 have hi : idx c.zD s.At = some x := by unfold idx; rw [ifp hs.at0, hx]
 have m8 := hc.m2
 have a0 := hs.at0
 have a1 := hs.at1
 have n240 := hc.len
 have wn1 : w6 (s.At + 1) = s.At + 1 := w6e
 unfold zb9
 rw [zag7 s hop, zagm N _ hop, zafk N hop hi]
 have ht := iv.ty3 rfl
 have hp : zcd s.Storage x.Place (szE x.zF) = true := by rw [zgr hs.size]; have := iv.pl rfl; unfold zgh at this; rw [ifn] at this; exact this
 have hq : zer s.Storage x.Pointer = true := by rw [zm8 hs.size]; exact iv.pt rfl
 obtain ⟨q1, q2, q3⟩ := zjw hq
 have hsz := zka ht
 have hle := hs.sto.le
 have hqd := hs.sto.quad
 rw [z0o N (by omega) ht, zjh ht, obs, obs]
 rcases zsb N (by omega) s c hs.sto hp hsz.1 hsz.2 with ⟨e, j, k, he, h1, h2, h3⟩ | ⟨a, h1, h2, h3, h4, h5⟩
 · rw [h1, h2, h3]; refine .inl ⟨e, _, w6 (s.At + 1), s, rfl, by omega, rfl, ?_⟩; rcases he with rfl | rfl <;> rfl
 · rw [h1, h2, h3]; obtain ⟨a, rfl⟩ : ∃ k : Nat, a = (k : Int) := ⟨a.toNat, by omega⟩; refine .inr ⟨_, _, _, rfl, ?_, ?_, fun _ => ⟨rfl, by omega, by omega⟩, hs.updS (z2h (off := a) hs.sto (by omega) (by omega) (by omega)) (zx1 (by omega)), rfl, rfl, rfl⟩
   · simp only [obs, ctr]; rw [show (⟨0, ⟨1, (a : Int)⟩, 0⟩ : Pointer) = zh6 a from rfl, zxx N (by omega) hs.sto hq a (by omega)]; show some (w6 (s.At + 1), _) = _; rw [wn1]; rfl
   · simp only [obs, bsf, cfa]; rw [show (⟨0, ⟨1, (a : Int)⟩, 0⟩ : Pointer) = zh6 a from rfl, zyd N (by omega) hs.sto hq a (by omega)]; show some (w6 (s.At + 1), _) = _; rw [wn1]; rfl
theorem zag6 (s : zA) {x : zB} (hop : x.Op = 15) : zdu s x = (match ldV s.Storage x.Source with | none => .error 4 | some o => .ok (s.At + 1, updS s (stV s.Storage x.Pointer.toNat o.toNat))) := by
 cases x; cases hop; rfl
theorem zagl (N : Nat) (M : zC) {x : zB} (hop : x.Op = 15) : zd N M x = ((zav N M x.Source).bind fun r4 => cond r4.2.1 ((zb4 N r4.2.2.zA.Storage x.Pointer r4.1).bind fun r5 => some (⟨updS r4.2.2.zA r5.1, r4.2.2.code, r4.2.2.raised⟩ : zC)) (some r4.2.2)).bind fun r => some (w6 (r.zA.At + 1), r) := by
 cases x; cases hop; rfl
theorem zafj (N : Nat) {x : zB} (hop : x.Op = 15) (hi : idx c.zD s.At = some x) : ze N c s = ((zid N s.Storage x.Source).bind fun r4 => cond (r4.2 != 0) (some (4, s)) ((zgo N s.Storage x.Pointer r4.1).bind fun r5 => some (0, updS s r5))).bind fun r => some (w6 (s.At + 1), r.1, r.2) := by
 unfold ze
 rw [hi, obs]
 clear hi
 cases x; cases hop; rfl
theorem zac2 (N : Nat) (hN : 20000 < N) (hc : CodeV m c) (hs : StV m c s) {x : zB} (hx : c.zD[s.At.toNat]? = some x) (hop : x.Op = 15) : zb9 N m c s x := by
 have iv := zg4 hc (lmg hx) hop (U := ⟨false, false, false, false, false, false, false, false, false, false, false, false, true, true, 0, 0⟩) rfl
 have hi : idx c.zD s.At = some x := by unfold idx; rw [ifp hs.at0, hx]
 have m8 := hc.m2
 have a0 := hs.at0
 have a1 := hs.at1
 have n240 := hc.len
 have wn1 : w6 (s.At + 1) = s.At + 1 := w6e
 unfold zb9
 rw [zag6 s hop, zagl N _ hop, zafj N hop hi]
 have hq : zer s.Storage x.Pointer = true := by rw [zm8 hs.size]; exact iv.pt rfl
 have hq2 : zer s.Storage x.Source = true := by rw [zm8 hs.size]; exact iv.sr rfl
 obtain ⟨q1, q2, q3⟩ := zjw hq
 have hle := hs.sto.le
 have hqd := hs.sto.quad
 rw [zql N (by omega) s c hs.sto hq2, zws N (by omega) hs.sto hq2]
 cases hld : ldV s.Storage x.Source with
 | none => exact .inl ⟨4, _, _, s, rfl, by omega, rfl, rfl⟩
 | some o =>
  have ho := zv3 hs.sto hld; obtain ⟨o, rfl⟩ : ∃ k : Nat, o = (k : Int) := ⟨o.toNat, by omega⟩; refine .inr ⟨_, _, _, rfl, ?_, ?_, fun _ => ⟨rfl, by omega, by omega⟩, hs.updS (z2h (off := o) hs.sto (by omega) (by omega) (by omega)) (zx1 (by omega)), rfl, rfl, rfl⟩
  · simp only [obs, ctr]; rw [zxx N (by omega) hs.sto hq o (by omega)]; show some (w6 (s.At + 1), _) = _; rw [wn1]; rfl
  · simp only [obs, bsf, cfa]; rw [zyd N (by omega) hs.sto hq o (by omega)]; show some (w6 (s.At + 1), _) = _; rw [wn1]; rfl
theorem zag5 (s : zA) {x : zB} (hop : x.Op = 16) : zdu s x = (match ldV s.Storage x.Pointer with
 | none => .error 4
 | some o => if inB (o + zej (rg s x.R)) 0 16777215 = true then .ok (s.At + 1, updS s (stV s.Storage x.Pointer.toNat (o + zej (rg s x.R)).toNat)) else .error 5) := by
 cases x; cases hop; rfl
theorem zagk (N : Nat) (M : zC) {x : zB} (hop : x.Op = 16) : zd N M x = ((zd3 N M x).bind fun r6 => some r6).bind fun r => some (w6 (r.zA.At + 1), r) := by
 cases x; cases hop; rfl
theorem zafi (N : Nat) {x : zB} (hop : x.Op = 16) (hi : idx c.zD s.At = some x) : ze N c s = ((zid N s.Storage x.Pointer).bind fun r10 => cond (r10.2 != 0) (some (4, s)) (if 0 ≤ x.R then (if x.R < (s.Registers.length : Int) then ((s.Registers[x.R.toNat]?).bind fun x12 => (zjt N x12).bind fun r13 => (zg (w6 (r10.1.Address.Offset + r13)) 0 16777215).bind fun r14 => cond (!r14) (some (5, s)) ((zgo N s.Storage x.Pointer (⟨r10.1.Kind, (⟨r10.1.Address.zZ, (w6 (r10.1.Address.Offset + r13))⟩ : Address), r10.1.Authority⟩ : Pointer)).bind fun r15 => some (0, updS s r15))) else none) else none)).bind fun r => some (w6 (s.At + 1), r.1, r.2) := by
 unfold ze
 rw [hi, obs]
 clear hi
 cases x; cases hop; rfl
theorem zac1 (N : Nat) (hN : 20000 < N) (hc : CodeV m c) (hs : StV m c s) {x : zB} (hx : c.zD[s.At.toNat]? = some x) (hop : x.Op = 16) : zb9 N m c s x := by
 have iv := zg4 hc (lmg hx) hop (U := ⟨true, false, false, false, false, false, false, false, false, false, false, false, true, false, 0, 0⟩) rfl
 have hi : idx c.zD s.At = some x := by unfold idx; rw [ifp hs.at0, hx]
 have m8 := hc.m2
 have a0 := hs.at0
 have a1 := hs.at1
 have n240 := hc.len
 have wn1 : w6 (s.At + 1) = s.At + 1 := w6e
 unfold zb9
 rw [zag5 s hop, zagk N _ hop, zafi N hop hi]
 have hq : zer s.Storage x.Pointer = true := by rw [zm8 hs.size]; exact iv.pt rfl
 obtain ⟨q1, q2, q3⟩ := zjw hq
 obtain ⟨g1, g2, g3, g4, g5⟩ := zf2 hs (iv.r rfl)
 have hle := hs.sto.le
 have hqd := hs.sto.quad
 unfold zd3
 rw [zql N (by omega) s c hs.sto hq, zws N (by omega) hs.sto hq]
 cases hld : ldV s.Storage x.Pointer with
 | none => exact .inl ⟨4, _, _, s, rfl, by omega, rfl, rfl⟩
 | some o =>
  have ho := zv3 hs.sto hld; have hwb := zu7 g5; simp only [obs, bnt, cfa, bsf]; rw [g4, ifp g1, ifp g2, g3]; simp only [obs]; rw [z3p N (by omega) g5, zzf N (by omega) g5]; simp only [obs]; rw [show (zh6 o).Address.Offset = o from rfl, w6e (n := o + zej (rg s x.R)), znz, zh0]; simp only [obs]; rw [zhy _ _ _ _ (by decide)]; simp only [obs]; cases hin : inB (o + zej (rg s x.R)) 0 16777215 with
  | false =>
   rw [ifn (by decide)]; exact .inl ⟨5, _, _, s, rfl, by omega, rfl, rfl⟩
  | true =>
   have hr := zaz.1 hin; rw [ifp rfl]; obtain ⟨k, hk⟩ : ∃ k : Nat, o + zej (rg s x.R) = (k : Int) := ⟨(o + zej (rg s x.R)).toNat, by omega⟩; rw [hk]; rw [show (⟨(zh6 o).Kind, ⟨(zh6 o).Address.zZ, (k : Int)⟩, (zh6 o).Authority⟩ : Pointer) = zh6 k from rfl]; refine .inr ⟨_, _, _, rfl, ?_, ?_, fun _ => ⟨rfl, by omega, by omega⟩, hs.updS (z2h (off := k) hs.sto (by omega) (by omega) (by omega)) (zx1 (by omega)), rfl, rfl, rfl⟩
   · simp only [bnt, Bool.not_false, ctr]; rw [zxx N (by omega) hs.sto hq k (by omega)]; show some (w6 (s.At + 1), _) = _; rw [wn1]; rfl
   · simp only [bnt, cfa]; rw [zyd N (by omega) hs.sto hq k (by omega)]; show some (w6 (s.At + 1), _) = _; rw [wn1]; rfl
theorem zag4 (s : zA) {x : zB} (hop : x.Op = 17) : zdu s x = (match ldV s.Storage x.Pointer with | none => .error 4 | some _ => .ok (s.At + 1, s)) := by
 cases x; cases hop; rfl
theorem zagj (N : Nat) (M : zC) {x : zB} (hop : x.Op = 17) : zd N M x = ((zav N M x.Pointer).bind fun r7 => some r7.2.2).bind fun r => some (w6 (r.zA.At + 1), r) := by
 cases x; cases hop; rfl
theorem zafh (N : Nat) {x : zB} (hop : x.Op = 17) (hi : idx c.zD s.At = some x) : ze N c s = ((zid N s.Storage x.Pointer).bind fun r10 => cond (r10.2 != 0) (some (4, s)) (some (0, s))).bind fun r => some (w6 (s.At + 1), r.1, r.2) := by
 unfold ze
 rw [hi, obs]
 clear hi
 cases x; cases hop; rfl
theorem zac0 (N : Nat) (hN : 20000 < N) (hc : CodeV m c) (hs : StV m c s) {x : zB} (hx : c.zD[s.At.toNat]? = some x) (hop : x.Op = 17) : zb9 N m c s x := by
 have iv := zg4 hc (lmg hx) hop (U := ⟨false, false, false, false, false, false, false, false, false, false, false, false, true, false, 0, 0⟩) rfl
 have hi : idx c.zD s.At = some x := by unfold idx; rw [ifp hs.at0, hx]
 have m8 := hc.m2
 have a0 := hs.at0
 have a1 := hs.at1
 have n240 := hc.len
 have wn1 : w6 (s.At + 1) = s.At + 1 := w6e
 unfold zb9
 rw [zag4 s hop, zagj N _ hop, zafh N hop hi]
 have hq : zer s.Storage x.Pointer = true := by rw [zm8 hs.size]; exact iv.pt rfl
 rw [zql N (by omega) s c hs.sto hq, zws N (by omega) hs.sto hq]
 cases hld : ldV s.Storage x.Pointer with
 | none => exact .inl ⟨4, _, _, s, rfl, by omega, rfl, rfl⟩
 | some o =>
  refine .inr ⟨_, _, _, rfl, ?_, ?_, fun _ => ⟨rfl, by omega, by omega⟩, hs, rfl, rfl, rfl⟩
  · show some (w6 (s.At + 1), _) = _; rw [wn1]
  · show some (w6 (s.At + 1), _) = _; rw [wn1]
theorem zag3 (s : zA) {x : zB} (hop : x.Op = 18) : zdu s x = (if 6 ≤ s.Stack.length then .error 6 else .ok (x.Target, updK s (s.Stack ++ [s.At]))) := by
 cases x; cases hop; rfl
theorem zagi (N : Nat) (M : zC) {x : zB} (hop : x.Op = 18) : zd N M x = ((ze2 M x.Target).bind fun r1 => some (r1.1, r1.2)).bind fun r => some (r.1, r.2) := by
 cases x; cases hop; rfl
theorem zafg (N : Nat) {x : zB} (hop : x.Op = 18) (hi : idx c.zD s.At = some x) : ze N c s = cond ((s.Stack.length : Int) == 6) (some (0, 6, s)) (cond (Nat.ble ((s.Stack.length + ([s.At] : List Int).length) * 8) zac) (some (x.Target, 0, updK s (s.Stack ++ [s.At]))) none) := by
 unfold ze
 rw [hi, obs]
 clear hi
 cases x; cases hop; rfl
theorem zacz (N : Nat) (hN : 20000 < N) (hc : CodeV m c) (hs : StV m c s) {x : zB} (hx : c.zD[s.At.toNat]? = some x) (hop : x.Op = 18) : zb9 N m c s x := by
 have iv := zg4 hc (lmg hx) hop (U := ⟨false, false, false, false, false, false, false, false, false, true, false, false, false, false, 0, 0⟩) rfl
 have hi : idx c.zD s.At = some x := by unfold idx; rw [ifp hs.at0, hx]
 have m8 := hc.m2
 have a0 := hs.at0
 have a1 := hs.at1
 have n240 := hc.len
 have wn1 : w6 (s.At + 1) = s.At + 1 := w6e
 unfold zb9
 rw [zag3 s hop, zagi N _ hop, zafg N hop hi]
 have ht := iv.tg rfl
 have h6 := hs.stk
 unfold ze2
 simp only []
 rw [zhy _ _ _ _ (by decide)]
 simp only [obs, zao]
 by_cases h : 6 ≤ s.Stack.length
 · rw [ifp h, dct (show (s.Stack.length : Int) ≥ 6 by omega), dct (show (s.Stack.length : Int) = 6 by omega)]; exact .inl ⟨6, _, _, s, rfl, by omega, rfl, rfl⟩
 · rw [ifn h, dcf (show ¬ (s.Stack.length : Int) ≥ 6 by omega), dcf (show ¬ (s.Stack.length : Int) = 6 by omega)]; have hcl : zda 8 s.Stack = some s.Stack := by unfold zda; rw [zal (by omega)]; rfl
   have hrm : Nat.ble ((s.Stack.length + ([s.At] : List Int).length) * 8) zac = true := zal (by simp only [lnc, ln0]; omega); simp only [Bool.not_false, ctr, cfa]; rw [hcl]; simp only [obs]; rw [hrm]; refine .inr ⟨_, _, _, rfl, rfl, rfl, fun _ => ⟨rfl, by omega, by omega⟩, hs.updK ?_ ?_, rfl, rfl, rfl⟩
   · rw [lna, lns]; omega
   · intro i hmem; rcases List.mem_append.1 hmem with h2 | h2
     · exact hs.calls i h2
     · rw [List.mem_singleton.1 h2]; exact ⟨⟨a0, a1⟩, x, hx, hop⟩
theorem zag2 (s : zA) {x : zB} (hop : x.Op = 19) : zdu s x = (if s.Stack.length = 0 then .ok (s.At, updT s 1) else .ok (s.Stack.getD (s.Stack.length - 1) 0 + 1, updK s (s.Stack.take (s.Stack.length - 1)))) := by
 cases x; cases hop; rfl
theorem zagh (N : Nat) (M : zC) {x : zB} (hop : x.Op = 19) : zd N M x = ((ze3 M).bind fun r2 => some (r2.1, r2.2)).bind fun r => some (r.1, r.2) := by
 cases x; cases hop; rfl
theorem zaff (N : Nat) {x : zB} (hop : x.Op = 19) (hi : idx c.zD s.At = some x) : ze N c s = cond ((s.Stack.length : Int) == 0) (some ((w6 (s.At + 1)), 0, updT s 1)) (if 0 ≤ (w6 ((s.Stack.length : Int) - 1)) then (if (w6 ((s.Stack.length : Int) - 1)) < (s.Stack.length : Int) then ((s.Stack[(w6 ((s.Stack.length : Int) - 1)).toNat]?).bind fun x6 => if 0 ≤ (w6 ((s.Stack.length : Int) - 1)) ∧ (w6 ((s.Stack.length : Int) - 1)) ≤ (s.Stack.length : Int) then (if 0 ≤ (0 : Int) ∧ (0 : Int) ≤ (w6 ((s.Stack.length : Int) - 1)) then (some ((w6 (x6 + 1)), 0, updK s ((s.Stack.drop ((0 : Int).toNat)).take ((w6 ((s.Stack.length : Int) - 1)).toNat - (0 : Int).toNat)))) else none) else none) else none) else none) := by
 unfold ze
 rw [hi, obs]
 clear hi
 cases x; cases hop; rfl
theorem zacy (N : Nat) (hN : 20000 < N) (hc : CodeV m c) (hs : StV m c s) {x : zB} (hx : c.zD[s.At.toNat]? = some x) (hop : x.Op = 19) : zb9 N m c s x := by
 have iv := zg4 hc (lmg hx) hop (U := ⟨false, false, false, false, false, false, false, false, false, false, false, false, false, false, 0, 0⟩) rfl
 have hi : idx c.zD s.At = some x := by unfold idx; rw [ifp hs.at0, hx]
 have m8 := hc.m2
 have a0 := hs.at0
 have a1 := hs.at1
 have n240 := hc.len
 have wn1 : w6 (s.At + 1) = s.At + 1 := w6e
 unfold zb9
 rw [zag2 s hop, zagh N _ hop, zaff N hop hi]
 have h6 := hs.stk
 unfold ze3
 simp only [zao]
 by_cases h : s.Stack.length = 0
 · rw [ifp h, w6e, dct (show (s.Stack.length : Int) - 1 < 0 by omega), dct (show (s.Stack.length : Int) = 0 by omega)]; exact .inr ⟨_, _, _, rfl, rfl, rfl, (fun h => by have h' : (1 : Int) = 0 := h; omega), hs.updT (by omega) (by omega), rfl, rfl, rfl⟩
 · have hl : (s.Stack.length : Int) - 1 = ((s.Stack.length - 1 : Nat) : Int) := by omega
   have hx1 : s.Stack[s.Stack.length - 1]? = some (s.Stack.getD (s.Stack.length - 1) 0) := by rw [gdd, lge (by omega)]; rfl
   obtain ⟨hr, _⟩ := hs.calls _ (lmg hx1); have hcl : ∀ l : List Int, l.length ≤ 6 → zda 8 l = some l := fun l hl => by unfold zda; rw [zal (by omega)]; rfl
   rw [ifn h, w6e (n := (s.Stack.length : Int) - 1), dcf (show ¬ (s.Stack.length : Int) - 1 < 0 by omega), dcf (show ¬ (s.Stack.length : Int) = 0 by omega)]; simp only [cfa]; rw [hl, zbc, hx1]; simp only [obs]; rw [ifp, ifp, ifp, ifp, itn, hx1]; simp only [obs]; rw [ifp, ifp, show (0 : Int).toNat = 0 from rfl, dr0, dr0, Nat.sub_zero, hcl _ (by rw [lnt]; omega), w6e]; refine .inr ⟨_, _, _, rfl, rfl, rfl, fun _ => ⟨rfl, by omega, by omega⟩, hs.updK ?_ ?_, rfl, rfl, rfl⟩
   · rw [lnt]; omega
   · intro i hi2; exact hs.calls i (List.mem_of_mem_take hi2)
theorem zag1 (s : zA) {x : zB} (hop : x.Op = 20) : zdu s x = (if inB (zej (rg s x.R)) 100 999 = true then .error (zej (rg s x.R)) else .error 2) := by
 cases x; cases hop; rfl
theorem zagg (N : Nat) (M : zC) {x : zB} (hop : x.Op = 20) : zd N M x = (zeb N M x).bind fun r => some (w6 (r.zA.At + 1), r) := by
 cases x; cases hop; rfl
theorem zafe (N : Nat) {x : zB} (hop : x.Op = 20) (hi : idx c.zD s.At = some x) : ze N c s = if 0 ≤ x.R then (if x.R < (s.Registers.length : Int) then ((s.Registers[x.R.toNat]?).bind fun x7 => (zjt N x7).bind fun r8 => (zg r8 100 999).bind fun r9 => cond r9 (some (0, r8, s)) (some (0, 2, s))) else none) else none := by
 unfold ze
 rw [hi, obs]
 clear hi
 cases x; cases hop; rfl
theorem zacx (N : Nat) (hN : 20000 < N) (hc : CodeV m c) (hs : StV m c s) {x : zB} (hx : c.zD[s.At.toNat]? = some x) (hop : x.Op = 20) : zb9 N m c s x := by
 have iv := zg4 hc (lmg hx) hop (U := ⟨true, false, false, false, false, false, false, false, false, false, false, false, false, false, 0, 0⟩) rfl
 have hi : idx c.zD s.At = some x := by unfold idx; rw [ifp hs.at0, hx]
 have m8 := hc.m2
 have a0 := hs.at0
 have a1 := hs.at1
 have n240 := hc.len
 have wn1 : w6 (s.At + 1) = s.At + 1 := w6e
 unfold zb9
 rw [zag1 s hop, zagg N _ hop, zafe N hop hi]
 obtain ⟨g1, g2, g3, g4, g5⟩ := zf2 hs (iv.r rfl)
 unfold zeb
 simp only []
 rw [g4, ifp g1, ifp g2, g3]
 simp only [obs]
 rw [z3p N (by omega) g5, zzf N (by omega) g5]
 simp only [obs]
 rw [znz, zh0]
 simp only [obs]
 cases hin : inB (zej (rg s x.R)) 100 999 with
 | false =>
  rw [ifn (by decide)]; simp only [Bool.not_false, ctr, cfa]; rw [zhy _ _ _ _ (by decide)]; exact .inl ⟨2, _, _, s, rfl, by omega, rfl, rfl⟩
 | true =>
  have hr := zaz.1 hin; rw [ifp rfl]; simp only [bnt, ctr, cfa]; rw [zhy _ _ _ _ (by omega)]; exact .inl ⟨_, _, _, s, rfl, by omega, rfl, rfl⟩
theorem zvu (hs : StV m c s) (l : ByteArray) (hl : l.size ≤ 256) (n240 : c.zD.length ≤ 240) :
 ∃ t, zke s l = .ok (s.At + 1, t) ∧
  (cond ((s.Lines.length : Int) == 40) (some (⟨updT s 3, c, 0⟩ : zC)) ((zda 16 s.Lines).bind fun r6 => cond (Nat.ble ((r6.length + ([l] : List ByteArray).length) * 16) zac) (some (⟨updL s (r6 ++ [l]), c, 0⟩ : zC)) none)) = some ⟨t, c, 0⟩ ∧
  (cond ((s.Lines.length : Int) == 40) (some ((0 : Int), updT s 3)) (cond (Nat.ble ((s.Lines.length + ([l] : List ByteArray).length) * 16) zac) (some (0, updL s (s.Lines ++ [l]))) none)) = some (0, t) ∧ StV m c t ∧ t.At = s.At ∧ t.Steps = s.Steps ∧ t.Exception = s.Exception := by
 have h40 := hs.lines
 unfold zke
 rw [zao]
 by_cases h : s.Lines.length = 40
 · rw [ifp h, dct (show (s.Lines.length : Int) = 40 by omega)]; exact ⟨_, rfl, rfl, rfl, hs.updT (by omega) (by omega), rfl, rfl, rfl⟩
 · rw [ifn h, dcf (show ¬ (s.Lines.length : Int) = 40 by omega)]; have hcl : zda 16 s.Lines = some s.Lines := by unfold zda; rw [zal (by omega)]; rfl
   have hrm : Nat.ble ((s.Lines.length + ([l] : List ByteArray).length) * 16) zac = true := zal (by simp only [lnc, ln0]; omega); simp only [cfa]; rw [hcl]; simp only [obs]; rw [hrm]; exact ⟨_, rfl, rfl, rfl, hs.updL (by omega) hl, rfl, rfl, rfl⟩
theorem zagz (s : zA) {x : zB} (hop : x.Op = 22) : zdu s x = (zke s (zo5 (rg s x.R))) := by
 cases x; cases hop; rfl
theorem zage (N : Nat) (M : zC) {x : zB} (hop : x.Op = 22) : zd N M x = ((idx M.zA.Registers x.R).bind fun x1 => (zee x1).bind fun r2 => cond ((M.zA.Lines.length : Int) == 40) (some (⟨updT M.zA 3, M.code, M.raised⟩ : zC)) ((zda 16 M.zA.Lines).bind fun r6 => cond (Nat.ble ((r6.length + ([r2.1] : List ByteArray).length) * 16) zac) (some (⟨updL M.zA (r6 ++ [r2.1]), M.code, M.raised⟩ : zC)) none)).bind fun r => some (w6 (r.zA.At + 1), r) := by
 cases x; cases hop; rfl
theorem zafc (N : Nat) {x : zB} (hop : x.Op = 22) (hi : idx c.zD s.At = some x) : ze N c s = (if 0 ≤ x.R then (if x.R < (s.Registers.length : Int) then ((s.Registers[x.R.toNat]?).bind fun x1 => (zfo N x1).bind fun r2 => cond ((s.Lines.length : Int) == 40) (some (0, updT s 3)) (cond (Nat.ble ((s.Lines.length + ([r2] : List ByteArray).length) * 16) zac) (some (0, updL s (s.Lines ++ [r2]))) none)) else none) else none).bind fun r => some (w6 (s.At + 1), r.1, r.2) := by
 unfold ze
 rw [hi, obs]
 clear hi
 cases x; cases hop; rfl
theorem zacv (N : Nat) (hN : 20000 < N) (hc : CodeV m c) (hs : StV m c s) {x : zB} (hx : c.zD[s.At.toNat]? = some x) (hop : x.Op = 22) : zb9 N m c s x := by
 have iv := zg4 hc (lmg hx) hop (U := ⟨true, false, false, false, false, false, false, false, false, false, false, false, false, false, 0, 0⟩) rfl
 have hi : idx c.zD s.At = some x := by unfold idx; rw [ifp hs.at0, hx]
 have m8 := hc.m2
 have a0 := hs.at0
 have a1 := hs.at1
 have n240 := hc.len
 have wn1 : w6 (s.At + 1) = s.At + 1 := w6e
 unfold zb9
 rw [zagz s hop, zage N _ hop, zafc N hop hi]
 obtain ⟨g1, g2, g3, g4, g5⟩ := zf2 hs (iv.r rfl)
 simp only []
 rw [g4, ifp g1, ifp g2, g3]
 simp only [obs]
 rw [z8n g5, zaby N (by omega) g5]
 simp only [obs]
 obtain ⟨t, p1, p2, p3, p4, p5, p6, p7⟩ := zvu hs (zo5 (rg s x.R)) (z6a g5) n240
 rw [p1, p2, p3]
 refine .inr ⟨_, _, _, rfl, ?_, ?_, fun _ => ⟨rfl, by omega, by omega⟩, p4, p5, p6, p7⟩
 · show some (w6 (t.At + 1), _) = _; rw [p5, wn1]
 · show some (w6 (s.At + 1), _) = _; rw [wn1]
theorem zagy (s : zA) {x : zB} (hop : x.Op = 23) : zdu s x = (match zgl s.Storage x.Place x.zF with | .error e => .error e | .ok b => zke s b) := by
 cases x; cases hop; rfl
theorem zagd (N : Nat) (M : zC) {x : zB} (hop : x.Op = 23) : zd N M x = ((zu N M x.Place x.zF).bind fun r4 => cond (!r4.2.1) (some r4.2.2) (cond ((r4.2.2.zA.Lines.length : Int) == 40) (some (⟨updT r4.2.2.zA 3, r4.2.2.code, r4.2.2.raised⟩ : zC)) ((zda 16 r4.2.2.zA.Lines).bind fun r6 => cond (Nat.ble ((r6.length + ([r4.1] : List ByteArray).length) * 16) zac) (some (⟨updL r4.2.2.zA (r6 ++ [r4.1]), r4.2.2.code, r4.2.2.raised⟩ : zC)) none))).bind fun r => some (w6 (r.zA.At + 1), r) := by
 cases x; cases hop; rfl
theorem zafb (N : Nat) {x : zB} (hop : x.Op = 23) (hi : idx c.zD s.At = some x) : ze N c s = ((zex N s x.Place x.zF).bind fun r3 => cond (r3.2 != 0) (some (r3.2, s)) (cond ((s.Lines.length : Int) == 40) (some (0, updT s 3)) (cond (Nat.ble ((s.Lines.length + ([r3.1] : List ByteArray).length) * 16) zac) (some (0, updL s (s.Lines ++ [r3.1]))) none))).bind fun r => some (w6 (s.At + 1), r.1, r.2) := by
 unfold ze
 rw [hi, obs]
 clear hi
 cases x; cases hop; rfl
theorem zacu (N : Nat) (hN : 20000 < N) (hc : CodeV m c) (hs : StV m c s) {x : zB} (hx : c.zD[s.At.toNat]? = some x) (hop : x.Op = 23) : zb9 N m c s x := by
 have iv := zg4 hc (lmg hx) hop (U := ⟨false, false, false, true, false, false, false, false, false, false, false, false, false, false, 2, 0⟩) rfl
 have hi : idx c.zD s.At = some x := by unfold idx; rw [ifp hs.at0, hx]
 have m8 := hc.m2
 have a0 := hs.at0
 have a1 := hs.at1
 have n240 := hc.len
 have wn1 : w6 (s.At + 1) = s.At + 1 := w6e
 unfold zb9
 rw [zagy s hop, zagd N _ hop, zafb N hop hi]
 have hp : zcd s.Storage x.Place (szE x.zF) = true := by rw [zgr hs.size]; have := iv.pl rfl; unfold zgh at this; rw [ifn] at this; exact this
 have hz1 := zka (iv.ty2 rfl).1
 rcases zm7 N (by omega) s c hs.sto (iv.ty2 rfl).1 hp with ⟨e, b, k, he, h1, h2, h3⟩ | ⟨b, h1, h2, h3, h4⟩
 · rw [h1, h2, h3]; refine .inl ⟨e, _, w6 (s.At + 1), s, rfl, by omega, rfl, ?_⟩; rcases he with rfl | rfl <;> rfl
 rw [h1, h2, h3]
 simp only [obs, bnt, cfa, bsf]
 obtain ⟨t, p1, p2, p3, p4, p5, p6, p7⟩ := zvu hs b (by omega) n240
 rw [p1, p2, p3]
 refine .inr ⟨_, _, _, rfl, ?_, ?_, fun _ => ⟨rfl, by omega, by omega⟩, p4, p5, p6, p7⟩
 · show some (w6 (t.At + 1), _) = _; rw [p5, wn1]
 · show some (w6 (s.At + 1), _) = _; rw [wn1]
theorem zagx (s : zA) {x : zB} (hop : x.Op = 24) : zdu s x = (zke s x.Text) := by
 cases x; cases hop; rfl
theorem zagc (N : Nat) (M : zC) {x : zB} (hop : x.Op = 24) : zd N M x = (cond ((M.zA.Lines.length : Int) == 40) (some (⟨updT M.zA 3, M.code, M.raised⟩ : zC)) ((zda 16 M.zA.Lines).bind fun r6 => cond (Nat.ble ((r6.length + ([x.Text] : List ByteArray).length) * 16) zac) (some (⟨updL M.zA (r6 ++ [x.Text]), M.code, M.raised⟩ : zC)) none)).bind fun r => some (w6 (r.zA.At + 1), r) := by
 cases x; cases hop; rfl
theorem zafa (N : Nat) {x : zB} (hop : x.Op = 24) (hi : idx c.zD s.At = some x) : ze N c s = (cond ((s.Lines.length : Int) == 40) (some (0, updT s 3)) (cond (Nat.ble ((s.Lines.length + ([x.Text] : List ByteArray).length) * 16) zac) (some (0, updL s (s.Lines ++ [x.Text]))) none)).bind fun r => some (w6 (s.At + 1), r.1, r.2) := by
 unfold ze
 rw [hi, obs]
 clear hi
 cases x; cases hop; rfl
theorem zact (N : Nat) (hN : 20000 < N) (hc : CodeV m c) (hs : StV m c s) {x : zB} (hx : c.zD[s.At.toNat]? = some x) (hop : x.Op = 24) : zb9 N m c s x := by
 have iv := zg4 hc (lmg hx) hop (U := ⟨false, false, false, false, false, false, false, false, false, false, true, false, false, false, 0, 0⟩) rfl
 have hi : idx c.zD s.At = some x := by unfold idx; rw [ifp hs.at0, hx]
 have m8 := hc.m2
 have a0 := hs.at0
 have a1 := hs.at1
 have n240 := hc.len
 have wn1 : w6 (s.At + 1) = s.At + 1 := w6e
 unfold zb9
 rw [zagx s hop, zagc N _ hop, zafa N hop hi]
 simp only []
 obtain ⟨t, p1, p2, p3, p4, p5, p6, p7⟩ := zvu hs x.Text (iv.tx) n240
 rw [p1, p2, p3]
 refine .inr ⟨_, _, _, rfl, ?_, ?_, fun _ => ⟨rfl, by omega, by omega⟩, p4, p5, p6, p7⟩
 · show some (w6 (t.At + 1), _) = _; rw [p5, wn1]
 · show some (w6 (s.At + 1), _) = _; rw [wn1]
theorem zagw (s : zA) {x : zB} (hop : x.Op = 25) : zdu s x = (if s.Marks = 300 then .ok (s.At + 1, updT s 3) else .ok (s.At + 1, updM s (s.Marks + 1))) := by
 cases x; cases hop; rfl
theorem zagb (N : Nat) (M : zC) {x : zB} (hop : x.Op = 25) : zd N M x = (ze1 M).bind fun r => some (w6 (r.zA.At + 1), r) := by
 cases x; cases hop; rfl
theorem zae9 (N : Nat) {x : zB} (hop : x.Op = 25) (hi : idx c.zD s.At = some x) : ze N c s = cond (s.Marks == 300) (some ((w6 (s.At + 1)), 0, updT s 3)) (some ((w6 (s.At + 1)), 0, updM s (w6 (s.Marks + 1)))) := by
 unfold ze
 rw [hi, obs]
 clear hi
 cases x; cases hop; rfl
theorem zacs (N : Nat) (hN : 20000 < N) (hc : CodeV m c) (hs : StV m c s) {x : zB} (hx : c.zD[s.At.toNat]? = some x) (hop : x.Op = 25) : zb9 N m c s x := by
 have iv := zg4 hc (lmg hx) hop (U := ⟨false, false, false, false, false, false, false, false, false, false, false, false, false, false, 0, 0⟩) rfl
 have hi : idx c.zD s.At = some x := by unfold idx; rw [ifp hs.at0, hx]
 have m8 := hc.m2
 have a0 := hs.at0
 have a1 := hs.at1
 have n240 := hc.len
 have wn1 : w6 (s.At + 1) = s.At + 1 := w6e
 unfold zb9
 rw [zagw s hop, zagb N _ hop, zae9 N hop hi]
 have k0 := hs.mk0
 have k1 := hs.mk1
 unfold ze1
 simp only [zao]
 rw [w6e (n := s.Marks + 1), wn1]
 by_cases h : s.Marks = 300
 · rw [ifp h, dct h]; refine .inr ⟨_, _, _, rfl, ?_, rfl, fun _ => ⟨rfl, by omega, by omega⟩, hs.updT (by omega) (by omega), rfl, rfl, rfl⟩; show some (w6 (s.At + 1), _) = _; rw [wn1]; rfl
 · rw [ifn h, dcf h]; refine .inr ⟨_, _, _, rfl, ?_, rfl, fun _ => ⟨rfl, by omega, by omega⟩, hs.updM (by omega) (by omega), rfl, rfl, rfl⟩; show some (w6 (s.At + 1), _) = _; rw [wn1]; rfl
theorem zagv (s : zA) {x : zB} (hop : x.Op = 26) : zdu s x = (.ok (s.At + 1, updT s 1)) := by
 cases x; cases hop; rfl
theorem zaga (N : Nat) (M : zC) {x : zB} (hop : x.Op = 26) : zd N M x = some (w6 (M.zA.At + 1), ⟨updT M.zA 1, M.code, M.raised⟩) := by
 cases x; cases hop; rfl
theorem zae8 (N : Nat) {x : zB} (hop : x.Op = 26) (hi : idx c.zD s.At = some x) : ze N c s = some (w6 (s.At + 1), 0, updT s 1) := by
 unfold ze
 rw [hi, obs]
 clear hi
 cases x; cases hop; rfl
theorem zacr (N : Nat) (hN : 20000 < N) (hc : CodeV m c) (hs : StV m c s) {x : zB} (hx : c.zD[s.At.toNat]? = some x) (hop : x.Op = 26) : zb9 N m c s x := by
 have iv := zg4 hc (lmg hx) hop (U := ⟨false, false, false, false, false, false, false, false, false, false, false, false, false, false, 0, 0⟩) rfl
 have hi : idx c.zD s.At = some x := by unfold idx; rw [ifp hs.at0, hx]
 have m8 := hc.m2
 have a0 := hs.at0
 have a1 := hs.at1
 have n240 := hc.len
 have wn1 : w6 (s.At + 1) = s.At + 1 := w6e
 unfold zb9
 rw [zagv s hop, zaga N _ hop, zae8 N hop hi]
 rw [wn1]
 exact .inr ⟨_, _, _, rfl, rfl, rfl, fun _ => ⟨rfl, by omega, by omega⟩, hs.updT (by omega) (by omega), rfl, rfl, rfl⟩
theorem z89 (N : Nat) (hN : 20000 < N) (hc : CodeV m c) (hs : StV m c s) {x : zB} (hx : c.zD[s.At.toNat]? = some x) : zb9 N m c s x := by
 obtain ⟨⟨h0, h26⟩, _⟩ := z61 (hc.ins x (lmg hx))
 rcases (by omega : x.Op = 0 ∨ x.Op = 1 ∨ x.Op = 2 ∨ x.Op = 3 ∨ x.Op = 4 ∨ x.Op = 5 ∨ x.Op = 6 ∨ x.Op = 7 ∨ x.Op = 8 ∨ x.Op = 9 ∨ x.Op = 10 ∨ x.Op = 11 ∨ x.Op = 12 ∨ x.Op = 13 ∨ x.Op = 14 ∨ x.Op = 15 ∨ x.Op = 16 ∨ x.Op = 17 ∨ x.Op = 18 ∨ x.Op = 19 ∨ x.Op = 20 ∨ x.Op = 21 ∨ x.Op = 22 ∨ x.Op = 23 ∨ x.Op = 24 ∨ x.Op = 25 ∨ x.Op = 26) with h | h | h | h | h | h | h | h | h | h | h | h | h | h | h | h | h | h | h | h | h | h | h | h | h | h | h
 · exact zaet N hN hc hs hx h
 · exact zaes N hN hc hs hx h
 · exact zaer N hN hc hs hx h
 · exact zaeq N hN hc hs hx h
 · exact zaep N hN hc hs hx h
 · exact zaeo N hN hc hs hx h
 · exact zaen N hN hc hs hx h
 · exact zaem N hN hc hs hx h
 · exact zael N hN hc hs hx h
 · exact zaek N hN hc hs hx h
 · exact zac7 N hN hc hs hx h
 · exact zac6 N hN hc hs hx h
 · exact zac5 N hN hc hs hx h
 · exact zac4 N hN hc hs hx h
 · exact zac3 N hN hc hs hx h
 · exact zac2 N hN hc hs hx h
 · exact zac1 N hN hc hs hx h
 · exact zac0 N hN hc hs hx h
 · exact zacz N hN hc hs hx h
 · exact zacy N hN hc hs hx h
 · exact zacx N hN hc hs hx h
 · exact zacw N hN hc hs hx h
 · exact zacv N hN hc hs hx h
 · exact zacu N hN hc hs hx h
 · exact zact N hN hc hs hx h
 · exact zacs N hN hc hs hx h
 · exact zacr N hN hc hs hx h
end
section
variable {m : zH} {c : zG} {s : zA}
def zle (t : zT) (a e : Int) : Bool := inB a t.From (t.To - 1) && (decide (t.Exception = 0) || decide (t.Exception = e))
def zyr (c : zG) (a e : Int) : Option Nat := (List.range c.zN.length).findSome? fun i => (c.zN[i]?).bind fun t => if zle t a e = true then some i else none
def zfg (c : zG) (a e : Int) : Int := match zyr c a e with | some i => (c.zN.getD i ⟨0, 0, 0, 0⟩).Handler | none => -1
theorem z1e {a e : Int} {i : Nat} (h : zyr c a e = some i) : ∃ t, c.zN[i]? = some t ∧ zle t a e = true := by
 obtain ⟨j, _, hj⟩ := eof h
 rw [Option.bind_eq_some_iff] at hj
 obtain ⟨t, ht, hj⟩ := hj
 split at hj
 · rename_i hh; cases hj; exact ⟨t, ht, hh⟩
 · cases hj
theorem zy2 (hc : CodeV m c) {t : zT} (ht : t ∈ c.zN) : 0 ≤ t.From ∧ t.From ≤ t.To ∧ t.To ≤ (c.zD.length : Int) ∧ 0 ≤ t.Handler ∧ t.Handler < (c.zD.length : Int) := by
 have := hc.trap t ht
 unfold zo4 at this
 simp only [Bool.and_eq_true, decide_eq_true_eq] at this
 obtain ⟨h1, h2, h3, h4⟩ := this
 have := zaz.1 h1
 have := zaz.1 h4
 omega
theorem z0p (hc : CodeV m c) (a e : Int) : zfg c a e = -1 ∨ (0 ≤ zfg c a e ∧ zfg c a e < (c.zD.length : Int)) := by
 unfold zfg
 cases h : zyr c a e with
 | none => exact .inl rfl
 | some i =>
  obtain ⟨t, ht, _⟩ := z1e h; right; simp only []; rw [gdd, ht]; have := zy2 hc (lmg ht); exact this.2.2.2
theorem z63 (N : Nat) (hN : 20000 < N) (hc : CodeV m c) (a e : Int) : zhk N c a e = some (zfg c a e) := by
 have n40 := hc.traps
 have n240 := hc.len
 unfold zhk zo
 have l1 := zcc (f := zo.r0 N) (fun i => (c.zN, (c.zN.length : Int), (i : Int), a, e)) (fun i => ((c.zN[i]?).bind fun t => if zle t a e = true then some i else none).map fun i : Nat => (i : Int)) c.zN.length
  (fun i hi => by
   have hx := lge hi; have hf := zy2 hc (List.getElem_mem hi); simp only [zo.r0, zo.b0, zbc, hx, obs, dct (show (i : Int) < (c.zN.length : Int) by omega), ctr]; have e1 : zfz c.zN[i] a e = some (zle c.zN[i] a e) := by
    unfold zfz zle; rw [w6e, znz, zao, zao]; simp only [obs]; cases inB a c.zN[i].From (c.zN[i].To - 1) <;> cases decide (c.zN[i].Exception = 0) <;> cases decide (c.zN[i].Exception = e) <;> rfl
   rw [e1, w6e]; cases zle c.zN[i] a e <;> rfl)
  (by simp only [zo.r0, zo.b0, dcf (show ¬ (c.zN.length : Int) < (c.zN.length : Int) by omega), cfa]) (N := N) (by omega)
 simp only [nc0] at l1
 rw [l1]
 have e2 : ∀ l : List Nat, l.findSome? (fun i => ((c.zN[i]?).bind fun t => if zle t a e = true then some i else none).map fun i : Nat => (i : Int)) = (l.findSome? (fun i => (c.zN[i]?).bind fun t => if zle t a e = true then some i else none)).map fun i : Nat => (i : Int) := by
  intro l
  induction l with
  | nil => rfl
  | cons i l ih =>
   rw [List.findSome?_cons, List.findSome?_cons]; cases (c.zN[i]?).bind fun t => if zle t a e = true then some i else none with
   | none => exact ih
   | some j => rfl
 rw [e2]
 have e3 : (List.range c.zN.length).findSome? (fun i => (c.zN[i]?).bind fun t => if zle t a e = true then some i else none) = zyr c a e := rfl
 rw [e3]
 unfold zfg
 cases h : zyr c a e with
 | none => rfl
 | some i =>
  obtain ⟨t, ht, _⟩ := z1e h; simp only [Option.map_some, zb2, obs]; rw [dcf (show ¬ ((i : Nat) : Int) < 0 by omega), cfa, zbc, ht, gdd, ht]; rfl
theorem z6o (N : Nat) (hN : 20000 < N) (hc : CodeV m c) (a e : Int) : zd2 N c a e = some (zfg c a e) := by
 have n40 := hc.traps
 unfold zd2
 have l1 := zcc (f := zd2.r0 N) (fun i => (a, e, (i : Int), c)) (fun i => ((c.zN[i]?).bind fun t => if zle t a e = true then some i else none).map fun i : Nat => (c.zN.getD i ⟨0, 0, 0, 0⟩).Handler) c.zN.length
  (fun i hi => by
   have hx := lge hi; simp only [zd2.r0, zd2.b0, zbc, hx, obs, dct (show (i : Int) < (c.zN.length : Int) by omega), ctr]; have e1 : ((cond (decide (c.zN[i].From ≤ a)) (some (decide (a < c.zN[i].To))) (some false)).bind fun g1002 => (cond g1002 ((cond (c.zN[i].Exception == 0) (some true) (some (c.zN[i].Exception == e))).bind fun g1003 => some g1003) (some false))) = some (zle c.zN[i] a e) := by
    unfold zle inB; rw [zao, zao, show decide (a ≤ c.zN[i].To - 1) = decide (a < c.zN[i].To) by rw [decide_eq_decide]; omega]; cases decide (c.zN[i].From ≤ a) <;> cases decide (a < c.zN[i].To) <;> cases decide (c.zN[i].Exception = 0) <;> cases decide (c.zN[i].Exception = e) <;> rfl
   rw [← Option.bind_assoc, e1, w6e]; simp only [obs]; cases zle c.zN[i] a e with
   | false => rfl
   | true =>
    simp only [ctr, if_true, Option.map_some]; rw [gdd, hx]; rfl)
  (by simp only [zd2.r0, zd2.b0, dcf (show ¬ (c.zN.length : Int) < (c.zN.length : Int) by omega), cfa]) (N := N) (by omega)
 simp only [nc0] at l1
 rw [l1]
 have e2 : ∀ l : List Nat, l.findSome? (fun i => ((c.zN[i]?).bind fun t => if zle t a e = true then some i else none).map fun i : Nat => (c.zN.getD i ⟨0, 0, 0, 0⟩).Handler) = (l.findSome? (fun i => (c.zN[i]?).bind fun t => if zle t a e = true then some i else none)).map fun i : Nat => (c.zN.getD i ⟨0, 0, 0, 0⟩).Handler := by
  intro l
  induction l with
  | nil => rfl
  | cons i l ih =>
   rw [List.findSome?_cons, List.findSome?_cons]; cases (c.zN[i]?).bind fun t => if zle t a e = true then some i else none with
   | none => exact ih
   | some j => rfl
 rw [e2]
 unfold zfg
 have : (List.range c.zN.length).findSome? (fun i => (c.zN[i]?).bind fun t => if zle t a e = true then some i else none) = zyr c a e := rfl
 rw [this]
 cases zyr c a e <;> rfl
def updA (s : zA) (k : Int) : zA := ⟨s.Registers, s.Condition, s.Storage, k, s.Stack, s.Lines, s.Status, s.Exception, s.Marks, s.Steps⟩
def updE (s : zA) (k : Int) : zA := ⟨s.Registers, s.Condition, s.Storage, s.At, s.Stack, s.Lines, s.Status, k, s.Marks, s.Steps⟩
def updP (s : zA) (k : Int) : zA := ⟨s.Registers, s.Condition, s.Storage, s.At, s.Stack, s.Lines, s.Status, s.Exception, s.Marks, k⟩
theorem StV.updA (h : StV m c s) {k : Int} (h1 : 0 ≤ k) (h2 : k < (c.zD.length : Int)) : StV m c (updA s k) := {
 regs := h.regs, nums := h.nums, cnd := h.cnd, sto := h.sto, size := h.size, at0 := h1, at1 := h2, stk := h.stk, calls := h.calls, lines := h.lines, long := h.long, st0 := h.st0, st1 := h.st1, ex0 := h.ex0, ex1 := h.ex1, mk0 := h.mk0, mk1 := h.mk1, sp0 := h.sp0, sp1 := h.sp1 }
theorem StV.updE (h : StV m c s) {k : Int} (h1 : 0 ≤ k) (h2 : k ≤ 999) : StV m c (updE s k) := {
 regs := h.regs, nums := h.nums, cnd := h.cnd, sto := h.sto, size := h.size, at0 := h.at0, at1 := h.at1, stk := h.stk, calls := h.calls, lines := h.lines, long := h.long, st0 := h.st0, st1 := h.st1, ex0 := h1, ex1 := h2, mk0 := h.mk0, mk1 := h.mk1, sp0 := h.sp0, sp1 := h.sp1 }
theorem StV.updP (h : StV m c s) {k : Int} (h1 : 0 ≤ k) (h2 : k ≤ 3000) : StV m c (updP s k) := {
 regs := h.regs, nums := h.nums, cnd := h.cnd, sto := h.sto, size := h.size, at0 := h.at0, at1 := h.at1, stk := h.stk, calls := h.calls, lines := h.lines, long := h.long, st0 := h.st0, st1 := h.st1, ex0 := h.ex0, ex1 := h.ex1, mk0 := h.mk0, mk1 := h.mk1, sp0 := h1, sp1 := h2 }
def zdt (c : zG) (e : Int) : Nat → zA → zA
 | 0, s => s
 | k + 1, s => if 0 ≤ zfg c s.At e then updA s (zfg c s.At e) else if s.Stack.length = 0 then updT s 2
  else zdt c e k (updK (updA s (s.Stack.getD (s.Stack.length - 1) 0)) (s.Stack.take (s.Stack.length - 1)))
theorem zxo (N : Nat) (hN : 20000 < N) (hc : CodeV m c) (e : Int) (he : e ≠ 0) (z : zA) : ∀ (k : Nat) (s : zA), StV m c s → s.Stack.length < k → ∀ K : Nat, k ≤ K →
 zt (zaq.r0 N) K ⟨s, c, e⟩ = some (.inl ⟨zdt c e k s, c, e⟩) ∧ zt (zf3.r0 N) K (e, c, s, z) = some (.inl (zdt c e k s)) ∧ StV m c (zdt c e k s) ∧ (zdt c e k s).Steps = s.Steps ∧ (zdt c e k s).Exception = s.Exception ∧
 (zdt c e k s).Registers = s.Registers ∧ (zdt c e k s).Storage = s.Storage ∧ (zdt c e k s).Lines = s.Lines ∧ (zdt c e k s).Condition = s.Condition ∧ (s.Status = 0 → (zdt c e k s).Status = 0 ∨ (zdt c e k s).Status = 2)
 | 0, s, _, h, _, _ => by omega
 | k + 1, s, hs, h, K, hK => by
  obtain ⟨K, rfl⟩ : ∃ J, K = J + 1 := ⟨K - 1, by omega⟩; have hh := z63 N hN hc s.At e; have hr := z6o N hN hc s.At e; have rg := z0p hc s.At e; have h6 := hs.stk; have n240 := hc.len; simp only [zt, zaq.r0, zaq.b0, zf3.r0, zf3.b0]; rw [hh, hr]; simp only [obs]; unfold zdt
  by_cases h0 : 0 ≤ zfg c s.At e
  · rw [ifp h0, dct (show zfg c s.At e ≥ 0 by omega), zcz, dct (show zfg c s.At e ≠ -1 by omega)]; exact ⟨rfl, rfl, hs.updA h0 (by omega), rfl, rfl, rfl, rfl, rfl, rfl, fun h => .inl h⟩
  · rw [ifn h0, dcf (show ¬ zfg c s.At e ≥ 0 by omega), zcz, dcf (show ¬ zfg c s.At e ≠ -1 by omega), zao, w6e (n := (s.Stack.length : Int) - 1)]
    by_cases hz : s.Stack.length = 0
    · rw [ifp hz, dct (show (s.Stack.length : Int) - 1 < 0 by omega), dct (show (s.Stack.length : Int) = 0 by omega)]; exact ⟨rfl, rfl, hs.updT (by omega) (by omega), rfl, rfl, rfl, rfl, rfl, rfl, fun _ => .inr rfl⟩
    · have hl : (s.Stack.length : Int) - 1 = ((s.Stack.length - 1 : Nat) : Int) := by omega
      have hx1 : s.Stack[s.Stack.length - 1]? = some (s.Stack.getD (s.Stack.length - 1) 0) := by rw [gdd, lge (by omega)]; rfl
      obtain ⟨hrr, _⟩ := hs.calls _ (lmg hx1); have hcl : ∀ l : List Int, l.length ≤ 6 → zda 8 l = some l := fun l hl => by unfold zda; rw [zal (by omega)]; rfl
      rw [ifn hz, dcf (show ¬ (s.Stack.length : Int) - 1 < 0 by omega), dcf (show ¬ (s.Stack.length : Int) = 0 by omega), hl, zbc, hx1]; simp only [cfa, obs]; rw [ifp, ifp, ifp, ifp, itn, show (0 : Int).toNat = 0 from rfl, dr0, hcl _ (by rw [lnt]; omega)]; simp only [obs]; have hs2 : StV m c (updK (updA s (s.Stack.getD (s.Stack.length - 1) 0)) (s.Stack.take (s.Stack.length - 1))) := (hs.updA hrr.1 hrr.2).updK (by rw [lnt]; omega) fun i hi2 => hs.calls i (List.mem_of_mem_take hi2); exact zxo N hN hc e he z k _ hs2 (by show (s.Stack.take (s.Stack.length - 1)).length < k; rw [lnt]; omega) K (by omega)
def zkh (s : zA) : zA := if s.Status = 0 ∧ s.Steps = 3000 then updT s 3 else s
def zjp (c : zG) (s : zA) : zB := c.zD.getD s.At.toNat ⟨0, 0, 0, 0, 0, ⟨false, 0, 0⟩, ⟨false, 0, 0⟩, ⟨0, 0, 0⟩, ⟨0, 0, 0⟩, false, false, ⟨0, 0⟩, ⟨#[]⟩, ⟨#[]⟩, 0, 0, 0, 0⟩
def zmn (c : zG) (s : zA) : zA :=
 match zdu (updP s (s.Steps + 1)) (zjp c s) with
 | .error e => zkh (zdt c e (s.Stack.length + 1) (updE (updP s (s.Steps + 1)) e))
 | .ok (n, t) => if t.Status ≠ 0 then t else if n = (c.zD.length : Int) then updT t 1 else zkh (updA t n)
theorem z3y (t : zA) : ((cond (t.Status == 0) (some (t.Steps == 3000)) (some false)).bind fun g => cond g (some (⟨t.Registers, t.Condition, t.Storage, t.At, t.Stack, t.Lines, 3, t.Exception, t.Marks, t.Steps⟩ : zA)) (some t)) = some (zkh t) := by
 unfold zkh
 rw [zao, zao]
 by_cases h1 : t.Status = 0
 · rw [dct h1]
   by_cases h2 : t.Steps = 3000
   · rw [dct h2, ifp ⟨h1, h2⟩]; rfl
   · rw [dcf h2, ifn (fun h => h2 h.2)]; rfl
 · rw [dcf h1, ifn (fun h => h1 h.1)]; rfl
theorem z86 {t : zA} (h : StV m c t) : StV m c (zkh t) ∧ (zkh t).Steps = t.Steps ∧ ((zkh t).Status = 0 → t.Steps ≠ 3000) := by
 unfold zkh
 split
 · exact ⟨h.updT (by omega) (by omega), rfl, fun h => by have h' : (3 : Int) = 0 := h; omega⟩
 · rename_i hn; exact ⟨h, rfl, fun h1 h2 => hn ⟨h1, h2⟩⟩
theorem z8g (hc : CodeV m c) (h : StV m c s) : zlq s = some s := by
 have h1 := h.regs
 have h2 := h.stk
 have h3 := h.lines
 have h4 := h.sto.le
 have h5 := h.sto.tags
 have h6 := hc.m2
 unfold zlq zu0 zrn
 rw [zal (by omega), ctr, z5o (by omega), obs, zal (by omega), ctr, obs, zal (by omega)]
 rfl
theorem z01 (N : Nat) (hN : 20000 < N) (hc : CodeV m c) (hs : StV m c s) (hrun : s.Status = 0) (h3 : s.Steps < 3000) :
 zh7 N c s = some (zmn c s) ∧ ztt N c s = some (zmn c s) ∧ StV m c (zmn c s) ∧ (zmn c s).Steps = s.Steps + 1 ∧ ((zmn c s).Status = 0 → s.Steps + 1 < 3000) := by
 have a0 := hs.at0
 have a1 := hs.at1
 have p0 := hs.sp0
 have hx : c.zD[s.At.toNat]? = some (zjp c s) := by
  unfold zjp; rw [gdd, lge (by omega)]; rfl
 have hi : idx c.zD s.At = some (zjp c s) := by unfold idx; rw [ifp a0, hx]
 have hs1 : StV m c (updP s (s.Steps + 1)) := hs.updP (by omega) (by omega)
 have hb := z89 N hN hc hs1 (x := zjp c s) hx
 unfold zh7 ztt
 rw [hi, z8g hc hs]
 simp only [obs, eS, eC]
 rw [w6e (n := s.Steps + 1)]
 show ((zd N ⟨updP s (s.Steps + 1), c, 0⟩ (zjp c s)).bind _) = _ ∧ ((ze N c (updP s (s.Steps + 1))).bind _) = _ ∧ _
 unfold zmn
 rcases hb with ⟨e, nx, ny, t, g1, g2, g3, g4⟩ | ⟨n, k, t, g1, g3, g4, g5, g6, g7, g8, g9⟩
 · rw [g1, g3, g4]; simp only [obs]; have hse : StV m c (updE (updP s (s.Steps + 1)) e) := hs1.updE (by omega) (by omega); obtain ⟨k1, k2, k3, k4, k5, k6, k7, k8, k9, k10⟩ := zxo N hN hc e (by omega) ⟨[], 0, ⟨⟨#[]⟩, []⟩, 0, [], [], 0, 0, 0, 0⟩ (s.Stack.length + 1) _ hse (Nat.lt_succ_self _) N (by have := hs.stk; omega); rw [zcz, dct (show e ≠ 0 by omega)]; simp only [ctr]; have hf := z86 k3; have k4' : (zdt c e (s.Stack.length + 1) (updE (updP s (s.Steps + 1)) e)).Steps = s.Steps + 1 := k4; refine ⟨?_, ?_, hf.1, hf.2.1.trans k4, fun h => ?_⟩
   · unfold zaq; show ((((zt (zaq.r0 N) N ⟨updE (updP s (s.Steps + 1)) e, c, e⟩).bind _)).bind _) = _; rw [k1]; exact z3y _
   · unfold zf3; show ((((zt (zf3.r0 N) N (e, c, updE (updP s (s.Steps + 1)) e, _)).bind _)).bind _) = _; rw [k2]; exact z3y _
   · have := hf.2.2 h; omega
 · rw [g1, g3, g4]; simp only [obs, bsf, cfa]; have g8' : t.Steps = s.Steps + 1 := g8; have e0 : (t.Status != 0) = decide (t.Status ≠ 0) := zcz _ _; have e1 : (t.Status == 0) = decide (t.Status = 0) := zao _ _; rw [e0, e1]
   by_cases hst : t.Status = 0
   · obtain ⟨j1, j2, j3⟩ := g5 hst; subst j1; rw [dct hst, dcf (show ¬ t.Status ≠ 0 by omega), ifn (show ¬ t.Status ≠ 0 by omega)]; simp only [ctr, cfa, zao]
     by_cases hl : k = (c.zD.length : Int)
     · rw [dct hl, ifp hl]; exact ⟨rfl, rfl, g6.updT (by omega) (by omega), g8', fun h => by have h' : (1 : Int) = 0 := h; omega⟩
     · rw [dcf hl, ifn hl]; have hta : StV m c (updA t k) := g6.updA (by omega) (by omega); have hf := z86 hta; have f1 := z3y (updA t k); rw [zao, zao] at f1; have e2 : (updA t k).Status = t.Status := rfl; rw [e2, dct hst] at f1; refine ⟨f1, f1, hf.1, hf.2.1.trans g8', fun h => ?_⟩; have := hf.2.2 h; have e3 : (updA t k).Steps = t.Steps := rfl; have := g6.sp1; omega
   · rw [dcf hst, dct (show t.Status ≠ 0 from hst), ifp (show t.Status ≠ 0 from hst)]; exact ⟨rfl, rfl, g6, g8', fun h => absurd h hst⟩
end
theorem z8b {m : zH} {c : zG} {n : Int} (h : zqi m c = (n, 0)) : (∀ x ∈ c.zD, zja m c x = 0) ∧ (∀ t ∈ c.zN, zo4 c t = true) ∧ n = (c.zD.length : Int) := by
 unfold zqi at h
 cases hf : (List.range c.zD.length).findSome? (gI m c) with
 | some r =>
  rw [hf] at h; simp only at h; subst h; obtain ⟨j, _, hj⟩ := eof hf; unfold gI at hj; rw [Option.bind_eq_some_iff] at hj; obtain ⟨y, _, hy⟩ := hj
  by_cases h1 : zja m c y = 0
  · simp [h1] at hy
  · rw [ifn h1] at hy; simp only [Option.some.injEq, Prod.mk.injEq] at hy; exact absurd hy.2 h1
 | none =>
  rw [hf] at h; simp only at h; have hI : ∀ x ∈ c.zD, zja m c x = 0 := fun x hx => by
   refine cbc fun h0 => ?_; obtain ⟨i, hi⟩ := List.getElem?_of_mem hx; rw [List.findSome?_eq_none_iff] at hf; have := hf i (List.mem_range.2 (gei hi).1); unfold gI at this; rw [hi, obs, ifn h0] at this; cases this
  cases hg : (List.range c.zN.length).findSome? (gT c) with
  | some r =>
   rw [hg] at h; simp only at h; subst h; obtain ⟨j, _, hj⟩ := eof hg; unfold gT at hj; rw [Option.bind_eq_some_iff] at hj; obtain ⟨y, _, hy⟩ := hj; split at hy
   · cases hy
   · simp only [Option.some.injEq, Prod.mk.injEq] at hy; cases hy.2
  | none =>
   rw [hg] at h; simp only [Prod.mk.injEq] at h; refine ⟨hI, fun t ht => ?_, h.1.symm⟩; refine cbc fun h0 => ?_; obtain ⟨i, hi⟩ := List.getElem?_of_mem ht; rw [List.findSome?_eq_none_iff] at hg; have := hg i (List.mem_range.2 (gei hi).1); unfold gT at this; rw [hi, obs, ifn h0] at this; cases this
theorem zadi {s : Storage} {i : Int} (h : znj s = (i, 0)) (hn : ¬ true ∈ s.Tags) : zih s := by
 unfold znj at h
 split at h
 · cases h
 · split at h
   · cases h
   · split at h
     · cases h
     · rename_i h1 h2 h3; refine ⟨by omega, by omega, by omega, fun k hk => absurd (lmg hk) hn⟩
theorem zaei (N : Nat) (hN : 1048600 < N) {m : zH} {c : zG} (hc : Wft En 1048576 Ty.zG c) {n : Int} (h : zn N m c = some (n, 0)) : CodeV m c ∧ n = (c.zD.length : Int) := by
 obtain ⟨e, _, he2, he3⟩ := znx m
 obtain ⟨i1, e1, e2, _, hs2, hs⟩ := zxz N (by omega) c.Storage
 have hsp := (zq0 N (by omega) c.Storage).2
 obtain ⟨w1, w2, w3, w4, w5⟩ := zoz hc
 unfold zn at h
 try simp only [eS, eM, eC] at h
 rw [he2, hs2] at h
 simp only [obs] at h
 by_cases h0 : e = 0
 · subst h0; have hm := he3 rfl; simp only [bsf, cfa] at h
   by_cases h2 : e2 = 0
   · rcases hs with ⟨rfl, hs⟩ | ⟨ok, htl, _, _⟩
     · exact absurd h2 hs
     · subst h2; obtain ⟨l, hl1, hl2⟩ := z0e N c.Storage htl (by omega); rw [hl1] at h; simp only [bsf, cfa, obs, orB] at h; cases hd : decide ((l.length : Int) > 0) with
       | true => rw [hd] at h; cases h
       | false =>
        rw [hd] at h hl2; simp only [cfa] at h
        by_cases hz : (c.zD.length : Int) = 0
        · rw [hz] at h; cases h
        · rw [zao, dcf hz] at h; simp only [cfa] at h; cases hb : (decide ((c.zD.length : Int) > 240) || decide ((c.zN.length : Int) > 40)) with
          | true => rw [hb] at h; cases h
          | false =>
           rw [hb] at h; simp only [cfa] at h; have := ztr N hN hm ok hc; rw [this] at h; simp only [Bool.or_eq_false_iff, decide_eq_false_iff_not] at hb; obtain ⟨r1, r2, r3⟩ := z8b (Option.some.inj h); have hn : ¬ true ∈ c.Storage.Tags := fun hh => by
            have := List.contains_iff_mem.2 hh; rw [← hl2] at this; cases this
           have hst : ∃ i, znj c.Storage = (i, 0) := by
            unfold zkm at hs2
            try simp only [eS] at hs2
            rw [hsp, obs] at hs2; exact ⟨(znj c.Storage).1, by rw [← Option.some.inj hs2]⟩
           obtain ⟨i, hi⟩ := hst; exact ⟨{ m1 := hm.1, m2 := hm.2, sto := zadi hi hn, len := by omega, pos := by omega, traps := by omega, ins := r1, trap := r2 }, r3⟩
   · rw [zcz, dct h2] at h; simp only [ctr, Option.some.injEq, Prod.mk.injEq] at h; exact absurd h.2 h2
 · rw [zcz, dct h0] at h; simp only [ctr, Option.some.injEq, Prod.mk.injEq] at h; exact absurd h.2 h0
def zsx (m : zH) (c : zG) : zA := ⟨List.replicate m.Registers.toNat ⟨0, 0⟩, 0, c.Storage, 0, [], [], 0, 0, 0, 0⟩
theorem zx0 {m : zH} {c : zG} (hc : CodeV m c) : StV m c (zsx m c) := by
 have := hc.m1
 have := hc.pos
 exact {
  regs := by show ((List.replicate m.Registers.toNat (⟨0, 0⟩ : Number)).length : Int) = _; rw [lnr]; omega
  nums := fun r hr => by rw [(List.mem_replicate.1 hr).2]; exact ⟨⟨by decide, by decide⟩, by decide, by decide⟩
  cnd := .inl rfl, sto := hc.sto, size := rfl, at0 := by show (0 : Int) ≤ 0; omega, at1 := by show (0 : Int) < _; omega, stk := by show 0 ≤ 6; omega
  calls := fun i hi => (List.not_mem_nil hi).elim
  lines := by show 0 ≤ 40; omega
  long := fun i hi => (List.not_mem_nil hi).elim
  st0 := by show (0 : Int) ≤ 0; omega, st1 := by show (0 : Int) ≤ 3; omega, ex0 := by show (0 : Int) ≤ 0; omega, ex1 := by show (0 : Int) ≤ 999; omega, mk0 := by show (0 : Int) ≤ 0; omega, mk1 := by show (0 : Int) ≤ 300; omega, sp0 := by show (0 : Int) ≤ 0; omega, sp1 := by show (0 : Int) ≤ 3000; omega }
theorem zaak (N : Nat) {m : zH} {c : zG} (hc : CodeV m c) (hk : zci N m c = some 0) : zhl N m c = some (zsx m c, 0) := by
 have := hc.m1
 have := hc.m2
 have := hc.sto.le
 have := hc.sto.tags
 unfold zhl
 try simp only [eM, eS, eC]
 rw [hk]
 simp only [obs, bsf, cfa]
 have hcl : zda 1 c.Storage.Tags = some c.Storage.Tags := by unfold zda; rw [zal (by omega)]; rfl
 rw [hcl, obs, ifp, ifp, zal (by omega)]
 rfl
def zoe (c : zG) : Nat → zA → zA
 | 0, s => s
 | k + 1, s => if s.Status = 0 then zoe c k (zmn c s) else s
theorem zx9 (N : Nat) (hN : 20000 < N) {m : zH} {c : zG} (hc : CodeV m c) (z z' : zR) : ∀ (k : Nat) (s : zA), StV m c s → (s.Status = 0 → s.Steps < 3000) → (3000 - s.Steps < (k : Int)) → ∀ K : Nat, k ≤ K →
 zr (zb5.r0 N) K (c, z, s) = some (c, z, zoe c k s) ∧ zr (zlp.r0 N) K (c, z', s) = some (c, z', zoe c k s) ∧ StV m c (zoe c k s) ∧ (zoe c k s).Status ≠ 0
 | 0, s, hs, h1, h2, K, hK => by
  have := hs.sp1; omega
 | k + 1, s, hs, h1, h2, K, hK => by
  obtain ⟨K, rfl⟩ : ∃ J, K = J + 1 := ⟨K - 1, by omega⟩; simp only [zr, zb5.r0, zb5.b0, zlp.r0, zlp.b0, eS, eC]; have eR : ∀ r : zR, (⟨r.Lines, r.Status, r.Exception, r.Marks, r.Steps, r.Storage⟩ : zR) = r := fun _ => rfl; simp only [eR, zao]; unfold zoe
  by_cases hst : s.Status = 0
  · obtain ⟨g1, g2, g3, g4, g5⟩ := z01 N hN hc hs hst (h1 hst); rw [dct hst, ifp hst, g1, g2]; simp only [ctr, obs]; exact zx9 N hN hc z z' k _ g3 (fun h => by rw [g4]; exact g5 h) (by rw [g4]; omega) K (by omega)
  · rw [dcf hst, ifn hst]; simp only [cfa, obs]; exact ⟨trivial, trivial, hs, hst⟩
theorem z2o (N : Nat) (l : List ByteArray) (h : l.length < N) (hl : l.length < 1000000) : zbs N l l = some true := by
 unfold zbs
 simp only [bsf, cfa]
 have l1 := zcc (f := zbs.r0 N) (fun i => (l, l, (i : Int))) (fun _ => none) l.length
  (fun i hi => by
   have hx := lge hi; simp only [zbs.r0, zbs.b0, zbc, hx, obs, dct (show (i : Int) < (l.length : Int) by omega), ctr, bst, bnt, cfa]; rw [w6e]; rfl)
  (by simp only [zbs.r0, zbs.b0, dcf (show ¬ (l.length : Int) < (l.length : Int) by omega), cfa]) h
 simp only [nc0] at l1
 rw [l1]
 have : ∀ l : List Nat, l.findSome? (fun _ => (none : Option Bool)) = none := fun l => by rw [List.findSome?_eq_none_iff]; intros; rfl
 rw [this]
 rfl
theorem z6i (N : Nat) (l : List Bool) (h : l.length < N) (hl : l.length < 1000000) : zd1 N l l = some true := by
 unfold zd1
 simp only [bsf, cfa]
 have l1 := zcc (f := zd1.r0 N) (fun i => (l, l, (i : Int))) (fun _ => none) l.length
  (fun i hi => by
   have hx := lge hi; simp only [zd1.r0, zd1.b0, zbc, hx, obs, dct (show (i : Int) < (l.length : Int) by omega), ctr, bst, bnt, cfa]; rw [w6e]; rfl)
  (by simp only [zd1.r0, zd1.b0, dcf (show ¬ (l.length : Int) < (l.length : Int) by omega), cfa]) h
 simp only [nc0] at l1
 rw [l1]
 have : ∀ l : List Nat, l.findSome? (fun _ => (none : Option Bool)) = none := fun l => by rw [List.findSome?_eq_none_iff]; intros; rfl
 rw [this]
 rfl
theorem z90 (N : Nat) (s : Storage) (h : s.Tags.length < N) (hl : s.Tags.length < 1000000) : zfi N s s = some true := by
 unfold zfi
 rw [bst, ctr, z6i N _ h hl]
 rfl
theorem z4x (N : Nat) (r : zR) (h1 : r.Lines.length < N) (h2 : r.Lines.length < 1000000) (h3 : r.Storage.Tags.length < N) (h4 : r.Storage.Tags.length < 1000000) : zfc N r r = some true := by
 unfold zfc
 try simp only [eS]
 rw [z2o N _ h1 h2, z90 N _ h3 h4]
 simp only [obs, bst, ctr]
def zvn (t : zA) : zR := ⟨t.Lines, t.Status, t.Exception, t.Marks, t.Steps, t.Storage⟩
theorem z80 (N : Nat) (hN : 20000 < N) {m : zH} {c : zG} (hc : CodeV m c) (hk : zci N m c = some 0) : zb5 N m c = some (zvn (zoe c 3001 (zsx m c)), 0) := by
 unfold zb5
 try simp only [eM, eS, eC]
 rw [zaak N hc hk]
 simp only [obs, bsf, cfa]
 rw [(zx9 N hN hc ⟨[], 0, 0, 0, 0, ⟨⟨#[]⟩, []⟩⟩ ⟨[], 0, 0, 0, 0, ⟨⟨#[]⟩, []⟩⟩ 3001 _ (zx0 hc) (fun _ => by show (0 : Int) < 3000; omega) (by show (3000 : Int) - 0 < 3001; omega) N (by omega)).1]
 rfl
theorem z91 (N : Nat) (hN : 20000 < N) {m : zH} {c : zG} {t : zA} (ht : StV m c t) : zfc N (zvn t) (zvn t) = some true := by
 have h1 := ht.lines
 have h2 := ht.sto.tags
 have h3 := ht.sto.le
 exact z4x N _ (by show t.Lines.length < N; omega) (by show t.Lines.length < _; omega) (by show t.Storage.Tags.length < N; omega) (by show t.Storage.Tags.length < _; omega)
structure StoW (s : Storage) : Prop where
 le : s.Bytes.size ≤ 1024
 quad : s.Bytes.size % 16 = 0
 tags : s.Tags.length = s.Bytes.size / 16
 err : znj s = ((s.Tags.length : Int), 0)
 ptr : ∀ i, s.Tags[i]? = some true → (znu (zmp s i)).2 = 0
theorem zaeu : zj1 2000000 = some true := by kernel_rfl
theorem zuv (N : Nat) {m : zH} {c : zG} {r : Int × Int} (h : zm N m c = some r) : zci N m c = some r.2 := by
 unfold zci
 try simp only [eM, eS, eC]
 rw [h]
 rfl
theorem z1t (N : Nat) {m : zH} {c : zG} {r : Int × Int} (h : zn N m c = some r) : zg0 N m c = some r.2 := by
 unfold zg0
 try simp only [eM, eS, eC]
 rw [h]
 rfl
def wR (s : zA) (l : List Number) : zA := ⟨l, s.Condition, s.Storage, s.At, s.Stack, s.Lines, s.Status, s.Exception, s.Marks, s.Steps⟩
structure zj7 (n : Int) (a b : List Number) : Prop where
 get : ∀ k, a.getD k ⟨0, 0⟩ = b.getD k ⟨0, 0⟩
 la : n ≤ (a.length : Int)
 lb : n ≤ (b.length : Int)
theorem zi9 {l : List Number} {i : Nat} (h : i < l.length) (x : Number) (k : Nat) : (l.set i x).getD k ⟨0, 0⟩ = if i = k then x else l.getD k ⟨0, 0⟩ := by
 rw [gdd, List.getElem?_set]
 split
 · rename_i hk; subst hk
   first | rfl | (rw [ifp h]; rfl)
 · rw [gdd]
theorem zj7.set {n : Int} {a b : List Number} (h : zj7 n a b) {i : Int} (hi : 0 ≤ i ∧ i < n) (x : Number) : zj7 n (a.set i.toNat x) (b.set i.toNat x) := by
 have h1 := h.la
 have h2 := h.lb
 refine ⟨fun k => ?_, by rw [List.length_set]; exact h1, by rw [List.length_set]; exact h2⟩
 rw [zi9 (by omega), zi9 (by omega), h.get k]
theorem zru {n : Int} {s : zA} {l : List Number} (h : zj7 n s.Registers l) (i : Int) : rg (wR s l) i = rg s i := (h.get i.toNat).symm
def zii (n : Int) (a b : Except Int (Int × zA)) : Prop := (∃ e, a = .error e ∧ b = .error e) ∨ ∃ k t l, a = .ok (k, t) ∧ b = .ok (k, wR t l) ∧ zj7 n t.Registers l
theorem zii.err {n : Int} (e : Int) : zii n (.error e) (.error e) := .inl ⟨e, rfl, rfl⟩
theorem zii.keep {n : Int} {t t' : zA} {l : List Number} (k : Int) (h : zj7 n t.Registers l) (ht : t' = wR t l) : zii n (.ok (k, t)) (.ok (k, t')) := .inr ⟨k, t, l, rfl, by rw [ht], h⟩
theorem zii.reg {n : Int} {s : zA} {l : List Number} (h : zj7 n s.Registers l) {i : Int} (hi : 0 ≤ i ∧ i < n) (k : Int) (x : Number) : zii n (.ok (k, updR s i x)) (.ok (k, updR (wR s l) i x)) := .inr ⟨k, updR s i x, l.set i.toNat x, rfl, rfl, h.set hi x⟩
theorem z08 {n : Int} {s : zA} {l : List Number} (h : zj7 n s.Registers l) (a b : Int) : zmd (wR s l) a b = zmd s a b := by
 unfold zmd
 rw [zru h, zru h]
theorem ztz {n : Int} {s : zA} {l : List Number} (h : zj7 n s.Registers l) (t : ByteArray) : zii n (zke s t) (zke (wR s l) t) := by
 unfold zke
 show zii n (if s.Lines.length = 40 then _ else _) (if s.Lines.length = 40 then _ else _)
 split
 · exact .keep _ (l := l) h rfl
 · exact .keep _ (l := l) h rfl
theorem zaap {n : Int} {s : zA} {l : List Number} (h : zj7 n s.Registers l) (x : zB) (hx : (x.Op.toNat = 0 ∨ x.Op.toNat = 2 ∨ x.Op.toNat = 3 ∨ x.Op.toNat = 4 ∨ x.Op.toNat = 21) → 0 ≤ x.R ∧ x.R < n) : zii n (zdu s x) (zdu (wR s l) x) := by
 unfold zdu
 split
 · rename_i ho; show zii n (match zrb s.Storage x.Place x.zF with | .error e => .error e | .ok v => .ok (s.At + 1, updR s x.R v)) (match zrb s.Storage x.Place x.zF with | .error e => .error e | .ok v => .ok (s.At + 1, updR (wR s l) x.R v)); split
   · exact .err _
   · exact .reg h (hx (.inl ho)) _ _
 · simp only [zru h]; split
   · exact .err _
   · show zii n (match zg7 s.Storage x.Place (szE x.zF) with | .error e => .error e | .ok a => .ok (s.At + 1, updS s (wrV s.Storage a.toNat (zov x.zF (zky (rg s x.R) x.zF x.Half).1.N)))) (match zg7 s.Storage x.Place (szE x.zF) with | .error e => .error e | .ok a => .ok (s.At + 1, updS (wR s l) (wrV s.Storage a.toNat (zov x.zF (zky (rg s x.R) x.zF x.Half).1.N)))); split
     · exact .err _
     · exact .keep _ (l := l) h rfl
 · rename_i ho; exact .reg h (hx (.inr (.inl ho))) _ _
 · rename_i ho; simp only [zru h]; exact .reg h (hx (.inr (.inr (.inl ho)))) _ _
 · rename_i ho; simp only [zru h]; show zii n (match (if x.zL = true then zrb s.Storage x.Place x.Second else .ok (rg s x.B)) with
    | .error e => .error e
    | .ok b => if (ze5 x.zJ (rg s x.A) b x.zF false).2 = 20 then .error 3 else if (ze5 x.zJ (rg s x.A) b x.zF false).2 ≠ 0 then .error 2 else .ok (s.At + 1, updR s x.R ⟨(ze5 x.zJ (rg s x.A) b x.zF false).1.N, x.zF.Scale⟩)) (match (if x.zL = true then zrb s.Storage x.Place x.Second else .ok (rg s x.B)) with
    | .error e => .error e
    | .ok b => if (ze5 x.zJ (rg s x.A) b x.zF false).2 = 20 then .error 3 else if (ze5 x.zJ (rg s x.A) b x.zF false).2 ≠ 0 then .error 2 else .ok (s.At + 1, updR (wR s l) x.R ⟨(ze5 x.zJ (rg s x.A) b x.zF false).1.N, x.zF.Scale⟩))
   split
   · exact .err _
   · split
     · exact .err _
     · split
       · exact .err _
       · exact .reg h (hx (.inr (.inr (.inr (.inl ho))))) _ _
 · rw [z08 h]; exact .keep _ (l := l) h rfl
 · exact .keep _ (l := l) h rfl
 · rw [z08 h]; exact .keep _ (l := l) h rfl
 · exact .keep _ (l := l) h rfl
 · show zii n (match zgl s.Storage x.From x.Second with
   | .error e => .error e
   | .ok b => match zg7 s.Storage x.Place (szE x.zF) with | .error e => .error e | .ok a => .ok (s.At + 1, updS s (wrV s.Storage a.toNat (zi7 b x.zF.Length.toNat)))) (match zgl s.Storage x.From x.Second with
   | .error e => .error e
   | .ok b => match zg7 s.Storage x.Place (szE x.zF) with | .error e => .error e | .ok a => .ok (s.At + 1, updS (wR s l) (wrV s.Storage a.toNat (zi7 b x.zF.Length.toNat))))
   split
   · exact .err _
   · split
     · exact .err _
     · exact .keep _ (l := l) h rfl
 · show zii n (match zg7 s.Storage x.Place (szE x.zF) with | .error e => .error e | .ok a => .ok (s.At + 1, updS s (wrV s.Storage a.toNat (zi7 x.Text x.zF.Length.toNat)))) (match zg7 s.Storage x.Place (szE x.zF) with | .error e => .error e | .ok a => .ok (s.At + 1, updS (wR s l) (wrV s.Storage a.toNat (zi7 x.Text x.zF.Length.toNat)))); split
   · exact .err _
   · exact .keep _ (l := l) h rfl
 · show zii n (match zgl s.Storage x.Place x.zF with
   | .error e => .error e
   | .ok a => match zgl s.Storage x.From x.Second with | .error e => .error e | .ok b => .ok (s.At + 1, updC s (zj9 a b))) (match zgl s.Storage x.Place x.zF with
   | .error e => .error e
   | .ok a => match zgl s.Storage x.From x.Second with | .error e => .error e | .ok b => .ok (s.At + 1, updC (wR s l) (zj9 a b)))
   split
   · exact .err _
   · split
     · exact .err _
     · exact .keep _ (l := l) h rfl
 · show zii n (match zgl s.Storage x.Place x.zF with | .error e => .error e | .ok a => .ok (s.At + 1, updC s (zj9 a x.Text))) (match zgl s.Storage x.Place x.zF with | .error e => .error e | .ok a => .ok (s.At + 1, updC (wR s l) (zj9 a x.Text))); split
   · exact .err _
   · exact .keep _ (l := l) h rfl
 · exact .keep _ (l := l) h rfl
 · show zii n (match zg7 s.Storage x.Place (szE x.zF) with | .error e => .error e | .ok a => .ok (s.At + 1, updS s (stV s.Storage x.Pointer.toNat a.toNat))) (match zg7 s.Storage x.Place (szE x.zF) with | .error e => .error e | .ok a => .ok (s.At + 1, updS (wR s l) (stV s.Storage x.Pointer.toNat a.toNat))); split
   · exact .err _
   · exact .keep _ (l := l) h rfl
 · show zii n (match ldV s.Storage x.Source with | none => .error 4 | some o => .ok (s.At + 1, updS s (stV s.Storage x.Pointer.toNat o.toNat))) (match ldV s.Storage x.Source with | none => .error 4 | some o => .ok (s.At + 1, updS (wR s l) (stV s.Storage x.Pointer.toNat o.toNat))); split
   · exact .err _
   · exact .keep _ (l := l) h rfl
 · simp only [zru h]; show zii n (match ldV s.Storage x.Pointer with
   | none => .error 4
   | some o => if inB (o + zej (rg s x.R)) 0 16777215 = true then .ok (s.At + 1, updS s (stV s.Storage x.Pointer.toNat (o + zej (rg s x.R)).toNat)) else .error 5) (match ldV s.Storage x.Pointer with
   | none => .error 4
   | some o => if inB (o + zej (rg s x.R)) 0 16777215 = true then .ok (s.At + 1, updS (wR s l) (stV s.Storage x.Pointer.toNat (o + zej (rg s x.R)).toNat)) else .error 5)
   split
   · exact .err _
   · split
     · exact .keep _ (l := l) h rfl
     · exact .err _
 · show zii n (match ldV s.Storage x.Pointer with | none => .error 4 | some _ => .ok (s.At + 1, s)) (match ldV s.Storage x.Pointer with | none => .error 4 | some _ => .ok (s.At + 1, wR s l)); split
   · exact .err _
   · exact .keep _ (l := l) h rfl
 · show zii n (if 6 ≤ s.Stack.length then .error 6 else .ok (x.Target, updK s (s.Stack ++ [s.At]))) (if 6 ≤ s.Stack.length then .error 6 else .ok (x.Target, updK (wR s l) (s.Stack ++ [s.At]))); split
   · exact .err _
   · exact .keep _ (l := l) h rfl
 · show zii n (if s.Stack.length = 0 then .ok (s.At, updT s 1) else .ok (s.Stack.getD (s.Stack.length - 1) 0 + 1, updK s (s.Stack.take (s.Stack.length - 1)))) (if s.Stack.length = 0 then .ok (s.At, updT (wR s l) 1) else .ok (s.Stack.getD (s.Stack.length - 1) 0 + 1, updK (wR s l) (s.Stack.take (s.Stack.length - 1)))); split
   · exact .keep _ (l := l) h rfl
   · exact .keep _ (l := l) h rfl
 · simp only [zru h]; split <;> exact .err _
 · rename_i ho; exact .reg h (hx (.inr (.inr (.inr (.inr ho))))) _ _
 · rw [zru h]; exact ztz h _
 · show zii n (match zgl s.Storage x.Place x.zF with | .error e => .error e | .ok b => zke s b) (match zgl s.Storage x.Place x.zF with | .error e => .error e | .ok b => zke (wR s l) b); split
   · exact .err _
   · exact ztz h _
 · exact ztz h _
 · show zii n (if s.Marks = 300 then .ok (s.At + 1, updT s 3) else .ok (s.At + 1, updM s (s.Marks + 1))) (if s.Marks = 300 then .ok (s.At + 1, updT (wR s l) 3) else .ok (s.At + 1, updM (wR s l) (s.Marks + 1))); split
   · exact .keep _ (l := l) h rfl
   · exact .keep _ (l := l) h rfl
 · exact .keep _ (l := l) h rfl
theorem z1h (c : zG) (e : Int) (l : List Number) : ∀ (k : Nat) (s : zA), zdt c e k (wR s l) = wR (zdt c e k s) l
 | 0, s => rfl
 | k + 1, s => by
  unfold zdt; show (if 0 ≤ zfg c s.At e then updA (wR s l) (zfg c s.At e) else if s.Stack.length = 0 then updT (wR s l) 2 else zdt c e k (wR (updK (updA s (s.Stack.getD (s.Stack.length - 1) 0)) (s.Stack.take (s.Stack.length - 1))) l)) = _; split
  · rfl
  · split
    · rfl
    · exact z1h c e l k _
theorem zxn (c : zG) (e : Int) : ∀ (k : Nat) (s : zA), (zdt c e k s).Registers = s.Registers
 | 0, s => rfl
 | k + 1, s => by
  unfold zdt; split
  · rfl
  · split
    · rfl
    · exact zxn c e k _
theorem z85 (t : zA) (l : List Number) : zkh (wR t l) = wR (zkh t) l := by
 unfold zkh
 show (if t.Status = 0 ∧ t.Steps = 3000 then updT (wR t l) 3 else wR t l) = _
 split <;> rfl
theorem z3x (t : zA) : (zkh t).Registers = t.Registers := by
 unfold zkh
 split <;> rfl
theorem z9y {n : Int} {c : zG} {s : zA} {l : List Number} (h : zj7 n s.Registers l) (hx : ((zjp c s).Op.toNat = 0 ∨ (zjp c s).Op.toNat = 2 ∨ (zjp c s).Op.toNat = 3 ∨ (zjp c s).Op.toNat = 4 ∨ (zjp c s).Op.toNat = 21) → 0 ≤ (zjp c s).R ∧ (zjp c s).R < n) :
 ∃ l', zmn c (wR s l) = wR (zmn c s) l' ∧ zj7 n (zmn c s).Registers l' := by
 have he := zaap (s := updP s (s.Steps + 1)) (l := l) h (zjp c s) hx
 unfold zmn
 show ∃ l', (match zdu (wR (updP s (s.Steps + 1)) l) (zjp c s) with
 | .error e => zkh (zdt c e (s.Stack.length + 1) (wR (updE (updP s (s.Steps + 1)) e) l))
 | .ok (n, t) => if t.Status ≠ 0 then t else if n = (c.zD.length : Int) then updT t 1 else zkh (updA t n)) = _ ∧ _
 rcases he with ⟨e, h1, h2⟩ | ⟨k, t, l2, h1, h2, h3⟩
 · rw [h1, h2]; refine ⟨l, ?_, ?_⟩
   · show zkh (zdt c e (s.Stack.length + 1) (wR (updE (updP s (s.Steps + 1)) e) l)) = _; rw [z1h, z85]
   · show zj7 n (zkh (zdt c e (s.Stack.length + 1) (updE (updP s (s.Steps + 1)) e))).Registers l; rw [z3x, zxn]; exact h
 · rw [h1, h2]; refine ⟨l2, ?_, ?_⟩
   · show (if t.Status ≠ 0 then wR t l2 else if k = (c.zD.length : Int) then updT (wR t l2) 1 else zkh (wR (updA t k) l2)) = wR (if t.Status ≠ 0 then t else if k = (c.zD.length : Int) then updT t 1 else zkh (updA t k)) l2; split
     · rfl
     · split
       · rfl
       · exact z85 _ _
   · show zj7 n (if t.Status ≠ 0 then t else if k = (c.zD.length : Int) then updT t 1 else zkh (updA t k)).Registers l2; split
     · exact h3
     · split
       · exact h3
       · rw [z3x]; exact h3
theorem zaf9 {m : zH} {c : zG} (hc : CodeV m c) {x : zB} (hx : x ∈ c.zD) (ho : x.Op.toNat = 0 ∨ x.Op.toNat = 2 ∨ x.Op.toNat = 3 ∨ x.Op.toNat = 4 ∨ x.Op.toNat = 21) : 0 ≤ x.R ∧ x.R < m.Registers := by
 obtain ⟨hop, u, h1, h2⟩ := z61 (hc.ins x hx)
 have hr : u.R = true := by
  rw [z2d] at h1; rcases ho with ho | ho | ho | ho | ho
  · rw [show x.Op = 0 by omega] at h1; cases h1; rfl
  · rw [show x.Op = 2 by omega] at h1; cases h1; rfl
  · rw [show x.Op = 3 by omega] at h1; cases h1; rfl
  · rw [show x.Op = 4 by omega] at h1; cases hb : x.zL <;> rw [hb] at h1 <;> cases h1 <;> rfl
  · rw [show x.Op = 21 by omega] at h1; cases h1; rfl
 exact h2.r hr
theorem z5j {m : zH} {c : zG} (hc : CodeV m c) : ∀ (k : Nat) (s : zA) (l : List Number), StV m c s → (s.Status = 0 → s.Steps < 3000) → zj7 m.Registers s.Registers l → zvn (zoe c k (wR s l)) = zvn (zoe c k s)
 | 0, s, l, _, _, _ => rfl
 | k + 1, s, l, hs, h3, h => by
  unfold zoe; show zvn (if s.Status = 0 then zoe c k (zmn c (wR s l)) else wR s l) = _
  by_cases hst : s.Status = 0
  · rw [ifp hst, ifp hst]; have a0 := hs.at0; have a1 := hs.at1; have hmem : zjp c s ∈ c.zD := by
     unfold zjp; rw [gdd, lge (by omega)]; exact List.getElem_mem _
    obtain ⟨l', e1, e2⟩ := z9y h (zaf9 hc hmem); obtain ⟨_, _, g3, g4, g5⟩ := z01 2000000 (by decide) hc hs hst (h3 hst); rw [e1]; exact z5j hc k _ l' g3 (fun h => by rw [g4]; exact g5 h) e2
  · rw [ifn hst, ifn hst]; rfl
theorem z4r {a b : Nat} (n : Int) (ha : n ≤ (a : Int)) (hb : n ≤ (b : Int)) : zj7 n (List.replicate a (⟨0, 0⟩ : Number)) (List.replicate b ⟨0, 0⟩) := by
 have key : ∀ (a k : Nat), (List.replicate a (⟨0, 0⟩ : Number)).getD k ⟨0, 0⟩ = ⟨0, 0⟩ := fun a k => by
  rw [gdd, List.getElem?_replicate]; split <;> rfl
 exact ⟨fun k => by rw [key, key], by rw [lnr]; exact ha, by rw [lnr]; exact hb⟩
theorem z3n {m : zH} {c : zG} {x : zB} (h : zja m c x = 0) : ∃ f u, zbj x = some f ∧ zec x = some u ∧ Agree f u ∧ (x.zL = true → x.Op = 4) ∧ zhe m c x u = false ∧ zib m x = false := by
 unfold zja at h
 by_cases hop : inB x.Op 0 26 = true
 · obtain ⟨f, u, hf, hu, ag, _⟩ := zv9 x hop; rw [ifp hop, hu] at h; have h' : zp6 m c x u = 0 := h; unfold zp6 at h'; cases he : zlw x u with
   | true => rw [he] at h'; cases h'
   | false =>
    rw [he] at h'; simp only [cfa] at h'; cases hl : zib m x with
    | true => rw [hl] at h'; cases h'
    | false =>
     rw [hl] at h'; simp only [cfa] at h'; refine ⟨f, u, hf, hu, ag, (zpe he).1, ?_, rfl⟩
     by_cases h1 : zde x.zF u.zF = 0
     · by_cases h2 : zde x.Second u.Second = 0
       · rw [h1, h2] at h'; cases hr : zhe m c x u with
         | true => rw [hr] at h'; simp at h'
         | false => rfl
       · rw [h1] at h'; simp [h2] at h'
     · simp [h1] at h'
 · rw [ifn hop] at h; cases h
theorem z1y (N : Nat) (l : List Int) (h : l.length < N) (hl : l.length < 1000000000) (m : zH) : zc6 N l m = some (l.any fun r => decide (r ≥ m.Registers)) := by
 unfold zc6 zai
 have c1 : ∀ r, zgi r m = some (decide (r ≥ m.Registers)) := fun r => rfl
 have := zcc (f := zai.r0 N) (fun i => (l, (l.length : Int), (i : Int), m)) (fun i => (l[i]?).bind fun x => if decide (x ≥ m.Registers) = true then some (i : Int) else none) l.length
  (fun i hi => by
   have hx := lge hi; simp only [zai.r0, zai.b0, zbc, hx, obs, dct (show (i : Int) < (l.length : Int) by omega), ctr, c1]; rw [w6e]; cases hb : decide (l[i] ≥ m.Registers) <;> simp)
  (by simp only [zai.r0, zai.b0, dcf (show ¬ (l.length : Int) < (l.length : Int) by omega), cfa]) h
 simp only [nc0] at this
 rw [this]
 simp only [obs]
 cases hfs : (List.range l.length).findSome? (fun i : Nat => (l[i]?).bind fun x => if decide (x ≥ m.Registers) = true then some (i : Int) else none) with
 | some r =>
  simp only [zb2, obs]; obtain ⟨i, hi, hr⟩ := eof hfs; rw [Option.bind_eq_some_iff] at hr; obtain ⟨x, hx, hr⟩ := hr; split at hr
  · rename_i hb; cases hr; have : (l.any fun r => decide (r ≥ m.Registers)) = true := List.any_eq_true.2 ⟨x, lmg hx, hb⟩; rw [this]; simp
  · cases hr
 | none =>
  simp only [zb2, obs]; rw [List.findSome?_eq_none_iff] at hfs; have : (l.any fun r => decide (r ≥ m.Registers)) = false := by
   rw [List.any_eq_false]; intro x hx hb; obtain ⟨i, hi⟩ := List.getElem?_of_mem hx; have := hfs i (by simp; exact (gei hi).1); rw [hi] at this; simp only [obs] at this; rw [ifp hb] at this; cases this
  rw [this]; rfl
def zrx (m : zH) (x : zB) : Bool := zib m x || (zku x ((zec x).getD ⟨false, false, false, false, false, false, false, false, false, false, false, false, false, false, 0, 0⟩)).any (zdk m)
theorem z8t (N : Nat) (hN : 20 < N) {m : zH} (hm : 2 ≤ m.Registers ∧ m.Registers ≤ 8) {M : zH} (hM : M.Registers = 8) {c : zG} {x : zB} (h : zja M c x = 0) :
 zgj N x m = some (zrx m x) ∧ ((zin m x).bind fun r => (cond r (some true) ((zdm m x).bind fun r => some (!r)))) = some (zrx m x) := by
 obtain ⟨n, rfl⟩ : ∃ n, N = n + 10 := ⟨N - 10, by omega⟩
 obtain ⟨f, u, hf, hu, ag, hi, hr, _⟩ := z3n h
 have hl : (zku x u).length ≤ 3 := by unfold zku; cases u.R <;> cases u.A <;> cases u.B <;> simp
 have e : ((zku x u).any fun r => decide (r ≥ m.Registers)) = (zku x u).any (zdk m) := by
  unfold zhe at hr; simp only [Bool.or_eq_false_iff] at hr; have h1 := hr.1; rw [List.any_eq_false] at h1; apply Bool.eq_iff_iff.2; simp only [List.any_eq_true]; constructor
  · rintro ⟨r, h2, h3⟩
    refine ⟨r, h2, ?_⟩; unfold zdk inB; simp only [ge_iff_le, decide_eq_true_eq] at h3; simp only [Bool.not_eq_true', Bool.and_eq_false_iff, decide_eq_false_iff_not]; right; omega
  · rintro ⟨r, h2, h3⟩
    refine ⟨r, h2, ?_⟩; have h4 := h1 r h2; have h5 : inB r 0 (M.Registers - 1) = true := by unfold zdk at h4; simpa using h4
    have h3' : inB r 0 (m.Registers - 1) = false := by unfold zdk at h3; simpa using h3
    obtain ⟨h6, h7⟩ := zaz.1 h5; refine dct ?_; refine cbc fun hlt => ?_; have h8 : inB r 0 (m.Registers - 1) = true := zaz.2 ⟨h6, by omega⟩; rw [h3'] at h8; cases h8
 constructor
 · unfold zgj zrx; rw [z83 m x hi, z5p n hf ag, hu]; simp only [obs, Bool.not_not]; rw [z1y _ _ (by omega) (by omega), e]; simp only [obs]; cases zib m x <;> rfl
 · unfold zrx; rw [z2w, z5l m hm hu, hu]; simp only [obs, Bool.not_not]; cases zib m x <;> rfl
structure Larger (m m' : zH) : Prop where
 regs : m.Registers ≤ m'.Registers
 fused : m.yC = true → m'.yC = true
 mem : m.zY = true → m'.zY = true
theorem zzq {m m' : zH} (hl : Larger m m') {x : zB} (h : zib m x = false) : zib m' x = false := by
 have h1 := hl.fused
 have h2 := hl.mem
 unfold zib at h ⊢
 revert h1 h2 h
 cases decide (x.Op = 7) <;> cases m.yC <;> cases m'.yC <;> cases x.zL <;> cases m.zY <;> cases m'.zY <;> simp
theorem z07 {m m' : zH} (hl : Larger m m') {l : List Int} (h : l.any (zdk m) = false) : l.any (zdk m') = false := by
 rw [List.any_eq_false] at h ⊢
 intro r hx hb
 refine h r hx ?_
 unfold zdk at hb ⊢
 cases h5 : inB r 0 (m.Registers - 1) with
 | false => rfl
 | true =>
  obtain ⟨h6, h7⟩ := zaz.1 h5; have := hl.regs; rw [zaz.2 ⟨h6, by omega⟩] at hb; cases hb
theorem z1j {m m' : zH} (hl : Larger m m') {c : zG} {x : zB} (h : zja m c x = 0) : zja m' c x = 0 := by
 obtain ⟨f, u, hf', hu, ag, hi, hrb, hk⟩ := z3n h
 have hop : inB x.Op 0 26 = true := by
  refine cbc fun h0 => ?_; unfold zja at h; rw [ifn h0] at h; cases h
 have hr : zhe m' c x u = false := by
  unfold zhe at hrb ⊢; rw [Bool.or_eq_false_iff] at hrb ⊢; exact ⟨z07 hl hrb.1, hrb.2⟩
 have hk' := zzq hl hk
 unfold zja at h ⊢
 rw [ifp hop, hu] at h ⊢
 have h' : zp6 m c x u = 0 := h
 show zp6 m' c x u = 0
 unfold zp6 at h' ⊢
 rw [hk', hr]
 rw [hk, hrb] at h'
 exact h'
theorem z8s {m m' : zH} (hl : Larger m m') {c : zG} {x : zB} (h : zja m c x = 0) : zrx m' x = false := by
 obtain ⟨f, u, hf', hu, ag, hi, hrb, hk⟩ := z3n h
 unfold zhe at hrb
 rw [Bool.or_eq_false_iff] at hrb
 unfold zrx
 rw [zzq hl hk, hu]
 exact z07 hl hrb.1
theorem z8c {m : zH} {c : zG} (h1 : ∀ x ∈ c.zD, zja m c x = 0) (h2 : ∀ t ∈ c.zN, zo4 c t = true) : zqi m c = ((c.zD.length : Int), 0) := by
 have e1 : (List.range c.zD.length).findSome? (gI m c) = none := by
  rw [List.findSome?_eq_none_iff]; intro i hi; rw [List.mem_range] at hi; unfold gI; rw [lge hi, obs, ifp (h1 _ (List.getElem_mem hi))]
 have e2 : (List.range c.zN.length).findSome? (gT c) = none := by
  rw [List.findSome?_eq_none_iff]; intro i hi; rw [List.mem_range] at hi; unfold gT; rw [lge hi, obs, ifp (h2 _ (List.getElem_mem hi))]
 unfold zqi
 rw [e1]
 simp only
 rw [e2]
theorem z1p (N : Nat) (hN : 1048600 < N) {m m' : zH} {c : zG} (hc : Wft En 1048576 Ty.zG c) {n : Int} (h : zn N m c = some (n, 0)) (hm' : zfn m' = some 0) (hl : Larger m m') : zn N m' c = some (n, 0) := by
 obtain ⟨e, _, he2, he3⟩ := znx m
 have hmr' : 2 ≤ m'.Registers ∧ m'.Registers ≤ 8 := by
  obtain ⟨e', _, he2', he3'⟩ := znx m'; rw [hm'] at he2'; exact he3' (Option.some.inj he2').symm
 obtain ⟨i1, e1, e2, _, hs2, hs⟩ := zxz N (by omega) c.Storage
 obtain ⟨w1, w2, w3, w4, w5⟩ := zoz hc
 unfold zn at h ⊢
 try simp only [eS, eM, eC] at h ⊢
 rw [hm']
 rw [he2] at h
 rw [hs2] at h ⊢
 simp only [obs] at h ⊢
 by_cases h0 : e = 0
 · subst h0; have hm := he3 rfl; simp only [bsf, cfa] at h ⊢
   by_cases h2 : e2 = 0
   · rcases hs with ⟨rfl, hs⟩ | ⟨ok, htl, _, _⟩
     · exact absurd h2 hs
     · subst h2; obtain ⟨l, hl1, hl2⟩ := z0e N c.Storage htl (by omega); rw [hl1] at h ⊢; simp only [bsf, cfa, obs, orB] at h ⊢; cases hd : decide ((l.length : Int) > 0) with
       | true => rw [hd] at h; cases h
       | false =>
        rw [hd] at h; simp only [cfa] at h ⊢
        by_cases hz : (c.zD.length : Int) = 0
        · rw [hz] at h; cases h
        · rw [zao, dcf hz] at h ⊢; simp only [cfa] at h ⊢; cases hb : (decide ((c.zD.length : Int) > 240) || decide ((c.zN.length : Int) > 40)) with
          | true => rw [hb] at h; cases h
          | false =>
           rw [hb] at h; simp only [cfa] at h ⊢; have q1 := ztr N hN hm ok hc; have q2 := ztr N hN hmr' ok hc; rw [q1] at h; rw [q2]; obtain ⟨r1, r2, r3⟩ := z8b (Option.some.inj h); rw [z8c (fun x hx => z1j hl (r1 x hx)) r2, r3]
   · rw [zcz, dct h2] at h; simp only [ctr, Option.some.injEq, Prod.mk.injEq] at h; exact absurd h.2 h2
 · rw [zcz, dct h0] at h; simp only [ctr, Option.some.injEq, Prod.mk.injEq] at h; exact absurd h.2 h0
theorem z62 (N : Nat) (hN : 1048600 < N) {m : zH} (hm : 2 ≤ m.Registers ∧ m.Registers ≤ 8) {M : zH} (hM : M.Registers = 8) {c : zG} (hlen : c.zD.length ≤ 240) (h : ∀ x ∈ c.zD, zja M c x = 0) (h2 : ∀ x ∈ c.zD, zrx m x = false) :
 zj N c.zD m = some (-1) := by
 unfold zj
 have l1 := zcc (f := zj.r0 N) (fun i => (c.zD, (c.zD.length : Int), (i : Int), m)) (fun _ => none) c.zD.length
  (fun i hi => by
   have hx := lge hi; have hb := (z8t N (by omega) hm hM (h _ (List.getElem_mem hi))).1; rw [h2 _ (List.getElem_mem hi)] at hb; simp only [zj.r0, zj.b0, zbc, hx, obs, dct (show (i : Int) < (c.zD.length : Int) by omega), ctr, eD, eP, eS, eM, eC, eX, eN, hb]; rw [w6e]; rfl)
  (by simp only [zj.r0, zj.b0, dcf (show ¬ (c.zD.length : Int) < (c.zD.length : Int) by omega), cfa]) (N := N) (by omega)
 simp only [nc0] at l1
 rw [l1]
 have : ∀ l : List Nat, l.findSome? (fun _ => (none : Option Int)) = none := fun l => by rw [List.findSome?_eq_none_iff]; intros; rfl
 rw [this]
 rfl
theorem z8z (N : Nat) (hN : 1048600 < N) {m : zH} {c : zG} (hc : Wft En 1048576 Ty.zG c) {n : Int} (hm : 2 ≤ m.Registers ∧ m.Registers ≤ 8) (hk : zc5 m = some 0) (hh : zm N ⟨8, true, true⟩ c = some (n, 0)) (cv : CodeV ⟨8, true, true⟩ c) (h2 : ∀ x ∈ c.zD, zrx m x = false) :
 zh2 N m c = some (true, (c.zD.length : Int), 0) := by
 have f2 : ∀ a b : Int, z7 N [a, b] = some (zef [a, b]) := fun a b => zub _ _ (by simp; omega) (by simp)
 unfold zh2 zci
 try simp only [eM, eC, eS, obs]
 rw [hk, hh]
 simp only [obs, f2]
 rw [z62 N hN hm (M := ⟨8, true, true⟩) rfl cv.len cv.ins h2]
 simp [zef]
theorem zwe {m m' : zH} {c : zG} (hc : CodeV m c) (hl : Larger m m') (h8 : m'.Registers ≤ 8) : CodeV m' c := {
 m1 := by have := hc.m1; have := hl.regs; omega
 m2 := h8, sto := hc.sto, len := hc.len, pos := hc.pos, traps := hc.traps, ins := fun x hx => z1j hl (hc.ins x hx), trap := hc.trap }
theorem plainHardwareLarger : zha := by
 intro m a1 c hm ha hc
 refine ⟨2000000, ?_⟩
 obtain ⟨b, hb⟩ := z87 2000000 (by decide) hc
 obtain ⟨⟨n, e0⟩, hr1, hr2⟩ := zwd 2000000 (by decide) m hc
 obtain ⟨e, he1, he2, he3⟩ := znx a1
 have k1 := zuv _ hr1
 have k2 := z1t _ hr2
 unfold zfp
 rw [zaeu]
 simp only [obs, bnt, cfa, eS, eM, eC]
 rw [hb]
 cases b with
 | false => rfl
 | true =>
  simp only [obs, bnt, cfa]; rw [k2, he2, zaag hc]; simp only [obs, zcz]
  by_cases h0 : e0 = 0
  case neg => rw [dct h0]; rfl
  subst h0
  by_cases h1 : e = 0
  case neg => rw [dcf (fun h => h rfl), dct h1]; rfl
  subst h1; have hm8 := he3 rfl; obtain ⟨cv, _⟩ := zaei 2000000 (by decide) hc hr2
  by_cases h2 : a1.Registers < m.Registers
  case pos => rw [dct h2]; rfl
  rw [dcf h2]
  by_cases h3 : m.yC = true ∧ a1.yC = false
  case pos => rw [h3.1, h3.2]; rfl
  by_cases h4 : m.zY = true ∧ a1.zY = false
  case pos => rw [h4.1, h4.2]; revert h3; cases m.yC <;> cases a1.yC <;> intro h3 <;> first | rfl | exact absurd ⟨rfl, rfl⟩ h3
  have hl : Larger m a1 := { regs := by omega, fused := fun h => by cases hf : a1.yC with | true => rfl | false => exact absurd ⟨h, hf⟩ h3, mem := fun h => by cases hf : a1.zY with | true => rfl | false => exact absurd ⟨h, hf⟩ h4 }; have hM : Larger m ⟨8, true, true⟩ := { regs := cv.m2, fused := fun _ => rfl, mem := fun _ => rfl }; have hc8 := z1p 2000000 (by decide) hc hr2 (m' := ⟨8, true, true⟩) (by kernel_rfl) hM; have hca := z1p 2000000 (by decide) hc hr2 (m' := a1) he2 hl; obtain ⟨r8, s1, s2⟩ := zwd 2000000 (by decide) ⟨8, true, true⟩ hc; rw [hc8] at s2; cases s2; obtain ⟨ra, t1, t2⟩ := zwd 2000000 (by decide) a1 hc; rw [hca] at t2; cases t2; have ka := zuv _ t1; have cv8 := zwe cv hM (Int.le_refl 8); have cva := zwe cv hl hm8.2; have hro := z8z 2000000 (by decide) hc hm8 he1 s1 cv8 (fun x hx => z8s hl (cv.ins x hx)); have hrun1 := z80 2000000 (by decide) cv k1
  have hrun2 := z80 2000000 (by decide) cva ka; have hsame : zvn (zoe c 3001 (zsx a1 c)) = zvn (zoe c 3001 (zsx m c)) :=
   z5j cv 3001 (zsx m c) _ (zx0 cv) (fun _ => by show (0 : Int) < 3000; omega) (z4r m.Registers (by have := cv.m1; omega) (by have := cv.m1; omega) (a := m.Registers.toNat) (b := a1.Registers.toNat))
  have ht := (zx9 2000000 (by decide) cv ⟨[], 0, 0, 0, 0, ⟨⟨#[]⟩, []⟩⟩ ⟨[], 0, 0, 0, 0, ⟨⟨#[]⟩, []⟩⟩ 3001 _ (zx0 cv) (fun _ => by show (0 : Int) < 3000; omega) (by show (3000 : Int) - 0 < 3001; omega) 2000000 (by decide)).2.2.1; have hres := z91 2000000 (by decide) ht; rw [hro, hrun1, hrun2, hsame]; have hf := hl.fused; have hg := hl.mem
  revert hf hg
  cases m.yC <;> cases a1.yC <;> cases m.zY <;> cases a1.zY <;> intro hf hg <;> first
   | exact absurd (hf rfl) (by decide)
   | exact absurd (hg rfl) (by decide)
   | (simp [hres])
end
end Go.Proofs.YtppbpnknfigboaaGreatDoor.M
namespace Go.Proofs.YtppbpnknfigboaaGreatDoor
theorem hardwareLarger_card : Rows.HardwareLargerUptoCardSaid := M.cardHardwareLarger M.plainHardwareLarger
#print axioms hardwareLarger_card
end Go.Proofs.YtppbpnknfigboaaGreatDoor
