/- HardwareValid: the law answers true for every input of bulk at most 1048576, and its arguments read as they did; by the seat's second form, tied to the program's text. -/
import Derived.Test.YtppbpnknfigboaaGreatDoorPHardwareValidx1
import Derived.Test.YtppbpnknfigboaaGreatDoorWHardwareValid
namespace Go.Proofs.YtppbpnknfigboaaGreatDoor.M
open Go Go.Amx
set_option linter.unusedVariables false
set_option linter.unusedSimpArgs false
set_option maxRecDepth 100000
noncomputable section
section
variable {m : zI} {c : zF} {s : zA}
theorem zahm (s : zA) {x : zB} (hop : x.Op = 14) : zeu s x = (match zlg s.Storage x.Place (szE x.zG) with | .error e => .error e | .ok a => .ok (s.At + 1, updS s (stV s.Storage x.Pointer.toNat a.toNat))) := by
 cases x; cases hop; rfl
theorem zag1 (N : Nat) (M : zC) {x : zB} (hop : x.Op = 14) : zd N M x = ((zeq N x.zG).bind fun r1 => (za4 N M x.Place r1).bind fun r2 => cond r2.2.1 ((zca N r2.2.2.zA.Storage x.Pointer (⟨0, (⟨1, r2.1⟩ : Address), 0⟩ : Pointer)).bind fun r3 => some (⟨updS r2.2.2.zA r3.1, r2.2.2.code, r2.2.2.raised⟩ : zC)) (some r2.2.2)).bind fun r => some (w6 (r.zA.At + 1), r) := by
 cases x; cases hop; rfl
theorem zaf0 (N : Nat) {x : zB} (hop : x.Op = 14) (hi : idx c.zD s.At = some x) : ze N c s = ((zbi x.zG).bind fun r1 => (zc3 N s x.Place r1).bind fun r2 => cond (r2.2 != 0) (some (r2.2, s)) ((zgr N s.Storage x.Pointer (⟨0, (⟨1, r2.1⟩ : Address), 0⟩ : Pointer)).bind fun r3 => some (0, updS s r3))).bind fun r => some (w6 (s.At + 1), r.1, r.2) := by
 unfold ze
 rw [hi, obs]
 clear hi
 cases x; cases hop; rfl
theorem zac9 (N : Nat) (hN : 20000 < N) (hc : CodeV m c) (hs : StV m c s) {x : zB} (hx : c.zD[s.At.toNat]? = some x) (hop : x.Op = 14) : zce N m c s x := by
 have iv := zg8 hc (lmg hx) hop (U := ⟨false, false, false, true, false, false, false, false, false, false, false, false, true, false, 3, 0⟩) rfl
 have hi : idx c.zD s.At = some x := by unfold idx; rw [ifp hs.at0, hx]
 have m8 := hc.m2
 have a0 := hs.at0
 have a1 := hs.at1
 have n240 := hc.len
 have wn1 : w6 (s.At + 1) = s.At + 1 := w6e
 unfold zce
 rw [zahm s hop, zag1 N _ hop, zaf0 N hop hi]
 have ht := iv.ty3 rfl
 have hp : zch s.Storage x.Place (szE x.zG) = true := by rw [zgv hs.size]; have := iv.pl rfl; unfold zgm at this; rw [ifn] at this; exact this
 have hq : zet s.Storage x.Pointer = true := by rw [zna hs.size]; exact iv.pt rfl
 obtain ⟨q1, q2, q3⟩ := zju hq
 have hsz := zj5 ht
 have hle := hs.sto.le
 have hqd := hs.sto.quad
 rw [z0a N (by omega) ht, zje ht, obs, obs]
 rcases zr6 N (by omega) s c hs.sto hp hsz.1 hsz.2 with ⟨e, j, k, he, h1, h2, h3⟩ | ⟨a, h1, h2, h3, h4, h5⟩
 · rw [h1, h2, h3]; refine .inl ⟨e, _, w6 (s.At + 1), s, rfl, by omega, rfl, ?_⟩; rcases he with rfl | rfl <;> rfl
 · rw [h1, h2, h3]; obtain ⟨a, rfl⟩ : ∃ k : Nat, a = (k : Int) := ⟨a.toNat, by omega⟩; refine .inr ⟨_, _, _, rfl, ?_, ?_, fun _ => ⟨rfl, by omega, by omega⟩, hs.updS (z11 (off := a) hs.sto (by omega) (by omega) (by omega)) (zxk (by omega)), rfl, rfl, rfl⟩
   · simp only [obs, ctr]; rw [show (⟨0, ⟨1, (a : Int)⟩, 0⟩ : Pointer) = zh8 a from rfl, zxi N (by omega) hs.sto hq a (by omega)]; show some (w6 (s.At + 1), _) = _; rw [wn1]; rfl
   · simp only [obs, bsf, cfa]; rw [show (⟨0, ⟨1, (a : Int)⟩, 0⟩ : Pointer) = zh8 a from rfl, zxv N (by omega) hs.sto hq a (by omega)]; show some (w6 (s.At + 1), _) = _; rw [wn1]; rfl
theorem zahl (s : zA) {x : zB} (hop : x.Op = 15) : zeu s x = (match ldV s.Storage x.Source with | none => .error 4 | some o => .ok (s.At + 1, updS s (stV s.Storage x.Pointer.toNat o.toNat))) := by
 cases x; cases hop; rfl
theorem zag0 (N : Nat) (M : zC) {x : zB} (hop : x.Op = 15) : zd N M x = ((zax N M x.Source).bind fun r4 => cond r4.2.1 ((zca N r4.2.2.zA.Storage x.Pointer r4.1).bind fun r5 => some (⟨updS r4.2.2.zA r5.1, r4.2.2.code, r4.2.2.raised⟩ : zC)) (some r4.2.2)).bind fun r => some (w6 (r.zA.At + 1), r) := by
 cases x; cases hop; rfl
theorem zafz (N : Nat) {x : zB} (hop : x.Op = 15) (hi : idx c.zD s.At = some x) : ze N c s = ((zie N s.Storage x.Source).bind fun r4 => cond (r4.2 != 0) (some (4, s)) ((zgr N s.Storage x.Pointer r4.1).bind fun r5 => some (0, updS s r5))).bind fun r => some (w6 (s.At + 1), r.1, r.2) := by
 unfold ze
 rw [hi, obs]
 clear hi
 cases x; cases hop; rfl
theorem zac8 (N : Nat) (hN : 20000 < N) (hc : CodeV m c) (hs : StV m c s) {x : zB} (hx : c.zD[s.At.toNat]? = some x) (hop : x.Op = 15) : zce N m c s x := by
 have iv := zg8 hc (lmg hx) hop (U := ⟨false, false, false, false, false, false, false, false, false, false, false, false, true, true, 0, 0⟩) rfl
 have hi : idx c.zD s.At = some x := by unfold idx; rw [ifp hs.at0, hx]
 have m8 := hc.m2
 have a0 := hs.at0
 have a1 := hs.at1
 have n240 := hc.len
 have wn1 : w6 (s.At + 1) = s.At + 1 := w6e
 unfold zce
 rw [zahl s hop, zag0 N _ hop, zafz N hop hi]
 have hq : zet s.Storage x.Pointer = true := by rw [zna hs.size]; exact iv.pt rfl
 have hq2 : zet s.Storage x.Source = true := by rw [zna hs.size]; exact iv.sr rfl
 obtain ⟨q1, q2, q3⟩ := zju hq
 have hle := hs.sto.le
 have hqd := hs.sto.quad
 rw [zqi N (by omega) s c hs.sto hq2, zwc N (by omega) hs.sto hq2]
 cases hld : ldV s.Storage x.Source with
 | none => exact .inl ⟨4, _, _, s, rfl, by omega, rfl, rfl⟩
 | some o =>
  have ho := zvo hs.sto hld; obtain ⟨o, rfl⟩ : ∃ k : Nat, o = (k : Int) := ⟨o.toNat, by omega⟩; refine .inr ⟨_, _, _, rfl, ?_, ?_, fun _ => ⟨rfl, by omega, by omega⟩, hs.updS (z11 (off := o) hs.sto (by omega) (by omega) (by omega)) (zxk (by omega)), rfl, rfl, rfl⟩
  · simp only [obs, ctr]; rw [zxi N (by omega) hs.sto hq o (by omega)]; show some (w6 (s.At + 1), _) = _; rw [wn1]; rfl
  · simp only [obs, bsf, cfa]; rw [zxv N (by omega) hs.sto hq o (by omega)]; show some (w6 (s.At + 1), _) = _; rw [wn1]; rfl
theorem zahk (s : zA) {x : zB} (hop : x.Op = 16) : zeu s x = (match ldV s.Storage x.Pointer with
 | none => .error 4
 | some o => if inB (o + zf2 (rg s x.R)) 0 16777215 = true then .ok (s.At + 1, updS s (stV s.Storage x.Pointer.toNat (o + zf2 (rg s x.R)).toNat)) else .error 5) := by
 cases x; cases hop; rfl
theorem zagz (N : Nat) (M : zC) {x : zB} (hop : x.Op = 16) : zd N M x = ((zd7 N M x).bind fun r6 => some r6).bind fun r => some (w6 (r.zA.At + 1), r) := by
 cases x; cases hop; rfl
theorem zafy (N : Nat) {x : zB} (hop : x.Op = 16) (hi : idx c.zD s.At = some x) : ze N c s = ((zie N s.Storage x.Pointer).bind fun r10 => cond (r10.2 != 0) (some (4, s)) (if 0 ≤ x.R then (if x.R < (s.Registers.length : Int) then ((s.Registers[x.R.toNat]?).bind fun x12 => (zjq N x12).bind fun r13 => (zg (w6 (r10.1.Address.Offset + r13)) 0 16777215).bind fun r14 => cond (!r14) (some (5, s)) ((zgr N s.Storage x.Pointer (⟨r10.1.Kind, (⟨r10.1.Address.zY, (w6 (r10.1.Address.Offset + r13))⟩ : Address), r10.1.Authority⟩ : Pointer)).bind fun r15 => some (0, updS s r15))) else none) else none)).bind fun r => some (w6 (s.At + 1), r.1, r.2) := by
 unfold ze
 rw [hi, obs]
 clear hi
 cases x; cases hop; rfl
theorem zac7 (N : Nat) (hN : 20000 < N) (hc : CodeV m c) (hs : StV m c s) {x : zB} (hx : c.zD[s.At.toNat]? = some x) (hop : x.Op = 16) : zce N m c s x := by
 have iv := zg8 hc (lmg hx) hop (U := ⟨true, false, false, false, false, false, false, false, false, false, false, false, true, false, 0, 0⟩) rfl
 have hi : idx c.zD s.At = some x := by unfold idx; rw [ifp hs.at0, hx]
 have m8 := hc.m2
 have a0 := hs.at0
 have a1 := hs.at1
 have n240 := hc.len
 have wn1 : w6 (s.At + 1) = s.At + 1 := w6e
 unfold zce
 rw [zahk s hop, zagz N _ hop, zafy N hop hi]
 have hq : zet s.Storage x.Pointer = true := by rw [zna hs.size]; exact iv.pt rfl
 obtain ⟨q1, q2, q3⟩ := zju hq
 obtain ⟨g1, g2, g3, g4, g5⟩ := zf3 hs (iv.r rfl)
 have hle := hs.sto.le
 have hqd := hs.sto.quad
 unfold zd7
 rw [zqi N (by omega) s c hs.sto hq, zwc N (by omega) hs.sto hq]
 cases hld : ldV s.Storage x.Pointer with
 | none => exact .inl ⟨4, _, _, s, rfl, by omega, rfl, rfl⟩
 | some o =>
  have ho := zvo hs.sto hld; have hwb := zut g5; simp only [obs, bnt, cfa, bsf]; rw [g4, ifp g1, ifp g2, g3]; simp only [obs]; rw [z3h N (by omega) g5, zy1 N (by omega) g5]; simp only [obs]; rw [show (zh8 o).Address.Offset = o from rfl, w6e (n := o + zf2 (rg s x.R)), zl5, zh2]; simp only [obs]; rw [zhz _ _ _ _ (by decide)]; simp only [obs]; cases hin : inB (o + zf2 (rg s x.R)) 0 16777215 with
  | false =>
   rw [ifn (by decide)]; exact .inl ⟨5, _, _, s, rfl, by omega, rfl, rfl⟩
  | true =>
   have hr := zay.1 hin; rw [ifp rfl]; obtain ⟨k, hk⟩ : ∃ k : Nat, o + zf2 (rg s x.R) = (k : Int) := ⟨(o + zf2 (rg s x.R)).toNat, by omega⟩; rw [hk]; rw [show (⟨(zh8 o).Kind, ⟨(zh8 o).Address.zY, (k : Int)⟩, (zh8 o).Authority⟩ : Pointer) = zh8 k from rfl]; refine .inr ⟨_, _, _, rfl, ?_, ?_, fun _ => ⟨rfl, by omega, by omega⟩, hs.updS (z11 (off := k) hs.sto (by omega) (by omega) (by omega)) (zxk (by omega)), rfl, rfl, rfl⟩
   · simp only [bnt, Bool.not_false, ctr]; rw [zxi N (by omega) hs.sto hq k (by omega)]; show some (w6 (s.At + 1), _) = _; rw [wn1]; rfl
   · simp only [bnt, cfa]; rw [zxv N (by omega) hs.sto hq k (by omega)]; show some (w6 (s.At + 1), _) = _; rw [wn1]; rfl
theorem zahj (s : zA) {x : zB} (hop : x.Op = 17) : zeu s x = (match ldV s.Storage x.Pointer with | none => .error 4 | some _ => .ok (s.At + 1, s)) := by
 cases x; cases hop; rfl
theorem zagy (N : Nat) (M : zC) {x : zB} (hop : x.Op = 17) : zd N M x = ((zax N M x.Pointer).bind fun r7 => some r7.2.2).bind fun r => some (w6 (r.zA.At + 1), r) := by
 cases x; cases hop; rfl
theorem zafx (N : Nat) {x : zB} (hop : x.Op = 17) (hi : idx c.zD s.At = some x) : ze N c s = ((zie N s.Storage x.Pointer).bind fun r10 => cond (r10.2 != 0) (some (4, s)) (some (0, s))).bind fun r => some (w6 (s.At + 1), r.1, r.2) := by
 unfold ze
 rw [hi, obs]
 clear hi
 cases x; cases hop; rfl
theorem zac6 (N : Nat) (hN : 20000 < N) (hc : CodeV m c) (hs : StV m c s) {x : zB} (hx : c.zD[s.At.toNat]? = some x) (hop : x.Op = 17) : zce N m c s x := by
 have iv := zg8 hc (lmg hx) hop (U := ⟨false, false, false, false, false, false, false, false, false, false, false, false, true, false, 0, 0⟩) rfl
 have hi : idx c.zD s.At = some x := by unfold idx; rw [ifp hs.at0, hx]
 have m8 := hc.m2
 have a0 := hs.at0
 have a1 := hs.at1
 have n240 := hc.len
 have wn1 : w6 (s.At + 1) = s.At + 1 := w6e
 unfold zce
 rw [zahj s hop, zagy N _ hop, zafx N hop hi]
 have hq : zet s.Storage x.Pointer = true := by rw [zna hs.size]; exact iv.pt rfl
 rw [zqi N (by omega) s c hs.sto hq, zwc N (by omega) hs.sto hq]
 cases hld : ldV s.Storage x.Pointer with
 | none => exact .inl ⟨4, _, _, s, rfl, by omega, rfl, rfl⟩
 | some o =>
  refine .inr ⟨_, _, _, rfl, ?_, ?_, fun _ => ⟨rfl, by omega, by omega⟩, hs, rfl, rfl, rfl⟩
  · show some (w6 (s.At + 1), _) = _; rw [wn1]
  · show some (w6 (s.At + 1), _) = _; rw [wn1]
theorem zahi (s : zA) {x : zB} (hop : x.Op = 18) : zeu s x = (if 6 ≤ s.Stack.length then .error 6 else .ok (x.Target, updK s (s.Stack ++ [s.At]))) := by
 cases x; cases hop; rfl
theorem zagx (N : Nat) (M : zC) {x : zB} (hop : x.Op = 18) : zd N M x = ((ze5 M x.Target).bind fun r1 => some (r1.1, r1.2)).bind fun r => some (r.1, r.2) := by
 cases x; cases hop; rfl
theorem zafw (N : Nat) {x : zB} (hop : x.Op = 18) (hi : idx c.zD s.At = some x) : ze N c s = cond ((s.Stack.length : Int) == 6) (some (0, 6, s)) (cond (Nat.ble ((s.Stack.length + ([s.At] : List Int).length) * 8) zac) (some (x.Target, 0, updK s (s.Stack ++ [s.At]))) none) := by
 unfold ze
 rw [hi, obs]
 clear hi
 cases x; cases hop; rfl
theorem zac5 (N : Nat) (hN : 20000 < N) (hc : CodeV m c) (hs : StV m c s) {x : zB} (hx : c.zD[s.At.toNat]? = some x) (hop : x.Op = 18) : zce N m c s x := by
 have iv := zg8 hc (lmg hx) hop (U := ⟨false, false, false, false, false, false, false, false, false, true, false, false, false, false, 0, 0⟩) rfl
 have hi : idx c.zD s.At = some x := by unfold idx; rw [ifp hs.at0, hx]
 have m8 := hc.m2
 have a0 := hs.at0
 have a1 := hs.at1
 have n240 := hc.len
 have wn1 : w6 (s.At + 1) = s.At + 1 := w6e
 unfold zce
 rw [zahi s hop, zagx N _ hop, zafw N hop hi]
 have ht := iv.tg rfl
 have h6 := hs.stk
 unfold ze5
 simp only []
 rw [zhz _ _ _ _ (by decide)]
 simp only [obs, zat]
 by_cases h : 6 ≤ s.Stack.length
 · rw [ifp h, dct (show (s.Stack.length : Int) ≥ 6 by omega), dct (show (s.Stack.length : Int) = 6 by omega)]; exact .inl ⟨6, _, _, s, rfl, by omega, rfl, rfl⟩
 · rw [ifn h, dcf (show ¬ (s.Stack.length : Int) ≥ 6 by omega), dcf (show ¬ (s.Stack.length : Int) = 6 by omega)]; have hcl : zdi 8 s.Stack = some s.Stack := by unfold zdi; rw [zao (by omega)]; rfl
   have hrm : Nat.ble ((s.Stack.length + ([s.At] : List Int).length) * 8) zac = true := zao (by simp only [lnc, ln0]; omega); simp only [Bool.not_false, ctr, cfa]; rw [hcl]; simp only [obs]; rw [hrm]; refine .inr ⟨_, _, _, rfl, rfl, rfl, fun _ => ⟨rfl, by omega, by omega⟩, hs.updK ?_ ?_, rfl, rfl, rfl⟩
   · rw [lna, lns]; omega
   · intro i hmem; rcases List.mem_append.1 hmem with h2 | h2
     · exact hs.calls i h2
     · rw [List.mem_singleton.1 h2]; exact ⟨⟨a0, a1⟩, x, hx, hop⟩
theorem zahh (s : zA) {x : zB} (hop : x.Op = 19) : zeu s x = (if s.Stack.length = 0 then .ok (s.At, updT s 1) else .ok (s.Stack.getD (s.Stack.length - 1) 0 + 1, updK s (s.Stack.take (s.Stack.length - 1)))) := by
 cases x; cases hop; rfl
theorem zagw (N : Nat) (M : zC) {x : zB} (hop : x.Op = 19) : zd N M x = ((ze6 M).bind fun r2 => some (r2.1, r2.2)).bind fun r => some (r.1, r.2) := by
 cases x; cases hop; rfl
theorem zafv (N : Nat) {x : zB} (hop : x.Op = 19) (hi : idx c.zD s.At = some x) : ze N c s = cond ((s.Stack.length : Int) == 0) (some ((w6 (s.At + 1)), 0, updT s 1)) (if 0 ≤ (w6 ((s.Stack.length : Int) - 1)) then (if (w6 ((s.Stack.length : Int) - 1)) < (s.Stack.length : Int) then ((s.Stack[(w6 ((s.Stack.length : Int) - 1)).toNat]?).bind fun x6 => if 0 ≤ (w6 ((s.Stack.length : Int) - 1)) ∧ (w6 ((s.Stack.length : Int) - 1)) ≤ (s.Stack.length : Int) then (if 0 ≤ (0 : Int) ∧ (0 : Int) ≤ (w6 ((s.Stack.length : Int) - 1)) then (some ((w6 (x6 + 1)), 0, updK s ((s.Stack.drop ((0 : Int).toNat)).take ((w6 ((s.Stack.length : Int) - 1)).toNat - (0 : Int).toNat)))) else none) else none) else none) else none) := by
 unfold ze
 rw [hi, obs]
 clear hi
 cases x; cases hop; rfl
theorem zac4 (N : Nat) (hN : 20000 < N) (hc : CodeV m c) (hs : StV m c s) {x : zB} (hx : c.zD[s.At.toNat]? = some x) (hop : x.Op = 19) : zce N m c s x := by
 have iv := zg8 hc (lmg hx) hop (U := ⟨false, false, false, false, false, false, false, false, false, false, false, false, false, false, 0, 0⟩) rfl
 have hi : idx c.zD s.At = some x := by unfold idx; rw [ifp hs.at0, hx]
 have m8 := hc.m2
 have a0 := hs.at0
 have a1 := hs.at1
 have n240 := hc.len
 have wn1 : w6 (s.At + 1) = s.At + 1 := w6e
 unfold zce
 rw [zahh s hop, zagw N _ hop, zafv N hop hi]
 have h6 := hs.stk
 unfold ze6
 simp only [zat]
 by_cases h : s.Stack.length = 0
 · rw [ifp h, w6e, dct (show (s.Stack.length : Int) - 1 < 0 by omega), dct (show (s.Stack.length : Int) = 0 by omega)]; exact .inr ⟨_, _, _, rfl, rfl, rfl, (fun h => by have h' : (1 : Int) = 0 := h; omega), hs.updT (by omega) (by omega), rfl, rfl, rfl⟩
 · have hl : (s.Stack.length : Int) - 1 = ((s.Stack.length - 1 : Nat) : Int) := by omega
   have hx1 : s.Stack[s.Stack.length - 1]? = some (s.Stack.getD (s.Stack.length - 1) 0) := by rw [gdd, lge (by omega)]; rfl
   obtain ⟨hr, _⟩ := hs.calls _ (lmg hx1); have hcl : ∀ l : List Int, l.length ≤ 6 → zdi 8 l = some l := fun l hl => by unfold zdi; rw [zao (by omega)]; rfl
   rw [ifn h, w6e (n := (s.Stack.length : Int) - 1), dcf (show ¬ (s.Stack.length : Int) - 1 < 0 by omega), dcf (show ¬ (s.Stack.length : Int) = 0 by omega)]; simp only [cfa]; rw [hl, za3, hx1]; simp only [obs]; rw [ifp, ifp, ifp, ifp, itn, hx1]; simp only [obs]; rw [ifp, ifp, show (0 : Int).toNat = 0 from rfl, dr0, dr0, Nat.sub_zero, hcl _ (by rw [lnt]; omega), w6e]; refine .inr ⟨_, _, _, rfl, rfl, rfl, fun _ => ⟨rfl, by omega, by omega⟩, hs.updK ?_ ?_, rfl, rfl, rfl⟩
   · rw [lnt]; omega
   · intro i hi2; exact hs.calls i (List.mem_of_mem_take hi2)
theorem zahg (s : zA) {x : zB} (hop : x.Op = 20) : zeu s x = (if inB (zf2 (rg s x.R)) 100 999 = true then .error (zf2 (rg s x.R)) else .error 2) := by
 cases x; cases hop; rfl
theorem zagv (N : Nat) (M : zC) {x : zB} (hop : x.Op = 20) : zd N M x = (zef N M x).bind fun r => some (w6 (r.zA.At + 1), r) := by
 cases x; cases hop; rfl
theorem zafu (N : Nat) {x : zB} (hop : x.Op = 20) (hi : idx c.zD s.At = some x) : ze N c s = if 0 ≤ x.R then (if x.R < (s.Registers.length : Int) then ((s.Registers[x.R.toNat]?).bind fun x7 => (zjq N x7).bind fun r8 => (zg r8 100 999).bind fun r9 => cond r9 (some (0, r8, s)) (some (0, 2, s))) else none) else none := by
 unfold ze
 rw [hi, obs]
 clear hi
 cases x; cases hop; rfl
theorem zac3 (N : Nat) (hN : 20000 < N) (hc : CodeV m c) (hs : StV m c s) {x : zB} (hx : c.zD[s.At.toNat]? = some x) (hop : x.Op = 20) : zce N m c s x := by
 have iv := zg8 hc (lmg hx) hop (U := ⟨true, false, false, false, false, false, false, false, false, false, false, false, false, false, 0, 0⟩) rfl
 have hi : idx c.zD s.At = some x := by unfold idx; rw [ifp hs.at0, hx]
 have m8 := hc.m2
 have a0 := hs.at0
 have a1 := hs.at1
 have n240 := hc.len
 have wn1 : w6 (s.At + 1) = s.At + 1 := w6e
 unfold zce
 rw [zahg s hop, zagv N _ hop, zafu N hop hi]
 obtain ⟨g1, g2, g3, g4, g5⟩ := zf3 hs (iv.r rfl)
 unfold zef
 simp only []
 rw [g4, ifp g1, ifp g2, g3]
 simp only [obs]
 rw [z3h N (by omega) g5, zy1 N (by omega) g5]
 simp only [obs]
 rw [zl5, zh2]
 simp only [obs]
 cases hin : inB (zf2 (rg s x.R)) 100 999 with
 | false =>
  rw [ifn (by decide)]; simp only [Bool.not_false, ctr, cfa]; rw [zhz _ _ _ _ (by decide)]; exact .inl ⟨2, _, _, s, rfl, by omega, rfl, rfl⟩
 | true =>
  have hr := zay.1 hin; rw [ifp rfl]; simp only [bnt, ctr, cfa]; rw [zhz _ _ _ _ (by omega)]; exact .inl ⟨_, _, _, s, rfl, by omega, rfl, rfl⟩
theorem zvf (hs : StV m c s) (l : ByteArray) (hl : l.size ≤ 256) (n240 : c.zD.length ≤ 240) :
 ∃ t, zpl s l = .ok (s.At + 1, t) ∧
  (cond ((s.Lines.length : Int) == 40) (some (⟨updT s 3, c, 0⟩ : zC)) ((zdi 16 s.Lines).bind fun r6 => cond (Nat.ble ((r6.length + ([l] : List ByteArray).length) * 16) zac) (some (⟨updL s (r6 ++ [l]), c, 0⟩ : zC)) none)) = some ⟨t, c, 0⟩ ∧
  (cond ((s.Lines.length : Int) == 40) (some ((0 : Int), updT s 3)) (cond (Nat.ble ((s.Lines.length + ([l] : List ByteArray).length) * 16) zac) (some (0, updL s (s.Lines ++ [l]))) none)) = some (0, t) ∧ StV m c t ∧ t.At = s.At ∧ t.Steps = s.Steps ∧ t.Exception = s.Exception := by
 have h40 := hs.lines
 unfold zpl
 rw [zat]
 by_cases h : s.Lines.length = 40
 · rw [ifp h, dct (show (s.Lines.length : Int) = 40 by omega)]; exact ⟨_, rfl, rfl, rfl, hs.updT (by omega) (by omega), rfl, rfl, rfl⟩
 · rw [ifn h, dcf (show ¬ (s.Lines.length : Int) = 40 by omega)]; have hcl : zdi 16 s.Lines = some s.Lines := by unfold zdi; rw [zao (by omega)]; rfl
   have hrm : Nat.ble ((s.Lines.length + ([l] : List ByteArray).length) * 16) zac = true := zao (by simp only [lnc, ln0]; omega); simp only [cfa]; rw [hcl]; simp only [obs]; rw [hrm]; exact ⟨_, rfl, rfl, rfl, hs.updL (by omega) hl, rfl, rfl, rfl⟩
theorem zahe (s : zA) {x : zB} (hop : x.Op = 22) : zeu s x = (zpl s (zo3 (rg s x.R))) := by
 cases x; cases hop; rfl
theorem zagt (N : Nat) (M : zC) {x : zB} (hop : x.Op = 22) : zd N M x = ((idx M.zA.Registers x.R).bind fun x1 => (zeh x1).bind fun r2 => cond ((M.zA.Lines.length : Int) == 40) (some (⟨updT M.zA 3, M.code, M.raised⟩ : zC)) ((zdi 16 M.zA.Lines).bind fun r6 => cond (Nat.ble ((r6.length + ([r2.1] : List ByteArray).length) * 16) zac) (some (⟨updL M.zA (r6 ++ [r2.1]), M.code, M.raised⟩ : zC)) none)).bind fun r => some (w6 (r.zA.At + 1), r) := by
 cases x; cases hop; rfl
theorem zafs (N : Nat) {x : zB} (hop : x.Op = 22) (hi : idx c.zD s.At = some x) : ze N c s = (if 0 ≤ x.R then (if x.R < (s.Registers.length : Int) then ((s.Registers[x.R.toNat]?).bind fun x1 => (zfo N x1).bind fun r2 => cond ((s.Lines.length : Int) == 40) (some (0, updT s 3)) (cond (Nat.ble ((s.Lines.length + ([r2] : List ByteArray).length) * 16) zac) (some (0, updL s (s.Lines ++ [r2]))) none)) else none) else none).bind fun r => some (w6 (s.At + 1), r.1, r.2) := by
 unfold ze
 rw [hi, obs]
 clear hi
 cases x; cases hop; rfl
theorem zac1 (N : Nat) (hN : 20000 < N) (hc : CodeV m c) (hs : StV m c s) {x : zB} (hx : c.zD[s.At.toNat]? = some x) (hop : x.Op = 22) : zce N m c s x := by
 have iv := zg8 hc (lmg hx) hop (U := ⟨true, false, false, false, false, false, false, false, false, false, false, false, false, false, 0, 0⟩) rfl
 have hi : idx c.zD s.At = some x := by unfold idx; rw [ifp hs.at0, hx]
 have m8 := hc.m2
 have a0 := hs.at0
 have a1 := hs.at1
 have n240 := hc.len
 have wn1 : w6 (s.At + 1) = s.At + 1 := w6e
 unfold zce
 rw [zahe s hop, zagt N _ hop, zafs N hop hi]
 obtain ⟨g1, g2, g3, g4, g5⟩ := zf3 hs (iv.r rfl)
 simp only []
 rw [g4, ifp g1, ifp g2, g3]
 simp only [obs]
 rw [z8f g5, zabz N (by omega) g5]
 simp only [obs]
 obtain ⟨t, p1, p2, p3, p4, p5, p6, p7⟩ := zvf hs (zo3 (rg s x.R)) (z53 g5) n240
 rw [p1, p2, p3]
 refine .inr ⟨_, _, _, rfl, ?_, ?_, fun _ => ⟨rfl, by omega, by omega⟩, p4, p5, p6, p7⟩
 · show some (w6 (t.At + 1), _) = _; rw [p5, wn1]
 · show some (w6 (s.At + 1), _) = _; rw [wn1]
theorem zahd (s : zA) {x : zB} (hop : x.Op = 23) : zeu s x = (match zlf s.Storage x.Place x.zG with | .error e => .error e | .ok b => zpl s b) := by
 cases x; cases hop; rfl
theorem zags (N : Nat) (M : zC) {x : zB} (hop : x.Op = 23) : zd N M x = ((zu N M x.Place x.zG).bind fun r4 => cond (!r4.2.1) (some r4.2.2) (cond ((r4.2.2.zA.Lines.length : Int) == 40) (some (⟨updT r4.2.2.zA 3, r4.2.2.code, r4.2.2.raised⟩ : zC)) ((zdi 16 r4.2.2.zA.Lines).bind fun r6 => cond (Nat.ble ((r6.length + ([r4.1] : List ByteArray).length) * 16) zac) (some (⟨updL r4.2.2.zA (r6 ++ [r4.1]), r4.2.2.code, r4.2.2.raised⟩ : zC)) none))).bind fun r => some (w6 (r.zA.At + 1), r) := by
 cases x; cases hop; rfl
theorem zafr (N : Nat) {x : zB} (hop : x.Op = 23) (hi : idx c.zD s.At = some x) : ze N c s = ((ze0 N s x.Place x.zG).bind fun r3 => cond (r3.2 != 0) (some (r3.2, s)) (cond ((s.Lines.length : Int) == 40) (some (0, updT s 3)) (cond (Nat.ble ((s.Lines.length + ([r3.1] : List ByteArray).length) * 16) zac) (some (0, updL s (s.Lines ++ [r3.1]))) none))).bind fun r => some (w6 (s.At + 1), r.1, r.2) := by
 unfold ze
 rw [hi, obs]
 clear hi
 cases x; cases hop; rfl
theorem zac0 (N : Nat) (hN : 20000 < N) (hc : CodeV m c) (hs : StV m c s) {x : zB} (hx : c.zD[s.At.toNat]? = some x) (hop : x.Op = 23) : zce N m c s x := by
 have iv := zg8 hc (lmg hx) hop (U := ⟨false, false, false, true, false, false, false, false, false, false, false, false, false, false, 2, 0⟩) rfl
 have hi : idx c.zD s.At = some x := by unfold idx; rw [ifp hs.at0, hx]
 have m8 := hc.m2
 have a0 := hs.at0
 have a1 := hs.at1
 have n240 := hc.len
 have wn1 : w6 (s.At + 1) = s.At + 1 := w6e
 unfold zce
 rw [zahd s hop, zags N _ hop, zafr N hop hi]
 have hp : zch s.Storage x.Place (szE x.zG) = true := by rw [zgv hs.size]; have := iv.pl rfl; unfold zgm at this; rw [ifn] at this; exact this
 have hz1 := zj5 (iv.ty2 rfl).1
 rcases zm9 N (by omega) s c hs.sto (iv.ty2 rfl).1 hp with ⟨e, b, k, he, h1, h2, h3⟩ | ⟨b, h1, h2, h3, h4⟩
 · rw [h1, h2, h3]; refine .inl ⟨e, _, w6 (s.At + 1), s, rfl, by omega, rfl, ?_⟩; rcases he with rfl | rfl <;> rfl
 rw [h1, h2, h3]
 simp only [obs, bnt, cfa, bsf]
 obtain ⟨t, p1, p2, p3, p4, p5, p6, p7⟩ := zvf hs b (by omega) n240
 rw [p1, p2, p3]
 refine .inr ⟨_, _, _, rfl, ?_, ?_, fun _ => ⟨rfl, by omega, by omega⟩, p4, p5, p6, p7⟩
 · show some (w6 (t.At + 1), _) = _; rw [p5, wn1]
 · show some (w6 (s.At + 1), _) = _; rw [wn1]
theorem zahc (s : zA) {x : zB} (hop : x.Op = 24) : zeu s x = (zpl s x.Text) := by
 cases x; cases hop; rfl
theorem zagr (N : Nat) (M : zC) {x : zB} (hop : x.Op = 24) : zd N M x = (cond ((M.zA.Lines.length : Int) == 40) (some (⟨updT M.zA 3, M.code, M.raised⟩ : zC)) ((zdi 16 M.zA.Lines).bind fun r6 => cond (Nat.ble ((r6.length + ([x.Text] : List ByteArray).length) * 16) zac) (some (⟨updL M.zA (r6 ++ [x.Text]), M.code, M.raised⟩ : zC)) none)).bind fun r => some (w6 (r.zA.At + 1), r) := by
 cases x; cases hop; rfl
theorem zafq (N : Nat) {x : zB} (hop : x.Op = 24) (hi : idx c.zD s.At = some x) : ze N c s = (cond ((s.Lines.length : Int) == 40) (some (0, updT s 3)) (cond (Nat.ble ((s.Lines.length + ([x.Text] : List ByteArray).length) * 16) zac) (some (0, updL s (s.Lines ++ [x.Text]))) none)).bind fun r => some (w6 (s.At + 1), r.1, r.2) := by
 unfold ze
 rw [hi, obs]
 clear hi
 cases x; cases hop; rfl
theorem zacz (N : Nat) (hN : 20000 < N) (hc : CodeV m c) (hs : StV m c s) {x : zB} (hx : c.zD[s.At.toNat]? = some x) (hop : x.Op = 24) : zce N m c s x := by
 have iv := zg8 hc (lmg hx) hop (U := ⟨false, false, false, false, false, false, false, false, false, false, true, false, false, false, 0, 0⟩) rfl
 have hi : idx c.zD s.At = some x := by unfold idx; rw [ifp hs.at0, hx]
 have m8 := hc.m2
 have a0 := hs.at0
 have a1 := hs.at1
 have n240 := hc.len
 have wn1 : w6 (s.At + 1) = s.At + 1 := w6e
 unfold zce
 rw [zahc s hop, zagr N _ hop, zafq N hop hi]
 simp only []
 obtain ⟨t, p1, p2, p3, p4, p5, p6, p7⟩ := zvf hs x.Text (iv.tx) n240
 rw [p1, p2, p3]
 refine .inr ⟨_, _, _, rfl, ?_, ?_, fun _ => ⟨rfl, by omega, by omega⟩, p4, p5, p6, p7⟩
 · show some (w6 (t.At + 1), _) = _; rw [p5, wn1]
 · show some (w6 (s.At + 1), _) = _; rw [wn1]
theorem zahb (s : zA) {x : zB} (hop : x.Op = 25) : zeu s x = (if s.Marks = 300 then .ok (s.At + 1, updT s 3) else .ok (s.At + 1, updM s (s.Marks + 1))) := by
 cases x; cases hop; rfl
theorem zagq (N : Nat) (M : zC) {x : zB} (hop : x.Op = 25) : zd N M x = (ze4 M).bind fun r => some (w6 (r.zA.At + 1), r) := by
 cases x; cases hop; rfl
theorem zafp (N : Nat) {x : zB} (hop : x.Op = 25) (hi : idx c.zD s.At = some x) : ze N c s = cond (s.Marks == 300) (some ((w6 (s.At + 1)), 0, updT s 3)) (some ((w6 (s.At + 1)), 0, updM s (w6 (s.Marks + 1)))) := by
 unfold ze
 rw [hi, obs]
 clear hi
 cases x; cases hop; rfl
theorem zacy (N : Nat) (hN : 20000 < N) (hc : CodeV m c) (hs : StV m c s) {x : zB} (hx : c.zD[s.At.toNat]? = some x) (hop : x.Op = 25) : zce N m c s x := by
 have iv := zg8 hc (lmg hx) hop (U := ⟨false, false, false, false, false, false, false, false, false, false, false, false, false, false, 0, 0⟩) rfl
 have hi : idx c.zD s.At = some x := by unfold idx; rw [ifp hs.at0, hx]
 have m8 := hc.m2
 have a0 := hs.at0
 have a1 := hs.at1
 have n240 := hc.len
 have wn1 : w6 (s.At + 1) = s.At + 1 := w6e
 unfold zce
 rw [zahb s hop, zagq N _ hop, zafp N hop hi]
 have k0 := hs.mk0
 have k1 := hs.mk1
 unfold ze4
 simp only [zat]
 rw [w6e (n := s.Marks + 1), wn1]
 by_cases h : s.Marks = 300
 · rw [ifp h, dct h]; refine .inr ⟨_, _, _, rfl, ?_, rfl, fun _ => ⟨rfl, by omega, by omega⟩, hs.updT (by omega) (by omega), rfl, rfl, rfl⟩; show some (w6 (s.At + 1), _) = _; rw [wn1]; rfl
 · rw [ifn h, dcf h]; refine .inr ⟨_, _, _, rfl, ?_, rfl, fun _ => ⟨rfl, by omega, by omega⟩, hs.updM (by omega) (by omega), rfl, rfl, rfl⟩; show some (w6 (s.At + 1), _) = _; rw [wn1]; rfl
theorem zaha (s : zA) {x : zB} (hop : x.Op = 26) : zeu s x = (.ok (s.At + 1, updT s 1)) := by
 cases x; cases hop; rfl
theorem zagp (N : Nat) (M : zC) {x : zB} (hop : x.Op = 26) : zd N M x = some (w6 (M.zA.At + 1), ⟨updT M.zA 1, M.code, M.raised⟩) := by
 cases x; cases hop; rfl
theorem zafo (N : Nat) {x : zB} (hop : x.Op = 26) (hi : idx c.zD s.At = some x) : ze N c s = some (w6 (s.At + 1), 0, updT s 1) := by
 unfold ze
 rw [hi, obs]
 clear hi
 cases x; cases hop; rfl
theorem zacx (N : Nat) (hN : 20000 < N) (hc : CodeV m c) (hs : StV m c s) {x : zB} (hx : c.zD[s.At.toNat]? = some x) (hop : x.Op = 26) : zce N m c s x := by
 have iv := zg8 hc (lmg hx) hop (U := ⟨false, false, false, false, false, false, false, false, false, false, false, false, false, false, 0, 0⟩) rfl
 have hi : idx c.zD s.At = some x := by unfold idx; rw [ifp hs.at0, hx]
 have m8 := hc.m2
 have a0 := hs.at0
 have a1 := hs.at1
 have n240 := hc.len
 have wn1 : w6 (s.At + 1) = s.At + 1 := w6e
 unfold zce
 rw [zaha s hop, zagp N _ hop, zafo N hop hi]
 rw [wn1]
 exact .inr ⟨_, _, _, rfl, rfl, rfl, fun _ => ⟨rfl, by omega, by omega⟩, hs.updT (by omega) (by omega), rfl, rfl, rfl⟩
theorem z8x (N : Nat) (hN : 20000 < N) (hc : CodeV m c) (hs : StV m c s) {x : zB} (hx : c.zD[s.At.toNat]? = some x) : zce N m c s x := by
 obtain ⟨⟨h0, h26⟩, _⟩ := zaa7 (hc.ins x (lmg hx))
 rcases (by omega : x.Op = 0 ∨ x.Op = 1 ∨ x.Op = 2 ∨ x.Op = 3 ∨ x.Op = 4 ∨ x.Op = 5 ∨ x.Op = 6 ∨ x.Op = 7 ∨ x.Op = 8 ∨ x.Op = 9 ∨ x.Op = 10 ∨ x.Op = 11 ∨ x.Op = 12 ∨ x.Op = 13 ∨ x.Op = 14 ∨ x.Op = 15 ∨ x.Op = 16 ∨ x.Op = 17 ∨ x.Op = 18 ∨ x.Op = 19 ∨ x.Op = 20 ∨ x.Op = 21 ∨ x.Op = 22 ∨ x.Op = 23 ∨ x.Op = 24 ∨ x.Op = 25 ∨ x.Op = 26) with h | h | h | h | h | h | h | h | h | h | h | h | h | h | h | h | h | h | h | h | h | h | h | h | h | h | h
 · exact zae8 N hN hc hs hx h
 · exact zae7 N hN hc hs hx h
 · exact zae6 N hN hc hs hx h
 · exact zae5 N hN hc hs hx h
 · exact zae4 N hN hc hs hx h
 · exact zae3 N hN hc hs hx h
 · exact zae2 N hN hc hs hx h
 · exact zae1 N hN hc hs hx h
 · exact zae0 N hN hc hs hx h
 · exact zaez N hN hc hs hx h
 · exact zadd N hN hc hs hx h
 · exact zadc N hN hc hs hx h
 · exact zadb N hN hc hs hx h
 · exact zada N hN hc hs hx h
 · exact zac9 N hN hc hs hx h
 · exact zac8 N hN hc hs hx h
 · exact zac7 N hN hc hs hx h
 · exact zac6 N hN hc hs hx h
 · exact zac5 N hN hc hs hx h
 · exact zac4 N hN hc hs hx h
 · exact zac3 N hN hc hs hx h
 · exact zac2 N hN hc hs hx h
 · exact zac1 N hN hc hs hx h
 · exact zac0 N hN hc hs hx h
 · exact zacz N hN hc hs hx h
 · exact zacy N hN hc hs hx h
 · exact zacx N hN hc hs hx h
end
section
variable {m : zI} {c : zF} {s : zA}
def zlb (t : zT) (a e : Int) : Bool := inB a t.From (t.To - 1) && (decide (t.Exception = 0) || decide (t.Exception = e))
def zyd (c : zF) (a e : Int) : Option Nat := (List.range c.zN.length).findSome? fun i => (c.zN[i]?).bind fun t => if zlb t a e = true then some i else none
def zgl (c : zF) (a e : Int) : Int := match zyd c a e with | some i => (c.zN.getD i ⟨0, 0, 0, 0⟩).Handler | none => -1
theorem z00 {a e : Int} {i : Nat} (h : zyd c a e = some i) : ∃ t, c.zN[i]? = some t ∧ zlb t a e = true := by
 obtain ⟨j, _, hj⟩ := eof h
 rw [Option.bind_eq_some_iff] at hj
 obtain ⟨t, ht, hj⟩ := hj
 split at hj
 · rename_i hh; cases hj; exact ⟨t, ht, hh⟩
 · cases hj
theorem zyo (hc : CodeV m c) {t : zT} (ht : t ∈ c.zN) : 0 ≤ t.From ∧ t.From ≤ t.To ∧ t.To ≤ (c.zD.length : Int) ∧ 0 ≤ t.Handler ∧ t.Handler < (c.zD.length : Int) := by
 have := hc.trap t ht
 unfold zqd at this
 simp only [Bool.and_eq_true, decide_eq_true_eq] at this
 obtain ⟨h1, h2, h3, h4⟩ := this
 have := zay.1 h1
 have := zay.1 h4
 omega
theorem z0b (hc : CodeV m c) (a e : Int) : zgl c a e = -1 ∨ (0 ≤ zgl c a e ∧ zgl c a e < (c.zD.length : Int)) := by
 unfold zgl
 cases h : zyd c a e with
 | none => exact .inl rfl
 | some i =>
  obtain ⟨t, ht, _⟩ := z00 h; right; simp only []; rw [gdd, ht]; have := zyo hc (lmg ht); exact this.2.2.2
theorem z6v (N : Nat) (hN : 20000 < N) (hc : CodeV m c) (a e : Int) : zhm N c a e = some (zgl c a e) := by
 have n40 := hc.traps
 have n240 := hc.len
 unfold zhm zm
 have l1 := zb9 (f := zm.r0 N) (fun i => (c.zN, (c.zN.length : Int), (i : Int), a, e)) (fun i => ((c.zN[i]?).bind fun t => if zlb t a e = true then some i else none).map fun i : Nat => (i : Int)) c.zN.length
  (fun i hi => by
   have hx := lge hi; have hf := zyo hc (List.getElem_mem hi); simp only [zm.r0, zm.b0, za3, hx, obs, dct (show (i : Int) < (c.zN.length : Int) by omega), ctr]; have e1 : zfz c.zN[i] a e = some (zlb c.zN[i] a e) := by
    unfold zfz zlb; rw [w6e, zl5, zat, zat]; simp only [obs]; cases inB a c.zN[i].From (c.zN[i].To - 1) <;> cases decide (c.zN[i].Exception = 0) <;> cases decide (c.zN[i].Exception = e) <;> rfl
   rw [e1, w6e]; cases zlb c.zN[i] a e <;> rfl)
  (by simp only [zm.r0, zm.b0, dcf (show ¬ (c.zN.length : Int) < (c.zN.length : Int) by omega), cfa]) (N := N) (by omega)
 simp only [nc0] at l1
 rw [l1]
 have e2 : ∀ l : List Nat, l.findSome? (fun i => ((c.zN[i]?).bind fun t => if zlb t a e = true then some i else none).map fun i : Nat => (i : Int)) = (l.findSome? (fun i => (c.zN[i]?).bind fun t => if zlb t a e = true then some i else none)).map fun i : Nat => (i : Int) := by
  intro l
  induction l with
  | nil => rfl
  | cons i l ih =>
   rw [List.findSome?_cons, List.findSome?_cons]; cases (c.zN[i]?).bind fun t => if zlb t a e = true then some i else none with
   | none => exact ih
   | some j => rfl
 rw [e2]
 have e3 : (List.range c.zN.length).findSome? (fun i => (c.zN[i]?).bind fun t => if zlb t a e = true then some i else none) = zyd c a e := rfl
 rw [e3]
 unfold zgl
 cases h : zyd c a e with
 | none => rfl
 | some i =>
  obtain ⟨t, ht, _⟩ := z00 h; simp only [Option.map_some, zb3, obs]; rw [dcf (show ¬ ((i : Nat) : Int) < 0 by omega), cfa, za3, ht, gdd, ht]; rfl
theorem z6h (N : Nat) (hN : 20000 < N) (hc : CodeV m c) (a e : Int) : zd5 N c a e = some (zgl c a e) := by
 have n40 := hc.traps
 unfold zd5
 have l1 := zb9 (f := zd5.r0 N) (fun i => (a, e, (i : Int), c)) (fun i => ((c.zN[i]?).bind fun t => if zlb t a e = true then some i else none).map fun i : Nat => (c.zN.getD i ⟨0, 0, 0, 0⟩).Handler) c.zN.length
  (fun i hi => by
   have hx := lge hi; simp only [zd5.r0, zd5.b0, za3, hx, obs, dct (show (i : Int) < (c.zN.length : Int) by omega), ctr]; have e1 : ((cond (decide (c.zN[i].From ≤ a)) (some (decide (a < c.zN[i].To))) (some false)).bind fun g1002 => (cond g1002 ((cond (c.zN[i].Exception == 0) (some true) (some (c.zN[i].Exception == e))).bind fun g1003 => some g1003) (some false))) = some (zlb c.zN[i] a e) := by
    unfold zlb inB; rw [zat, zat, show decide (a ≤ c.zN[i].To - 1) = decide (a < c.zN[i].To) by rw [decide_eq_decide]; omega]; cases decide (c.zN[i].From ≤ a) <;> cases decide (a < c.zN[i].To) <;> cases decide (c.zN[i].Exception = 0) <;> cases decide (c.zN[i].Exception = e) <;> rfl
   rw [← Option.bind_assoc, e1, w6e]; simp only [obs]; cases zlb c.zN[i] a e with
   | false => rfl
   | true =>
    simp only [ctr, if_true, Option.map_some]; rw [gdd, hx]; rfl)
  (by simp only [zd5.r0, zd5.b0, dcf (show ¬ (c.zN.length : Int) < (c.zN.length : Int) by omega), cfa]) (N := N) (by omega)
 simp only [nc0] at l1
 rw [l1]
 have e2 : ∀ l : List Nat, l.findSome? (fun i => ((c.zN[i]?).bind fun t => if zlb t a e = true then some i else none).map fun i : Nat => (c.zN.getD i ⟨0, 0, 0, 0⟩).Handler) = (l.findSome? (fun i => (c.zN[i]?).bind fun t => if zlb t a e = true then some i else none)).map fun i : Nat => (c.zN.getD i ⟨0, 0, 0, 0⟩).Handler := by
  intro l
  induction l with
  | nil => rfl
  | cons i l ih =>
   rw [List.findSome?_cons, List.findSome?_cons]; cases (c.zN[i]?).bind fun t => if zlb t a e = true then some i else none with
   | none => exact ih
   | some j => rfl
 rw [e2]
 unfold zgl
 have : (List.range c.zN.length).findSome? (fun i => (c.zN[i]?).bind fun t => if zlb t a e = true then some i else none) = zyd c a e := rfl
 rw [this]
 cases zyd c a e <;> rfl
def updA (s : zA) (k : Int) : zA := ⟨s.Registers, s.Condition, s.Storage, k, s.Stack, s.Lines, s.Status, s.Exception, s.Marks, s.Steps⟩
def updE (s : zA) (k : Int) : zA := ⟨s.Registers, s.Condition, s.Storage, s.At, s.Stack, s.Lines, s.Status, k, s.Marks, s.Steps⟩
def updP (s : zA) (k : Int) : zA := ⟨s.Registers, s.Condition, s.Storage, s.At, s.Stack, s.Lines, s.Status, s.Exception, s.Marks, k⟩
theorem StV.updA (h : StV m c s) {k : Int} (h1 : 0 ≤ k) (h2 : k < (c.zD.length : Int)) : StV m c (updA s k) := {
 regs := h.regs, nums := h.nums, cnd := h.cnd, sto := h.sto, size := h.size, at0 := h1, at1 := h2, stk := h.stk, calls := h.calls, lines := h.lines, long := h.long, st0 := h.st0, st1 := h.st1, ex0 := h.ex0, ex1 := h.ex1, mk0 := h.mk0, mk1 := h.mk1, sp0 := h.sp0, sp1 := h.sp1 }
theorem StV.updE (h : StV m c s) {k : Int} (h1 : 0 ≤ k) (h2 : k ≤ 999) : StV m c (updE s k) := {
 regs := h.regs, nums := h.nums, cnd := h.cnd, sto := h.sto, size := h.size, at0 := h.at0, at1 := h.at1, stk := h.stk, calls := h.calls, lines := h.lines, long := h.long, st0 := h.st0, st1 := h.st1, ex0 := h1, ex1 := h2, mk0 := h.mk0, mk1 := h.mk1, sp0 := h.sp0, sp1 := h.sp1 }
theorem StV.updP (h : StV m c s) {k : Int} (h1 : 0 ≤ k) (h2 : k ≤ 3000) : StV m c (updP s k) := {
 regs := h.regs, nums := h.nums, cnd := h.cnd, sto := h.sto, size := h.size, at0 := h.at0, at1 := h.at1, stk := h.stk, calls := h.calls, lines := h.lines, long := h.long, st0 := h.st0, st1 := h.st1, ex0 := h.ex0, ex1 := h.ex1, mk0 := h.mk0, mk1 := h.mk1, sp0 := h1, sp1 := h2 }
def zhn (c : zF) (e : Int) : Nat → zA → zA
 | 0, s => s
 | k + 1, s => if 0 ≤ zgl c s.At e then updA s (zgl c s.At e) else if s.Stack.length = 0 then updT s 2
  else zhn c e k (updK (updA s (s.Stack.getD (s.Stack.length - 1) 0)) (s.Stack.take (s.Stack.length - 1)))
theorem zw9 (N : Nat) (hN : 20000 < N) (hc : CodeV m c) (e : Int) (he : e ≠ 0) (z : zA) : ∀ (k : Nat) (s : zA), StV m c s → s.Stack.length < k → ∀ K : Nat, k ≤ K →
 zn (zas.r0 N) K ⟨s, c, e⟩ = some (.inl ⟨zhn c e k s, c, e⟩) ∧ zn (zf5.r0 N) K (e, c, s, z) = some (.inl (zhn c e k s)) ∧ StV m c (zhn c e k s) ∧ (zhn c e k s).Steps = s.Steps ∧ (zhn c e k s).Exception = s.Exception ∧
 (zhn c e k s).Registers = s.Registers ∧ (zhn c e k s).Storage = s.Storage ∧ (zhn c e k s).Lines = s.Lines ∧ (zhn c e k s).Condition = s.Condition ∧ (s.Status = 0 → (zhn c e k s).Status = 0 ∨ (zhn c e k s).Status = 2)
 | 0, s, _, h, _, _ => by omega
 | k + 1, s, hs, h, K, hK => by
  obtain ⟨K, rfl⟩ : ∃ J, K = J + 1 := ⟨K - 1, by omega⟩; have hh := z6v N hN hc s.At e; have hr := z6h N hN hc s.At e; have rg := z0b hc s.At e; have h6 := hs.stk; have n240 := hc.len; simp only [zn, zas.r0, zas.b0, zf5.r0, zf5.b0]; rw [hh, hr]; simp only [obs]; unfold zhn
  by_cases h0 : 0 ≤ zgl c s.At e
  · rw [ifp h0, dct (show zgl c s.At e ≥ 0 by omega), zcj, dct (show zgl c s.At e ≠ -1 by omega)]; exact ⟨rfl, rfl, hs.updA h0 (by omega), rfl, rfl, rfl, rfl, rfl, rfl, fun h => .inl h⟩
  · rw [ifn h0, dcf (show ¬ zgl c s.At e ≥ 0 by omega), zcj, dcf (show ¬ zgl c s.At e ≠ -1 by omega), zat, w6e (n := (s.Stack.length : Int) - 1)]
    by_cases hz : s.Stack.length = 0
    · rw [ifp hz, dct (show (s.Stack.length : Int) - 1 < 0 by omega), dct (show (s.Stack.length : Int) = 0 by omega)]; exact ⟨rfl, rfl, hs.updT (by omega) (by omega), rfl, rfl, rfl, rfl, rfl, rfl, fun _ => .inr rfl⟩
    · have hl : (s.Stack.length : Int) - 1 = ((s.Stack.length - 1 : Nat) : Int) := by omega
      have hx1 : s.Stack[s.Stack.length - 1]? = some (s.Stack.getD (s.Stack.length - 1) 0) := by rw [gdd, lge (by omega)]; rfl
      obtain ⟨hrr, _⟩ := hs.calls _ (lmg hx1); have hcl : ∀ l : List Int, l.length ≤ 6 → zdi 8 l = some l := fun l hl => by unfold zdi; rw [zao (by omega)]; rfl
      rw [ifn hz, dcf (show ¬ (s.Stack.length : Int) - 1 < 0 by omega), dcf (show ¬ (s.Stack.length : Int) = 0 by omega), hl, za3, hx1]; simp only [cfa, obs]; rw [ifp, ifp, ifp, ifp, itn, show (0 : Int).toNat = 0 from rfl, dr0, hcl _ (by rw [lnt]; omega)]; simp only [obs]; have hs2 : StV m c (updK (updA s (s.Stack.getD (s.Stack.length - 1) 0)) (s.Stack.take (s.Stack.length - 1))) := (hs.updA hrr.1 hrr.2).updK (by rw [lnt]; omega) fun i hi2 => hs.calls i (List.mem_of_mem_take hi2); exact zw9 N hN hc e he z k _ hs2 (by show (s.Stack.take (s.Stack.length - 1)).length < k; rw [lnt]; omega) K (by omega)
def zvv (s : zA) : zA := if s.Status = 0 ∧ s.Steps = 3000 then updT s 3 else s
def zwk (c : zF) (s : zA) : zB := c.zD.getD s.At.toNat ⟨0, 0, 0, 0, 0, ⟨false, 0, 0⟩, ⟨false, 0, 0⟩, ⟨0, 0, 0⟩, ⟨0, 0, 0⟩, false, false, ⟨0, 0⟩, ⟨#[]⟩, ⟨#[]⟩, 0, 0, 0, 0⟩
def zrn (c : zF) (s : zA) : zA :=
 match zeu (updP s (s.Steps + 1)) (zwk c s) with
 | .error e => zvv (zhn c e (s.Stack.length + 1) (updE (updP s (s.Steps + 1)) e))
 | .ok (n, t) => if t.Status ≠ 0 then t else if n = (c.zD.length : Int) then updT t 1 else zvv (updA t n)
theorem z3r (t : zA) : ((cond (t.Status == 0) (some (t.Steps == 3000)) (some false)).bind fun g => cond g (some (⟨t.Registers, t.Condition, t.Storage, t.At, t.Stack, t.Lines, 3, t.Exception, t.Marks, t.Steps⟩ : zA)) (some t)) = some (zvv t) := by
 unfold zvv
 rw [zat, zat]
 by_cases h1 : t.Status = 0
 · rw [dct h1]
   by_cases h2 : t.Steps = 3000
   · rw [dct h2, ifp ⟨h1, h2⟩]; rfl
   · rw [dcf h2, ifn (fun h => h2 h.2)]; rfl
 · rw [dcf h1, ifn (fun h => h1 h.1)]; rfl
theorem z8t {t : zA} (h : StV m c t) : StV m c (zvv t) ∧ (zvv t).Steps = t.Steps ∧ ((zvv t).Status = 0 → t.Steps ≠ 3000) := by
 unfold zvv
 split
 · exact ⟨h.updT (by omega) (by omega), rfl, fun h => by have h' : (3 : Int) = 0 := h; omega⟩
 · rename_i hn; exact ⟨h, rfl, fun h1 h2 => hn ⟨h1, h2⟩⟩
theorem z0w (hc : CodeV m c) (h : StV m c s) : zim s = some s := by
 have h1 := h.regs
 have h2 := h.stk
 have h3 := h.lines
 have h4 := h.sto.le
 have h5 := h.sto.tags
 have h6 := hc.m2
 unfold zim zk0 zi8
 rw [zao (by omega), ctr, z5h (by omega), obs, zao (by omega), ctr, obs, zao (by omega)]
 rfl
theorem z0o (N : Nat) (hN : 20000 < N) (hc : CodeV m c) (hs : StV m c s) (hrun : s.Status = 0) (h3 : s.Steps < 3000) :
 zge N c s = some (zrn c s) ∧ ztm N c s = some (zrn c s) ∧ StV m c (zrn c s) ∧ (zrn c s).Steps = s.Steps + 1 ∧ ((zrn c s).Status = 0 → s.Steps + 1 < 3000) := by
 have a0 := hs.at0
 have a1 := hs.at1
 have p0 := hs.sp0
 have hx : c.zD[s.At.toNat]? = some (zwk c s) := by
  unfold zwk; rw [gdd, lge (by omega)]; rfl
 have hi : idx c.zD s.At = some (zwk c s) := by unfold idx; rw [ifp a0, hx]
 have hs1 : StV m c (updP s (s.Steps + 1)) := hs.updP (by omega) (by omega)
 have hb := z8x N hN hc hs1 (x := zwk c s) hx
 unfold zge ztm
 rw [hi, z0w hc hs]
 simp only [obs, eS, eC]
 rw [w6e (n := s.Steps + 1)]
 show ((zd N ⟨updP s (s.Steps + 1), c, 0⟩ (zwk c s)).bind _) = _ ∧ ((ze N c (updP s (s.Steps + 1))).bind _) = _ ∧ _
 unfold zrn
 rcases hb with ⟨e, nx, ny, t, g1, g2, g3, g4⟩ | ⟨n, k, t, g1, g3, g4, g5, g6, g7, g8, g9⟩
 · rw [g1, g3, g4]; simp only [obs]; have hse : StV m c (updE (updP s (s.Steps + 1)) e) := hs1.updE (by omega) (by omega); obtain ⟨k1, k2, k3, k4, k5, k6, k7, k8, k9, k10⟩ := zw9 N hN hc e (by omega) ⟨[], 0, ⟨⟨#[]⟩, []⟩, 0, [], [], 0, 0, 0, 0⟩ (s.Stack.length + 1) _ hse (Nat.lt_succ_self _) N (by have := hs.stk; omega); rw [zcj, dct (show e ≠ 0 by omega)]; simp only [ctr]; have hf := z8t k3; have k4' : (zhn c e (s.Stack.length + 1) (updE (updP s (s.Steps + 1)) e)).Steps = s.Steps + 1 := k4; refine ⟨?_, ?_, hf.1, hf.2.1.trans k4, fun h => ?_⟩
   · unfold zas; show ((((zn (zas.r0 N) N ⟨updE (updP s (s.Steps + 1)) e, c, e⟩).bind _)).bind _) = _; rw [k1]; exact z3r _
   · unfold zf5; show ((((zn (zf5.r0 N) N (e, c, updE (updP s (s.Steps + 1)) e, _)).bind _)).bind _) = _; rw [k2]; exact z3r _
   · have := hf.2.2 h; omega
 · rw [g1, g3, g4]; simp only [obs, bsf, cfa]; have g8' : t.Steps = s.Steps + 1 := g8; have e0 : (t.Status != 0) = decide (t.Status ≠ 0) := zcj _ _; have e1 : (t.Status == 0) = decide (t.Status = 0) := zat _ _; rw [e0, e1]
   by_cases hst : t.Status = 0
   · obtain ⟨j1, j2, j3⟩ := g5 hst; subst j1; rw [dct hst, dcf (show ¬ t.Status ≠ 0 by omega), ifn (show ¬ t.Status ≠ 0 by omega)]; simp only [ctr, cfa, zat]
     by_cases hl : k = (c.zD.length : Int)
     · rw [dct hl, ifp hl]; exact ⟨rfl, rfl, g6.updT (by omega) (by omega), g8', fun h => by have h' : (1 : Int) = 0 := h; omega⟩
     · rw [dcf hl, ifn hl]; have hta : StV m c (updA t k) := g6.updA (by omega) (by omega); have hf := z8t hta; have f1 := z3r (updA t k); rw [zat, zat] at f1; have e2 : (updA t k).Status = t.Status := rfl; rw [e2, dct hst] at f1; refine ⟨f1, f1, hf.1, hf.2.1.trans g8', fun h => ?_⟩; have := hf.2.2 h; have e3 : (updA t k).Steps = t.Steps := rfl; have := g6.sp1; omega
   · rw [dcf hst, dct (show t.Status ≠ 0 from hst), ifp (show t.Status ≠ 0 from hst)]; exact ⟨rfl, rfl, g6, g8', fun h => absurd h hst⟩
end
theorem zady {m : zI} {c : zF} {n : Int} (h : ztk m c = (n, 0)) : (∀ x ∈ c.zD, zou m c x = 0) ∧ (∀ t ∈ c.zN, zqd c t = true) ∧ n = (c.zD.length : Int) := by
 unfold ztk at h
 cases hf : (List.range c.zD.length).findSome? (gI m c) with
 | some r =>
  rw [hf] at h; simp only at h; subst h; obtain ⟨j, _, hj⟩ := eof hf; unfold gI at hj; rw [Option.bind_eq_some_iff] at hj; obtain ⟨y, _, hy⟩ := hj
  by_cases h1 : zou m c y = 0
  · simp [h1] at hy
  · rw [ifn h1] at hy; simp only [Option.some.injEq, Prod.mk.injEq] at hy; exact absurd hy.2 h1
 | none =>
  rw [hf] at h; simp only at h; have hI : ∀ x ∈ c.zD, zou m c x = 0 := fun x hx => by
   refine cbc fun h0 => ?_; obtain ⟨i, hi⟩ := List.getElem?_of_mem hx; rw [List.findSome?_eq_none_iff] at hf; have := hf i (List.mem_range.2 (gei hi).1); unfold gI at this; rw [hi, obs, ifn h0] at this; cases this
  cases hg : (List.range c.zN.length).findSome? (gT c) with
  | some r =>
   rw [hg] at h; simp only at h; subst h; obtain ⟨j, _, hj⟩ := eof hg; unfold gT at hj; rw [Option.bind_eq_some_iff] at hj; obtain ⟨y, _, hy⟩ := hj; split at hy
   · cases hy
   · simp only [Option.some.injEq, Prod.mk.injEq] at hy; cases hy.2
  | none =>
   rw [hg] at h; simp only [Prod.mk.injEq] at h; refine ⟨hI, fun t ht => ?_, h.1.symm⟩; refine cbc fun h0 => ?_; obtain ⟨i, hi⟩ := List.getElem?_of_mem ht; rw [List.findSome?_eq_none_iff] at hg; have := hg i (List.mem_range.2 (gei hi).1); unfold gT at this; rw [hi, obs, ifn h0] at this; cases this
theorem zado {s : Storage} {i : Int} (h : zj6 s = (i, 0)) (hn : ¬ true ∈ s.Tags) : zic s := by
 unfold zj6 at h
 split at h
 · cases h
 · split at h
   · cases h
   · split at h
     · cases h
     · rename_i h1 h2 h3; refine ⟨by omega, by omega, by omega, fun k hk => absurd (lmg hk) hn⟩
theorem zaex (N : Nat) (hN : 1048600 < N) {m : zI} {c : zF} (hc : Wft En 1048576 Ty.zF c) {n : Int} (h : zr N m c = some (n, 0)) : CodeV m c ∧ n = (c.zD.length : Int) := by
 obtain ⟨e, _, he2, he3⟩ := zzc m
 obtain ⟨i1, e1, e2, _, hs2, hs⟩ := z1w N (by omega) c.Storage
 have hsp := (zlm N (by omega) c.Storage).2
 obtain ⟨w1, w2, w3, w4, w5⟩ := zoy hc
 unfold zr at h
 try simp only [eS, eM, eC] at h
 rw [he2, hs2] at h
 simp only [obs] at h
 by_cases h0 : e = 0
 · subst h0; have hm := he3 rfl; simp only [bsf, cfa] at h
   by_cases h2 : e2 = 0
   · rcases hs with ⟨rfl, hs⟩ | ⟨ok, htl, _, _⟩
     · exact absurd h2 hs
     · subst h2; obtain ⟨l, hl1, hl2⟩ := z5e N c.Storage htl (by omega); rw [hl1] at h; simp only [bsf, cfa, obs, orB] at h; cases hd : decide ((l.length : Int) > 0) with
       | true => rw [hd] at h; cases h
       | false =>
        rw [hd] at h hl2; simp only [cfa] at h
        by_cases hz : (c.zD.length : Int) = 0
        · rw [hz] at h; cases h
        · rw [zat, dcf hz] at h; simp only [cfa] at h; cases hb : (decide ((c.zD.length : Int) > 240) || decide ((c.zN.length : Int) > 40)) with
          | true => rw [hb] at h; cases h
          | false =>
           rw [hb] at h; simp only [cfa] at h; have := z2m N hN hm ok hc; rw [this] at h; simp only [Bool.or_eq_false_iff, decide_eq_false_iff_not] at hb; obtain ⟨r1, r2, r3⟩ := zady (Option.some.inj h); have hn : ¬ true ∈ c.Storage.Tags := fun hh => by
            have := List.contains_iff_mem.2 hh; rw [← hl2] at this; cases this
           have hst : ∃ i, zj6 c.Storage = (i, 0) := by
            unfold zkh at hs2
            try simp only [eS] at hs2
            rw [hsp, obs] at hs2; exact ⟨(zj6 c.Storage).1, by rw [← Option.some.inj hs2]⟩
           obtain ⟨i, hi⟩ := hst; exact ⟨{ m1 := hm.1, m2 := hm.2, sto := zado hi hn, len := by omega, pos := by omega, traps := by omega, ins := r1, trap := r2 }, r3⟩
   · rw [zcj, dct h2] at h; simp only [ctr, Option.some.injEq, Prod.mk.injEq] at h; exact absurd h.2 h2
 · rw [zcj, dct h0] at h; simp only [ctr, Option.some.injEq, Prod.mk.injEq] at h; exact absurd h.2 h0
def zsp (m : zI) (c : zF) : zA := ⟨List.replicate m.Registers.toNat ⟨0, 0⟩, 0, c.Storage, 0, [], [], 0, 0, 0, 0⟩
theorem z1z {m : zI} {c : zF} (hc : CodeV m c) : StV m c (zsp m c) := by
 have := hc.m1
 have := hc.pos
 exact {
  regs := by show ((List.replicate m.Registers.toNat (⟨0, 0⟩ : Number)).length : Int) = _; rw [lnr]; omega
  nums := fun r hr => by rw [(List.mem_replicate.1 hr).2]; exact ⟨⟨by decide, by decide⟩, by decide, by decide⟩
  cnd := .inl rfl, sto := hc.sto, size := rfl, at0 := by show (0 : Int) ≤ 0; omega, at1 := by show (0 : Int) < _; omega, stk := by show 0 ≤ 6; omega
  calls := fun i hi => (List.not_mem_nil hi).elim
  lines := by show 0 ≤ 40; omega
  long := fun i hi => (List.not_mem_nil hi).elim
  st0 := by show (0 : Int) ≤ 0; omega, st1 := by show (0 : Int) ≤ 3; omega, ex0 := by show (0 : Int) ≤ 0; omega, ex1 := by show (0 : Int) ≤ 999; omega, mk0 := by show (0 : Int) ≤ 0; omega, mk1 := by show (0 : Int) ≤ 300; omega, sp0 := by show (0 : Int) ≤ 0; omega, sp1 := by show (0 : Int) ≤ 3000; omega }
theorem z3i (N : Nat) {m : zI} {c : zF} (hc : CodeV m c) (hk : zda N m c = some 0) : zgn N m c = some (zsp m c, 0) := by
 have := hc.m1
 have := hc.m2
 have := hc.sto.le
 have := hc.sto.tags
 unfold zgn
 try simp only [eM, eS, eC]
 rw [hk]
 simp only [obs, bsf, cfa]
 have hcl : zdi 1 c.Storage.Tags = some c.Storage.Tags := by unfold zdi; rw [zao (by omega)]; rfl
 rw [hcl, obs, ifp, ifp, zao (by omega)]
 rfl
def zp3 (c : zF) : Nat → zA → zA
 | 0, s => s
 | k + 1, s => if s.Status = 0 then zp3 c k (zrn c s) else s
theorem z2i (N : Nat) (hN : 20000 < N) {m : zI} {c : zF} (hc : CodeV m c) (z z' : zR) : ∀ (k : Nat) (s : zA), StV m c s → (s.Status = 0 → s.Steps < 3000) → (3000 - s.Steps < (k : Int)) → ∀ K : Nat, k ≤ K →
 zq (zcq.r0 N) K (c, z, s) = some (c, z, zp3 c k s) ∧ zq (zlp.r0 N) K (c, z', s) = some (c, z', zp3 c k s) ∧ StV m c (zp3 c k s) ∧ (zp3 c k s).Status ≠ 0
 | 0, s, hs, h1, h2, K, hK => by
  have := hs.sp1; omega
 | k + 1, s, hs, h1, h2, K, hK => by
  obtain ⟨K, rfl⟩ : ∃ J, K = J + 1 := ⟨K - 1, by omega⟩; simp only [zq, zcq.r0, zcq.b0, zlp.r0, zlp.b0, eS, eC]; have eR : ∀ r : zR, (⟨r.Lines, r.Status, r.Exception, r.Marks, r.Steps, r.Storage⟩ : zR) = r := fun _ => rfl; simp only [eR, zat]; unfold zp3
  by_cases hst : s.Status = 0
  · obtain ⟨g1, g2, g3, g4, g5⟩ := z0o N hN hc hs hst (h1 hst); rw [dct hst, ifp hst, g1, g2]; simp only [ctr, obs]; exact z2i N hN hc z z' k _ g3 (fun h => by rw [g4]; exact g5 h) (by rw [g4]; omega) K (by omega)
  · rw [dcf hst, ifn hst]; simp only [cfa, obs]; exact ⟨trivial, trivial, hs, hst⟩
theorem z2d (N : Nat) (l : List ByteArray) (h : l.length < N) (hl : l.length < 1000000) : zbx N l l = some true := by
 unfold zbx
 simp only [bsf, cfa]
 have l1 := zb9 (f := zbx.r0 N) (fun i => (l, l, (i : Int))) (fun _ => none) l.length
  (fun i hi => by
   have hx := lge hi; simp only [zbx.r0, zbx.b0, za3, hx, obs, dct (show (i : Int) < (l.length : Int) by omega), ctr, bst, bnt, cfa]; rw [w6e]; rfl)
  (by simp only [zbx.r0, zbx.b0, dcf (show ¬ (l.length : Int) < (l.length : Int) by omega), cfa]) h
 simp only [nc0] at l1
 rw [l1]
 have : ∀ l : List Nat, l.findSome? (fun _ => (none : Option Bool)) = none := fun l => by rw [List.findSome?_eq_none_iff]; intros; rfl
 rw [this]
 rfl
theorem z6b (N : Nat) (l : List Bool) (h : l.length < N) (hl : l.length < 1000000) : zd4 N l l = some true := by
 unfold zd4
 simp only [bsf, cfa]
 have l1 := zb9 (f := zd4.r0 N) (fun i => (l, l, (i : Int))) (fun _ => none) l.length
  (fun i hi => by
   have hx := lge hi; simp only [zd4.r0, zd4.b0, za3, hx, obs, dct (show (i : Int) < (l.length : Int) by omega), ctr, bst, bnt, cfa]; rw [w6e]; rfl)
  (by simp only [zd4.r0, zd4.b0, dcf (show ¬ (l.length : Int) < (l.length : Int) by omega), cfa]) h
 simp only [nc0] at l1
 rw [l1]
 have : ∀ l : List Nat, l.findSome? (fun _ => (none : Option Bool)) = none := fun l => by rw [List.findSome?_eq_none_iff]; intros; rfl
 rw [this]
 rfl
theorem z9q (N : Nat) (s : Storage) (h : s.Tags.length < N) (hl : s.Tags.length < 1000000) : zfh N s s = some true := by
 unfold zfh
 rw [bst, ctr, z6b N _ h hl]
 rfl
theorem z4s (N : Nat) (r : zR) (h1 : r.Lines.length < N) (h2 : r.Lines.length < 1000000) (h3 : r.Storage.Tags.length < N) (h4 : r.Storage.Tags.length < 1000000) : zgj N r r = some true := by
 unfold zgj
 try simp only [eS]
 rw [z2d N _ h1 h2, z9q N _ h3 h4]
 simp only [obs, bst, ctr]
def z6k (t : zA) : zR := ⟨t.Lines, t.Status, t.Exception, t.Marks, t.Steps, t.Storage⟩
theorem zael (N : Nat) (hN : 20000 < N) {m : zI} {c : zF} (hc : CodeV m c) (hk : zda N m c = some 0) : zcq N m c = some (z6k (zp3 c 3001 (zsp m c)), 0) := by
 unfold zcq
 try simp only [eM, eS, eC]
 rw [z3i N hc hk]
 simp only [obs, bsf, cfa]
 rw [(z2i N hN hc ⟨[], 0, 0, 0, 0, ⟨⟨#[]⟩, []⟩⟩ ⟨[], 0, 0, 0, 0, ⟨⟨#[]⟩, []⟩⟩ 3001 _ (z1z hc) (fun _ => by show (0 : Int) < 3000; omega) (by show (3000 : Int) - 0 < 3001; omega) N (by omega)).1]
 rfl
theorem z9r (N : Nat) (hN : 20000 < N) {m : zI} {c : zF} {t : zA} (ht : StV m c t) : zgj N (z6k t) (z6k t) = some true := by
 have h1 := ht.lines
 have h2 := ht.sto.tags
 have h3 := ht.sto.le
 exact z4s N _ (by show t.Lines.length < N; omega) (by show t.Lines.length < _; omega) (by show t.Storage.Tags.length < N; omega) (by show t.Storage.Tags.length < _; omega)
theorem z19 (p : Nat → Bool) (n : Nat) {R : Type} (r : Nat → R) : (List.range n).any p = ((List.range n).findSome? fun i => if p i = true then some (r i) else none).isSome := by
 induction List.range n with
 | nil => rfl
 | cons a l ih =>
  rw [List.any_cons, List.findSome?_cons]; cases h : p a with
  | true => simp
  | false => simpa using ih
theorem z3m {σ : Type} {f : σ → Option (Round Int σ)} (S : Nat → σ) (p : Nat → Bool) (n : Nat) (h : ∀ i, i < n → f (S i) = some (if p i = true then .result (i : Int) else .again (S (i + 1)))) (hl : f (S n) = some (.leave (S n))) {N : Nat} (hN : n < N) :
 (((zn f N (S 0)).bind fun z2 => zb3 z2 (fun z => some z) (fun _ => some (-1))).bind fun r1 => some (decide (r1 ≥ 0))) = some ((List.range n).any p) := by
 have l1 := zb9 (f := f) S (fun i => if p i = true then some (i : Int) else none) n (fun i hi => by rw [h i hi]; cases p i <;> rfl) hl hN
 rw [l1, z19 p n (fun i => (i : Int))]
 cases h2 : (List.range n).findSome? (fun i => if p i = true then some (i : Int) else none) with
 | none => rfl
 | some r =>
  obtain ⟨i, _, hi⟩ := eof h2; split at hi
  · injection hi with hi; subst hi; simp only [obs, zb3, Option.isSome_some]; rw [dct (by omega)]
  · cases hi
theorem zadx {σ : Type} {R : Type} {f : σ → Option (Round R σ)} (S : Nat → σ) (p : Nat → Bool) (e : R) (n : Nat) (h : ∀ i, i < n → f (S i) = some (if p i = true then .result e else .again (S (i + 1)))) (hl : f (S n) = some (.leave (S n))) {N : Nat} (hN : n < N) (K : σ → Option R) :
 ((zn f N (S 0)).bind fun z => zb3 z (fun z => some z) K) = if (List.range n).any p = true then some e else K (S n) := by
 have l1 := zb9 (f := f) S (fun i => if p i = true then some e else none) n (fun i hi => by rw [h i hi]; cases p i <;> rfl) hl hN
 rw [l1, z19 p n (fun i => e)]
 cases h2 : (List.range n).findSome? (fun i => if p i = true then some e else none) with
 | none => rfl
 | some r =>
  obtain ⟨i, _, hi⟩ := eof h2; split at hi
  · injection hi with hi; subst hi; rfl
  · cases hi
def zi7 (t : List Bool) : Nat → List Int
 | 0 => []
 | i + 1 => if t.getD i false = true then zi7 t i ++ [(i : Int) * 16] else zi7 t i
theorem zx7 (t : List Bool) : ∀ i, (zi7 t i).length ≤ i
 | 0 => Nat.le_refl 0
 | i + 1 => by
  have := zx7 t i; unfold zi7; split
  · rw [lna, lns]; omega
  · omega
theorem z23 (t : List Bool) (o : Int) : ∀ i, o ∈ zi7 t i ↔ ∃ k : Nat, k < i ∧ t.getD k false = true ∧ o = (k : Int) * 16
 | 0 => by simp [zi7]
 | i + 1 => by
  have ih := z23 t o i; unfold zi7; constructor
  · intro h; split at h
    · rename_i hi; rcases List.mem_append.1 h with h | h
      · obtain ⟨k, h1, h2⟩ := ih.1 h; exact ⟨k, by omega, h2⟩
      · rw [List.mem_singleton] at h; exact ⟨i, by omega, hi, h⟩
    · obtain ⟨k, h1, h2⟩ := ih.1 h; exact ⟨k, by omega, h2⟩
  · rintro ⟨k, h1, h2, h3⟩
    by_cases hk : k = i
    · subst hk; rw [ifp h2]; exact List.mem_append_right _ (by rw [h3]; exact List.mem_singleton_self _)
    · have := ih.2 ⟨k, by omega, h2, h3⟩; split
      · exact List.mem_append_left _ this
      · exact this
structure StoW (s : Storage) : Prop where
 le : s.Bytes.size ≤ 1024
 quad : s.Bytes.size % 16 = 0
 tags : s.Tags.length = s.Bytes.size / 16
 err : zj6 s = ((s.Tags.length : Int), 0)
 ptr : ∀ i, s.Tags[i]? = some true → (zks (zjk s i)).2 = 0
theorem zabn {s : Storage} (h : (zj6 s).2 = 0) : StoW s := by
 have h0 := h
 unfold zj6 at h0
 split at h0
 · cases h0
 split at h0
 · cases h0
 split at h0
 · cases h0
 rename_i a1 a2 a3
 have ht : s.Tags.length = s.Bytes.size / 16 := cbc a3
 cases hf : (List.range s.Tags.length).findSome? (gS s) with
 | some r =>
  rw [hf] at h0; obtain ⟨i, _, hi⟩ := eof hf; unfold gS at hi; cases hx : s.Tags[i]? with
  | none => rw [hx] at hi; cases hi
  | some b =>
   rw [hx] at hi; simp only [obs] at hi; split at hi
   · injection hi with hi; subst hi; cases h0
   · cases hi
 | none =>
  refine ⟨by omega, by omega, ht, ?_, fun i hi => ?_⟩
  · unfold zj6; rw [ifn a1, ifn a2, ifn a3, hf]
  · rw [List.findSome?_eq_none_iff] at hf; have hl := (gei hi).1; have := hf i (List.mem_range.2 hl); unfold gS at this; rw [hi] at this; simp only [obs] at this; split at this
    · cases this
    · rename_i h5; exact cbc fun h6 => h5 ⟨trivial, h6⟩
def z4f (s : Storage) (o : Int) : Bool := (zks (zjk s (o / 16).toNat)).1.Kind != 0 || (zks (zjk s (o / 16).toNat)).1.Address.zY != 1
theorem z5s (s : Storage) (k : Nat) : ((zks (zjk s k)).1.Kind != 0 || (zks (zjk s k)).1.Address.zY != 1) = z4f s ((k : Int) * 16) := by
 unfold z4f
 rw [show ((k : Int) * 16 / 16).toNat = k by omega]
theorem z4m (N : Nat) (s : Storage) (h : StoW s) (hN : 2000 < N) : za8 N s = some (zi7 s.Tags s.Tags.length, 0) := by
 have hle := h.le
 have htg := h.tags
 unfold za8
 rw [(zlm N hN s).1, h.err]
 simp only [obs, bsf, cfa]
 have l1 := zbl (f := za8.r0 N) (fun i => (zi7 s.Tags i, s.Tags, (s.Tags.length : Int), (i : Int))) s.Tags.length
  (fun i hi => by
   have hx := lge hi; have hg : s.Tags.getD i false = s.Tags[i] := by rw [gdd, hx]; rfl
   have := zx7 s.Tags i; have rm : Nat.ble (((zi7 s.Tags i).length + ([(w6 ((i : Int) * 16))] : List Int).length) * 8) zac = true := Nat.ble_eq_true_of_le (by unfold zac; simp; omega); simp only [za8.r0, za8.b0, za3, hx, obs, dct (show (i : Int) < (s.Tags.length : Int) by omega), ctr, rm]; rw [w6e (n := (i : Int) + 1), w6e (n := (i : Int) * 16), zi7, hg]; cases s.Tags[i] <;> rfl)
  (by simp only [za8.r0, za8.b0, dcf (show ¬ (s.Tags.length : Int) < (s.Tags.length : Int) by omega), cfa]) (N := N) (by omega)
 simp only [nc0] at l1
 exact congrArg (fun z => z.bind fun y1 => some (y1.1, (0 : Int))) l1
theorem z9o (N : Nat) (hN : 2000 < N) {s : Storage} (h : StoW s) {k : Nat} (hk : s.Tags[k]? = some true) : zcw N s ((k : Int) * 16) = some (zks (zjk s k)) := by
 have hl := h.le
 have hq := h.quad
 have ht := h.tags
 have hi := (gei hk).1
 unfold zcw zgs
 rw [(zlm N hN s).1, h.err]
 simp only [obs, bsf, cfa]
 rw [dcf (show ¬ (k : Int) * 16 < 0 by omega), dcf (show ¬ (k : Int) * 16 ≥ (s.Bytes.size : Int) by omega), tme, show ((k : Int) * 16) % 16 = 0 by omega]
 simp only [bsf, cfa, obs]
 rw [tde, show ((k : Int) * 16) / 16 = (k : Int) by omega, w6e (n := (k : Int)), za3, hk]
 simp only [obs, bnt, cfa]
 rw [w6e, ifp, ifp, show ((k : Int) * 16).toNat = 16 * k by omega, show ((k : Int) * 16 + 16).toNat = 16 * k + 16 by omega, z1u N (by omega) _ (by rw [zcr _ _ _ (by omega) (by omega)]; omega), zlt]
 rfl
theorem z22 {s : Storage} {i : Nat} (h : i < (zi7 s.Tags s.Tags.length).length) : ∃ k : Nat, s.Tags[k]? = some true ∧ (zi7 s.Tags s.Tags.length)[i] = (k : Int) * 16 := by
 obtain ⟨k, h1, h2, h3⟩ := (z23 s.Tags _ _).1 (List.getElem_mem h)
 refine ⟨k, ?_, h3⟩
 rw [gdd, lge h1] at h2
 rw [lge h1]
 exact congrArg some h2
def anyP (s : Storage) : Bool := (List.range (zi7 s.Tags s.Tags.length).length).any fun i => z4f s ((zi7 s.Tags s.Tags.length).getD i 0)
def z1x (c : zF) (s : Storage) : Int := if (s.Bytes.size : Int) ≠ (c.Storage.Bytes.size : Int) then 18 else if (zj6 s).2 ≠ 0 then (zj6 s).2 else cond (anyP s) 22 0
theorem zaek (N : Nat) (hN : 2000 < N) (c : zF) (s : Storage) : zfx N c s = some (z1x c s) := by
 unfold zfx z1x
 by_cases h1 : (s.Bytes.size : Int) = (c.Storage.Bytes.size : Int)
 · rw [h1, ifn]; simp only [bsf, cfa]; rw [(zlm N hN s).1]; simp only [obs]
   by_cases h2 : (zj6 s).2 = 0
   · have hw := zabn h2; have hle := hw.le; have htg := hw.tags; have hol := zx7 s.Tags s.Tags.length; rw [h2, ifn]; simp only [bsf, cfa]; rw [z4m N s hw hN]; simp only [obs]; unfold zd6 zai; have l1 := z3m (f := zai.r0 N) (fun i => (zi7 s.Tags s.Tags.length, ((zi7 s.Tags s.Tags.length).length : Int), (i : Int), s)) (fun i => z4f s ((zi7 s.Tags s.Tags.length).getD i 0)) (zi7 s.Tags s.Tags.length).length
      (fun i hi => by
       obtain ⟨k, k1, k2⟩ := z22 hi; have hx := lge hi; have hg : (zi7 s.Tags s.Tags.length).getD i 0 = (k : Int) * 16 := by rw [gdd, hx, k2]; rfl
       simp only [zai.r0, zai.b0, za3, hx, obs, dct (show (i : Int) < ((zi7 s.Tags s.Tags.length).length : Int) by omega), ctr, k2, hg, zf8]; rw [z9o N hN hw k1, w6e]; simp only [obs, orB]; rw [z5s]; cases z4f s ((k : Int) * 16) <;> rfl)
      (by simp only [zai.r0, zai.b0, dcf (show ¬ ((zi7 s.Tags s.Tags.length).length : Int) < ((zi7 s.Tags s.Tags.length).length : Int) by omega), cfa]) (N := N) (by omega)
     simp only [nc0] at l1; rw [l1]; simp only [obs, zne]; rfl
   · rw [ifp h2, zcj, dct h2]; rfl
 · rw [ifp h1, zcj, dct h1]; rfl
def zyl (c : zF) (k : Int) : Bool := !inB k 0 ((c.zD.length : Int) - 1) || (c.zD.getD k.toNat ⟨0, 0, 0, 0, 0, ⟨false, 0, 0⟩, ⟨false, 0, 0⟩, ⟨0, 0, 0⟩, ⟨0, 0, 0⟩, false, false, ⟨0, 0⟩, ⟨#[]⟩, ⟨#[]⟩, 0, 0, 0, 0⟩).Op != 18
theorem zaej {α : Type} (d : α) {l : List α} {k : Int} (h : inB k 0 ((l.length : Int) - 1) = true) : idx l k = some (l.getD k.toNat d) := by
 unfold inB at h
 rw [Bool.and_eq_true, decide_eq_true_iff, decide_eq_true_iff] at h
 obtain ⟨j, rfl⟩ : ∃ j : Nat, k = (j : Int) := ⟨k.toNat, by omega⟩
 rw [za3, itn, gdd, lge (by omega)]
 rfl
theorem zaah (c : zF) (hlen : c.zD.length < 1000000000) (k : Int) : zey k (c.zD.length : Int) c = some (zyl c k) := by
 unfold zey zyl
 rw [w6e, zl5]
 simp only [obs]
 cases h : inB k 0 ((c.zD.length : Int) - 1) with
 | false => rfl
 | true =>
  rw [zaej ⟨0, 0, 0, 0, 0, ⟨false, 0, 0⟩, ⟨false, 0, 0⟩, ⟨0, 0, 0⟩, ⟨0, 0, 0⟩, false, false, ⟨0, 0⟩, ⟨#[]⟩, ⟨#[]⟩, 0, 0, 0, 0⟩ h]; rfl
def anyC (c : zF) (l : List Int) : Bool := (List.range l.length).any fun i => zyl c (l.getD i 0)
def anyL (l : List ByteArray) : Bool := (List.range l.length).any fun i => decide (((l.getD i ⟨#[]⟩).size : Int) > 256)
def z7c (l : List Number) : Bool := (List.range l.length).any fun i => decide (zlv (l.getD i ⟨0, 0⟩) ≠ 0)
theorem zng {α : Type} (d : α) {l : List α} {i : Nat} (h : i < l.length) : l.getD i d = l[i] := by
 rw [gdd, lge h]; rfl
theorem zaag (N : Nat) (c : zF) (hlen : c.zD.length < 1000000000) (l : List Int) (h : l.length < N) (hl : l.length < 1000000000) : zde N l (c.zD.length : Int) c = some (anyC c l) := by
 unfold zde zal
 have l1 := z3m (f := zal.r0 N) (fun i => (l, (l.length : Int), (i : Int), (c.zD.length : Int), c)) (fun i => zyl c (l.getD i 0)) l.length
  (fun i hi => by
   have hx := lge hi; simp only [zal.r0, zal.b0, za3, hx, obs, dct (show (i : Int) < (l.length : Int) by omega), ctr, zaah c hlen, zng 0 hi]; rw [w6e]; cases zyl c l[i] <;> rfl)
  (by simp only [zal.r0, zal.b0, dcf (show ¬ (l.length : Int) < (l.length : Int) by omega), cfa]) (N := N) h
 simp only [nc0] at l1
 exact l1
theorem zaaf (N : Nat) (l : List ByteArray) (h : l.length < N) (hl : l.length < 1000000000) : zck N l = some (anyL l) := by
 unfold zck z7
 have l1 := z3m (f := z7.r0 N) (fun i => (l, (l.length : Int), (i : Int))) (fun i => decide (((l.getD i ⟨#[]⟩).size : Int) > 256)) l.length
  (fun i hi => by
   have hx := lge hi; simp only [z7.r0, z7.b0, za3, hx, obs, dct (show (i : Int) < (l.length : Int) by omega), ctr, zf9, zng _ hi]; rw [w6e]; cases decide ((l[i].size : Int) > 256) <;> rfl)
  (by simp only [z7.r0, z7.b0, dcf (show ¬ (l.length : Int) < (l.length : Int) by omega), cfa]) (N := N) h
 simp only [nc0] at l1
 exact l1
theorem z98 (n : Number) : zlv n = 0 ∨ zlv n = 3 := by
 unfold zlv
 cases (inB n.N (-999999999999999) 999999999999999 && inB n.Scale 0 15) with
 | true => exact .inl rfl
 | false => exact .inr rfl
theorem zacj (N : Nat) (c : zF) (s : zA) (h : s.Registers.length < N) (hl : s.Registers.length < 1000000000) (K : List Number × Int × Int × zF × zA → Option Int) :
 ((zn (zaj.r0 N) N (s.Registers, (s.Registers.length : Int), 0, c, s)).bind fun z => zb3 z (fun z => some z) K) = if z7c s.Registers = true then some 3 else K (s.Registers, (s.Registers.length : Int), (s.Registers.length : Int), c, s) := by
 have l1 := zadx (f := zaj.r0 N) (fun i => (s.Registers, (s.Registers.length : Int), (i : Int), c, s)) (fun i => decide (zlv (s.Registers.getD i ⟨0, 0⟩) ≠ 0)) 3 s.Registers.length
  (fun i hi => by
   have hx := lge hi; simp only [zaj.r0, zaj.b0, za3, hx, obs, dct (show (i : Int) < (s.Registers.length : Int) by omega), ctr, zng _ hi, zkj]; rw [w6e]; rcases z98 s.Registers[i] with e | e <;> rw [e] <;> rfl)
  (by simp only [zaj.r0, zaj.b0, dcf (show ¬ (s.Registers.length : Int) < (s.Registers.length : Int) by omega), cfa]) (N := N) h K
 simp only [nc0] at l1
 exact l1
def lenS (s : zA) : Prop := s.Storage.Bytes.size ≤ 1048576 ∧ s.Storage.Tags.length ≤ 1048576 ∧ s.Registers.length ≤ 1048576 ∧ s.Stack.length ≤ 1048576 ∧ s.Lines.length ≤ 1048576
def z66 (s : zA) : Bool := (((s.Condition == 0 || s.Condition == 1) || s.Condition == 2) || s.Condition == 4)
def lstS (c : zF) (s : zA) : List Int := [cond (!z66 s) 3 0, z1x c s.Storage, cond (!inB s.At 0 ((c.zD.length : Int) - 1)) 3 0,
 cond (decide ((s.Stack.length : Int) > 6) || decide ((s.Lines.length : Int) > 40)) 2 0, cond (anyC c s.Stack) 3 0, cond (anyL s.Lines) 18 0, cond (!inB s.Status 0 3) 4 0,
 cond (!((inB s.Exception 0 999 && inB s.Marks 0 300) && inB s.Steps 0 3000)) 3 0]
def z62 (e0 : Int) (m : zI) (c : zF) (s : zA) : Int := if e0 ≠ 0 then e0 else if (s.Registers.length : Int) ≠ m.Registers then 6 else if z7c s.Registers = true then 3 else zcv (lstS c s)
theorem zaac (N : Nat) (hN : 1048600 < N) {m : zI} {c : zF} {s : zA} (hc : Wft En 1048576 Ty.zF c) (hs : lenS s) {e0 : Int} (k1 : zda N m c = some e0) :
 zaj N m c s = some (z62 e0 m c s) := by
 obtain ⟨_, _, ci, _, _⟩ := zoy hc
 obtain ⟨w1, w2, w3, w4, w5⟩ := hs
 have f2 : ∀ a b : Int, zw N [a, b] = some (zcv [a, b]) := fun a b => zor N _ (by simp; omega) (by simp)
 have f8 : ∀ a b d e f g h i : Int, zw N [a, b, d, e, f, g, h, i] = some (zcv [a, b, d, e, f, g, h, i]) := fun a b d e f g h i => zor N _ (by simp; omega) (by simp)
 unfold zaj z62
 rw [k1]
 simp only [obs, zne, f2]
 by_cases h0 : e0 = 0
 · rw [h0, ifn]
   by_cases h1 : (s.Registers.length : Int) = m.Registers
   · rw [h1, ifn]; rw [show zcv [0, cond (m.Registers != m.Registers) 6 0] = 0 by rw [bsf]; rfl]; simp only [bsf, cfa]; rw [← h1, zacj N c s (by omega) (by omega)]; cases z7c s.Registers with
     | true => rfl
     | false =>
      simp only [Bool.false_eq_true, if_false, orB, obs]; rw [zaag N c (by omega) s.Stack (by omega) (by omega), zaaf N s.Lines (by omega) (by omega), zaek N (by omega)]; simp only [obs, zl5, zme, w6e (n := (c.zD.length : Int) - 1), f8, Bool.not_not]; rfl
   · rw [ifp h1, show zcv [0, cond ((s.Registers.length : Int) != m.Registers) 6 0] = 6 by rw [zcj, dct h1]; rfl]; rfl
 · rw [ifp h0, show zcv [e0, cond ((s.Registers.length : Int) != m.Registers) 6 0] = e0 by unfold zcv; rw [ifn h0]]; rw [zcj, dct h0]; rfl
theorem z8r (x : Int) (l : List Int) : zcv (x :: l) = if x = 0 then zcv l else x := rfl
theorem z03 : ∀ (l : List Int), zcv l = 0 ↔ ∀ x ∈ l, x = 0
 | [] => by simp [zcv]
 | x :: l => by
  rw [z8r, List.forall_mem_cons, ← z03 l]
  by_cases h : x = 0
  · rw [ifp h]; exact ⟨fun h1 => ⟨h, h1⟩, fun h1 => h1.2⟩
  · rw [ifn h]; exact ⟨fun h1 => absurd h1 h, fun h1 => h1.1⟩
theorem zzu {p : Nat → Bool} {n : Nat} (h : ∀ i, i < n → p i = false) : (List.range n).any p = false := by
 rw [List.any_eq_false]
 exact fun i hi => by rw [h i (List.mem_range.1 hi)]; simp
theorem zabm {c : zF} {s : Storage} (h1 : s.Bytes.size = c.Storage.Bytes.size) (h : zic s) : z1x c s = 0 := by
 unfold z1x
 rw [ifn, h.err, ifn (by simp)]
 have : anyP s = false := zzu fun i hi => by
  obtain ⟨k, k1, k2⟩ := z22 hi; obtain ⟨off, _, h3⟩ := h.ptr k k1; rw [zng _ hi, k2, ← z5s, h3]; rfl
 rw [this]
 rfl
theorem z85 (s : zA) : z66 s = true ↔ (s.Condition = 0 ∨ s.Condition = 1 ∨ s.Condition = 2 ∨ s.Condition = 4) := by
 unfold z66
 simp only [Bool.or_eq_true, beq_iff_eq, or_assoc]
theorem zaat (c : zF) (k : Int) : zyl c k = false ↔ (0 ≤ k ∧ k < (c.zD.length : Int)) ∧ ∃ x, c.zD[k.toNat]? = some x ∧ x.Op = 18 := by
 unfold zyl
 rw [Bool.or_eq_false_iff, Bool.not_eq_false', zay, zcj, decide_eq_false_iff_not, Classical.not_not]
 constructor
 · rintro ⟨h1, h2⟩
   have hl : k.toNat < c.zD.length := by omega
   rw [zng _ hl] at h2; exact ⟨by omega, _, lge hl, h2⟩
 · rintro ⟨h1, x, h2, h3⟩
   refine ⟨by omega, ?_⟩; rw [gdd, h2]; exact h3
theorem zacn {m : zI} {c : zF} {s : zA} (h : StV m c s) : z62 0 m c s = 0 := by
 have h3 : z7c s.Registers = false := zzu fun i hi => by
  rw [zng _ hi, zkc.2 (h.nums _ (List.getElem_mem hi))]; rfl
 have h5 : anyC c s.Stack = false := zzu fun i hi => by
  rw [zng _ hi]; exact (zaat c _).2 (h.calls _ (List.getElem_mem hi))
 have h6 : anyL s.Lines = false := zzu fun i hi => by
  have := h.long _ (List.getElem_mem hi); rw [zng _ hi, decide_eq_false_iff_not]; omega
 obtain ⟨r1, r2, r3, r4, r5, r6, r7, r8, r9, r10, r11, r12, r13, r14, r15, r16, r17, r18, r19⟩ := h
 unfold z62
 rw [ifn, ifn, h3, ifn (by simp), z03]
 simp only [lstS, List.forall_mem_cons, List.not_mem_nil, false_imp_iff, implies_true, and_true]
 rw [(z85 s).2 r3, zabm r5 r4, zay.2 ⟨r6, by omega⟩, h5, h6, zay.2 ⟨r12, r13⟩, zay.2 ⟨r14, r15⟩, zay.2 ⟨r16, r17⟩, zay.2 ⟨r18, r19⟩, dcf (by omega), dcf (by omega)]
 exact ⟨rfl, rfl, rfl, rfl, rfl, rfl, rfl, rfl⟩
theorem eT (t : zA) : (⟨t.Registers, t.Condition, t.Storage, t.At, t.Stack, t.Lines, t.Status, t.Exception, t.Marks, t.Steps⟩ : zA) = t := rfl
def z0d (s : zA) (i : Nat) : Option Bool := (s.Lines[i]?).bind fun l => if decide ((l.size : Int) > 300) = true then some false else none
def z60 (s : zA) : Bool := match (List.range (min s.Lines.length 44)).findSome? (z0d s) with
 | some r => r
 | none => ((((decide ((s.Storage.Bytes.size : Int) ≤ 1072) && decide ((s.Storage.Tags.length : Int) ≤ 67)) && decide ((s.Registers.length : Int) ≤ 11)) && decide ((s.Stack.length : Int) ≤ 9)) && decide ((s.Lines.length : Int) < 44))
theorem z8v (N : Nat) (hN : 1000 < N) (s : zA) : zbw N s = some (z60 s) := by
 unfold zbw z60
 have l1 := zb9 (f := zbw.r0 N) (fun i => ((i : Int), s)) (z0d s) (min s.Lines.length 44)
  (fun i hi => by
   have hlt : i < s.Lines.length := by omega
   have hx := lge hlt; simp only [zbw.r0, zbw.b0, zme, obs, dct (show (i : Int) < (s.Lines.length : Int) by omega), dct (show (i : Int) < 44 by omega), Bool.and_self, ctr, za3, hx, z0d]; rw [w6e (n := (i : Int) + 1)]; cases (decide ((s.Lines[i].size : Int) > 300)) <;> rfl)
  (by
   have e : (decide (((min s.Lines.length 44 : Nat) : Int) < (s.Lines.length : Int)) && decide (((min s.Lines.length 44 : Nat) : Int) < 44)) = false := by
    by_cases h : s.Lines.length < 44
    · rw [dcf (show ¬ ((min s.Lines.length 44 : Nat) : Int) < (s.Lines.length : Int) by omega)]; rfl
    · rw [dcf (show ¬ ((min s.Lines.length 44 : Nat) : Int) < 44 by omega)]; simp
   simp only [zbw.r0, zbw.b0, zme, obs, e, cfa]) (N := N) (by omega)
 simp only [nc0] at l1
 rw [l1]
 cases (List.range (min s.Lines.length 44)).findSome? (z0d s) with
 | some r => rfl
 | none =>
  simp only [obs, zb3, zei, zme]
theorem zaet {m : zI} {c : zF} {s : zA} (hc : CodeV m c) (h : StV m c s) : z60 s = true := by
 have h1 : (List.range (min s.Lines.length 44)).findSome? (z0d s) = none := by
  rw [List.findSome?_eq_none_iff]; intro i hi; rw [List.mem_range] at hi; have hl : i < s.Lines.length := by omega
  have := h.long _ (List.getElem_mem hl); unfold z0d; rw [lge hl, obs, dcf (by omega)]; rfl
 have a1 := h.regs
 have a2 := h.stk
 have a3 := h.lines
 have a4 := h.sto.le
 have a5 := h.sto.tags
 have a6 := hc.m2
 unfold z60
 rw [h1]
 simp only [Bool.and_eq_true, decide_eq_true_iff]
 omega
theorem zae9 : zk4 2000000 = some true := by kernel_rfl
theorem z1j (N : Nat) {m : zI} {c : zF} {r : Int × Int} (h : zl N m c = some r) : zda N m c = some r.2 := by
 unfold zda
 try simp only [eM, eS, eC]
 rw [h]
 rfl
theorem z1e (N : Nat) {m : zI} {c : zF} {r : Int × Int} (h : zr N m c = some r) : zh5 N m c = some r.2 := by
 unfold zh5
 try simp only [eM, eS, eC]
 rw [h]
 rfl
theorem zabo (N : Nat) (hN : 1000 < N) {m : zI} {c : zF} {s t : zA} (h : zaj N m c s = some 0) (h1 : s.Status = 0) (h2 : s.Steps < 3000) (ht : zge N c s = some t) : zh9 N m c s = some (t, 0) := by
 have f2 : ∀ a b : Int, zw N [a, b] = some (zcv [a, b]) := fun a b => zor N _ (by simp; omega) (by simp)
 unfold zh9
 rw [h]
 simp only [obs, orB, zne, f2]
 rw [show (s.Status != 0 || decide (s.Steps ≥ 3000)) = false by rw [h1, dcf (by omega)]; rfl]
 rw [ht]
 rfl
theorem zacf {m : zI} {c : zF} {s : zA} (hc : CodeV m c) (h : StV m c s) : lenS s := by
 have a1 := h.regs
 have a2 := h.stk
 have a3 := h.lines
 have a4 := h.sto.le
 have a5 := h.sto.tags
 have a6 := hc.m2
 unfold lenS
 omega
theorem plainHardwareValid : zh1 := by
 intro m c hm hc
 refine ⟨2000000, ?_⟩
 obtain ⟨b, hb⟩ := z8u 2000000 (by decide) hc
 obtain ⟨⟨n, e0⟩, hr1, hr2⟩ := z86 2000000 (by decide) m hc
 have c1 := z1j _ hr1
 have c2 := z1e _ hr2
 unfold za2
 rw [zae9]
 simp only [obs, bnt, cfa, eS, eM, eC, eT]
 rw [hb]
 cases b with
 | false => rfl
 | true =>
  simp only [obs, bnt, cfa]; rw [c2]; simp only [obs]
  by_cases h0 : e0 = 0
  case neg => rw [zcj, dct h0]; rfl
  subst h0; obtain ⟨cv, _⟩ := zaex 2000000 (by decide) hc hr2; simp only [bsf, cfa]; rw [z21 hc]; simp only [obs, eS, eM, eC, eT]; rw [z3i 2000000 cv c1]; simp only [obs]; have l1 := zw8 (f := za2.r0 2000000) (fun i t => ∃ s, t = ((0 : Int), (i : Int), m, c, s) ∧ StV m c s ∧ s.Steps = (i : Int) ∧ (s.Status = 0 → s.Steps < 3000) ∧ zp3 c (3001 - i) s = zp3 c 3001 (zsp m c)) (fun r => r = true) 150
   (fun i t hi ht => by
    obtain ⟨s, rfl, h1, h2, h3, h4⟩ := ht; have k1 := zaac 2000000 (by decide) hc (zacf cv h1) c1; rw [zacn h1] at k1; simp only [za2.r0, za2.b0, dct (show (i : Int) < 150 by omega), ctr, bsf, cfa]; rw [z8v _ (by decide), zaet cv h1]; simp only [obs, bnt, cfa]; rw [z21 hc, z0w cv h1]; simp only [obs]; rw [k1, h2]; simp only [obs, bsf, cfa]
    by_cases hst : s.Status = 0
    · left; obtain ⟨g1, g2, g3, g4, g5⟩ := z0o 2000000 (by decide) cv h1 hst (h3 hst); rw [zcj, dcf (fun h => h hst), cfa, zabo 2000000 (by decide) k1 hst (h3 hst) g1, w6e]; refine ⟨_, rfl, zrn c s, rfl, g3, by rw [g4, h2]; rfl, fun h => by rw [g4]; exact g5 h, ?_⟩; rw [← h4, show 3001 - i = (3001 - (i + 1)) + 1 by omega, zp3, ifp hst]
    · right; rw [zcj, dct hst, ctr, zael 2000000 (by decide) cv c1]; simp only [obs, bst, ctr]; have hrun : zp3 c 3001 (zsp m c) = s := by
       rw [← h4, show 3001 - i = (3001 - (i + 1)) + 1 by omega, zp3, ifn hst]
      rw [hrun, ← h2]; have := z9r 2000000 (by decide) h1; rw [show (⟨s.Lines, s.Status, s.Exception, s.Marks, s.Steps, s.Storage⟩ : zR) = z6k s from rfl, this]; exact ⟨_, rfl, rfl⟩)
   (fun t ht => by
    obtain ⟨s, rfl, h1, h2, h3, h4⟩ := ht; exact ⟨_, by simp only [za2.r0, za2.b0, dcf (show ¬ ((150 : Nat) : Int) < 150 by omega), cfa], s, rfl, h1, h2, h3, h4⟩) (N := 2000000) (by decide) (s := ((0 : Int), (0 : Int), m, c, zsp m c)) ⟨_, rfl, z1z cv, rfl, fun _ => by show (0 : Int) < 3000; omega, rfl⟩
  rcases l1 with ⟨t, g1, _⟩ | ⟨r, g1, g2⟩
  · rw [g1]; rfl
  · rw [g1, g2]; rfl
end
end Go.Proofs.YtppbpnknfigboaaGreatDoor.M
namespace Go.Proofs.YtppbpnknfigboaaGreatDoor
theorem hardwareValid_card : Rows.HardwareValidUptoCardSaid := M.cardHardwareValid M.plainHardwareValid
#print axioms hardwareValid_card
end Go.Proofs.YtppbpnknfigboaaGreatDoor
