/- HardwareUnchanged: the law answers true for every input of bulk at most 1048576, and its arguments read as they did; by the seat's second form, tied to the program's text. -/
import Derived.Test.YtppbpnknfigboaaGreatDoorPHardwareUnchangedx1
import Derived.Test.YtppbpnknfigboaaGreatDoorWHardwareUnchanged
namespace Go.Proofs.YtppbpnknfigboaaGreatDoor.M
open Go Go.Amx
set_option linter.unusedVariables false
set_option linter.unusedSimpArgs false
set_option maxRecDepth 100000
noncomputable section
section
variable {m : zI} {c : zF} {s : zA}
theorem zahw (s : zA) {x : zB} (hop : x.Op = 14) : zev s x = (match zln s.Storage x.Place (szE x.zG) with | .error e => .error e | .ok a => .ok (s.At + 1, updS s (stV s.Storage x.Pointer.toNat a.toNat))) := by
 cases x; cases hop; rfl
theorem zahb (N : Nat) (M : zC) {x : zB} (hop : x.Op = 14) : zd N M x = ((zer N x.zG).bind fun r1 => (za6 N M x.Place r1).bind fun r2 => cond r2.2.1 ((zcc N r2.2.2.zA.Storage x.Pointer (⟨0, (⟨1, r2.1⟩ : Address), 0⟩ : Pointer)).bind fun r3 => some (⟨updS r2.2.2.zA r3.1, r2.2.2.code, r2.2.2.raised⟩ : zC)) (some r2.2.2)).bind fun r => some (w6 (r.zA.At + 1), r) := by
 cases x; cases hop; rfl
theorem zaf8 (N : Nat) {x : zB} (hop : x.Op = 14) (hi : idx c.zD s.At = some x) : ze N c s = ((zbl x.zG).bind fun r1 => (zc4 N s x.Place r1).bind fun r2 => cond (r2.2 != 0) (some (r2.2, s)) ((zgt N s.Storage x.Pointer (⟨0, (⟨1, r2.1⟩ : Address), 0⟩ : Pointer)).bind fun r3 => some (0, updS s r3))).bind fun r => some (w6 (s.At + 1), r.1, r.2) := by
 unfold ze
 rw [hi, obs]
 clear hi
 cases x; cases hop; rfl
theorem zadl (N : Nat) (hN : 20000 < N) (hc : CodeV m c) (hs : StV m c s) {x : zB} (hx : c.zD[s.At.toNat]? = some x) (hop : x.Op = 14) : zch N m c s x := by
 have iv := zhd hc (lmg hx) hop (U := ⟨false, false, false, true, false, false, false, false, false, false, false, false, true, false, 3, 0⟩) rfl
 have hi : idx c.zD s.At = some x := by unfold idx; rw [ifp hs.at0, hx]
 have m8 := hc.m2
 have a0 := hs.at0
 have a1 := hs.at1
 have n240 := hc.len
 have wn1 : w6 (s.At + 1) = s.At + 1 := w6e
 unfold zch
 rw [zahw s hop, zahb N _ hop, zaf8 N hop hi]
 have ht := iv.ty3 rfl
 have hp : zck s.Storage x.Place (szE x.zG) = true := by rw [zgx hs.size]; have := iv.pl rfl; unfold zgo at this; rw [ifn] at this; exact this
 have hq : zeu s.Storage x.Pointer = true := by rw [zne hs.size]; exact iv.pt rfl
 obtain ⟨q1, q2, q3⟩ := zjz hq
 have hsz := zka ht
 have hle := hs.sto.le
 have hqd := hs.sto.quad
 rw [z0h N (by omega) ht, zjj ht, obs, obs]
 rcases zsg N (by omega) s c hs.sto hp hsz.1 hsz.2 with ⟨e, j, k, he, h1, h2, h3⟩ | ⟨a, h1, h2, h3, h4, h5⟩
 · rw [h1, h2, h3]; refine .inl ⟨e, _, w6 (s.At + 1), s, rfl, by omega, rfl, ?_⟩; rcases he with rfl | rfl <;> rfl
 · rw [h1, h2, h3]; obtain ⟨a, rfl⟩ : ∃ k : Nat, a = (k : Int) := ⟨a.toNat, by omega⟩; refine .inr ⟨_, _, _, rfl, ?_, ?_, fun _ => ⟨rfl, by omega, by omega⟩, hs.updS (z2b (off := a) hs.sto (by omega) (by omega) (by omega)) (zxr (by omega)), rfl, rfl, rfl⟩
   · simp only [obs, ctr]; rw [show (⟨0, ⟨1, (a : Int)⟩, 0⟩ : Pointer) = zh0 a from rfl, zxp N (by omega) hs.sto hq a (by omega)]; show some (w6 (s.At + 1), _) = _; rw [wn1]; rfl
   · simp only [obs, bsf, cfa]; rw [show (⟨0, ⟨1, (a : Int)⟩, 0⟩ : Pointer) = zh0 a from rfl, zx2 N (by omega) hs.sto hq a (by omega)]; show some (w6 (s.At + 1), _) = _; rw [wn1]; rfl
theorem zahv (s : zA) {x : zB} (hop : x.Op = 15) : zev s x = (match ldV s.Storage x.Source with | none => .error 4 | some o => .ok (s.At + 1, updS s (stV s.Storage x.Pointer.toNat o.toNat))) := by
 cases x; cases hop; rfl
theorem zaha (N : Nat) (M : zC) {x : zB} (hop : x.Op = 15) : zd N M x = ((za1 N M x.Source).bind fun r4 => cond r4.2.1 ((zcc N r4.2.2.zA.Storage x.Pointer r4.1).bind fun r5 => some (⟨updS r4.2.2.zA r5.1, r4.2.2.code, r4.2.2.raised⟩ : zC)) (some r4.2.2)).bind fun r => some (w6 (r.zA.At + 1), r) := by
 cases x; cases hop; rfl
theorem zaf7 (N : Nat) {x : zB} (hop : x.Op = 15) (hi : idx c.zD s.At = some x) : ze N c s = ((ze2 N s.Storage x.Source).bind fun r4 => cond (r4.2 != 0) (some (4, s)) ((zgt N s.Storage x.Pointer r4.1).bind fun r5 => some (0, updS s r5))).bind fun r => some (w6 (s.At + 1), r.1, r.2) := by
 unfold ze
 rw [hi, obs]
 clear hi
 cases x; cases hop; rfl
theorem zadk (N : Nat) (hN : 20000 < N) (hc : CodeV m c) (hs : StV m c s) {x : zB} (hx : c.zD[s.At.toNat]? = some x) (hop : x.Op = 15) : zch N m c s x := by
 have iv := zhd hc (lmg hx) hop (U := ⟨false, false, false, false, false, false, false, false, false, false, false, false, true, true, 0, 0⟩) rfl
 have hi : idx c.zD s.At = some x := by unfold idx; rw [ifp hs.at0, hx]
 have m8 := hc.m2
 have a0 := hs.at0
 have a1 := hs.at1
 have n240 := hc.len
 have wn1 : w6 (s.At + 1) = s.At + 1 := w6e
 unfold zch
 rw [zahv s hop, zaha N _ hop, zaf7 N hop hi]
 have hq : zeu s.Storage x.Pointer = true := by rw [zne hs.size]; exact iv.pt rfl
 have hq2 : zeu s.Storage x.Source = true := by rw [zne hs.size]; exact iv.sr rfl
 obtain ⟨q1, q2, q3⟩ := zjz hq
 have hle := hs.sto.le
 have hqd := hs.sto.quad
 rw [zqm N (by omega) s c hs.sto hq2, zwm N (by omega) hs.sto hq2]
 cases hld : ldV s.Storage x.Source with
 | none => exact .inl ⟨4, _, _, s, rfl, by omega, rfl, rfl⟩
 | some o =>
  have ho := zvz hs.sto hld; obtain ⟨o, rfl⟩ : ∃ k : Nat, o = (k : Int) := ⟨o.toNat, by omega⟩; refine .inr ⟨_, _, _, rfl, ?_, ?_, fun _ => ⟨rfl, by omega, by omega⟩, hs.updS (z2b (off := o) hs.sto (by omega) (by omega) (by omega)) (zxr (by omega)), rfl, rfl, rfl⟩
  · simp only [obs, ctr]; rw [zxp N (by omega) hs.sto hq o (by omega)]; show some (w6 (s.At + 1), _) = _; rw [wn1]; rfl
  · simp only [obs, bsf, cfa]; rw [zx2 N (by omega) hs.sto hq o (by omega)]; show some (w6 (s.At + 1), _) = _; rw [wn1]; rfl
theorem zahu (s : zA) {x : zB} (hop : x.Op = 16) : zev s x = (match ldV s.Storage x.Pointer with
 | none => .error 4
 | some o => if inB (o + zf3 (rg s x.R)) 0 16777215 = true then .ok (s.At + 1, updS s (stV s.Storage x.Pointer.toNat (o + zf3 (rg s x.R)).toNat)) else .error 5) := by
 cases x; cases hop; rfl
theorem zag9 (N : Nat) (M : zC) {x : zB} (hop : x.Op = 16) : zd N M x = ((zd7 N M x).bind fun r6 => some r6).bind fun r => some (w6 (r.zA.At + 1), r) := by
 cases x; cases hop; rfl
theorem zaf6 (N : Nat) {x : zB} (hop : x.Op = 16) (hi : idx c.zD s.At = some x) : ze N c s = ((ze2 N s.Storage x.Pointer).bind fun r10 => cond (r10.2 != 0) (some (4, s)) (if 0 ≤ x.R then (if x.R < (s.Registers.length : Int) then ((s.Registers[x.R.toNat]?).bind fun x12 => (zjw N x12).bind fun r13 => (zf (w6 (r10.1.Address.Offset + r13)) 0 16777215).bind fun r14 => cond (!r14) (some (5, s)) ((zgt N s.Storage x.Pointer (⟨r10.1.Kind, (⟨r10.1.Address.zY, (w6 (r10.1.Address.Offset + r13))⟩ : Address), r10.1.Authority⟩ : Pointer)).bind fun r15 => some (0, updS s r15))) else none) else none)).bind fun r => some (w6 (s.At + 1), r.1, r.2) := by
 unfold ze
 rw [hi, obs]
 clear hi
 cases x; cases hop; rfl
theorem zadj (N : Nat) (hN : 20000 < N) (hc : CodeV m c) (hs : StV m c s) {x : zB} (hx : c.zD[s.At.toNat]? = some x) (hop : x.Op = 16) : zch N m c s x := by
 have iv := zhd hc (lmg hx) hop (U := ⟨true, false, false, false, false, false, false, false, false, false, false, false, true, false, 0, 0⟩) rfl
 have hi : idx c.zD s.At = some x := by unfold idx; rw [ifp hs.at0, hx]
 have m8 := hc.m2
 have a0 := hs.at0
 have a1 := hs.at1
 have n240 := hc.len
 have wn1 : w6 (s.At + 1) = s.At + 1 := w6e
 unfold zch
 rw [zahu s hop, zag9 N _ hop, zaf6 N hop hi]
 have hq : zeu s.Storage x.Pointer = true := by rw [zne hs.size]; exact iv.pt rfl
 obtain ⟨q1, q2, q3⟩ := zjz hq
 obtain ⟨g1, g2, g3, g4, g5⟩ := zf4 hs (iv.r rfl)
 have hle := hs.sto.le
 have hqd := hs.sto.quad
 unfold zd7
 rw [zqm N (by omega) s c hs.sto hq, zwm N (by omega) hs.sto hq]
 cases hld : ldV s.Storage x.Pointer with
 | none => exact .inl ⟨4, _, _, s, rfl, by omega, rfl, rfl⟩
 | some o =>
  have ho := zvz hs.sto hld; have hwb := zu4 g5; simp only [obs, bnt, cfa, bsf]; rw [g4, ifp g1, ifp g2, g3]; simp only [obs]; rw [z3m N (by omega) g5, zy8 N (by omega) g5]; simp only [obs]; rw [show (zh0 o).Address.Offset = o from rfl, w6e (n := o + zf3 (rg s x.R)), zma, zgq]; simp only [obs]; rw [zh5 _ _ _ _ (by decide)]; simp only [obs]; cases hin : inB (o + zf3 (rg s x.R)) 0 16777215 with
  | false =>
   rw [ifn (by decide)]; exact .inl ⟨5, _, _, s, rfl, by omega, rfl, rfl⟩
  | true =>
   have hr := za2.1 hin; rw [ifp rfl]; obtain ⟨k, hk⟩ : ∃ k : Nat, o + zf3 (rg s x.R) = (k : Int) := ⟨(o + zf3 (rg s x.R)).toNat, by omega⟩; rw [hk]; rw [show (⟨(zh0 o).Kind, ⟨(zh0 o).Address.zY, (k : Int)⟩, (zh0 o).Authority⟩ : Pointer) = zh0 k from rfl]; refine .inr ⟨_, _, _, rfl, ?_, ?_, fun _ => ⟨rfl, by omega, by omega⟩, hs.updS (z2b (off := k) hs.sto (by omega) (by omega) (by omega)) (zxr (by omega)), rfl, rfl, rfl⟩
   · simp only [bnt, Bool.not_false, ctr]; rw [zxp N (by omega) hs.sto hq k (by omega)]; show some (w6 (s.At + 1), _) = _; rw [wn1]; rfl
   · simp only [bnt, cfa]; rw [zx2 N (by omega) hs.sto hq k (by omega)]; show some (w6 (s.At + 1), _) = _; rw [wn1]; rfl
theorem zaht (s : zA) {x : zB} (hop : x.Op = 17) : zev s x = (match ldV s.Storage x.Pointer with | none => .error 4 | some _ => .ok (s.At + 1, s)) := by
 cases x; cases hop; rfl
theorem zag8 (N : Nat) (M : zC) {x : zB} (hop : x.Op = 17) : zd N M x = ((za1 N M x.Pointer).bind fun r7 => some r7.2.2).bind fun r => some (w6 (r.zA.At + 1), r) := by
 cases x; cases hop; rfl
theorem zaf5 (N : Nat) {x : zB} (hop : x.Op = 17) (hi : idx c.zD s.At = some x) : ze N c s = ((ze2 N s.Storage x.Pointer).bind fun r10 => cond (r10.2 != 0) (some (4, s)) (some (0, s))).bind fun r => some (w6 (s.At + 1), r.1, r.2) := by
 unfold ze
 rw [hi, obs]
 clear hi
 cases x; cases hop; rfl
theorem zadi (N : Nat) (hN : 20000 < N) (hc : CodeV m c) (hs : StV m c s) {x : zB} (hx : c.zD[s.At.toNat]? = some x) (hop : x.Op = 17) : zch N m c s x := by
 have iv := zhd hc (lmg hx) hop (U := ⟨false, false, false, false, false, false, false, false, false, false, false, false, true, false, 0, 0⟩) rfl
 have hi : idx c.zD s.At = some x := by unfold idx; rw [ifp hs.at0, hx]
 have m8 := hc.m2
 have a0 := hs.at0
 have a1 := hs.at1
 have n240 := hc.len
 have wn1 : w6 (s.At + 1) = s.At + 1 := w6e
 unfold zch
 rw [zaht s hop, zag8 N _ hop, zaf5 N hop hi]
 have hq : zeu s.Storage x.Pointer = true := by rw [zne hs.size]; exact iv.pt rfl
 rw [zqm N (by omega) s c hs.sto hq, zwm N (by omega) hs.sto hq]
 cases hld : ldV s.Storage x.Pointer with
 | none => exact .inl ⟨4, _, _, s, rfl, by omega, rfl, rfl⟩
 | some o =>
  refine .inr ⟨_, _, _, rfl, ?_, ?_, fun _ => ⟨rfl, by omega, by omega⟩, hs, rfl, rfl, rfl⟩
  · show some (w6 (s.At + 1), _) = _; rw [wn1]
  · show some (w6 (s.At + 1), _) = _; rw [wn1]
theorem zahs (s : zA) {x : zB} (hop : x.Op = 18) : zev s x = (if 6 ≤ s.Stack.length then .error 6 else .ok (x.Target, updK s (s.Stack ++ [s.At]))) := by
 cases x; cases hop; rfl
theorem zag7 (N : Nat) (M : zC) {x : zB} (hop : x.Op = 18) : zd N M x = ((ze7 M x.Target).bind fun r1 => some (r1.1, r1.2)).bind fun r => some (r.1, r.2) := by
 cases x; cases hop; rfl
theorem zaf4 (N : Nat) {x : zB} (hop : x.Op = 18) (hi : idx c.zD s.At = some x) : ze N c s = cond ((s.Stack.length : Int) == 6) (some (0, 6, s)) (cond (Nat.ble ((s.Stack.length + ([s.At] : List Int).length) * 8) zab) (some (x.Target, 0, updK s (s.Stack ++ [s.At]))) none) := by
 unfold ze
 rw [hi, obs]
 clear hi
 cases x; cases hop; rfl
theorem zadh (N : Nat) (hN : 20000 < N) (hc : CodeV m c) (hs : StV m c s) {x : zB} (hx : c.zD[s.At.toNat]? = some x) (hop : x.Op = 18) : zch N m c s x := by
 have iv := zhd hc (lmg hx) hop (U := ⟨false, false, false, false, false, false, false, false, false, true, false, false, false, false, 0, 0⟩) rfl
 have hi : idx c.zD s.At = some x := by unfold idx; rw [ifp hs.at0, hx]
 have m8 := hc.m2
 have a0 := hs.at0
 have a1 := hs.at1
 have n240 := hc.len
 have wn1 : w6 (s.At + 1) = s.At + 1 := w6e
 unfold zch
 rw [zahs s hop, zag7 N _ hop, zaf4 N hop hi]
 have ht := iv.tg rfl
 have h6 := hs.stk
 unfold ze7
 simp only []
 rw [zh5 _ _ _ _ (by decide)]
 simp only [obs, zas]
 by_cases h : 6 ≤ s.Stack.length
 · rw [ifp h, dct (show (s.Stack.length : Int) ≥ 6 by omega), dct (show (s.Stack.length : Int) = 6 by omega)]; exact .inl ⟨6, _, _, s, rfl, by omega, rfl, rfl⟩
 · rw [ifn h, dcf (show ¬ (s.Stack.length : Int) ≥ 6 by omega), dcf (show ¬ (s.Stack.length : Int) = 6 by omega)]; have hcl : zdy 8 s.Stack = some s.Stack := by unfold zdy; rw [zax (by omega)]; rfl
   have hrm : Nat.ble ((s.Stack.length + ([s.At] : List Int).length) * 8) zab = true := zax (by simp only [lnc, ln0]; omega); simp only [Bool.not_false, ctr, cfa]; rw [hcl]; simp only [obs]; rw [hrm]; refine .inr ⟨_, _, _, rfl, rfl, rfl, fun _ => ⟨rfl, by omega, by omega⟩, hs.updK ?_ ?_, rfl, rfl, rfl⟩
   · rw [lna, lns]; omega
   · intro i hmem; rcases List.mem_append.1 hmem with h2 | h2
     · exact hs.calls i h2
     · rw [List.mem_singleton.1 h2]; exact ⟨⟨a0, a1⟩, x, hx, hop⟩
theorem zahr (s : zA) {x : zB} (hop : x.Op = 19) : zev s x = (if s.Stack.length = 0 then .ok (s.At, updT s 1) else .ok (s.Stack.getD (s.Stack.length - 1) 0 + 1, updK s (s.Stack.take (s.Stack.length - 1)))) := by
 cases x; cases hop; rfl
theorem zag6 (N : Nat) (M : zC) {x : zB} (hop : x.Op = 19) : zd N M x = ((ze8 M).bind fun r2 => some (r2.1, r2.2)).bind fun r => some (r.1, r.2) := by
 cases x; cases hop; rfl
theorem zaf3 (N : Nat) {x : zB} (hop : x.Op = 19) (hi : idx c.zD s.At = some x) : ze N c s = cond ((s.Stack.length : Int) == 0) (some ((w6 (s.At + 1)), 0, updT s 1)) (if 0 ≤ (w6 ((s.Stack.length : Int) - 1)) then (if (w6 ((s.Stack.length : Int) - 1)) < (s.Stack.length : Int) then ((s.Stack[(w6 ((s.Stack.length : Int) - 1)).toNat]?).bind fun x6 => if 0 ≤ (w6 ((s.Stack.length : Int) - 1)) ∧ (w6 ((s.Stack.length : Int) - 1)) ≤ (s.Stack.length : Int) then (if 0 ≤ (0 : Int) ∧ (0 : Int) ≤ (w6 ((s.Stack.length : Int) - 1)) then (some ((w6 (x6 + 1)), 0, updK s ((s.Stack.drop ((0 : Int).toNat)).take ((w6 ((s.Stack.length : Int) - 1)).toNat - (0 : Int).toNat)))) else none) else none) else none) else none) := by
 unfold ze
 rw [hi, obs]
 clear hi
 cases x; cases hop; rfl
theorem zadg (N : Nat) (hN : 20000 < N) (hc : CodeV m c) (hs : StV m c s) {x : zB} (hx : c.zD[s.At.toNat]? = some x) (hop : x.Op = 19) : zch N m c s x := by
 have iv := zhd hc (lmg hx) hop (U := ⟨false, false, false, false, false, false, false, false, false, false, false, false, false, false, 0, 0⟩) rfl
 have hi : idx c.zD s.At = some x := by unfold idx; rw [ifp hs.at0, hx]
 have m8 := hc.m2
 have a0 := hs.at0
 have a1 := hs.at1
 have n240 := hc.len
 have wn1 : w6 (s.At + 1) = s.At + 1 := w6e
 unfold zch
 rw [zahr s hop, zag6 N _ hop, zaf3 N hop hi]
 have h6 := hs.stk
 unfold ze8
 simp only [zas]
 by_cases h : s.Stack.length = 0
 · rw [ifp h, w6e, dct (show (s.Stack.length : Int) - 1 < 0 by omega), dct (show (s.Stack.length : Int) = 0 by omega)]; exact .inr ⟨_, _, _, rfl, rfl, rfl, (fun h => by have h' : (1 : Int) = 0 := h; omega), hs.updT (by omega) (by omega), rfl, rfl, rfl⟩
 · have hl : (s.Stack.length : Int) - 1 = ((s.Stack.length - 1 : Nat) : Int) := by omega
   have hx1 : s.Stack[s.Stack.length - 1]? = some (s.Stack.getD (s.Stack.length - 1) 0) := by rw [gdd, lge (by omega)]; rfl
   obtain ⟨hr, _⟩ := hs.calls _ (lmg hx1); have hcl : ∀ l : List Int, l.length ≤ 6 → zdy 8 l = some l := fun l hl => by unfold zdy; rw [zax (by omega)]; rfl
   rw [ifn h, w6e (n := (s.Stack.length : Int) - 1), dcf (show ¬ (s.Stack.length : Int) - 1 < 0 by omega), dcf (show ¬ (s.Stack.length : Int) = 0 by omega)]; simp only [cfa]; rw [hl, zap, hx1]; simp only [obs]; rw [ifp, ifp, ifp, ifp, itn, hx1]; simp only [obs]; rw [ifp, ifp, show (0 : Int).toNat = 0 from rfl, dr0, dr0, Nat.sub_zero, hcl _ (by rw [lnt]; omega), w6e]; refine .inr ⟨_, _, _, rfl, rfl, rfl, fun _ => ⟨rfl, by omega, by omega⟩, hs.updK ?_ ?_, rfl, rfl, rfl⟩
   · rw [lnt]; omega
   · intro i hi2; exact hs.calls i (List.mem_of_mem_take hi2)
theorem zahq (s : zA) {x : zB} (hop : x.Op = 20) : zev s x = (if inB (zf3 (rg s x.R)) 100 999 = true then .error (zf3 (rg s x.R)) else .error 2) := by
 cases x; cases hop; rfl
theorem zag5 (N : Nat) (M : zC) {x : zB} (hop : x.Op = 20) : zd N M x = (zef N M x).bind fun r => some (w6 (r.zA.At + 1), r) := by
 cases x; cases hop; rfl
theorem zaf2 (N : Nat) {x : zB} (hop : x.Op = 20) (hi : idx c.zD s.At = some x) : ze N c s = if 0 ≤ x.R then (if x.R < (s.Registers.length : Int) then ((s.Registers[x.R.toNat]?).bind fun x7 => (zjw N x7).bind fun r8 => (zf r8 100 999).bind fun r9 => cond r9 (some (0, r8, s)) (some (0, 2, s))) else none) else none := by
 unfold ze
 rw [hi, obs]
 clear hi
 cases x; cases hop; rfl
theorem zadf (N : Nat) (hN : 20000 < N) (hc : CodeV m c) (hs : StV m c s) {x : zB} (hx : c.zD[s.At.toNat]? = some x) (hop : x.Op = 20) : zch N m c s x := by
 have iv := zhd hc (lmg hx) hop (U := ⟨true, false, false, false, false, false, false, false, false, false, false, false, false, false, 0, 0⟩) rfl
 have hi : idx c.zD s.At = some x := by unfold idx; rw [ifp hs.at0, hx]
 have m8 := hc.m2
 have a0 := hs.at0
 have a1 := hs.at1
 have n240 := hc.len
 have wn1 : w6 (s.At + 1) = s.At + 1 := w6e
 unfold zch
 rw [zahq s hop, zag5 N _ hop, zaf2 N hop hi]
 obtain ⟨g1, g2, g3, g4, g5⟩ := zf4 hs (iv.r rfl)
 unfold zef
 simp only []
 rw [g4, ifp g1, ifp g2, g3]
 simp only [obs]
 rw [z3m N (by omega) g5, zy8 N (by omega) g5]
 simp only [obs]
 rw [zma, zgq]
 simp only [obs]
 cases hin : inB (zf3 (rg s x.R)) 100 999 with
 | false =>
  rw [ifn (by decide)]; simp only [Bool.not_false, ctr, cfa]; rw [zh5 _ _ _ _ (by decide)]; exact .inl ⟨2, _, _, s, rfl, by omega, rfl, rfl⟩
 | true =>
  have hr := za2.1 hin; rw [ifp rfl]; simp only [bnt, ctr, cfa]; rw [zh5 _ _ _ _ (by omega)]; exact .inl ⟨_, _, _, s, rfl, by omega, rfl, rfl⟩
theorem zvq (hs : StV m c s) (l : ByteArray) (hl : l.size ≤ 256) (n240 : c.zD.length ≤ 240) :
 ∃ t, zpq s l = .ok (s.At + 1, t) ∧
  (cond ((s.Lines.length : Int) == 40) (some (⟨updT s 3, c, 0⟩ : zC)) ((zdy 16 s.Lines).bind fun r6 => cond (Nat.ble ((r6.length + ([l] : List ByteArray).length) * 16) zab) (some (⟨updL s (r6 ++ [l]), c, 0⟩ : zC)) none)) = some ⟨t, c, 0⟩ ∧
  (cond ((s.Lines.length : Int) == 40) (some ((0 : Int), updT s 3)) (cond (Nat.ble ((s.Lines.length + ([l] : List ByteArray).length) * 16) zab) (some (0, updL s (s.Lines ++ [l]))) none)) = some (0, t) ∧ StV m c t ∧ t.At = s.At ∧ t.Steps = s.Steps ∧ t.Exception = s.Exception := by
 have h40 := hs.lines
 unfold zpq
 rw [zas]
 by_cases h : s.Lines.length = 40
 · rw [ifp h, dct (show (s.Lines.length : Int) = 40 by omega)]; exact ⟨_, rfl, rfl, rfl, hs.updT (by omega) (by omega), rfl, rfl, rfl⟩
 · rw [ifn h, dcf (show ¬ (s.Lines.length : Int) = 40 by omega)]; have hcl : zdy 16 s.Lines = some s.Lines := by unfold zdy; rw [zax (by omega)]; rfl
   have hrm : Nat.ble ((s.Lines.length + ([l] : List ByteArray).length) * 16) zab = true := zax (by simp only [lnc, ln0]; omega); simp only [cfa]; rw [hcl]; simp only [obs]; rw [hrm]; exact ⟨_, rfl, rfl, rfl, hs.updL (by omega) hl, rfl, rfl, rfl⟩
theorem zaho (s : zA) {x : zB} (hop : x.Op = 22) : zev s x = (zpq s (zo7 (rg s x.R))) := by
 cases x; cases hop; rfl
theorem zag3 (N : Nat) (M : zC) {x : zB} (hop : x.Op = 22) : zd N M x = ((idx M.zA.Registers x.R).bind fun x1 => (zeh x1).bind fun r2 => cond ((M.zA.Lines.length : Int) == 40) (some (⟨updT M.zA 3, M.code, M.raised⟩ : zC)) ((zdy 16 M.zA.Lines).bind fun r6 => cond (Nat.ble ((r6.length + ([r2.1] : List ByteArray).length) * 16) zab) (some (⟨updL M.zA (r6 ++ [r2.1]), M.code, M.raised⟩ : zC)) none)).bind fun r => some (w6 (r.zA.At + 1), r) := by
 cases x; cases hop; rfl
theorem zaf0 (N : Nat) {x : zB} (hop : x.Op = 22) (hi : idx c.zD s.At = some x) : ze N c s = (if 0 ≤ x.R then (if x.R < (s.Registers.length : Int) then ((s.Registers[x.R.toNat]?).bind fun x1 => (zfp N x1).bind fun r2 => cond ((s.Lines.length : Int) == 40) (some (0, updT s 3)) (cond (Nat.ble ((s.Lines.length + ([r2] : List ByteArray).length) * 16) zab) (some (0, updL s (s.Lines ++ [r2]))) none)) else none) else none).bind fun r => some (w6 (s.At + 1), r.1, r.2) := by
 unfold ze
 rw [hi, obs]
 clear hi
 cases x; cases hop; rfl
theorem zadd (N : Nat) (hN : 20000 < N) (hc : CodeV m c) (hs : StV m c s) {x : zB} (hx : c.zD[s.At.toNat]? = some x) (hop : x.Op = 22) : zch N m c s x := by
 have iv := zhd hc (lmg hx) hop (U := ⟨true, false, false, false, false, false, false, false, false, false, false, false, false, false, 0, 0⟩) rfl
 have hi : idx c.zD s.At = some x := by unfold idx; rw [ifp hs.at0, hx]
 have m8 := hc.m2
 have a0 := hs.at0
 have a1 := hs.at1
 have n240 := hc.len
 have wn1 : w6 (s.At + 1) = s.At + 1 := w6e
 unfold zch
 rw [zaho s hop, zag3 N _ hop, zaf0 N hop hi]
 obtain ⟨g1, g2, g3, g4, g5⟩ := zf4 hs (iv.r rfl)
 simp only []
 rw [g4, ifp g1, ifp g2, g3]
 simp only [obs]
 rw [z8l g5, zaca N (by omega) g5]
 simp only [obs]
 obtain ⟨t, p1, p2, p3, p4, p5, p6, p7⟩ := zvq hs (zo7 (rg s x.R)) (z57 g5) n240
 rw [p1, p2, p3]
 refine .inr ⟨_, _, _, rfl, ?_, ?_, fun _ => ⟨rfl, by omega, by omega⟩, p4, p5, p6, p7⟩
 · show some (w6 (t.At + 1), _) = _; rw [p5, wn1]
 · show some (w6 (s.At + 1), _) = _; rw [wn1]
theorem zahn (s : zA) {x : zB} (hop : x.Op = 23) : zev s x = (match zlm s.Storage x.Place x.zG with | .error e => .error e | .ok b => zpq s b) := by
 cases x; cases hop; rfl
theorem zag2 (N : Nat) (M : zC) {x : zB} (hop : x.Op = 23) : zd N M x = ((zu N M x.Place x.zG).bind fun r4 => cond (!r4.2.1) (some r4.2.2) (cond ((r4.2.2.zA.Lines.length : Int) == 40) (some (⟨updT r4.2.2.zA 3, r4.2.2.code, r4.2.2.raised⟩ : zC)) ((zdy 16 r4.2.2.zA.Lines).bind fun r6 => cond (Nat.ble ((r6.length + ([r4.1] : List ByteArray).length) * 16) zab) (some (⟨updL r4.2.2.zA (r6 ++ [r4.1]), r4.2.2.code, r4.2.2.raised⟩ : zC)) none))).bind fun r => some (w6 (r.zA.At + 1), r) := by
 cases x; cases hop; rfl
theorem zafz (N : Nat) {x : zB} (hop : x.Op = 23) (hi : idx c.zD s.At = some x) : ze N c s = ((ze1 N s x.Place x.zG).bind fun r3 => cond (r3.2 != 0) (some (r3.2, s)) (cond ((s.Lines.length : Int) == 40) (some (0, updT s 3)) (cond (Nat.ble ((s.Lines.length + ([r3.1] : List ByteArray).length) * 16) zab) (some (0, updL s (s.Lines ++ [r3.1]))) none))).bind fun r => some (w6 (s.At + 1), r.1, r.2) := by
 unfold ze
 rw [hi, obs]
 clear hi
 cases x; cases hop; rfl
theorem zadc (N : Nat) (hN : 20000 < N) (hc : CodeV m c) (hs : StV m c s) {x : zB} (hx : c.zD[s.At.toNat]? = some x) (hop : x.Op = 23) : zch N m c s x := by
 have iv := zhd hc (lmg hx) hop (U := ⟨false, false, false, true, false, false, false, false, false, false, false, false, false, false, 2, 0⟩) rfl
 have hi : idx c.zD s.At = some x := by unfold idx; rw [ifp hs.at0, hx]
 have m8 := hc.m2
 have a0 := hs.at0
 have a1 := hs.at1
 have n240 := hc.len
 have wn1 : w6 (s.At + 1) = s.At + 1 := w6e
 unfold zch
 rw [zahn s hop, zag2 N _ hop, zafz N hop hi]
 have hp : zck s.Storage x.Place (szE x.zG) = true := by rw [zgx hs.size]; have := iv.pl rfl; unfold zgo at this; rw [ifn] at this; exact this
 have hz1 := zka (iv.ty2 rfl).1
 rcases znd N (by omega) s c hs.sto (iv.ty2 rfl).1 hp with ⟨e, b, k, he, h1, h2, h3⟩ | ⟨b, h1, h2, h3, h4⟩
 · rw [h1, h2, h3]; refine .inl ⟨e, _, w6 (s.At + 1), s, rfl, by omega, rfl, ?_⟩; rcases he with rfl | rfl <;> rfl
 rw [h1, h2, h3]
 simp only [obs, bnt, cfa, bsf]
 obtain ⟨t, p1, p2, p3, p4, p5, p6, p7⟩ := zvq hs b (by omega) n240
 rw [p1, p2, p3]
 refine .inr ⟨_, _, _, rfl, ?_, ?_, fun _ => ⟨rfl, by omega, by omega⟩, p4, p5, p6, p7⟩
 · show some (w6 (t.At + 1), _) = _; rw [p5, wn1]
 · show some (w6 (s.At + 1), _) = _; rw [wn1]
theorem zahm (s : zA) {x : zB} (hop : x.Op = 24) : zev s x = (zpq s x.Text) := by
 cases x; cases hop; rfl
theorem zag1 (N : Nat) (M : zC) {x : zB} (hop : x.Op = 24) : zd N M x = (cond ((M.zA.Lines.length : Int) == 40) (some (⟨updT M.zA 3, M.code, M.raised⟩ : zC)) ((zdy 16 M.zA.Lines).bind fun r6 => cond (Nat.ble ((r6.length + ([x.Text] : List ByteArray).length) * 16) zab) (some (⟨updL M.zA (r6 ++ [x.Text]), M.code, M.raised⟩ : zC)) none)).bind fun r => some (w6 (r.zA.At + 1), r) := by
 cases x; cases hop; rfl
theorem zafy (N : Nat) {x : zB} (hop : x.Op = 24) (hi : idx c.zD s.At = some x) : ze N c s = (cond ((s.Lines.length : Int) == 40) (some (0, updT s 3)) (cond (Nat.ble ((s.Lines.length + ([x.Text] : List ByteArray).length) * 16) zab) (some (0, updL s (s.Lines ++ [x.Text]))) none)).bind fun r => some (w6 (s.At + 1), r.1, r.2) := by
 unfold ze
 rw [hi, obs]
 clear hi
 cases x; cases hop; rfl
theorem zadb (N : Nat) (hN : 20000 < N) (hc : CodeV m c) (hs : StV m c s) {x : zB} (hx : c.zD[s.At.toNat]? = some x) (hop : x.Op = 24) : zch N m c s x := by
 have iv := zhd hc (lmg hx) hop (U := ⟨false, false, false, false, false, false, false, false, false, false, true, false, false, false, 0, 0⟩) rfl
 have hi : idx c.zD s.At = some x := by unfold idx; rw [ifp hs.at0, hx]
 have m8 := hc.m2
 have a0 := hs.at0
 have a1 := hs.at1
 have n240 := hc.len
 have wn1 : w6 (s.At + 1) = s.At + 1 := w6e
 unfold zch
 rw [zahm s hop, zag1 N _ hop, zafy N hop hi]
 simp only []
 obtain ⟨t, p1, p2, p3, p4, p5, p6, p7⟩ := zvq hs x.Text (iv.tx) n240
 rw [p1, p2, p3]
 refine .inr ⟨_, _, _, rfl, ?_, ?_, fun _ => ⟨rfl, by omega, by omega⟩, p4, p5, p6, p7⟩
 · show some (w6 (t.At + 1), _) = _; rw [p5, wn1]
 · show some (w6 (s.At + 1), _) = _; rw [wn1]
theorem zahl (s : zA) {x : zB} (hop : x.Op = 25) : zev s x = (if s.Marks = 300 then .ok (s.At + 1, updT s 3) else .ok (s.At + 1, updM s (s.Marks + 1))) := by
 cases x; cases hop; rfl
theorem zag0 (N : Nat) (M : zC) {x : zB} (hop : x.Op = 25) : zd N M x = (ze6 M).bind fun r => some (w6 (r.zA.At + 1), r) := by
 cases x; cases hop; rfl
theorem zafx (N : Nat) {x : zB} (hop : x.Op = 25) (hi : idx c.zD s.At = some x) : ze N c s = cond (s.Marks == 300) (some ((w6 (s.At + 1)), 0, updT s 3)) (some ((w6 (s.At + 1)), 0, updM s (w6 (s.Marks + 1)))) := by
 unfold ze
 rw [hi, obs]
 clear hi
 cases x; cases hop; rfl
theorem zada (N : Nat) (hN : 20000 < N) (hc : CodeV m c) (hs : StV m c s) {x : zB} (hx : c.zD[s.At.toNat]? = some x) (hop : x.Op = 25) : zch N m c s x := by
 have iv := zhd hc (lmg hx) hop (U := ⟨false, false, false, false, false, false, false, false, false, false, false, false, false, false, 0, 0⟩) rfl
 have hi : idx c.zD s.At = some x := by unfold idx; rw [ifp hs.at0, hx]
 have m8 := hc.m2
 have a0 := hs.at0
 have a1 := hs.at1
 have n240 := hc.len
 have wn1 : w6 (s.At + 1) = s.At + 1 := w6e
 unfold zch
 rw [zahl s hop, zag0 N _ hop, zafx N hop hi]
 have k0 := hs.mk0
 have k1 := hs.mk1
 unfold ze6
 simp only [zas]
 rw [w6e (n := s.Marks + 1), wn1]
 by_cases h : s.Marks = 300
 · rw [ifp h, dct h]; refine .inr ⟨_, _, _, rfl, ?_, rfl, fun _ => ⟨rfl, by omega, by omega⟩, hs.updT (by omega) (by omega), rfl, rfl, rfl⟩; show some (w6 (s.At + 1), _) = _; rw [wn1]; rfl
 · rw [ifn h, dcf h]; refine .inr ⟨_, _, _, rfl, ?_, rfl, fun _ => ⟨rfl, by omega, by omega⟩, hs.updM (by omega) (by omega), rfl, rfl, rfl⟩; show some (w6 (s.At + 1), _) = _; rw [wn1]; rfl
theorem zahk (s : zA) {x : zB} (hop : x.Op = 26) : zev s x = (.ok (s.At + 1, updT s 1)) := by
 cases x; cases hop; rfl
theorem zagz (N : Nat) (M : zC) {x : zB} (hop : x.Op = 26) : zd N M x = some (w6 (M.zA.At + 1), ⟨updT M.zA 1, M.code, M.raised⟩) := by
 cases x; cases hop; rfl
theorem zafw (N : Nat) {x : zB} (hop : x.Op = 26) (hi : idx c.zD s.At = some x) : ze N c s = some (w6 (s.At + 1), 0, updT s 1) := by
 unfold ze
 rw [hi, obs]
 clear hi
 cases x; cases hop; rfl
theorem zac9 (N : Nat) (hN : 20000 < N) (hc : CodeV m c) (hs : StV m c s) {x : zB} (hx : c.zD[s.At.toNat]? = some x) (hop : x.Op = 26) : zch N m c s x := by
 have iv := zhd hc (lmg hx) hop (U := ⟨false, false, false, false, false, false, false, false, false, false, false, false, false, false, 0, 0⟩) rfl
 have hi : idx c.zD s.At = some x := by unfold idx; rw [ifp hs.at0, hx]
 have m8 := hc.m2
 have a0 := hs.at0
 have a1 := hs.at1
 have n240 := hc.len
 have wn1 : w6 (s.At + 1) = s.At + 1 := w6e
 unfold zch
 rw [zahk s hop, zagz N _ hop, zafw N hop hi]
 rw [wn1]
 exact .inr ⟨_, _, _, rfl, rfl, rfl, fun _ => ⟨rfl, by omega, by omega⟩, hs.updT (by omega) (by omega), rfl, rfl, rfl⟩
theorem z1d (N : Nat) (hN : 20000 < N) (hc : CodeV m c) (hs : StV m c s) {x : zB} (hx : c.zD[s.At.toNat]? = some x) : zch N m c s x := by
 obtain ⟨⟨h0, h26⟩, _⟩ := zabk (hc.ins x (lmg hx))
 rcases (by omega : x.Op = 0 ∨ x.Op = 1 ∨ x.Op = 2 ∨ x.Op = 3 ∨ x.Op = 4 ∨ x.Op = 5 ∨ x.Op = 6 ∨ x.Op = 7 ∨ x.Op = 8 ∨ x.Op = 9 ∨ x.Op = 10 ∨ x.Op = 11 ∨ x.Op = 12 ∨ x.Op = 13 ∨ x.Op = 14 ∨ x.Op = 15 ∨ x.Op = 16 ∨ x.Op = 17 ∨ x.Op = 18 ∨ x.Op = 19 ∨ x.Op = 20 ∨ x.Op = 21 ∨ x.Op = 22 ∨ x.Op = 23 ∨ x.Op = 24 ∨ x.Op = 25 ∨ x.Op = 26) with h | h | h | h | h | h | h | h | h | h | h | h | h | h | h | h | h | h | h | h | h | h | h | h | h | h | h
 · exact zafh N hN hc hs hx h
 · exact zafg N hN hc hs hx h
 · exact zaff N hN hc hs hx h
 · exact zafe N hN hc hs hx h
 · exact zafd N hN hc hs hx h
 · exact zafc N hN hc hs hx h
 · exact zafb N hN hc hs hx h
 · exact zafa N hN hc hs hx h
 · exact zae9 N hN hc hs hx h
 · exact zae8 N hN hc hs hx h
 · exact zadp N hN hc hs hx h
 · exact zado N hN hc hs hx h
 · exact zadn N hN hc hs hx h
 · exact zadm N hN hc hs hx h
 · exact zadl N hN hc hs hx h
 · exact zadk N hN hc hs hx h
 · exact zadj N hN hc hs hx h
 · exact zadi N hN hc hs hx h
 · exact zadh N hN hc hs hx h
 · exact zadg N hN hc hs hx h
 · exact zadf N hN hc hs hx h
 · exact zade N hN hc hs hx h
 · exact zadd N hN hc hs hx h
 · exact zadc N hN hc hs hx h
 · exact zadb N hN hc hs hx h
 · exact zada N hN hc hs hx h
 · exact zac9 N hN hc hs hx h
end
section
variable {m : zI} {c : zF} {s : zA}
def zlh (t : zS) (a e : Int) : Bool := inB a t.From (t.To - 1) && (decide (t.Exception = 0) || decide (t.Exception = e))
def zyj (c : zF) (a e : Int) : Option Nat := (List.range c.zN.length).findSome? fun i => (c.zN[i]?).bind fun t => if zlh t a e = true then some i else none
def zgn (c : zF) (a e : Int) : Int := match zyj c a e with | some i => (c.zN.getD i ⟨0, 0, 0, 0⟩).Handler | none => -1
theorem z06 {a e : Int} {i : Nat} (h : zyj c a e = some i) : ∃ t, c.zN[i]? = some t ∧ zlh t a e = true := by
 obtain ⟨j, _, hj⟩ := eof h
 rw [Option.bind_eq_some_iff] at hj
 obtain ⟨t, ht, hj⟩ := hj
 split at hj
 · rename_i hh; cases hj; exact ⟨t, ht, hh⟩
 · cases hj
theorem zyv (hc : CodeV m c) {t : zS} (ht : t ∈ c.zN) : 0 ≤ t.From ∧ t.From ≤ t.To ∧ t.To ≤ (c.zD.length : Int) ∧ 0 ≤ t.Handler ∧ t.Handler < (c.zD.length : Int) := by
 have := hc.trap t ht
 unfold zqg at this
 simp only [Bool.and_eq_true, decide_eq_true_eq] at this
 obtain ⟨h1, h2, h3, h4⟩ := this
 have := za2.1 h1
 have := za2.1 h4
 omega
theorem z0i (hc : CodeV m c) (a e : Int) : zgn c a e = -1 ∨ (0 ≤ zgn c a e ∧ zgn c a e < (c.zD.length : Int)) := by
 unfold zgn
 cases h : zyj c a e with
 | none => exact .inl rfl
 | some i =>
  obtain ⟨t, ht, _⟩ := z06 h; right; simp only []; rw [gdd, ht]; have := zyv hc (lmg ht); exact this.2.2.2
theorem z61 (N : Nat) (hN : 20000 < N) (hc : CodeV m c) (a e : Int) : zhq N c a e = some (zgn c a e) := by
 have n40 := hc.traps
 have n240 := hc.len
 unfold zhq zn
 have l1 := zb5 (f := zn.r0 N) (fun i => (c.zN, (c.zN.length : Int), (i : Int), a, e)) (fun i => ((c.zN[i]?).bind fun t => if zlh t a e = true then some i else none).map fun i : Nat => (i : Int)) c.zN.length
  (fun i hi => by
   have hx := lge hi; have hf := zyv hc (List.getElem_mem hi); simp only [zn.r0, zn.b0, zap, hx, obs, dct (show (i : Int) < (c.zN.length : Int) by omega), ctr]; have e1 : zf0 c.zN[i] a e = some (zlh c.zN[i] a e) := by
    unfold zf0 zlh; rw [w6e, zma, zas, zas]; simp only [obs]; cases inB a c.zN[i].From (c.zN[i].To - 1) <;> cases decide (c.zN[i].Exception = 0) <;> cases decide (c.zN[i].Exception = e) <;> rfl
   rw [e1, w6e]; cases zlh c.zN[i] a e <;> rfl)
  (by simp only [zn.r0, zn.b0, dcf (show ¬ (c.zN.length : Int) < (c.zN.length : Int) by omega), cfa]) (N := N) (by omega)
 simp only [nc0] at l1
 rw [l1]
 have e2 : ∀ l : List Nat, l.findSome? (fun i => ((c.zN[i]?).bind fun t => if zlh t a e = true then some i else none).map fun i : Nat => (i : Int)) = (l.findSome? (fun i => (c.zN[i]?).bind fun t => if zlh t a e = true then some i else none)).map fun i : Nat => (i : Int) := by
  intro l
  induction l with
  | nil => rfl
  | cons i l ih =>
   rw [List.findSome?_cons, List.findSome?_cons]; cases (c.zN[i]?).bind fun t => if zlh t a e = true then some i else none with
   | none => exact ih
   | some j => rfl
 rw [e2]
 have e3 : (List.range c.zN.length).findSome? (fun i => (c.zN[i]?).bind fun t => if zlh t a e = true then some i else none) = zyj c a e := rfl
 rw [e3]
 unfold zgn
 cases h : zyj c a e with
 | none => rfl
 | some i =>
  obtain ⟨t, ht, _⟩ := z06 h; simp only [Option.map_some, zbs, obs]; rw [dcf (show ¬ ((i : Nat) : Int) < 0 by omega), cfa, zap, ht, gdd, ht]; rfl
theorem z6m (N : Nat) (hN : 20000 < N) (hc : CodeV m c) (a e : Int) : zd5 N c a e = some (zgn c a e) := by
 have n40 := hc.traps
 unfold zd5
 have l1 := zb5 (f := zd5.r0 N) (fun i => (a, e, (i : Int), c)) (fun i => ((c.zN[i]?).bind fun t => if zlh t a e = true then some i else none).map fun i : Nat => (c.zN.getD i ⟨0, 0, 0, 0⟩).Handler) c.zN.length
  (fun i hi => by
   have hx := lge hi; simp only [zd5.r0, zd5.b0, zap, hx, obs, dct (show (i : Int) < (c.zN.length : Int) by omega), ctr]; have e1 : ((cond (decide (c.zN[i].From ≤ a)) (some (decide (a < c.zN[i].To))) (some false)).bind fun g1002 => (cond g1002 ((cond (c.zN[i].Exception == 0) (some true) (some (c.zN[i].Exception == e))).bind fun g1003 => some g1003) (some false))) = some (zlh c.zN[i] a e) := by
    unfold zlh inB; rw [zas, zas, show decide (a ≤ c.zN[i].To - 1) = decide (a < c.zN[i].To) by rw [decide_eq_decide]; omega]; cases decide (c.zN[i].From ≤ a) <;> cases decide (a < c.zN[i].To) <;> cases decide (c.zN[i].Exception = 0) <;> cases decide (c.zN[i].Exception = e) <;> rfl
   rw [← Option.bind_assoc, e1, w6e]; simp only [obs]; cases zlh c.zN[i] a e with
   | false => rfl
   | true =>
    simp only [ctr, if_true, Option.map_some]; rw [gdd, hx]; rfl)
  (by simp only [zd5.r0, zd5.b0, dcf (show ¬ (c.zN.length : Int) < (c.zN.length : Int) by omega), cfa]) (N := N) (by omega)
 simp only [nc0] at l1
 rw [l1]
 have e2 : ∀ l : List Nat, l.findSome? (fun i => ((c.zN[i]?).bind fun t => if zlh t a e = true then some i else none).map fun i : Nat => (c.zN.getD i ⟨0, 0, 0, 0⟩).Handler) = (l.findSome? (fun i => (c.zN[i]?).bind fun t => if zlh t a e = true then some i else none)).map fun i : Nat => (c.zN.getD i ⟨0, 0, 0, 0⟩).Handler := by
  intro l
  induction l with
  | nil => rfl
  | cons i l ih =>
   rw [List.findSome?_cons, List.findSome?_cons]; cases (c.zN[i]?).bind fun t => if zlh t a e = true then some i else none with
   | none => exact ih
   | some j => rfl
 rw [e2]
 unfold zgn
 have : (List.range c.zN.length).findSome? (fun i => (c.zN[i]?).bind fun t => if zlh t a e = true then some i else none) = zyj c a e := rfl
 rw [this]
 cases zyj c a e <;> rfl
def updA (s : zA) (k : Int) : zA := ⟨s.Registers, s.Condition, s.Storage, k, s.Stack, s.Lines, s.Status, s.Exception, s.Marks, s.Steps⟩
def updE (s : zA) (k : Int) : zA := ⟨s.Registers, s.Condition, s.Storage, s.At, s.Stack, s.Lines, s.Status, k, s.Marks, s.Steps⟩
def updP (s : zA) (k : Int) : zA := ⟨s.Registers, s.Condition, s.Storage, s.At, s.Stack, s.Lines, s.Status, s.Exception, s.Marks, k⟩
theorem StV.updA (h : StV m c s) {k : Int} (h1 : 0 ≤ k) (h2 : k < (c.zD.length : Int)) : StV m c (updA s k) := {
 regs := h.regs, nums := h.nums, cnd := h.cnd, sto := h.sto, size := h.size, at0 := h1, at1 := h2, stk := h.stk, calls := h.calls, lines := h.lines, long := h.long, st0 := h.st0, st1 := h.st1, ex0 := h.ex0, ex1 := h.ex1, mk0 := h.mk0, mk1 := h.mk1, sp0 := h.sp0, sp1 := h.sp1 }
theorem StV.updE (h : StV m c s) {k : Int} (h1 : 0 ≤ k) (h2 : k ≤ 999) : StV m c (updE s k) := {
 regs := h.regs, nums := h.nums, cnd := h.cnd, sto := h.sto, size := h.size, at0 := h.at0, at1 := h.at1, stk := h.stk, calls := h.calls, lines := h.lines, long := h.long, st0 := h.st0, st1 := h.st1, ex0 := h1, ex1 := h2, mk0 := h.mk0, mk1 := h.mk1, sp0 := h.sp0, sp1 := h.sp1 }
theorem StV.updP (h : StV m c s) {k : Int} (h1 : 0 ≤ k) (h2 : k ≤ 3000) : StV m c (updP s k) := {
 regs := h.regs, nums := h.nums, cnd := h.cnd, sto := h.sto, size := h.size, at0 := h.at0, at1 := h.at1, stk := h.stk, calls := h.calls, lines := h.lines, long := h.long, st0 := h.st0, st1 := h.st1, ex0 := h.ex0, ex1 := h.ex1, mk0 := h.mk0, mk1 := h.mk1, sp0 := h1, sp1 := h2 }
def zg6 (c : zF) (e : Int) : Nat → zA → zA
 | 0, s => s
 | k + 1, s => if 0 ≤ zgn c s.At e then updA s (zgn c s.At e) else if s.Stack.length = 0 then updT s 2
  else zg6 c e k (updK (updA s (s.Stack.getD (s.Stack.length - 1) 0)) (s.Stack.take (s.Stack.length - 1)))
theorem zsv (N : Nat) (hN : 20000 < N) (hc : CodeV m c) (e : Int) (he : e ≠ 0) (z : zA) : ∀ (k : Nat) (s : zA), StV m c s → s.Stack.length < k → ∀ K : Nat, k ≤ K →
 zl (zaw.r0 N) K ⟨s, c, e⟩ = some (.inl ⟨zg6 c e k s, c, e⟩) ∧ zl (zf6.r0 N) K (e, c, s, z) = some (.inl (zg6 c e k s)) ∧ StV m c (zg6 c e k s) ∧ (zg6 c e k s).Steps = s.Steps ∧ (zg6 c e k s).Exception = s.Exception ∧
 (zg6 c e k s).Registers = s.Registers ∧ (zg6 c e k s).Storage = s.Storage ∧ (zg6 c e k s).Lines = s.Lines ∧ (zg6 c e k s).Condition = s.Condition ∧ (s.Status = 0 → (zg6 c e k s).Status = 0 ∨ (zg6 c e k s).Status = 2)
 | 0, s, _, h, _, _ => by omega
 | k + 1, s, hs, h, K, hK => by
  obtain ⟨K, rfl⟩ : ∃ J, K = J + 1 := ⟨K - 1, by omega⟩; have hh := z61 N hN hc s.At e; have hr := z6m N hN hc s.At e; have rg := z0i hc s.At e; have h6 := hs.stk; have n240 := hc.len; simp only [zl, zaw.r0, zaw.b0, zf6.r0, zf6.b0]; rw [hh, hr]; simp only [obs]; unfold zg6
  by_cases h0 : 0 ≤ zgn c s.At e
  · rw [ifp h0, dct (show zgn c s.At e ≥ 0 by omega), zb9, dct (show zgn c s.At e ≠ -1 by omega)]; exact ⟨rfl, rfl, hs.updA h0 (by omega), rfl, rfl, rfl, rfl, rfl, rfl, fun h => .inl h⟩
  · rw [ifn h0, dcf (show ¬ zgn c s.At e ≥ 0 by omega), zb9, dcf (show ¬ zgn c s.At e ≠ -1 by omega), zas, w6e (n := (s.Stack.length : Int) - 1)]
    by_cases hz : s.Stack.length = 0
    · rw [ifp hz, dct (show (s.Stack.length : Int) - 1 < 0 by omega), dct (show (s.Stack.length : Int) = 0 by omega)]; exact ⟨rfl, rfl, hs.updT (by omega) (by omega), rfl, rfl, rfl, rfl, rfl, rfl, fun _ => .inr rfl⟩
    · have hl : (s.Stack.length : Int) - 1 = ((s.Stack.length - 1 : Nat) : Int) := by omega
      have hx1 : s.Stack[s.Stack.length - 1]? = some (s.Stack.getD (s.Stack.length - 1) 0) := by rw [gdd, lge (by omega)]; rfl
      obtain ⟨hrr, _⟩ := hs.calls _ (lmg hx1); have hcl : ∀ l : List Int, l.length ≤ 6 → zdy 8 l = some l := fun l hl => by unfold zdy; rw [zax (by omega)]; rfl
      rw [ifn hz, dcf (show ¬ (s.Stack.length : Int) - 1 < 0 by omega), dcf (show ¬ (s.Stack.length : Int) = 0 by omega), hl, zap, hx1]; simp only [cfa, obs]; rw [ifp, ifp, ifp, ifp, itn, show (0 : Int).toNat = 0 from rfl, dr0, hcl _ (by rw [lnt]; omega)]; simp only [obs]; have hs2 : StV m c (updK (updA s (s.Stack.getD (s.Stack.length - 1) 0)) (s.Stack.take (s.Stack.length - 1))) := (hs.updA hrr.1 hrr.2).updK (by rw [lnt]; omega) fun i hi2 => hs.calls i (List.mem_of_mem_take hi2); exact zsv N hN hc e he z k _ hs2 (by show (s.Stack.take (s.Stack.length - 1)).length < k; rw [lnt]; omega) K (by omega)
def zm5 (s : zA) : zA := if s.Status = 0 ∧ s.Steps = 3000 then updT s 3 else s
def zql (c : zF) (s : zA) : zB := c.zD.getD s.At.toNat ⟨0, 0, 0, 0, 0, ⟨false, 0, 0⟩, ⟨false, 0, 0⟩, ⟨0, 0, 0⟩, ⟨0, 0, 0⟩, false, false, ⟨0, 0⟩, ⟨#[]⟩, ⟨#[]⟩, 0, 0, 0, 0⟩
def zlk (c : zF) (s : zA) : zA :=
 match zev (updP s (s.Steps + 1)) (zql c s) with
 | .error e => zm5 (zg6 c e (s.Stack.length + 1) (updE (updP s (s.Steps + 1)) e))
 | .ok (n, t) => if t.Status ≠ 0 then t else if n = (c.zD.length : Int) then updT t 1 else zm5 (updA t n)
theorem z3v (t : zA) : ((cond (t.Status == 0) (some (t.Steps == 3000)) (some false)).bind fun g => cond g (some (⟨t.Registers, t.Condition, t.Storage, t.At, t.Stack, t.Lines, 3, t.Exception, t.Marks, t.Steps⟩ : zA)) (some t)) = some (zm5 t) := by
 unfold zm5
 rw [zas, zas]
 by_cases h1 : t.Status = 0
 · rw [dct h1]
   by_cases h2 : t.Steps = 3000
   · rw [dct h2, ifp ⟨h1, h2⟩]; rfl
   · rw [dcf h2, ifn (fun h => h2 h.2)]; rfl
 · rw [dcf h1, ifn (fun h => h1 h.1)]; rfl
theorem z8z {t : zA} (h : StV m c t) : StV m c (zm5 t) ∧ (zm5 t).Steps = t.Steps ∧ ((zm5 t).Status = 0 → t.Steps ≠ 3000) := by
 unfold zm5
 split
 · exact ⟨h.updT (by omega) (by omega), rfl, fun h => by have h' : (3 : Int) = 0 := h; omega⟩
 · rename_i hn; exact ⟨h, rfl, fun h1 h2 => hn ⟨h1, h2⟩⟩
theorem z02 (hc : CodeV m c) (h : StV m c s) : ziq s = some s := by
 have h1 := h.regs
 have h2 := h.stk
 have h3 := h.lines
 have h4 := h.sto.le
 have h5 := h.sto.tags
 have h6 := hc.m2
 unfold ziq zk5 zjc
 rw [zax (by omega), ctr, z5m (by omega), obs, zax (by omega), ctr, obs, zax (by omega)]
 rfl
theorem z7v (N : Nat) (hN : 20000 < N) (hc : CodeV m c) (hs : StV m c s) (hrun : s.Status = 0) (h3 : s.Steps < 3000) :
 zgh N c s = some (zlk c s) ∧ ztx N c s = some (zlk c s) ∧ StV m c (zlk c s) ∧ (zlk c s).Steps = s.Steps + 1 ∧ ((zlk c s).Status = 0 → s.Steps + 1 < 3000) := by
 have a0 := hs.at0
 have a1 := hs.at1
 have p0 := hs.sp0
 have hx : c.zD[s.At.toNat]? = some (zql c s) := by
  unfold zql; rw [gdd, lge (by omega)]; rfl
 have hi : idx c.zD s.At = some (zql c s) := by unfold idx; rw [ifp a0, hx]
 have hs1 : StV m c (updP s (s.Steps + 1)) := hs.updP (by omega) (by omega)
 have hb := z1d N hN hc hs1 (x := zql c s) hx
 unfold zgh ztx
 rw [hi, z02 hc hs]
 simp only [obs, eS, eC]
 rw [w6e (n := s.Steps + 1)]
 show ((zd N ⟨updP s (s.Steps + 1), c, 0⟩ (zql c s)).bind _) = _ ∧ ((ze N c (updP s (s.Steps + 1))).bind _) = _ ∧ _
 unfold zlk
 rcases hb with ⟨e, nx, ny, t, g1, g2, g3, g4⟩ | ⟨n, k, t, g1, g3, g4, g5, g6, g7, g8, g9⟩
 · rw [g1, g3, g4]; simp only [obs]; have hse : StV m c (updE (updP s (s.Steps + 1)) e) := hs1.updE (by omega) (by omega); obtain ⟨k1, k2, k3, k4, k5, k6, k7, k8, k9, k10⟩ := zsv N hN hc e (by omega) ⟨[], 0, ⟨⟨#[]⟩, []⟩, 0, [], [], 0, 0, 0, 0⟩ (s.Stack.length + 1) _ hse (Nat.lt_succ_self _) N (by have := hs.stk; omega); rw [zb9, dct (show e ≠ 0 by omega)]; simp only [ctr]; have hf := z8z k3; have k4' : (zg6 c e (s.Stack.length + 1) (updE (updP s (s.Steps + 1)) e)).Steps = s.Steps + 1 := k4; refine ⟨?_, ?_, hf.1, hf.2.1.trans k4, fun h => ?_⟩
   · unfold zaw; show ((((zl (zaw.r0 N) N ⟨updE (updP s (s.Steps + 1)) e, c, e⟩).bind _)).bind _) = _; rw [k1]; exact z3v _
   · unfold zf6; show ((((zl (zf6.r0 N) N (e, c, updE (updP s (s.Steps + 1)) e, _)).bind _)).bind _) = _; rw [k2]; exact z3v _
   · have := hf.2.2 h; omega
 · rw [g1, g3, g4]; simp only [obs, bsf, cfa]; have g8' : t.Steps = s.Steps + 1 := g8; have e0 : (t.Status != 0) = decide (t.Status ≠ 0) := zb9 _ _; have e1 : (t.Status == 0) = decide (t.Status = 0) := zas _ _; rw [e0, e1]
   by_cases hst : t.Status = 0
   · obtain ⟨j1, j2, j3⟩ := g5 hst; subst j1; rw [dct hst, dcf (show ¬ t.Status ≠ 0 by omega), ifn (show ¬ t.Status ≠ 0 by omega)]; simp only [ctr, cfa, zas]
     by_cases hl : k = (c.zD.length : Int)
     · rw [dct hl, ifp hl]; exact ⟨rfl, rfl, g6.updT (by omega) (by omega), g8', fun h => by have h' : (1 : Int) = 0 := h; omega⟩
     · rw [dcf hl, ifn hl]; have hta : StV m c (updA t k) := g6.updA (by omega) (by omega); have hf := z8z hta; have f1 := z3v (updA t k); rw [zas, zas] at f1; have e2 : (updA t k).Status = t.Status := rfl; rw [e2, dct hst] at f1; refine ⟨f1, f1, hf.1, hf.2.1.trans g8', fun h => ?_⟩; have := hf.2.2 h; have e3 : (updA t k).Steps = t.Steps := rfl; have := g6.sp1; omega
   · rw [dcf hst, dct (show t.Status ≠ 0 from hst), ifp (show t.Status ≠ 0 from hst)]; exact ⟨rfl, rfl, g6, g8', fun h => absurd h hst⟩
end
theorem zad9 {m : zI} {c : zF} {n : Int} (h : ztv m c = (n, 0)) : (∀ x ∈ c.zD, zoz m c x = 0) ∧ (∀ t ∈ c.zN, zqg c t = true) ∧ n = (c.zD.length : Int) := by
 unfold ztv at h
 cases hf : (List.range c.zD.length).findSome? (gI m c) with
 | some r =>
  rw [hf] at h; simp only at h; subst h; obtain ⟨j, _, hj⟩ := eof hf; unfold gI at hj; rw [Option.bind_eq_some_iff] at hj; obtain ⟨y, _, hy⟩ := hj
  by_cases h1 : zoz m c y = 0
  · simp [h1] at hy
  · rw [ifn h1] at hy; simp only [Option.some.injEq, Prod.mk.injEq] at hy; exact absurd hy.2 h1
 | none =>
  rw [hf] at h; simp only at h; have hI : ∀ x ∈ c.zD, zoz m c x = 0 := fun x hx => by
   refine cbc fun h0 => ?_; obtain ⟨i, hi⟩ := List.getElem?_of_mem hx; rw [List.findSome?_eq_none_iff] at hf; have := hf i (List.mem_range.2 (gei hi).1); unfold gI at this; rw [hi, obs, ifn h0] at this; cases this
  cases hg : (List.range c.zN.length).findSome? (gT c) with
  | some r =>
   rw [hg] at h; simp only at h; subst h; obtain ⟨j, _, hj⟩ := eof hg; unfold gT at hj; rw [Option.bind_eq_some_iff] at hj; obtain ⟨y, _, hy⟩ := hj; split at hy
   · cases hy
   · simp only [Option.some.injEq, Prod.mk.injEq] at hy; cases hy.2
  | none =>
   rw [hg] at h; simp only [Prod.mk.injEq] at h; refine ⟨hI, fun t ht => ?_, h.1.symm⟩; refine cbc fun h0 => ?_; obtain ⟨i, hi⟩ := List.getElem?_of_mem ht; rw [List.findSome?_eq_none_iff] at hg; have := hg i (List.mem_range.2 (gei hi).1); unfold gT at this; rw [hi, obs, ifn h0] at this; cases this
theorem zad0 {s : Storage} {i : Int} (h : zi4 s = (i, 0)) (hn : ¬ true ∈ s.Tags) : zif s := by
 unfold zi4 at h
 split at h
 · cases h
 · split at h
   · cases h
   · split at h
     · cases h
     · rename_i h1 h2 h3; refine ⟨by omega, by omega, by omega, fun k hk => absurd (lmg hk) hn⟩
theorem zae6 (N : Nat) (hN : 1048600 < N) {m : zI} {c : zF} (hc : Wft En 1048576 Ty.zF c) {n : Int} (h : zq N m c = some (n, 0)) : CodeV m c ∧ n = (c.zD.length : Int) := by
 obtain ⟨e, _, he2, he3⟩ := zzj m
 obtain ⟨i1, e1, e2, _, hs2, hs⟩ := z19 N (by omega) c.Storage
 have hsp := (zkt N (by omega) c.Storage).2
 obtain ⟨w1, w2, w3, w4, w5⟩ := znm hc
 unfold zq at h
 try simp only [eS, eM, eC] at h
 rw [he2, hs2] at h
 simp only [obs] at h
 by_cases h0 : e = 0
 · subst h0; have hm := he3 rfl; simp only [bsf, cfa] at h
   by_cases h2 : e2 = 0
   · rcases hs with ⟨rfl, hs⟩ | ⟨ok, htl, _, _⟩
     · exact absurd h2 hs
     · subst h2; obtain ⟨l, hl1, hl2⟩ := z5j N c.Storage htl (by omega); rw [hl1] at h; simp only [bsf, cfa, obs, orB] at h; cases hd : decide ((l.length : Int) > 0) with
       | true => rw [hd] at h; cases h
       | false =>
        rw [hd] at h hl2; simp only [cfa] at h
        by_cases hz : (c.zD.length : Int) = 0
        · rw [hz] at h; cases h
        · rw [zas, dcf hz] at h; simp only [cfa] at h; cases hb : (decide ((c.zD.length : Int) > 240) || decide ((c.zN.length : Int) > 40)) with
          | true => rw [hb] at h; cases h
          | false =>
           rw [hb] at h; simp only [cfa] at h; have := z2s N hN hm ok hc; rw [this] at h; simp only [Bool.or_eq_false_iff, decide_eq_false_iff_not] at hb; obtain ⟨r1, r2, r3⟩ := zad9 (Option.some.inj h); have hn : ¬ true ∈ c.Storage.Tags := fun hh => by
            have := List.contains_iff_mem.2 hh; rw [← hl2] at this; cases this
           have hst : ∃ i, zi4 c.Storage = (i, 0) := by
            unfold zhz at hs2
            try simp only [eS] at hs2
            rw [hsp, obs] at hs2; exact ⟨(zi4 c.Storage).1, by rw [← Option.some.inj hs2]⟩
           obtain ⟨i, hi⟩ := hst; exact ⟨{ m1 := hm.1, m2 := hm.2, sto := zad0 hi hn, len := by omega, pos := by omega, traps := by omega, ins := r1, trap := r2 }, r3⟩
   · rw [zb9, dct h2] at h; simp only [ctr, Option.some.injEq, Prod.mk.injEq] at h; exact absurd h.2 h2
 · rw [zb9, dct h0] at h; simp only [ctr, Option.some.injEq, Prod.mk.injEq] at h; exact absurd h.2 h0
theorem z2j (N : Nat) (l : List ByteArray) (h : l.length < N) (hl : l.length < 1000000) : zbt N l l = some true := by
 unfold zbt
 simp only [bsf, cfa]
 have l1 := zb5 (f := zbt.r0 N) (fun i => (l, l, (i : Int))) (fun _ => none) l.length
  (fun i hi => by
   have hx := lge hi; simp only [zbt.r0, zbt.b0, zap, hx, obs, dct (show (i : Int) < (l.length : Int) by omega), ctr, bst, bnt, cfa]; rw [w6e]; rfl)
  (by simp only [zbt.r0, zbt.b0, dcf (show ¬ (l.length : Int) < (l.length : Int) by omega), cfa]) h
 simp only [nc0] at l1
 rw [l1]
 have : ∀ l : List Nat, l.findSome? (fun _ => (none : Option Bool)) = none := fun l => by rw [List.findSome?_eq_none_iff]; intros; rfl
 rw [this]
 rfl
theorem z6g (N : Nat) (l : List Bool) (h : l.length < N) (hl : l.length < 1000000) : zd4 N l l = some true := by
 unfold zd4
 simp only [bsf, cfa]
 have l1 := zb5 (f := zd4.r0 N) (fun i => (l, l, (i : Int))) (fun _ => none) l.length
  (fun i hi => by
   have hx := lge hi; simp only [zd4.r0, zd4.b0, zap, hx, obs, dct (show (i : Int) < (l.length : Int) by omega), ctr, bst, bnt, cfa]; rw [w6e]; rfl)
  (by simp only [zd4.r0, zd4.b0, dcf (show ¬ (l.length : Int) < (l.length : Int) by omega), cfa]) h
 simp only [nc0] at l1
 rw [l1]
 have : ∀ l : List Nat, l.findSome? (fun _ => (none : Option Bool)) = none := fun l => by rw [List.findSome?_eq_none_iff]; intros; rfl
 rw [this]
 rfl
theorem z9y (N : Nat) (s : Storage) (h : s.Tags.length < N) (hl : s.Tags.length < 1000000) : zen N s s = some true := by
 unfold zen
 rw [bst, ctr, z6g N _ h hl]
 rfl
theorem z2f (p : Nat → Bool) (n : Nat) {R : Type} (r : Nat → R) : (List.range n).any p = ((List.range n).findSome? fun i => if p i = true then some (r i) else none).isSome := by
 induction List.range n with
 | nil => rfl
 | cons a l ih =>
  rw [List.any_cons, List.findSome?_cons]; cases h : p a with
  | true => simp
  | false => simpa using ih
theorem z3q {σ : Type} {f : σ → Option (Round Int σ)} (S : Nat → σ) (p : Nat → Bool) (n : Nat) (h : ∀ i, i < n → f (S i) = some (if p i = true then .result (i : Int) else .again (S (i + 1)))) (hl : f (S n) = some (.leave (S n))) {N : Nat} (hN : n < N) :
 (((zl f N (S 0)).bind fun z2 => zbs z2 (fun z => some z) (fun _ => some (-1))).bind fun r1 => some (decide (r1 ≥ 0))) = some ((List.range n).any p) := by
 have l1 := zb5 (f := f) S (fun i => if p i = true then some (i : Int) else none) n (fun i hi => by rw [h i hi]; cases p i <;> rfl) hl hN
 rw [l1, z2f p n (fun i => (i : Int))]
 cases h2 : (List.range n).findSome? (fun i => if p i = true then some (i : Int) else none) with
 | none => rfl
 | some r =>
  obtain ⟨i, _, hi⟩ := eof h2; split at hi
  · injection hi with hi; subst hi; simp only [obs, zbs, Option.isSome_some]; rw [dct (by omega)]
  · cases hi
theorem zvj {σ : Type} {R : Type} {f : σ → Option (Round R σ)} (S : Nat → σ) (p : Nat → Bool) (e : R) (n : Nat) (h : ∀ i, i < n → f (S i) = some (if p i = true then .result e else .again (S (i + 1)))) (hl : f (S n) = some (.leave (S n))) {N : Nat} (hN : n < N) (K : σ → Option R) :
 ((zl f N (S 0)).bind fun z => zbs z (fun z => some z) K) = if (List.range n).any p = true then some e else K (S n) := by
 have l1 := zb5 (f := f) S (fun i => if p i = true then some e else none) n (fun i hi => by rw [h i hi]; cases p i <;> rfl) hl hN
 rw [l1, z2f p n (fun i => e)]
 cases h2 : (List.range n).findSome? (fun i => if p i = true then some e else none) with
 | none => rfl
 | some r =>
  obtain ⟨i, _, hi⟩ := eof h2; split at hi
  · injection hi with hi; subst hi; rfl
  · cases hi
def zeb (t : List Bool) : Nat → List Int
 | 0 => []
 | i + 1 => if t.getD i false = true then zeb t i ++ [(i : Int) * 16] else zeb t i
theorem zrf (t : List Bool) : ∀ i, (zeb t i).length ≤ i
 | 0 => Nat.le_refl 0
 | i + 1 => by
  have := zrf t i; unfold zeb; split
  · rw [lna, lns]; omega
  · omega
theorem zyd (t : List Bool) (o : Int) : ∀ i, o ∈ zeb t i ↔ ∃ k : Nat, k < i ∧ t.getD k false = true ∧ o = (k : Int) * 16
 | 0 => by simp [zeb]
 | i + 1 => by
  have ih := zyd t o i; unfold zeb; constructor
  · intro h; split at h
    · rename_i hi; rcases List.mem_append.1 h with h | h
      · obtain ⟨k, h1, h2⟩ := ih.1 h; exact ⟨k, by omega, h2⟩
      · rw [List.mem_singleton] at h; exact ⟨i, by omega, hi, h⟩
    · obtain ⟨k, h1, h2⟩ := ih.1 h; exact ⟨k, by omega, h2⟩
  · rintro ⟨k, h1, h2, h3⟩
    by_cases hk : k = i
    · subst hk; rw [ifp h2]; exact List.mem_append_right _ (by rw [h3]; exact List.mem_singleton_self _)
    · have := ih.2 ⟨k, by omega, h2, h3⟩; split
      · exact List.mem_append_left _ this
      · exact this
structure StoW (s : Storage) : Prop where
 le : s.Bytes.size ≤ 1024
 quad : s.Bytes.size % 16 = 0
 tags : s.Tags.length = s.Bytes.size / 16
 err : zi4 s = ((s.Tags.length : Int), 0)
 ptr : ∀ i, s.Tags[i]? = some true → (zja (zjf s i)).2 = 0
theorem zz4 {s : Storage} (h : (zi4 s).2 = 0) : StoW s := by
 have h0 := h
 unfold zi4 at h0
 split at h0
 · cases h0
 split at h0
 · cases h0
 split at h0
 · cases h0
 rename_i a1 a2 a3
 have ht : s.Tags.length = s.Bytes.size / 16 := cbc a3
 cases hf : (List.range s.Tags.length).findSome? (gS s) with
 | some r =>
  rw [hf] at h0; obtain ⟨i, _, hi⟩ := eof hf; unfold gS at hi; cases hx : s.Tags[i]? with
  | none => rw [hx] at hi; cases hi
  | some b =>
   rw [hx] at hi; simp only [obs] at hi; split at hi
   · injection hi with hi; subst hi; cases h0
   · cases hi
 | none =>
  refine ⟨by omega, by omega, ht, ?_, fun i hi => ?_⟩
  · unfold zi4; rw [ifn a1, ifn a2, ifn a3, hf]
  · rw [List.findSome?_eq_none_iff] at hf; have hl := (gei hi).1; have := hf i (List.mem_range.2 hl); unfold gS at this; rw [hi] at this; simp only [obs] at this; split at this
    · cases this
    · rename_i h5; exact cbc fun h6 => h5 ⟨trivial, h6⟩
def zys (s : Storage) (o : Int) : Bool := (zja (zjf s (o / 16).toNat)).1.Kind != 0 || (zja (zjf s (o / 16).toNat)).1.Address.zY != 1
theorem z0m (s : Storage) (k : Nat) : ((zja (zjf s k)).1.Kind != 0 || (zja (zjf s k)).1.Address.zY != 1) = zys s ((k : Int) * 16) := by
 unfold zys
 rw [show ((k : Int) * 16 / 16).toNat = k by omega]
theorem z40 (N : Nat) (s : Storage) (h : s.Tags.length ≤ 64) (hN : 2000 < N) : zaq N s = some (zeb s.Tags s.Tags.length) := by
 unfold zaq
 have l1 := zbe (f := zaq.r0 N) (fun i => (zeb s.Tags i, (i : Int), s)) s.Tags.length
  (fun i hi => by
   have hx := lge hi; have hg : s.Tags.getD i false = s.Tags[i] := by rw [gdd, hx]; rfl
   have := zrf s.Tags i; have rm : Nat.ble (((zeb s.Tags i).length + ([(w6 ((i : Int) * 16))] : List Int).length) * 8) zab = true := Nat.ble_eq_true_of_le (by unfold zab; simp; omega); simp only [zaq.r0, zaq.b0, zap, hx, obs, dct (show (i : Int) < (s.Tags.length : Int) by omega), ctr, rm]; rw [w6e (n := (i : Int) + 1), w6e (n := (i : Int) * 16), zeb, hg]; cases s.Tags[i] <;> rfl)
  (by simp only [zaq.r0, zaq.b0, dcf (show ¬ (s.Tags.length : Int) < (s.Tags.length : Int) by omega), cfa]) (N := N) (by omega)
 simp only [nc0] at l1
 exact congrArg (fun z => z.bind fun y1 => some y1.1) l1
theorem z4p (N : Nat) (s : Storage) (h : StoW s) (hN : 2000 < N) : zba N s = some (zeb s.Tags s.Tags.length, 0) := by
 have hle := h.le
 have htg := h.tags
 unfold zba
 rw [(zkt N hN s).1, h.err]
 simp only [obs, bsf, cfa]
 have l1 := zbe (f := zba.r0 N) (fun i => (zeb s.Tags i, s.Tags, (s.Tags.length : Int), (i : Int))) s.Tags.length
  (fun i hi => by
   have hx := lge hi; have hg : s.Tags.getD i false = s.Tags[i] := by rw [gdd, hx]; rfl
   have := zrf s.Tags i; have rm : Nat.ble (((zeb s.Tags i).length + ([(w6 ((i : Int) * 16))] : List Int).length) * 8) zab = true := Nat.ble_eq_true_of_le (by unfold zab; simp; omega); simp only [zba.r0, zba.b0, zap, hx, obs, dct (show (i : Int) < (s.Tags.length : Int) by omega), ctr, rm]; rw [w6e (n := (i : Int) + 1), w6e (n := (i : Int) * 16), zeb, hg]; cases s.Tags[i] <;> rfl)
  (by simp only [zba.r0, zba.b0, dcf (show ¬ (s.Tags.length : Int) < (s.Tags.length : Int) by omega), cfa]) (N := N) (by omega)
 simp only [nc0] at l1
 exact congrArg (fun z => z.bind fun y1 => some (y1.1, (0 : Int))) l1
theorem z9u (N : Nat) (hN : 2000 < N) {s : Storage} (h : StoW s) {k : Nat} (hk : s.Tags[k]? = some true) : zcw N s ((k : Int) * 16) = some (zja (zjf s k)) := by
 have hl := h.le
 have hq := h.quad
 have ht := h.tags
 have hi := (gei hk).1
 unfold zcw zgu
 rw [(zkt N hN s).1, h.err]
 simp only [obs, bsf, cfa]
 rw [dcf (show ¬ (k : Int) * 16 < 0 by omega), dcf (show ¬ (k : Int) * 16 ≥ (s.Bytes.size : Int) by omega), tme, show ((k : Int) * 16) % 16 = 0 by omega]
 simp only [bsf, cfa, obs]
 rw [tde, show ((k : Int) * 16) / 16 = (k : Int) by omega, w6e (n := (k : Int)), zap, hk]
 simp only [obs, bnt, cfa]
 rw [w6e, ifp, ifp, show ((k : Int) * 16).toNat = 16 * k by omega, show ((k : Int) * 16 + 16).toNat = 16 * k + 16 by omega, z17 N (by omega) _ (by rw [zcm _ _ _ (by omega) (by omega)]; omega), zke]
 rfl
theorem z96 (N : Nat) (hN : 2000 < N) {s : Storage} (h : StoW s) {k : Nat} (hk : s.Tags[k]? = some true) : ze2 N s ((k : Int) * 16) = some ((zja (zjf s k)).1, 0) := by
 have hl := h.le
 have hq := h.quad
 have ht := h.tags
 have hi := (gei hk).1
 unfold ze2 zdp
 rw [zgq, w6e, tme, show ((k : Int) * 16) % 16 = 0 by omega, show inB ((k : Int) * 16) 0 ((s.Bytes.size : Int) - 16) = true by unfold inB; rw [dct (by omega), dct (by omega)]; rfl]
 simp only [obs, bst, ctr, bnt, cfa]
 rw [tde, show ((k : Int) * 16) / 16 = (k : Int) by omega, w6e (n := (k : Int)), zap, hk]
 simp only [obs, bnt, cfa]
 unfold zih
 rw [w6e (n := (k : Int) * 16), w6e, ifp, ifp, show ((k : Int) * 16).toNat = 16 * k by omega, show ((k : Int) * 16 + 16).toNat = 16 * k + 16 by omega]
 simp only [obs]
 rw [z2r N (by omega) _ (by rw [zcm _ _ _ (by omega) (by omega)]; omega), zke]
 rfl
theorem z27 {s : Storage} {i : Nat} (h : i < (zeb s.Tags s.Tags.length).length) : ∃ k : Nat, s.Tags[k]? = some true ∧ (zeb s.Tags s.Tags.length)[i] = (k : Int) * 16 := by
 obtain ⟨k, h1, h2, h3⟩ := (zyd s.Tags _ _).1 (List.getElem_mem h)
 refine ⟨k, ?_, h3⟩
 rw [gdd, lge h1] at h2
 rw [lge h1]
 exact congrArg some h2
def z4j (s : Storage) : Bool := (List.range (zeb s.Tags s.Tags.length).length).any fun i => zys s ((zeb s.Tags s.Tags.length).getD i 0)
def zq2 (c : zF) (s : Storage) : Int := if (s.Bytes.size : Int) ≠ (c.Storage.Bytes.size : Int) then 18 else if (zi4 s).2 ≠ 0 then (zi4 s).2 else cond (z4j s) 22 0
theorem zaeu (N : Nat) (hN : 2000 < N) (c : zF) (s : Storage) : zfy N c s = some (zq2 c s) := by
 unfold zfy zq2
 by_cases h1 : (s.Bytes.size : Int) = (c.Storage.Bytes.size : Int)
 · rw [h1, ifn]; simp only [bsf, cfa]; rw [(zkt N hN s).1]; simp only [obs]
   by_cases h2 : (zi4 s).2 = 0
   · have hw := zz4 h2; have hle := hw.le; have htg := hw.tags; have hol := zrf s.Tags s.Tags.length; rw [h2, ifn]; simp only [bsf, cfa]; rw [z4p N s hw hN]; simp only [obs]; unfold zd6 zaj; have l1 := z3q (f := zaj.r0 N) (fun i => (zeb s.Tags s.Tags.length, ((zeb s.Tags s.Tags.length).length : Int), (i : Int), s)) (fun i => zys s ((zeb s.Tags s.Tags.length).getD i 0)) (zeb s.Tags s.Tags.length).length
      (fun i hi => by
       obtain ⟨k, k1, k2⟩ := z27 hi; have hx := lge hi; have hg : (zeb s.Tags s.Tags.length).getD i 0 = (k : Int) * 16 := by rw [gdd, hx, k2]; rfl
       simp only [zaj.r0, zaj.b0, zap, hx, obs, dct (show (i : Int) < ((zeb s.Tags s.Tags.length).length : Int) by omega), ctr, k2, hg, zf9]; rw [z9u N hN hw k1, w6e]; simp only [obs, orB]; rw [z0m]; cases zys s ((k : Int) * 16) <;> rfl)
      (by simp only [zaj.r0, zaj.b0, dcf (show ¬ ((zeb s.Tags s.Tags.length).length : Int) < ((zeb s.Tags s.Tags.length).length : Int) by omega), cfa]) (N := N) (by omega)
     simp only [nc0] at l1; rw [l1]; simp only [obs, zni]; rfl
   · rw [ifp h2, zb9, dct h2]; rfl
 · rw [ifp h1, zb9, dct h1]; rfl
theorem zacb (N : Nat) (hN : 2000 < N) {R : Type} (c : zF) (s : zA) (hw : StoW s.Storage) (K : (List Int) × Int × zF × zA → Option Int) :
 ((zl (zx.r2 N) N (zeb s.Storage.Tags s.Storage.Tags.length, 0, c, s)).bind fun z10 => zbs z10 (fun z => some z) K) = if z4j s.Storage = true then some 22 else K (zeb s.Storage.Tags s.Storage.Tags.length, ((zeb s.Storage.Tags s.Storage.Tags.length).length : Int), c, s) := by
 have hle := hw.le
 have htg := hw.tags
 have hol := zrf s.Storage.Tags s.Storage.Tags.length
 have l1 := zvj (f := zx.r2 N) (fun i => (zeb s.Storage.Tags s.Storage.Tags.length, (i : Int), c, s)) (fun i => zys s.Storage ((zeb s.Storage.Tags s.Storage.Tags.length).getD i 0)) 22 (zeb s.Storage.Tags s.Storage.Tags.length).length
  (fun i hi => by
   obtain ⟨k, k1, k2⟩ := z27 hi; have hx := lge hi; have hg : (zeb s.Storage.Tags s.Storage.Tags.length).getD i 0 = (k : Int) * 16 := by rw [gdd, hx, k2]; rfl
   simp only [zx.r2, zx.b2, zap, hx, obs, dct (show (i : Int) < ((zeb s.Storage.Tags s.Storage.Tags.length).length : Int) by omega), ctr, k2, hg]; rw [z96 N hN hw k1, w6e]; simp only [obs, orB]; rw [z0m]; cases zys s.Storage ((k : Int) * 16) <;> rfl)
  (by simp only [zx.r2, zx.b2, dcf (show ¬ ((zeb s.Storage.Tags s.Storage.Tags.length).length : Int) < ((zeb s.Storage.Tags s.Storage.Tags.length).length : Int) by omega), cfa]) (N := N) (by omega) K
 simp only [nc0] at l1
 exact l1
theorem z9w {n : Nat} {s : zA} (h : Wft En n Ty.zA s) : s.Storage.Bytes.size ≤ n ∧ s.Storage.Tags.length ≤ n ∧ s.Registers.length ≤ n ∧ s.Stack.length ≤ n ∧ s.Lines.length ≤ n := by
 have h1 := h (.sc (.string s.Storage.Bytes)) (by show _ ∈ zid s; simp [zid])
 have h2 := h (.lst Ty.bool s.Storage.Tags) (by show _ ∈ zid s; simp [zid])
 have h3 := h (.lst Ty.Number s.Registers) (by show _ ∈ zid s; simp [zid])
 have h4 := h (.lst (Ty.int .i64) s.Stack) (by show _ ∈ zid s; simp [zid])
 have h5 := h (.lst Ty.str s.Lines) (by show _ ∈ zid s; simp [zid])
 cases h1 with
 | str h1 =>
  cases h2 with
  | lst h2 _ =>
   cases h3 with
   | lst h3 _ =>
    cases h4 with
    | lst h4 _ =>
     cases h5 with
     | lst h5 _ => exact ⟨h1, h2, h3, h4, h5⟩
def zrs (c : zF) (k : Int) : Bool := !inB k 0 ((c.zD.length : Int) - 1) || (c.zD.getD k.toNat ⟨0, 0, 0, 0, 0, ⟨false, 0, 0⟩, ⟨false, 0, 0⟩, ⟨0, 0, 0⟩, ⟨0, 0, 0⟩, false, false, ⟨0, 0⟩, ⟨#[]⟩, ⟨#[]⟩, 0, 0, 0, 0⟩).Op != 18
theorem z8v {α : Type} (d : α) {l : List α} {k : Int} (h : inB k 0 ((l.length : Int) - 1) = true) : idx l k = some (l.getD k.toNat d) := by
 unfold inB at h
 rw [Bool.and_eq_true, decide_eq_true_iff, decide_eq_true_iff] at h
 obtain ⟨j, rfl⟩ : ∃ j : Nat, k = (j : Int) := ⟨k.toNat, by omega⟩
 rw [zap, itn, gdd, lge (by omega)]
 rfl
theorem zaas (c : zF) (hlen : c.zD.length < 1000000000) (k : Int) : zez k (c.zD.length : Int) c = some (zrs c k) := by
 unfold zez zrs
 rw [w6e, zma]
 simp only [obs]
 cases h : inB k 0 ((c.zD.length : Int) - 1) with
 | false => rfl
 | true =>
  rw [z8v ⟨0, 0, 0, 0, 0, ⟨false, 0, 0⟩, ⟨false, 0, 0⟩, ⟨0, 0, 0⟩, ⟨0, 0, 0⟩, false, false, ⟨0, 0⟩, ⟨#[]⟩, ⟨#[]⟩, 0, 0, 0, 0⟩ h]; rfl
theorem zaac (c : zF) (hlen : c.zD.length < 1000000000) (k : Int) : ((zf k 0 (w6 ((c.zD.length : Int) - 1))).bind fun r => (cond (!r) (some true) ((idx c.zD k).bind fun x => some (x.Op != 18)))) = some (zrs c k) := by
 unfold zrs
 rw [w6e, zgq]
 simp only [obs]
 cases h : inB k 0 ((c.zD.length : Int) - 1) with
 | false => rfl
 | true =>
  rw [z8v ⟨0, 0, 0, 0, 0, ⟨false, 0, 0⟩, ⟨false, 0, 0⟩, ⟨0, 0, 0⟩, ⟨0, 0, 0⟩, false, false, ⟨0, 0⟩, ⟨#[]⟩, ⟨#[]⟩, 0, 0, 0, 0⟩ h]; rfl
def z7h (c : zF) (l : List Int) : Bool := (List.range l.length).any fun i => zrs c (l.getD i 0)
def z7g (l : List ByteArray) : Bool := (List.range l.length).any fun i => decide (((l.getD i ⟨#[]⟩).size : Int) > 256)
def z4k (l : List Number) : Bool := (List.range l.length).any fun i => decide (zlg (l.getD i ⟨0, 0⟩) ≠ 0)
theorem zkj {α : Type} (d : α) {l : List α} {i : Nat} (h : i < l.length) : l.getD i d = l[i] := by
 rw [gdd, lge h]; rfl
theorem zaar (N : Nat) (c : zF) (hlen : c.zD.length < 1000000000) (l : List Int) (h : l.length < N) (hl : l.length < 1000000000) : zde N l (c.zD.length : Int) c = some (z7h c l) := by
 unfold zde zam
 have l1 := z3q (f := zam.r0 N) (fun i => (l, (l.length : Int), (i : Int), (c.zD.length : Int), c)) (fun i => zrs c (l.getD i 0)) l.length
  (fun i hi => by
   have hx := lge hi; simp only [zam.r0, zam.b0, zap, hx, obs, dct (show (i : Int) < (l.length : Int) by omega), ctr, zaas c hlen, zkj 0 hi]; rw [w6e]; cases zrs c l[i] <;> rfl)
  (by simp only [zam.r0, zam.b0, dcf (show ¬ (l.length : Int) < (l.length : Int) by omega), cfa]) (N := N) h
 simp only [nc0] at l1
 exact l1
theorem zaaq (N : Nat) (l : List ByteArray) (h : l.length < N) (hl : l.length < 1000000000) : zcn N l = some (z7g l) := by
 unfold zcn z9
 have l1 := z3q (f := z9.r0 N) (fun i => (l, (l.length : Int), (i : Int))) (fun i => decide (((l.getD i ⟨#[]⟩).size : Int) > 256)) l.length
  (fun i hi => by
   have hx := lge hi; simp only [z9.r0, z9.b0, zap, hx, obs, dct (show (i : Int) < (l.length : Int) by omega), ctr, zgb, zkj _ hi]; rw [w6e]; cases decide ((l[i].size : Int) > 256) <;> rfl)
  (by simp only [z9.r0, z9.b0, dcf (show ¬ (l.length : Int) < (l.length : Int) by omega), cfa]) (N := N) h
 simp only [nc0] at l1
 exact l1
theorem zaab (N : Nat) (c : zF) (hlen : c.zD.length < 1000000000) (s : zA) (h : s.Stack.length < N) (hl : s.Stack.length < 1000000000) (K : Int × zF × zA → Option Int) :
 ((zl (zx.r4 N) N (0, c, s)).bind fun z => zbs z (fun z => some z) K) = if z7h c s.Stack = true then some 3 else K ((s.Stack.length : Int), c, s) := by
 have l1 := zvj (f := zx.r4 N) (fun i => ((i : Int), c, s)) (fun i => zrs c (s.Stack.getD i 0)) 3 s.Stack.length
  (fun i hi => by
   have hx := lge hi; have hk := zaac c hlen s.Stack[i]; simp only [zx.r4, zx.b4, zap, hx, obs, dct (show (i : Int) < (s.Stack.length : Int) by omega), ctr, zkj _ hi]; rw [w6e (n := (i : Int) + 1)]; rw [← Option.bind_assoc, hk]; simp only [obs]; cases zrs c s.Stack[i] <;> rfl)
  (by simp only [zx.r4, zx.b4, dcf (show ¬ (s.Stack.length : Int) < (s.Stack.length : Int) by omega), cfa]) (N := N) h K
 simp only [nc0] at l1
 exact l1
theorem z97 (N : Nat) (s : zA) (h : s.Lines.length < N) (hl : s.Lines.length < 1000000000) (K : Int × zA → Option Int) :
 ((zl (zx.r6 N) N (0, s)).bind fun z => zbs z (fun z => some z) K) = if z7g s.Lines = true then some 18 else K ((s.Lines.length : Int), s) := by
 have l1 := zvj (f := zx.r6 N) (fun i => ((i : Int), s)) (fun i => decide (((s.Lines.getD i ⟨#[]⟩).size : Int) > 256)) 18 s.Lines.length
  (fun i hi => by
   have hx := lge hi; simp only [zx.r6, zx.b6, zap, hx, obs, dct (show (i : Int) < (s.Lines.length : Int) by omega), ctr, zkj _ hi]; rw [w6e]; cases decide ((s.Lines[i].size : Int) > 256) <;> rfl)
  (by simp only [zx.r6, zx.b6, dcf (show ¬ (s.Lines.length : Int) < (s.Lines.length : Int) by omega), cfa]) (N := N) h K
 simp only [nc0] at l1
 exact l1
theorem z29 (n : Number) : zlg n = 0 ∨ zlg n = 3 := by
 unfold zlg
 cases (inB n.N (-999999999999999) 999999999999999 && inB n.Scale 0 15) with
 | true => exact .inl rfl
 | false => exact .inr rfl
theorem zacd (N : Nat) (c : zF) (s : zA) (h : s.Registers.length < N) (hl : s.Registers.length < 1000000000) (K : Int × zF × zA → Option Int) :
 ((zl (zx.r0 N) N (0, c, s)).bind fun z => zbs z (fun z => some z) K) = if z4k s.Registers = true then some 3 else K ((s.Registers.length : Int), c, s) := by
 have l1 := zvj (f := zx.r0 N) (fun i => ((i : Int), c, s)) (fun i => decide (zlg (s.Registers.getD i ⟨0, 0⟩) ≠ 0)) 3 s.Registers.length
  (fun i hi => by
   have hx := lge hi; simp only [zx.r0, zx.b0, zap, hx, obs, dct (show (i : Int) < (s.Registers.length : Int) by omega), ctr, zkj _ hi, zpo]; rw [w6e]; rcases z29 s.Registers[i] with e | e <;> rw [e] <;> rfl)
  (by simp only [zx.r0, zx.b0, dcf (show ¬ (s.Registers.length : Int) < (s.Registers.length : Int) by omega), cfa]) (N := N) h K
 simp only [nc0] at l1
 exact l1
theorem zacw (N : Nat) (c : zF) (s : zA) (h : s.Registers.length < N) (hl : s.Registers.length < 1000000000) (K : List Number × Int × Int × zF × zA → Option Int) :
 ((zl (zan.r0 N) N (s.Registers, (s.Registers.length : Int), 0, c, s)).bind fun z => zbs z (fun z => some z) K) = if z4k s.Registers = true then some 3 else K (s.Registers, (s.Registers.length : Int), (s.Registers.length : Int), c, s) := by
 have l1 := zvj (f := zan.r0 N) (fun i => (s.Registers, (s.Registers.length : Int), (i : Int), c, s)) (fun i => decide (zlg (s.Registers.getD i ⟨0, 0⟩) ≠ 0)) 3 s.Registers.length
  (fun i hi => by
   have hx := lge hi; simp only [zan.r0, zan.b0, zap, hx, obs, dct (show (i : Int) < (s.Registers.length : Int) by omega), ctr, zkj _ hi, zko]; rw [w6e]; rcases z29 s.Registers[i] with e | e <;> rw [e] <;> rfl)
  (by simp only [zan.r0, zan.b0, dcf (show ¬ (s.Registers.length : Int) < (s.Registers.length : Int) by omega), cfa]) (N := N) h K
 simp only [nc0] at l1
 exact l1
def z6x (s : zA) : Prop := s.Storage.Bytes.size ≤ 1048576 ∧ s.Storage.Tags.length ≤ 1048576 ∧ s.Registers.length ≤ 1048576 ∧ s.Stack.length ≤ 1048576 ∧ s.Lines.length ≤ 1048576
def zwv (s : zA) : Bool := (((s.Condition == 0 || s.Condition == 1) || s.Condition == 2) || s.Condition == 4)
def lstS (c : zF) (s : zA) : List Int := [cond (!zwv s) 3 0, zq2 c s.Storage, cond (!inB s.At 0 ((c.zD.length : Int) - 1)) 3 0,
 cond (decide ((s.Stack.length : Int) > 6) || decide ((s.Lines.length : Int) > 40)) 2 0, cond (z7h c s.Stack) 3 0, cond (z7g s.Lines) 18 0, cond (!inB s.Status 0 3) 4 0,
 cond (!((inB s.Exception 0 999 && inB s.Marks 0 300) && inB s.Steps 0 3000)) 3 0]
def zuj (e0 : Int) (m : zI) (c : zF) (s : zA) : Int := if e0 ≠ 0 then e0 else if (s.Registers.length : Int) ≠ m.Registers then 6 else if z4k s.Registers = true then 3 else zcv (lstS c s)
theorem zaan (N : Nat) (hN : 1048600 < N) {m : zI} {c : zF} {s : zA} (hc : Wft En 1048576 Ty.zF c) (hs : z6x s) {e0 : Int} (k1 : zej N m c = some e0) :
 zan N m c s = some (zuj e0 m c s) := by
 obtain ⟨_, _, ci, _, _⟩ := znm hc
 obtain ⟨w1, w2, w3, w4, w5⟩ := hs
 have f2 : ∀ a b : Int, zw N [a, b] = some (zcv [a, b]) := fun a b => zow N _ (by simp; omega) (by simp)
 have f8 : ∀ a b d e f g h i : Int, zw N [a, b, d, e, f, g, h, i] = some (zcv [a, b, d, e, f, g, h, i]) := fun a b d e f g h i => zow N _ (by simp; omega) (by simp)
 unfold zan zuj
 rw [k1]
 simp only [obs, zni, f2]
 by_cases h0 : e0 = 0
 · rw [h0, ifn]
   by_cases h1 : (s.Registers.length : Int) = m.Registers
   · rw [h1, ifn]; rw [show zcv [0, cond (m.Registers != m.Registers) 6 0] = 0 by rw [bsf]; rfl]; simp only [bsf, cfa]; rw [← h1, zacw N c s (by omega) (by omega)]; cases z4k s.Registers with
     | true => rfl
     | false =>
      simp only [Bool.false_eq_true, if_false, orB, obs]; rw [zaar N c (by omega) s.Stack (by omega) (by omega), zaaq N s.Lines (by omega) (by omega), zaeu N (by omega)]; simp only [obs, zma, zl4, w6e (n := (c.zD.length : Int) - 1), f8, Bool.not_not]; rfl
   · rw [ifp h1, show zcv [0, cond ((s.Registers.length : Int) != m.Registers) 6 0] = 6 by rw [zb9, dct h1]; rfl]; rfl
 · rw [ifp h0, show zcv [e0, cond ((s.Registers.length : Int) != m.Registers) 6 0] = e0 by unfold zcv; rw [ifn h0]]; rw [zb9, dct h0]; rfl
theorem zkq (x : Int) (l : List Int) : zcv (x :: l) = if x = 0 then zcv l else x := rfl
theorem z94 (N : Nat) (hN : 1048600 < N) {m : zI} {c : zF} {s : zA} (hc : Wft En 1048576 Ty.zF c) (hs : z6x s) {e0 : Int} (k2 : zg8 N m c = some e0) :
 zx N m c s = some (zuj e0 m c s) := by
 obtain ⟨_, _, ci, _, _⟩ := znm hc
 obtain ⟨w1, w2, w3, w4, w5⟩ := hs
 unfold zx zuj
 rw [k2]
 simp only [obs]
 by_cases h0 : e0 = 0
 case neg => rw [ifp h0, zb9, dct h0]; rfl
 rw [h0, ifn]
 simp only [bsf, cfa]
 by_cases h1 : (s.Registers.length : Int) = m.Registers
 case neg => rw [ifp h1, zb9, dct h1]; rfl
 rw [h1, ifn]
 simp only [bsf, cfa]
 rw [zacd N c s (by omega) (by omega)]
 cases z4k s.Registers with
 | true => rfl
 | false =>
  simp only [Bool.false_eq_true, if_false, zl4, obs]; have hcb : ((((s.Condition != 0) && (s.Condition != 1)) && (s.Condition != 2)) && (s.Condition != 4)) = !zwv s := by
   unfold zwv bne; cases s.Condition == 0 <;> cases s.Condition == 1 <;> cases s.Condition == 2 <;> cases s.Condition == 4 <;> rfl
  rw [hcb]; unfold lstS; cases zwv s with
  | false => rfl
  | true =>
   simp only [bnt, cfa]; rw [zkq, ifp rfl, zkq]
   by_cases h2 : (s.Storage.Bytes.size : Int) = (c.Storage.Bytes.size : Int)
   case neg => rw [show zq2 c s.Storage = 18 by unfold zq2; rw [ifp h2], zb9, dct h2]; rfl
   rw [show ((s.Storage.Bytes.size : Int) != (c.Storage.Bytes.size : Int)) = false by rw [h2]; exact bsf _]; simp only [cfa]; rw [show zhz N s.Storage = some (zi4 s.Storage).2 from (by unfold zhz; (try simp only [eS]); rw [(zkt N (by omega) s.Storage).2]; rfl)]; simp only [obs]
   by_cases h3 : (zi4 s.Storage).2 = 0
   case neg => rw [show zq2 c s.Storage = (zi4 s.Storage).2 by unfold zq2; rw [ifn (fun h => h h2), ifp h3], zb9, dct h3, ifn h3]; rfl
   have hw := zz4 h3; have hle := hw.le; have htg := hw.tags; rw [show zq2 c s.Storage = cond (z4j s.Storage) 22 0 by unfold zq2; rw [ifn (fun h => h h2), ifn (fun h => h h3)], h3]; simp only [bsf, cfa]; rw [z40 N s.Storage (by omega) (by omega)]; simp only [obs]; rw [zacb N (by omega) (R := Int) c s hw]; cases z4j s.Storage with
   | true => rfl
   | false =>
    simp only [Bool.false_eq_true, if_false, cfa, if_true, eq_self, zgq, w6e (n := (c.zD.length : Int) - 1), obs]; rw [zkq]; cases inB s.At 0 ((c.zD.length : Int) - 1) with
    | false => rfl
    | true =>
     simp only [bnt, cfa, if_true, eq_self, orB, obs]; rw [zkq]; cases (decide ((s.Stack.length : Int) > 6) || decide ((s.Lines.length : Int) > 40)) with
     | true => rfl
     | false =>
      simp only [cfa, if_true, eq_self]; rw [zaab N c (by omega) s (by omega) (by omega), zkq]; cases z7h c s.Stack with
      | true => rfl
      | false =>
       simp only [Bool.false_eq_true, if_false, cfa, if_true, eq_self]; rw [z97 N s (by omega) (by omega), zkq]; cases z7g s.Lines with
       | true => rfl
       | false =>
        simp only [Bool.false_eq_true, if_false, cfa, if_true, eq_self, zgq, obs]; rw [zkq]; cases inB s.Status 0 3 with
        | false => rfl
        | true =>
         simp only [bnt, cfa, if_true, eq_self]; cases inB s.Exception 0 999 <;> cases inB s.Marks 0 300 <;> cases inB s.Steps 0 3000 <;> rfl
theorem z09 : ∀ (l : List Int), zcv l = 0 ↔ ∀ x ∈ l, x = 0
 | [] => by simp [zcv]
 | x :: l => by
  rw [zkq, List.forall_mem_cons, ← z09 l]
  by_cases h : x = 0
  · rw [ifp h]; exact ⟨fun h1 => ⟨h, h1⟩, fun h1 => h1.2⟩
  · rw [ifn h]; exact ⟨fun h1 => absurd h1 h, fun h1 => h1.1⟩
theorem zsf {p : Nat → Bool} {n : Nat} (h : (List.range n).any p = false) {i : Nat} (hi : i < n) : p i = false := by
 rw [List.any_eq_false] at h
 exact Bool.eq_false_iff.2 (h i (List.mem_range.2 hi))
theorem zack {l : List UInt8} (h : (zja l).2 = 0) : zja l = (zrd l, 0) ∧ zm7 (zrd l) = 0 := by
 unfold zja at h ⊢
 split at h
 · cases h
 · rename_i h1; rw [ifn h1]; split at h
   · rename_i h2; exact absurd h h2
   · rename_i h2; rw [ifn h2]; exact ⟨rfl, cbc h2⟩
theorem zaa2 {p : Pointer} (h : zm7 p = 0) (hk : p.Kind = 0) (hs : p.Address.zY = 1) : p = zh0 p.Address.Offset ∧ 0 ≤ p.Address.Offset ∧ p.Address.Offset ≤ 16777215 := by
 obtain ⟨k, ⟨g, o⟩, a⟩ := p
 subst hk hs
 unfold zm7 at h
 simp only at h ⊢
 rw [show inB (0 : Int) 0 2 = true from rfl, show inB (1 : Int) 0 1099511627775 = true from rfl] at h
 simp only [bnt, cfa, Bool.false_or, Bool.and_true, show ((0 : Int) != 1) = true from rfl] at h
 cases h1 : inB o 0 16777215 with
 | false => rw [h1] at h; cases h
 | true =>
  rw [h1] at h; cases h2 : inB a 0 1023 with
  | false => rw [h2] at h; cases h
  | true =>
   rw [h2] at h
   by_cases h3 : a = 0
   · subst h3; rw [za2] at h1; exact ⟨rfl, h1.1, h1.2⟩
   · rw [zb9, dct h3] at h; cases h
theorem z9v {s : Storage} {k : Nat} (h : s.Tags[k]? = some true) : ∃ i, i < (zeb s.Tags s.Tags.length).length ∧ (zeb s.Tags s.Tags.length).getD i 0 = (k : Int) * 16 := by
 have hl := (gei h).1
 have hm : (k : Int) * 16 ∈ zeb s.Tags s.Tags.length := (zyd _ _ _).2 ⟨k, hl, by rw [gdd, h]; rfl, rfl⟩
 obtain ⟨i, hi, he⟩ := List.getElem_of_mem hm
 exact ⟨i, hi, by rw [zkj _ hi, he]⟩
theorem z7u {c : zF} {s : Storage} (h : zq2 c s = 0) : s.Bytes.size = c.Storage.Bytes.size ∧ zif s := by
 unfold zq2 at h
 split at h
 · cases h
 rename_i h1
 split at h
 · rename_i h2; exact absurd h h2
 rename_i h2
 have hw := zz4 (cbc h2)
 cases h3 : z4j s with
 | true => rw [h3] at h; cases h
 | false =>
  refine ⟨by omega, hw.le, hw.quad, hw.tags, fun i hi => ?_⟩; obtain ⟨j, j1, j2⟩ := z9v hi; have hb := zsf h3 j1; rw [j2, ← z0m, Bool.or_eq_false_iff] at hb; obtain ⟨p1, p2⟩ := zack (hw.ptr i hi); rw [p1, zb9, zb9, decide_eq_false_iff_not, decide_eq_false_iff_not] at hb; obtain ⟨c1, c2⟩ := zaa2 p2 (cbc hb.1) (cbc hb.2); exact ⟨_, c2, by rw [p1, ← c1]⟩
theorem z9b (s : zA) : zwv s = true ↔ (s.Condition = 0 ∨ s.Condition = 1 ∨ s.Condition = 2 ∨ s.Condition = 4) := by
 unfold zwv
 simp only [Bool.or_eq_true, beq_iff_eq, or_assoc]
theorem zaa6 (c : zF) (k : Int) : zrs c k = false ↔ (0 ≤ k ∧ k < (c.zD.length : Int)) ∧ ∃ x, c.zD[k.toNat]? = some x ∧ x.Op = 18 := by
 unfold zrs
 rw [Bool.or_eq_false_iff, Bool.not_eq_false', za2, zb9, decide_eq_false_iff_not, Classical.not_not]
 constructor
 · rintro ⟨h1, h2⟩
   have hl : k.toNat < c.zD.length := by omega
   rw [zkj _ hl] at h2; exact ⟨by omega, _, lge hl, h2⟩
 · rintro ⟨h1, x, h2, h3⟩
   refine ⟨by omega, ?_⟩; rw [gdd, h2]; exact h3
theorem cnd0 {b : Bool} {e : Int} (he : e ≠ 0) : cond b e 0 = 0 ↔ b = false := by
 cases b
 · simp
 · simp [he]
theorem z84 {e0 : Int} {m : zI} {c : zF} {s : zA} (h : zuj e0 m c s = 0) : e0 = 0 ∧ StV m c s := by
 unfold zuj at h
 split at h
 · rename_i h1; exact absurd h h1
 rename_i h1
 split at h
 · cases h
 rename_i h2
 split at h
 · cases h
 rename_i h3
 rw [Bool.not_eq_true] at h3
 rw [z09] at h
 simp only [lstS, List.forall_mem_cons, List.not_mem_nil, false_imp_iff, implies_true, and_true] at h
 obtain ⟨a1, a2, a3, a4, a5, a6, a7, a8⟩ := h
 rw [cnd0 (by decide)] at a1 a3 a4 a5 a6 a7 a8
 rw [Bool.not_eq_false'] at a1 a3 a7 a8
 rw [Bool.or_eq_false_iff, decide_eq_false_iff_not, decide_eq_false_iff_not] at a4
 rw [Bool.and_eq_true, Bool.and_eq_true, za2, za2, za2] at a8
 rw [za2] at a3 a7
 obtain ⟨s1, s2⟩ := z7u a2
 refine ⟨cbc h1, {
  regs := cbc h2
  nums := fun r hr => by
   obtain ⟨i, hi, he⟩ := List.getElem_of_mem hr; have := zsf h3 hi; rw [zkj _ hi, he, decide_eq_false_iff_not, Classical.not_not] at this; exact zkh.1 this
  cnd := (z9b s).1 a1
  sto := s2
  size := s1
  at0 := a3.1
  at1 := by omega
  stk := by omega
  calls := fun k hk => by
   obtain ⟨i, hi, he⟩ := List.getElem_of_mem hk; have := zsf a5 hi; rw [zkj _ hi, he] at this; exact (zaa6 c k).1 this
  lines := by omega
  long := fun l hl => by
   obtain ⟨i, hi, he⟩ := List.getElem_of_mem hl; have := zsf a6 hi; rw [zkj _ hi, he, decide_eq_false_iff_not] at this; omega
  st0 := a7.1
  st1 := a7.2
  ex0 := a8.1.1.1
  ex1 := a8.1.1.2
  mk0 := a8.1.2.1
  mk1 := a8.1.2.2
  sp0 := a8.2.1
  sp1 := a8.2.2 }⟩
theorem eT (t : zA) : (⟨t.Registers, t.Condition, t.Storage, t.At, t.Stack, t.Lines, t.Status, t.Exception, t.Marks, t.Steps⟩ : zA) = t := rfl
def z66 (s : zA) (i : Nat) : Option Bool := (s.Lines[i]?).bind fun l => if decide ((l.size : Int) > 300) = true then some false else none
def fewB (s : zA) : Bool := match (List.range (min s.Lines.length 44)).findSome? (z66 s) with
 | some r => r
 | none => ((((decide ((s.Storage.Bytes.size : Int) ≤ 1072) && decide ((s.Storage.Tags.length : Int) ≤ 67)) && decide ((s.Registers.length : Int) ≤ 11)) && decide ((s.Stack.length : Int) ≤ 9)) && decide ((s.Lines.length : Int) < 44))
theorem z81 (N : Nat) (hN : 1000 < N) (s : zA) : zbz N s = some (fewB s) := by
 unfold zbz fewB
 have l1 := zb5 (f := zbz.r0 N) (fun i => ((i : Int), s)) (z66 s) (min s.Lines.length 44)
  (fun i hi => by
   have hlt : i < s.Lines.length := by omega
   have hx := lge hlt; simp only [zbz.r0, zbz.b0, zl4, obs, dct (show (i : Int) < (s.Lines.length : Int) by omega), dct (show (i : Int) < 44 by omega), Bool.and_self, ctr, zap, hx, z66]; rw [w6e (n := (i : Int) + 1)]; cases (decide ((s.Lines[i].size : Int) > 300)) <;> rfl)
  (by
   have e : (decide (((min s.Lines.length 44 : Nat) : Int) < (s.Lines.length : Int)) && decide (((min s.Lines.length 44 : Nat) : Int) < 44)) = false := by
    by_cases h : s.Lines.length < 44
    · rw [dcf (show ¬ ((min s.Lines.length 44 : Nat) : Int) < (s.Lines.length : Int) by omega)]; rfl
    · rw [dcf (show ¬ ((min s.Lines.length 44 : Nat) : Int) < 44 by omega)]; simp
   simp only [zbz.r0, zbz.b0, zl4, obs, e, cfa]) (N := N) (by omega)
 simp only [nc0] at l1
 rw [l1]
 cases (List.range (min s.Lines.length 44)).findSome? (z66 s) with
 | some r => rfl
 | none =>
  simp only [obs, zbs, zei, zl4]
theorem zae2 (x : Number) : zfq [(x.N == x.N), (x.Scale == x.Scale)] = true := by
 rw [bst, bst]; rfl
theorem zafi : zk9 2000000 = some true := by kernel_rfl
theorem z1r (N : Nat) {m : zI} {c : zF} {r : Int × Int} (h : zm N m c = some r) : zej N m c = some r.2 := by
 unfold zej
 try simp only [eM, eS, eC]
 rw [h]
 rfl
theorem z1m (N : Nat) {m : zI} {c : zF} {r : Int × Int} (h : zq N m c = some r) : zg8 N m c = some r.2 := by
 unfold zg8
 try simp only [eM, eS, eC]
 rw [h]
 rfl
theorem zabz (N : Nat) (hN : 1000 < N) {m : zI} {c : zF} {s t : zA} (h : zan N m c s = some 0) (h1 : s.Status = 0) (h2 : s.Steps < 3000) (ht : zgh N c s = some t) : zib N m c s = some (t, 0) := by
 have f2 : ∀ a b : Int, zw N [a, b] = some (zcv [a, b]) := fun a b => zow N _ (by simp; omega) (by simp)
 unfold zib
 rw [h]
 simp only [obs, orB, zni, f2]
 rw [show (s.Status != 0 || decide (s.Steps ≥ 3000)) = false by rw [h1, dcf (by omega)]; rfl]
 rw [ht]
 rfl
theorem z1b (t : zA) : (zm5 t).Registers = t.Registers ∧ (zm5 t).Storage = t.Storage ∧ (zm5 t).Lines = t.Lines ∧ (zm5 t).Condition = t.Condition ∧ (zm5 t).Exception = t.Exception := by
 unfold zm5
 split <;> exact ⟨rfl, rfl, rfl, rfl, rfl⟩
theorem z6a {m : zI} {c : zF} {s : zA} (hc : CodeV m c) (hs : StV m c s) (hrun : s.Status = 0) (h3 : s.Steps < 3000) (h0 : s.Exception = 0) :
 (zlk c s).Exception = 0 ∨ ((zlk c s).Registers = s.Registers ∧ (zlk c s).Storage = s.Storage ∧ (zlk c s).Lines = s.Lines ∧ (zlk c s).Condition = s.Condition) := by
 have a0 := hs.at0
 have a1 := hs.at1
 have p0 := hs.sp0
 have hx : c.zD[s.At.toNat]? = some (zql c s) := by
  unfold zql; rw [gdd, lge (by omega)]; rfl
 have hs1 : StV m c (updP s (s.Steps + 1)) := hs.updP (by omega) (by omega)
 have hb := z1d 2000000 (by decide) hc hs1 (x := zql c s) hx
 unfold zlk
 rcases hb with ⟨e, nx, ny, t, g1, g2, g3, g4⟩ | ⟨n, k, t, g1, g3, g4, g5, g6, g7, g8, g9⟩
 · right; rw [g1]; have hse : StV m c (updE (updP s (s.Steps + 1)) e) := hs1.updE (by omega) (by omega); obtain ⟨k1, k2, k3, k4, k5, k6, k7, k8, k9, k10⟩ := zsv 2000000 (by decide) hc e (by omega) ⟨[], 0, ⟨⟨#[]⟩, []⟩, 0, [], [], 0, 0, 0, 0⟩ (s.Stack.length + 1) _ hse (Nat.lt_succ_self _) 2000000 (by have := hs.stk; omega); obtain ⟨f1, f2, f3, f4, f5⟩ := z1b (zg6 c e (s.Stack.length + 1) (updE (updP s (s.Steps + 1)) e)); exact ⟨f1.trans k6, f2.trans k7, f3.trans k8, f4.trans k9⟩
 · left; rw [g1]; have g9' : t.Exception = 0 := g9.trans h0; show (if t.Status ≠ 0 then t else if n = (c.zD.length : Int) then updT t 1 else zm5 (updA t n)).Exception = 0; split
   · exact g9'
   · split
     · exact g9'
     · exact (z1b _).2.2.2.2.trans g9'
theorem z5e {s : zA} (h : Wft En 1048576 Ty.zA s) : z6x (updE s 0) := (z9w h : z6x s)
theorem plainHardwareUnchanged : zge := by
 intro m c s hm hc hs
 refine ⟨2000000, ?_⟩
 obtain ⟨b, hb⟩ := z80 2000000 (by decide) hc
 obtain ⟨⟨n, e0⟩, hr1, hr2⟩ := z9c 2000000 (by decide) m hc
 have k1 := zaan 2000000 (by decide) hc (z5e hs) (z1r _ hr1)
 have k2 := z94 2000000 (by decide) hc (z5e hs) (z1m _ hr2)
 unfold zak
 rw [zafi]
 simp only [obs, bnt, cfa, eS, eM, eC, eT]
 rw [hb]
 cases b with
 | false => rfl
 | true =>
  simp only [obs, bnt, cfa]; rw [z81 _ (by decide)]; cases fewB s with
  | false => rfl
  | true =>
   simp only [obs, bnt, cfa, orB]; rw [show (⟨s.Registers, s.Condition, s.Storage, s.At, s.Stack, s.Lines, s.Status, 0, s.Marks, s.Steps⟩ : zA) = updE s 0 from rfl, k2]; simp only [obs]
   by_cases hq : zuj e0 m c (updE s 0) = 0 ∧ s.Status = 0 ∧ s.Steps ≠ 3000
   case neg =>
    rw [show ((zuj e0 m c (updE s 0) != 0 || s.Status != 0) || s.Steps == 3000) = true by
     cases h : ((zuj e0 m c (updE s 0) != 0 || s.Status != 0) || s.Steps == 3000) with
     | true => rfl
     | false =>
      rw [Bool.or_eq_false_iff, Bool.or_eq_false_iff, zb9, zb9, zas, decide_eq_false_iff_not, decide_eq_false_iff_not, decide_eq_false_iff_not, Classical.not_not, Classical.not_not] at h; exact absurd ⟨h.1.1, h.1.2, h.2⟩ hq]
    rfl
   obtain ⟨hE, hst, h30⟩ := hq; rw [hE] at k1 ⊢; obtain ⟨h0, hv⟩ := z84 hE; subst h0; obtain ⟨cv, _⟩ := zae6 2000000 (by decide) hc hr2; have hsp : s.Steps ≤ 3000 := hv.sp1; rw [hst, show (s.Steps == 3000) = false by rw [zas, dcf h30]]; simp only [bsf, Bool.or_self, cfa]; rw [zaai hc, z02 cv hv]; simp only [obs]; have h3 : (updE s 0).Steps < 3000 := by show s.Steps < 3000; omega
   obtain ⟨g1, g2, g3, g4, g5⟩ := z7v 2000000 (by decide) cv hv hst h3; have hk := z6a cv hv hst h3 rfl; rw [zabz 2000000 (by decide) k1 hst h3 g1]; simp only [obs, bsf, Bool.false_or]; have hreg : ((zlk c (updE s 0)).Registers.length : Int) = (s.Registers.length : Int) := g3.regs.trans hv.regs.symm; rw [hreg, bsf, cfa]; generalize hT : zlk c (updE s 0) = T at hk g3 hreg ⊢
   by_cases hx : T.Exception = 0
   · rw [hx]; rfl
   · rw [zas, dcf hx, cfa]; rcases hk with hk | ⟨q1, q2, q3, q4⟩
     · exact absurd hk hx
     have hm2 := cv.m2; have hrg := hv.regs; have l1 := zb5 (f := zak.r0 2000000) (fun i => ((i : Int), updE s 0, T)) (fun _ => none) s.Registers.length
      (fun i hi => by
       have hx1 : (updE s 0).Registers[i]? = some s.Registers[i] := lge hi; have hx2 : T.Registers[i]? = some s.Registers[i] := by rw [q1]; exact hx1
       simp only [zak.r0, zak.b0, zap, hx1, hx2, obs, dct (show (i : Int) < ((updE s 0).Registers.length : Int) by show (i : Int) < (s.Registers.length : Int); omega), ctr, zae2, bnt, cfa]; have : (s.Registers.length : Int) = m.Registers := hrg; rw [w6e]; rfl)
      (by simp only [zak.r0, zak.b0, dcf (show ¬ (s.Registers.length : Int) < ((updE s 0).Registers.length : Int) by show ¬ (s.Registers.length : Int) < (s.Registers.length : Int); omega), cfa]) (N := 2000000) (by have : (s.Registers.length : Int) = m.Registers := hrg; omega)
     simp only [nc0] at l1; rw [l1]; have hno : ∀ l : List Nat, l.findSome? (fun _ => (none : Option Bool)) = none := fun l => by rw [List.findSome?_eq_none_iff]; intros; rfl
     rw [hno]; simp only [obs, zbs]; rw [q2, q3, q4]; have a3 : s.Lines.length ≤ 40 := hv.lines; have a4 : s.Storage.Bytes.size ≤ 1024 := hv.sto.le; have a5 : s.Storage.Tags.length = s.Storage.Bytes.size / 16 := hv.sto.tags; have z1 : zen 2000000 (updE s 0).Storage (updE s 0).Storage = some true := z9y 2000000 s.Storage (by omega) (by omega); have z2 : zbt 2000000 (updE s 0).Lines (updE s 0).Lines = some true := z2j 2000000 s.Lines (by omega) (by omega); rw [z1]; simp only [obs, ctr]; rw [z2]; simp only [obs, ctr, bst]
end
end Go.Proofs.YtppbpnknfigboaaGreatDoor.M
namespace Go.Proofs.YtppbpnknfigboaaGreatDoor
theorem hardwareUnchanged_card : Rows.HardwareUnchangedUptoCardSaid := M.cardHardwareUnchanged M.plainHardwareUnchanged
#print axioms hardwareUnchanged_card
end Go.Proofs.YtppbpnknfigboaaGreatDoor
