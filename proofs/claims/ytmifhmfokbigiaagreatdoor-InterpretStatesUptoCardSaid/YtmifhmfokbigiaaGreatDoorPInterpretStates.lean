/- InterpretStates: the law answers true for every input of bulk at most 1048576, and its arguments read as they did; by the seat's second form, tied to the program's text. -/
import Derived.Test.YtmifhmfokbigiaaGreatDoorPInterpretStatesx0
import Derived.Test.YtmifhmfokbigiaaGreatDoorWInterpretStates
namespace Go.Proofs.YtmifhmfokbigiaaGreatDoor.M
open Go Go.Amx
set_option linter.unusedVariables false
set_option linter.unusedSimpArgs false
set_option maxRecDepth 100000
noncomputable section
section
variable {p : zB} {s : zD}
def z1b (s : zD) : Prop := s.Storage.Bytes.size ≤ 1048576 ∧ s.Storage.Tags.length ≤ 1048576 ∧ s.Stack.length ≤ 1048576 ∧ s.Lines.length ≤ 1048576
def zq3 (p : zB) (k : Int) : Bool := !inB k 0 ((p.zG.length : Int) - 1) || (p.zG.getD k.toNat ⟨0, []⟩).Op != 13
def z1p (p : zB) (l : List Int) : Bool := (List.range l.length).any fun i => zq3 p (l.getD i 0)
def zns (p : zB) (t : Storage) : Int := if (t.Bytes.size : Int) ≠ 16 * zd0 p.zA then 18 else if (zk1 t).2 ≠ 0 then (zk1 t).2 else cond (z1o t) 22 0
def z4g (p : zB) (s : zD) : List Int := [cond (!inB s.At 0 ((p.zG.length : Int) - 1)) 3 0,
 cond (decide ((s.Stack.length : Int) > 6) || decide ((s.Lines.length : Int) > 40)) 2 0, cond (z1p p s.Stack) 3 0, cond (z1q s.Lines) 18 0, cond (!inB s.Status 0 3) 4 0,
 cond (!(inB s.Exception 0 999 && inB s.Steps 0 300)) 3 0]
def z1f (p : zB) (s : zD) : Int := if (zhm p).2 ≠ 0 then (zhm p).2 else if zns p s.Storage ≠ 0 then zns p s.Storage else zhe (z4g p s)
end
section
variable {p : zB} {s : zD}
theorem zvr (b : Bool) (e : Int) : zcc b e = some (cond b e 0) := by cases b <;> rfl
theorem z6d (N : Nat) (hN : 1100 < N) (p : zB) : zeh N p = some (zhm p).2 := by
 unfold zeh
 rw [zxw N hN]
 rfl
theorem zye (N : Nat) (l : List Int) (h : l.length < N) (hl : l.length < 1000000000) : zao N l = some (zhe l) := by
 unfold zao
 have := zbh (f := zao.r0 N) (fun i => (l, (l.length : Int), (i : Int))) (fun i => (l[i]?).bind fun x => if x = 0 then none else some x) l.length
  (fun i hi => by
   have hx := lge hi; simp only [zao.r0, zao.b0, zai, hx, obs, dct (show (i : Int) < (l.length : Int) by omega), ctr]
   by_cases h0 : l[i] = 0
   · simp only [h0, bsf, cfa, if_true]; rw [w6e]; rfl
   · simp only [h0, if_false]; rw [show (l[i] != 0) = true by simpa using h0]; rfl)
  (by simp only [zao.r0, zao.b0, dcf (show ¬ (l.length : Int) < (l.length : Int) by omega), cfa]) h
 simp only [nc0] at this
 rw [this, zmh, ← zot]
 simp only [obs]
 cases l.findSome? (fun x => if x = 0 then none else some x) <;> rfl
end
section
variable {p : zB} {s : zD}
def zwt (s : zD) (i : Nat) : Option Bool := (s.Lines[i]?).bind fun l => if decide ((l.size : Int) > 300) = true then some false else none
def z4s (s : zD) : Bool := match (List.range (min s.Lines.length 44)).findSome? (zwt s) with
 | some r => r
 | none => (((decide ((s.Storage.Bytes.size : Int) ≤ 480) && decide ((s.Storage.Tags.length : Int) ≤ 30)) && decide ((s.Stack.length : Int) ≤ 9)) && decide ((s.Lines.length : Int) < 44))
theorem z8o (N : Nat) (hN : 1000 < N) (s : zD) : zdv N s = some (z4s s) := by
 unfold zdv z4s
 have l1 := zbh (f := zdv.r0 N) (fun i => ((i : Int), s)) (zwt s) (min s.Lines.length 44)
  (fun i hi => by
   have hlt : i < s.Lines.length := by omega
   have hx := lge hlt; simp only [zdv.r0, zdv.b0, zph, obs, dct (show (i : Int) < (s.Lines.length : Int) by omega), dct (show (i : Int) < 44 by omega), Bool.and_self, ctr, zai, hx, zwt]; rw [w6e (n := (i : Int) + 1)]; cases (decide ((s.Lines[i].size : Int) > 300)) <;> rfl)
  (by
   have e : (decide (((min s.Lines.length 44 : Nat) : Int) < (s.Lines.length : Int)) && decide (((min s.Lines.length 44 : Nat) : Int) < 44)) = false := by
    by_cases h : s.Lines.length < 44
    · rw [dcf (show ¬ ((min s.Lines.length 44 : Nat) : Int) < (s.Lines.length : Int) by omega)]; rfl
    · rw [dcf (show ¬ ((min s.Lines.length 44 : Nat) : Int) < 44 by omega)]; simp
   simp only [zdv.r0, zdv.b0, zph, obs, e, cfa]) (N := N) (by omega)
 simp only [nc0] at l1
 rw [l1]
 cases (List.range (min s.Lines.length 44)).findSome? (zwt s) with
 | some r => rfl
 | none =>
  simp only [obs, zb5, zph]
theorem z6u (N : Nat) (hN : 100000 < N) (s : zD) (h2 : s.Stack.length < 100000) (h3 : s.Lines.length < 100000) (h4 : s.Storage.Tags.length < 100000) : ziv N s s = some true := by
 unfold ziv
 rw [z3v N _ (by omega) (by omega)]
 simp only [obs, ctr, bst]
 rw [z19 N _ (by omega) (by omega)]
 simp only [obs, ctr]
 rw [zwm N _ (by omega) (by omega)]
 rfl
theorem z3w (N : Nat) (hN : 100000 < N) (hs : StI p s) : ziv N s s = some true := by
 have a2 := hs.stk
 have a3 := hs.lines
 have a4 := hs.sto.sto.le
 have a5 := hs.sto.sto.tags
 exact z6u N hN s (by omega) (by omega) (by omega)
end
section
variable {p : zB} {s : zD}
theorem z13 {n : Nat} (h : Wft En n Ty.zD s) : s.Storage.Bytes.size ≤ n ∧ s.Storage.Tags.length ≤ n ∧ s.Stack.length ≤ n ∧ s.Lines.length ≤ n := by
 have h1 := h (.sc (.string s.Storage.Bytes)) (by show _ ∈ zh5 s; simp [zh5])
 have h2 := h (.lst Ty.bool s.Storage.Tags) (by show _ ∈ zh5 s; simp [zh5])
 have h4 := h (.lst (Ty.int .i64) s.Stack) (by show _ ∈ zh5 s; simp [zh5])
 have h5 := h (.lst Ty.str s.Lines) (by show _ ∈ zh5 s; simp [zh5])
 cases h1 with
 | str h1 =>
  cases h2 with
  | lst h2 _ =>
   cases h4 with
   | lst h4 _ =>
    cases h5 with
    | lst h5 _ => exact ⟨h1, h2, h4, h5⟩
theorem z55 (hs : z1b s) : zjs s = some s := by
 obtain ⟨w1, w2, w4, w5⟩ := hs
 unfold zjs zev zg4 zfw zhf
 rw [zk2 (by omega), zk2 (by omega), zk2 (by omega)]
 rfl
theorem z4p (p : zB) (hlen : p.zG.length < 1000000000) (k : Int) : zdj k (p.zG.length : Int) p = some (zq3 p k) := by
 unfold zdj zen zq3
 rw [w6e, z47]
 simp only [obs]
 cases h : inB k 0 ((p.zG.length : Int) - 1) with
 | false => rfl
 | true =>
  rw [z28 ⟨0, []⟩ h]; rfl
theorem z2p (p : zB) (hlen : p.zG.length < 1000000000) (k : Int) : ((ze k 0 (w6 ((p.zG.length : Int) - 1))).bind fun r => (cond (!r) (some true) ((idx p.zG k).bind fun x => some (x.Op != 13)))) = some (zq3 p k) := by
 unfold zq3
 rw [w6e, zgl]
 simp only [obs]
 cases h : inB k 0 ((p.zG.length : Int) - 1) with
 | false => rfl
 | true =>
  rw [z28 ⟨0, []⟩ h]; rfl
theorem z4o (N : Nat) (p : zB) (hlen : p.zG.length < 1000000000) (l : List Int) (h : l.length < N) (hl : l.length < 1000000000) : zch N l (p.zG.length : Int) p = some (z1p p l) := by
 unfold zch zaa
 have l1 := zyg (f := zaa.r0 N) (fun i => (l, (l.length : Int), (i : Int), (p.zG.length : Int), p)) (fun i => zq3 p (l.getD i 0)) l.length
  (fun i hi => by
   have hx := lge hi; simp only [zaa.r0, zaa.b0, zai, hx, obs, dct (show (i : Int) < (l.length : Int) by omega), ctr, z4p p hlen, zsq 0 hi]; rw [w6e]; cases zq3 p l[i] <;> rfl)
  (by simp only [zaa.r0, zaa.b0, dcf (show ¬ (l.length : Int) < (l.length : Int) by omega), cfa]) (N := N) h
 simp only [nc0] at l1
 exact l1
theorem z4n (N : Nat) (l : List ByteArray) (h : l.length < N) (hl : l.length < 1000000000) : zb0 N l = some (z1q l) := by
 unfold zb0 zo
 have l1 := zyg (f := zo.r0 N) (fun i => (l, (l.length : Int), (i : Int))) (fun i => decide (((l.getD i ⟨#[]⟩).size : Int) > 256)) l.length
  (fun i hi => by
   have hx := lge hi; simp only [zo.r0, zo.b0, zai, hx, obs, dct (show (i : Int) < (l.length : Int) by omega), ctr, zem, zsq _ hi]; rw [w6e]; cases decide ((l[i].size : Int) > 256) <;> rfl)
  (by simp only [zo.r0, zo.b0, dcf (show ¬ (l.length : Int) < (l.length : Int) by omega), cfa]) (N := N) h
 simp only [nc0] at l1
 exact l1
theorem z2o (N : Nat) (p : zB) (hlen : p.zG.length < 1000000000) (s : zD) (h : s.Stack.length < N) (hl : s.Stack.length < 1000000000) (K : Int × zB × zD → Option Int) :
 ((zj (zad.r2 N) N (0, p, s)).bind fun z => zb5 z (fun z => some z) K) = if z1p p s.Stack = true then some 3 else K ((s.Stack.length : Int), p, s) := by
 have l1 := zxi (f := zad.r2 N) (fun i => ((i : Int), p, s)) (fun i => zq3 p (s.Stack.getD i 0)) 3 s.Stack.length
  (fun i hi => by
   have hx := lge hi; have hk := z2p p hlen s.Stack[i]; simp only [zad.r2, zad.b2, zai, hx, obs, dct (show (i : Int) < (s.Stack.length : Int) by omega), ctr, zsq _ hi]; rw [w6e (n := (i : Int) + 1)]; rw [← Option.bind_assoc, hk]; simp only [obs]; cases zq3 p s.Stack[i] <;> rfl)
  (by simp only [zad.r2, zad.b2, dcf (show ¬ (s.Stack.length : Int) < (s.Stack.length : Int) by omega), cfa]) (N := N) h K
 simp only [nc0] at l1
 exact l1
theorem z2k (N : Nat) (s : zD) (h : s.Lines.length < N) (hl : s.Lines.length < 1000000000) (K : Int × zD → Option Int) :
 ((zj (zad.r4 N) N (0, s)).bind fun z => zb5 z (fun z => some z) K) = if z1q s.Lines = true then some 18 else K ((s.Lines.length : Int), s) := by
 have l1 := zxi (f := zad.r4 N) (fun i => ((i : Int), s)) (fun i => decide (((s.Lines.getD i ⟨#[]⟩).size : Int) > 256)) 18 s.Lines.length
  (fun i hi => by
   have hx := lge hi; simp only [zad.r4, zad.b4, zai, hx, obs, dct (show (i : Int) < (s.Lines.length : Int) by omega), ctr, zsq _ hi]; rw [w6e]; cases decide ((s.Lines[i].size : Int) > 256) <;> rfl)
  (by simp only [zad.r4, zad.b4, dcf (show ¬ (s.Lines.length : Int) < (s.Lines.length : Int) by omega), cfa]) (N := N) h K
 simp only [nc0] at l1
 exact l1
theorem z7c (N : Nat) (hN : 20000 < N) (h : ProgV p) (hc : (zhm p).2 = 0) (t : Storage) : zeg N p t = some (zns p t) := by
 have f2 : ∀ a b : Int, zao N [a, b] = some (zhe [a, b]) := fun a b => zye N _ (by simp; omega) (by simp)
 have hl := zlw h
 unfold zeg zns
 rw [z2s N hN h hc]
 simp only [obs, zvr, f2]
 rw [w6e, show zd0 p.zA * 16 = 16 * zd0 p.zA by omega]
 by_cases h1 : (t.Bytes.size : Int) = 16 * zd0 p.zA
 · rw [h1, ifn]; rw [show zhe [0, cond (16 * zd0 p.zA != 16 * zd0 p.zA) 18 0] = 0 by rw [bsf]; rfl]; simp only [bsf, cfa]; rw [(zl6 N (by omega) t).1]; simp only [obs]
   by_cases h2 : (zk1 t).2 = 0
   · have hw := zzl h2; have hle := hw.le; have htg := hw.tags; have hol := znz t.Tags t.Tags.length; rw [h2, ifn]; simp only [bsf, cfa]; rw [zy5 N t hw (by omega)]; simp only [obs]; unfold zdg zy; have l1 := zyg (f := zy.r0 N) (fun i => (zdx t.Tags t.Tags.length, ((zdx t.Tags t.Tags.length).length : Int), (i : Int), t)) (fun i => zt4 t ((zdx t.Tags t.Tags.length).getD i 0)) (zdx t.Tags t.Tags.length).length
      (fun i hi => by
       obtain ⟨k, k1, k2⟩ := zx0 hi; have hx := lge hi; have hg : (zdx t.Tags t.Tags.length).getD i 0 = (k : Int) * 16 := by rw [gdd, hx, k2]; rfl
       simp only [zy.r0, zy.b0, zai, hx, obs, dct (show (i : Int) < ((zdx t.Tags t.Tags.length).length : Int) by omega), ctr, k2, hg, zel]; rw [z3t N (by omega) hw k1, w6e]; simp only [obs, orB]; rw [zz7]; cases zt4 t ((k : Int) * 16) <;> rfl)
      (by simp only [zy.r0, zy.b0, dcf (show ¬ ((zdx t.Tags t.Tags.length).length : Int) < ((zdx t.Tags t.Tags.length).length : Int) by omega), cfa]) (N := N) (by omega)
     simp only [nc0] at l1; rw [l1]; simp only [obs, zvr]; rfl
   · rw [ifp h2, zd1, dct h2]; rfl
 · rw [ifp h1, show zhe [0, cond ((t.Bytes.size : Int) != 16 * zd0 p.zA) 18 0] = 18 by rw [zd1, dct h1]; rfl]; rfl
theorem z32 (N : Nat) (hN : 2000 < N) {R : Type} (p : zB) (s : zD) (hw : StoW s.Storage) (K : (List Int) × Int × zB × zD → Option Int) :
 ((zj (zad.r0 N) N (zdx s.Storage.Tags s.Storage.Tags.length, 0, p, s)).bind fun z10 => zb5 z10 (fun z => some z) K) = if z1o s.Storage = true then some 22 else K (zdx s.Storage.Tags s.Storage.Tags.length, ((zdx s.Storage.Tags s.Storage.Tags.length).length : Int), p, s) := by
 have hle := hw.le
 have htg := hw.tags
 have hol := znz s.Storage.Tags s.Storage.Tags.length
 have l1 := zxi (f := zad.r0 N) (fun i => (zdx s.Storage.Tags s.Storage.Tags.length, (i : Int), p, s)) (fun i => zt4 s.Storage ((zdx s.Storage.Tags s.Storage.Tags.length).getD i 0)) 22 (zdx s.Storage.Tags s.Storage.Tags.length).length
  (fun i hi => by
   obtain ⟨k, k1, k2⟩ := zx0 hi; have hx := lge hi; have hg : (zdx s.Storage.Tags s.Storage.Tags.length).getD i 0 = (k : Int) * 16 := by rw [gdd, hx, k2]; rfl
   simp only [zad.r0, zad.b0, zai, hx, obs, dct (show (i : Int) < ((zdx s.Storage.Tags s.Storage.Tags.length).length : Int) by omega), ctr, k2, hg]; rw [z35 N hN hw k1, w6e]; simp only [obs, orB]; rw [zz7]; cases zt4 s.Storage ((k : Int) * 16) <;> rfl)
  (by simp only [zad.r0, zad.b0, dcf (show ¬ ((zdx s.Storage.Tags s.Storage.Tags.length).length : Int) < ((zdx s.Storage.Tags s.Storage.Tags.length).length : Int) by omega), cfa]) (N := N) (by omega) K
 simp only [nc0] at l1
 exact l1
theorem z4k (N : Nat) (hN : 1048600 < N) (hs : z1b s) : zdl N p s = some (z1f p s) := by
 obtain ⟨w1, w2, w4, w5⟩ := hs
 have f6 : ∀ a b d e f g : Int, zao N [a, b, d, e, f, g] = some (zhe [a, b, d, e, f, g]) := fun a b d e f g => zye N _ (by simp; omega) (by simp)
 unfold zdl z1f
 rw [z6d N (by omega)]
 simp only [obs]
 by_cases hc : (zhm p).2 = 0
 · have h := zxt hc; have i40 := h.i40; rw [hc, ifn]; simp only [bsf, cfa]; rw [z7c N (by omega) h hc]; simp only [obs]
   by_cases h1 : zns p s.Storage = 0
   · rw [h1, ifn]; simp only [bsf, cfa]; rw [z4n N _ (by omega) (by omega), z4o N p (by omega) _ (by omega) (by omega)]; simp only [obs, z47, zvr, orB, w6e (n := (p.zG.length : Int) - 1), f6, Bool.not_not]; unfold z4g; rw [show (!inB s.Exception 0 999 || !inB s.Steps 0 300) = !(inB s.Exception 0 999 && inB s.Steps 0 300) by cases inB s.Exception 0 999 <;> cases inB s.Steps 0 300 <;> rfl]
   · rw [ifp h1, zd1, dct h1]; rfl
 · rw [ifp hc, zd1, dct hc]; rfl
theorem z2i (N : Nat) (hN : 1048600 < N) (hs : z1b s) : zad N p s = some (z1f p s) := by
 obtain ⟨w1, w2, w4, w5⟩ := hs
 unfold zad z1f
 rw [zxg N (by omega)]
 simp only [obs]
 by_cases hc : (zhm p).2 = 0
 case neg => rw [ifp hc, zd1, dct hc]; rfl
 have h := zxt hc
 have i40 := h.i40
 have hl := zlw h
 rw [hc, ifn]
 simp only [bsf, cfa]
 rw [zoh N (by omega) h.ok]
 simp only [obs]
 rw [w6e, show zd0 p.zA * 16 = 16 * zd0 p.zA by omega]
 by_cases h2 : (s.Storage.Bytes.size : Int) = 16 * zd0 p.zA
 case neg =>
  rw [show zns p s.Storage = 18 by unfold zns; rw [ifp h2], zd1, dct h2]; rfl
 rw [show ((s.Storage.Bytes.size : Int) != 16 * zd0 p.zA) = false by rw [h2]; exact bsf _]
 simp only [cfa]
 rw [show zle N s.Storage = some (zk1 s.Storage).2 from (by unfold zle; rw [(zl6 N (by omega) s.Storage).2]; rfl)]
 simp only [obs]
 by_cases h3 : (zk1 s.Storage).2 = 0
 case neg =>
  rw [show zns p s.Storage = (zk1 s.Storage).2 by unfold zns; rw [ifn (fun h => h h2), ifp h3], zd1, dct h3, ifp h3]; rfl
 have hw := zzl h3
 have hle := hw.le
 have htg := hw.tags
 rw [show zns p s.Storage = cond (z1o s.Storage) 22 0 by unfold zns; rw [ifn (fun h => h h2), ifn (fun h => h h3)], h3]
 simp only [bsf, cfa]
 rw [zze N s.Storage (by omega) (by omega)]
 simp only [obs]
 rw [z32 N (by omega) (R := Int) p s hw]
 cases z1o s.Storage with
 | true => rfl
 | false =>
  unfold z4g; simp only [Bool.false_eq_true, if_false, cfa, if_true, eq_self, ne_eq, not_true_eq_false, zgl, w6e (n := (p.zG.length : Int) - 1), obs]; rw [zm2]; cases inB s.At 0 ((p.zG.length : Int) - 1) with
  | false => rfl
  | true =>
   simp only [bnt, cfa, if_true, eq_self, orB, obs]; rw [zm2]; cases (decide ((s.Stack.length : Int) > 6) || decide ((s.Lines.length : Int) > 40)) with
   | true => rfl
   | false =>
    simp only [cfa, if_true, eq_self]; rw [z2o N p (by omega) s (by omega) (by omega), zm2]; cases z1p p s.Stack with
    | true => rfl
    | false =>
     simp only [Bool.false_eq_true, if_false, cfa, if_true, eq_self]; rw [z2k N s (by omega) (by omega), zm2]; cases z1q s.Lines with
     | true => rfl
     | false =>
      simp only [Bool.false_eq_true, if_false, cfa, if_true, eq_self, zgl, obs]; rw [zm2]; cases inB s.Status 0 3 with
      | false => rfl
      | true =>
       simp only [bnt, cfa, if_true, eq_self]; cases inB s.Exception 0 999 <;> cases inB s.Steps 0 300 <;> rfl
def z7l : zD := ⟨⟨⟨#[]⟩, []⟩, 0, [], [], 0, 0, 0⟩
theorem z01 : zkc z7l = some true := rfl
end
theorem plainInterpretStates : zfl := by
 intro p s hp hs
 refine ⟨2000000, ?_⟩
 obtain ⟨b, hb⟩ := z8p 2000000 (by decide) hp
 have hN : 20000 < 2000000 := by decide
 have hf : z1b s := z13 hs
 unfold zd2
 rw [z7i]
 simp only [obs, bnt, cfa]
 rw [hb]
 cases b with
 | false => rfl
 | true =>
  simp only [obs, bnt, cfa]; rw [z8o _ (by decide)]; cases z4s s with
  | false => rfl
  | true =>
   simp only [obs, bnt, cfa]; rw [z4c _ (by decide) hp, z55 hf, zxg _ (by decide)]; simp only [obs]; rw [z4k _ (by decide) hf, z2i _ (by decide) hf]; simp only [obs, bst]
   by_cases hc : (zhm p).2 = 0
   · have h := zxt hc; rw [z4l _ hN h hc, hc, z0s _ hN h]; simp only [obs, bsf, cfa]; rw [z3w 2000000 (by decide) (z14 h)]; rfl
   · have e : ((zhm p).2 != 0) = true := by rw [zd1]; exact dct hc
     rw [zyd _ hN hc]; simp only [obs, e, bsf, ctr, cfa]; rw [show zkc ⟨⟨⟨#[]⟩, []⟩, 0, [], [], 0, 0, 0⟩ = some true from z01]; rfl
end
end Go.Proofs.YtmifhmfokbigiaaGreatDoor.M
namespace Go.Proofs.YtmifhmfokbigiaaGreatDoor
theorem interpretStates_card : Rows.InterpretStatesUptoCardSaid := M.cardInterpretStates M.plainInterpretStates
#print axioms interpretStates_card
end Go.Proofs.YtmifhmfokbigiaaGreatDoor
