/- InterpretAgain: the law answers true for every input of bulk at most 1048576, and its arguments read as they did; by the seat's second form, tied to the program's text. -/
import Derived.Test.YtmifhmfokbigiaaGreatDoorPInterpretAgainx1
import Derived.Test.YtmifhmfokbigiaaGreatDoorWInterpretAgain
namespace Go.Proofs.YtmifhmfokbigiaaGreatDoor.M
open Go Go.Amx
set_option linter.unusedVariables false
set_option linter.unusedSimpArgs false
set_option maxRecDepth 100000
noncomputable section
section
variable {p : zB} {s : zC}
theorem zz7 (o : zF) : zda o = some (zdd o) := by
 unfold zda zdd
 rw [zd1]
theorem zvl (h : ProgV p) {i : Nat} (hi : i < p.zA.length) (hk : isD (og p.zA i).Kind = true) : zl6 p (i : Int) = some (zdd (og p.zA i)) := by
 unfold zl6
 rw [zhr hi]
 simp only [obs, zvk]
 rw [z89 (zqm hi) (h.ok.ok i hi) hk]
theorem zacj (N : Nat) (hN : 4000 < N) (h : ProgV p) {i : Nat} (hi : i < p.zA.length) (ht : zkh (og p.zA i).zJ) {x : Number} (hx : zdq x) (half : Bool) : zrc N p s (i : Int) x half = zud N p s i (zol x (og p.zA i).zJ half) := by
 unfold zrc zud
 rw [zhr hi]
 simp only [obs]
 rw [zafd N hN hx ht]
 simp only [obs]
 rcases z91 x (og p.zA i).zJ half with h0 | h0 <;> rw [h0] <;> rfl
theorem zst : zdq ⟨0, 0⟩ := ⟨⟨by decide, by decide⟩, by decide, by decide⟩
def zub (N : Nat) (p : zB) (s : zC) (m : Except Int zC) (prog : Option zD) (rf : Option (Int × zC)) : Prop :=
 (∃ e u, (1 ≤ e ∧ e ≤ 5) ∧ m = .error e ∧ prog = some (mI p s e) ∧ rf = some (e, u)) ∨ ∃ t, m = .ok (mS s t) ∧ prog = some (mI p (mS s t) 0) ∧ rf = some (0, mS s t) ∧ StoP p t
theorem zub.mk (N : Nat) {m : Except Int zC} {r : Value × Int} {i : Nat} (hN : 2000 < N) (h : ProgV p) (hs : StoP p s.Storage) (hi : i < p.zA.length) (hk : isS (og p.zA i).Kind = true) (hn : zdd (og p.zA i) = true)
 (hr : r.2 = 0 ∨ r.2 = 19 ∨ r.2 = 20) (hS : r.1 = ⟨r.1.N, ⟨#[]⟩⟩) (hb : r.2 = 0 → -((10 ^ (og p.zA i).zJ.Length.toNat : Nat) : Int) < r.1.N ∧ r.1.N < ((10 ^ (og p.zA i).zJ.Length.toNat : Nat) : Int)) (hm : m = zql p s i r) :
 zub N p s m (zap N (mI p s 0) (i : Int) r.1 r.2) (zud N p s i r) := by
 subst hm
 rcases zadz N hN h hs hi hk hn hr hS hb with ⟨e, he, h1, h2, h3⟩ | ⟨t, h1, h2, h3, h4⟩
 · exact .inl ⟨e, s, by omega, h1, h2, h3⟩
 · exact .inr ⟨t, h1, h2, h3, h4⟩
theorem z78 (N : Nat) (hN : 4000 < N) (h : ProgV p) (hs : StoP p s.Storage) {i : Nat} (hi : i < p.zA.length) (hk : isS (og p.zA i).Kind = true) (hn : zdd (og p.zA i) = true) {x : Number} (hx : zdq x) (half : Bool) :
 zub N p s (zql p s i (zol x (og p.zA i).zJ half)) ((zdw N x (og p.zA i).zJ half).bind fun r4 => (zap N (mI p s 0) (i : Int) r4.1 r4.2).bind fun r5 => some r5) (zrc N p s (i : Int) x half) := by
 have ht := z2j h hi (zt7 hk) hn
 rw [zaas N (by omega) hx ht, zacj N hN h hi ht hx]
 have := zub.mk (m := zql p s i (zol x (og p.zA i).zJ half)) N (by omega) h hs hi hk hn (by rcases z91 x (og p.zA i).zJ half with h | h; exact .inl h; exact .inr (.inl h)) (zag8 x _ half) (fun h0 => zab0 h0) rfl
 simp only [obs]
 rcases this with ⟨e, u, he, h1, h2, h3⟩ | ⟨t, h1, h2, h3, h4⟩
 · exact .inl ⟨e, u, he, h1, by rw [h2]; rfl, h3⟩
 · exact .inr ⟨t, h1, by rw [h2]; rfl, h3, h4⟩
theorem z9g (N : Nat) (hN : 4000 < N) (h : ProgV p) (hs : StoP p s.Storage) {i j : Nat} (hi : i < p.zA.length) (hk : isS (og p.zA i).Kind = true) (hn : zdd (og p.zA i) = true) (hj : j < p.zA.length) (hkj : isD (og p.zA j).Kind = true) (hnj : zdd (og p.zA j) = true) (half : Bool) :
 zub N p s (match nuI p s.Storage j with | .error e => .error e | .ok n => zql p s i (zol n (og p.zA i).zJ half)) (zdk N (mI p s 0) (i : Int) (j : Int) half)
  ((zds N p s (j : Int)).bind fun r11 => cond (r11.2 != 0) (some (r11.2, s)) ((zrc N p s (i : Int) r11.1 half).bind fun r13 => some (r13.1, r13.2))) := by
 have ht := z2j h hi (zt7 hk) hn
 unfold zdk
 rw [show (mI p s 0).zB = p from rfl, zhr hi]
 simp only [obs, zz7, hn, ctr]
 rcases zru N (by omega) h hs hj hkj hnj with ⟨e, k, he, h1, h2, h3⟩ | ⟨n, h1, h2, h3, h4⟩
 · left; rw [h1, h2, h3]; simp only [obs]; rw [zaas N (by omega) zst ht]; simp only [obs]; rw [zabm N s (i : Int) _ _ (show e ≠ 0 by omega), zd1, dct (show e ≠ 0 by omega)]; exact ⟨e, s, by omega, rfl, rfl, rfl⟩
 · rw [h1, h2, h3]; simp only [obs, bsf, cfa]; have := z78 N hN h hs hi hk hn h4 half; rcases this with ⟨e, u, he, g1, g2, g3⟩ | ⟨t, g1, g2, g3, g4⟩
   · exact .inl ⟨e, u, he, g1, g2, by rw [g3]; rfl⟩
   · exact .inr ⟨t, g1, g2, by rw [g3]; rfl, g4⟩
theorem zacv (N : Nat) (hN : 20000 < N) (h : ProgV p) (hs : StoP p s.Storage) {i j : Nat} (hi : i < p.zA.length) (hk : isS (og p.zA i).Kind = true) (hn : zdd (og p.zA i) = false) (hj : j < p.zA.length) (hkj : isD (og p.zA j).Kind = true) :
 zub N p s (match byI p s.Storage j with | .error e => .error e | .ok b => wrI p s i (zr4 b (og p.zA i).zJ.Length.toNat)) (zdk N (mI p s 0) (i : Int) (j : Int) false)
  ((zj3 N p s (j : Int)).bind fun r5 => cond (r5.2 != 0) (some (r5.2, s)) ((zdz N p s (i : Int)).bind fun r6 => cond (r6.2 != 0) (some (r6.2, s))
   ((zj7 N r5.1 (og p.zA i).zJ.Length).bind fun r8 => (zc9 N s.Storage r6.1 r8).bind fun r9 => some (0, mS s r9)))) := by
 have hty := ((zkf h.ok hi).ty (zt7 hk)).1
 have hsz := zeu hty
 have h0 : (og p.zA i).zJ.Kind = 0 := by
  unfold zdd at hn; have := of_decide_eq_false hn; omega
 have hle : szE (og p.zA i).zJ = (og p.zA i).zJ.Length := by unfold szE; rw [ifn, ifn, ifn]
 have hL : (og p.zA i).zJ.Length = (((og p.zA i).zJ.Length.toNat : Nat) : Int) := by omega
 have tail : ∀ b : ByteArray, b.size ≤ 5000 → ∀ M : zD, ((zdn N (og p.zA i)).bind fun r7 => (zet b r7).bind fun r8 => (zdn N (og p.zA i)).bind fun r9 =>
  if 0 ≤ r9 ∧ r9 ≤ (r8.size : Int) then (if 0 ≤ (0 : Int) ∧ (0 : Int) ≤ r9 then ((zaz N M (i : Int) (r8.extract (0 : Int).toNat r9.toNat)).bind fun r10 => some r10) else none) else none) = zaz N M (i : Int) (zr4 b (og p.zA i).zJ.Length.toNat) := by
  intro b hb M; rw [z6t N (by omega) hty, hle]; simp only [obs]; have hpad := z9m b hb (og p.zA i).zJ.Length.toNat (by omega); rw [← hL] at hpad; rw [hpad, obs]; have hps : (⟨(bl b ++ List.replicate ((og p.zA i).zJ.Length.toNat - b.size) 32).toArray⟩ : ByteArray).size = b.size + ((og p.zA i).zJ.Length.toNat - b.size) := by
   show (bl b ++ List.replicate ((og p.zA i).zJ.Length.toNat - b.size) 32).length = _; rw [lna, lnr, zax]
  rw [ifp ⟨by omega, by rw [hps]; omega⟩, ifp, show (0 : Int).toNat = 0 from rfl, zacy]; cases zaz N M (i : Int) (zr4 b (og p.zA i).zJ.Length.toNat) <;> rfl
 unfold zdk
 rw [show (mI p s 0).zB = p from rfl, zhr hi]
 simp only [obs, zz7, hn, cfa]
 rcases zyl N (by omega) h hs hj hkj with ⟨e, k, he, h1, h2, h3⟩ | ⟨b, h1, h2, h3, h4⟩
 · left; rw [h1, h2, h3]; simp only [obs]; rw [tail _ (by decide), zd1, dct (show e ≠ 0 by omega)]; unfold zaz; obtain ⟨j', hj'⟩ := z8b N (by omega) h hs hi hk (show e ≠ 0 by omega); rw [hj']; simp only [obs, show (mI p s e).raised = e from rfl, zcn, dcf (show e ≠ 0 by omega), cfa]; exact ⟨e, s, by omega, rfl, rfl, rfl⟩
 · have hzb := zeu ((zkf h.ok hj).ty hkj).1; have hrp : zj7 N b (og p.zA i).zJ.Length = some (zr4 b (og p.zA i).zJ.Length.toNat) := by
    have h := z1p N (by omega) b (by omega) (og p.zA i).zJ.Length.toNat (by omega); rw [← hL] at h; exact h
   rw [h1, h2, h3]; simp only [obs, bsf, cfa]; rw [tail b (by omega), hrp]; simp only [obs]; rcases zaag N (by omega) h hs hi hk (d := zr4 b (og p.zA i).zJ.Length.toNat) (by rw [z2i]; omega) with ⟨e, k, he, g1, g2, g3⟩ | ⟨a, g1, g2, g3, g4, g5⟩
   · left; rw [g2, g3]; simp only [obs, zd1, dct (show e ≠ 0 by omega), ctr]; exact ⟨e, s, by omega, g1, rfl, rfl⟩
   · right; rw [g2, g3]; simp only [obs, bsf, cfa]; rw [g4]; exact ⟨_, g1, rfl, rfl, g5⟩
theorem zac7 (N : Nat) (hN : 4000 < N) (h : ProgV p) (hs : StoP p s.Storage) {op : Int} (hop : 0 ≤ op ∧ op ≤ 4) {i : Nat} (hi : i < p.zA.length) (hk : isS (og p.zA i).Kind = true) (hn : zdd (og p.zA i) = true) {a b : Number} (ha : zdq a) (hb : zdq b) :
 zub N p s (zql p s i (zlu op a b (og p.zA i).zJ false)) ((zgj N op a b (og p.zA i).zJ false).bind fun r7 => (zap N (mI p s 0) (i : Int) r7.1 r7.2).bind fun r9 => some r9)
  ((zlg N (⟨op, (og p.zA i).zJ, false⟩ : zT) a b).bind fun r18 => zud N p s i r18) := by
 have ht := z2j h hi (zt7 hk) hn
 rw [zafj N (by omega) hop ha hb ht, zafe N hN hop ha hb ht]
 have := zub.mk (m := zql p s i (zlu op a b (og p.zA i).zJ false)) N (by omega) h hs hi hk hn (zac8 _ _ _ _ _) (zafq _ _ _ _ _) (fun h0 => zaae h0) rfl
 simp only [obs]
 rcases this with ⟨e, u, he, h1, h2, h3⟩ | ⟨t, h1, h2, h3, h4⟩
 · exact .inl ⟨e, u, he, h1, by rw [h2]; rfl, h3⟩
 · exact .inr ⟨t, h1, by rw [h2]; rfl, h3, h4⟩
theorem zvb (N : Nat) (h : ProgV p) (hs : StI p s) {x : zI} {m : Except Int zC} {prog : Option zD} {rf : Option (Int × zC)} (hp : zub N p s m prog rf) (hx : zg8 p s x = zqc s m)
 (h1 : zd N (mI p s 0) x = prog.bind fun r => some (w6 (s.At + 1), r)) (h2 : zaf N p s = rf.bind fun r => some (w6 (s.At + 1), r.1, r.2)) : zh7 N p s x := by
 have a0 := hs.at0
 have a1 := hs.at1
 have i40 := h.i40
 have wn1 : w6 (s.At + 1) = s.At + 1 := w6e
 unfold zh7
 rw [hx, h1, h2, wn1]
 rcases hp with ⟨e, u, he, g1, g2, g3⟩ | ⟨t, g1, g2, g3, g4⟩
 · rw [g1, g2, g3]; exact .inl ⟨e, _, _, u, rfl, by omega, rfl, rfl⟩
 · rw [g1, g2, g3]; exact .inr ⟨_, _, _, rfl, rfl, rfl, fun _ => ⟨rfl, by omega, by omega⟩, hs.S g4, rfl, rfl, rfl⟩
theorem zm0 (hs : StI p s) {x : zI} (hx : p.zG[s.At.toNat]? = some x) : idx p.zG s.At = some x := by
 unfold idx
 rw [ifp hs.at0, hx]
theorem zahc (N : Nat) (hN : 20000 < N) (h : ProgV p) (hs : StI p s) {x : zI} (hx : p.zG[s.At.toNat]? = some x) (hop : x.Op = 0) : zh7 N p s x := by
 have hm := lmg hx
 have hi := zm0 hs hx
 obtain ⟨a0, b0, c0⟩ := zf1 h hm (k := 0) (c := 0) (by rw [hop]; rfl)
 obtain ⟨a1, b1, c1⟩ := zf1 h hm (k := 1) (c := 4) (by rw [hop]; rfl)
 have c0 : isS (og p.zA (ai x 0)).Kind = true := c0
 have c1 : (isD (og p.zA (ai x 1)).Kind && (zdd (og p.zA (ai x 1)) == zdd (og p.zA (ai x 0)))) = true := c1
 rw [Bool.and_eq_true] at c1
 have cn := eq_of_beq c1.2
 have a0 : idx x.Args 0 = some ((ai x 0 : Nat) : Int) := a0
 have a1 : idx x.Args 1 = some ((ai x 1 : Nat) : Int) := a1
 have hex : zg8 p s x = zqc s (if zdd (og p.zA (ai x 0)) = true then zabq p s x false else zaer p s x) := by unfold zg8; rw [hop]; rfl
 cases hn : zdd (og p.zA (ai x 0)) with
 | true =>
  rw [hn] at hex cn; refine zvb N h hs (z9g N (by omega) h hs.sto b0 c0 hn b1 c1.1 cn false) hex ?_ ?_
  · unfold zd; simp only [hop, Int.reduceBEq, ctr, cfa, obs, a0, a1]; rfl
  · unfold zaf znd; rw [hi, zfa N (by omega) h.ok]; simp only [hop, Int.reduceBEq, ctr, cfa, obs, a0, a1, zvl h b0 (zt7 c0), hn, bnt]
 | false =>
  rw [hn] at hex; refine zvb N h hs (zacv N (by omega) h hs.sto b0 c0 hn b1 c1.1) hex ?_ ?_
  · unfold zd; simp only [hop, Int.reduceBEq, ctr, cfa, obs, a0, a1]; rfl
  · unfold zaf znd; rw [hi, zfa N (by omega) h.ok]; simp only [hop, Int.reduceBEq, ctr, cfa, obs, a0, a1, zvl h b0 (zt7 c0), hn, Bool.not_false, zhr b0]; rfl
theorem zahb (N : Nat) (hN : 20000 < N) (h : ProgV p) (hs : StI p s) {x : zI} (hx : p.zG[s.At.toNat]? = some x) (hop : x.Op = 1) : zh7 N p s x := by
 have hm := lmg hx
 have hi := zm0 hs hx
 obtain ⟨a0, b0, c0⟩ := zf1 h hm (k := 0) (c := 2) (by rw [hop]; rfl)
 obtain ⟨a1, b1, c1⟩ := zf1 h hm (k := 1) (c := 3) (by rw [hop]; rfl)
 have c0 : (isS (og p.zA (ai x 0)).Kind && zdd (og p.zA (ai x 0))) = true := c0
 have c1 : (isD (og p.zA (ai x 1)).Kind && zdd (og p.zA (ai x 1))) = true := c1
 rw [Bool.and_eq_true] at c0 c1
 have a0 : idx x.Args 0 = some ((ai x 0 : Nat) : Int) := a0
 have a1 : idx x.Args 1 = some ((ai x 1 : Nat) : Int) := a1
 refine zvb N h hs (z9g N (by omega) h hs.sto b0 c0.1 c0.2 b1 c1.1 c1.2 true) (by unfold zg8; rw [hop]; rfl) ?_ ?_
 · unfold zd; simp only [hop, Int.reduceBEq, ctr, cfa, obs, a0, a1]; rfl
 · unfold zaf znd; rw [hi, zfa N (by omega) h.ok]; simp only [hop, Int.reduceBEq, ctr, cfa, obs, a0, a1]
theorem zac9 (N : Nat) (hN : 20000 < N) (h : ProgV p) (hs : StI p s) {x : zI} (hx : p.zG[s.At.toNat]? = some x) (hop : 2 ≤ x.Op ∧ x.Op ≤ 6) : zh7 N p s x := by
 have hm := lmg hx
 have hi := zm0 hs hx
 have hcls : zjx x.Op = [2, 3, 3] := by
  rcases (by omega : x.Op = 2 ∨ x.Op = 3 ∨ x.Op = 4 ∨ x.Op = 5 ∨ x.Op = 6) with e | e | e | e | e <;> rw [e] <;> rfl
 obtain ⟨a0, b0, c0⟩ := zf1 h hm (k := 0) (c := 2) (by rw [hcls]; rfl)
 obtain ⟨a1, b1, c1⟩ := zf1 h hm (k := 1) (c := 3) (by rw [hcls]; rfl)
 obtain ⟨a2, b2, c2⟩ := zf1 h hm (k := 2) (c := 3) (by rw [hcls]; rfl)
 have c0 : (isS (og p.zA (ai x 0)).Kind && zdd (og p.zA (ai x 0))) = true := c0
 have c1 : (isD (og p.zA (ai x 1)).Kind && zdd (og p.zA (ai x 1))) = true := c1
 have c2 : (isD (og p.zA (ai x 2)).Kind && zdd (og p.zA (ai x 2))) = true := c2
 rw [Bool.and_eq_true] at c0 c1 c2
 have a0 : idx x.Args 0 = some ((ai x 0 : Nat) : Int) := a0
 have a1 : idx x.Args 1 = some ((ai x 1 : Nat) : Int) := a1
 have a2 : idx x.Args 2 = some ((ai x 2 : Nat) : Int) := a2
 have w1 : w6 (x.Op - 2) = x.Op - 2 := w6e
 have w2 : w6 (x.Op - 2 + 0) = x.Op - 2 := by rw [Int.add_zero]; exact w1
 have hel : (([0, 1, 2, 3, 4] : List Int)[(x.Op - 2).toNat]?) = some (x.Op - 2) := by
  rcases (by omega : x.Op = 2 ∨ x.Op = 3 ∨ x.Op = 4 ∨ x.Op = 5 ∨ x.Op = 6) with e | e | e | e | e <;> rw [e] <;> rfl
 have hpart : zub N p s (z0u p s x) (zdv N (mI p s 0) (x.Op - 2) x.Args)
  ((zds N p s ((ai x 1 : Nat) : Int)).bind fun r11 => cond (r11.2 != 0) (some (r11.2, s)) ((zds N p s ((ai x 2 : Nat) : Int)).bind fun r15 => cond (r15.2 != 0) (some (r15.2, s))
   ((zlg N (⟨x.Op - 2, (og p.zA (ai x 0)).zJ, false⟩ : zT) r11.1 r15.1).bind fun r18 => zud N p s (ai x 0) r18))) := by
  unfold z0u zdv; rw [a0, a1, a2]; simp only [obs]; rcases zru N (by omega) h hs.sto b1 c1.1 c1.2 with ⟨e, k, he, h1, h2, h3⟩ | ⟨n, h1, h2, h3, h4⟩
  · left; rw [h1, h2, h3]; simp only [obs]; rw [z7h N (by omega) h hs.sto b2 c2.1 (show e ≠ 0 by omega)]; simp only [obs, show (mI p s e).raised = e from rfl, zd1, dct (show e ≠ 0 by omega), ctr]; exact ⟨e, s, by omega, rfl, rfl, rfl⟩
  · rw [h1, h2, h3]; simp only [obs, bsf, cfa]; rcases zru N (by omega) h hs.sto b2 c2.1 c2.2 with ⟨e, k, he, g1, g2, g3⟩ | ⟨n2, g1, g2, g3, g4⟩
    · left; rw [g1, g2, g3]; simp only [obs, show (mI p s e).raised = e from rfl, zd1, dct (show e ≠ 0 by omega), ctr]; exact ⟨e, s, by omega, rfl, rfl, rfl⟩
    · rw [g1, g2, g3]; simp only [obs, show (mI p s 0).raised = 0 from rfl, show (mI p s 0).zB = p from rfl, bsf, cfa]; rw [zhr b0]; simp only [obs]; exact zac7 N (by omega) h hs.sto (by omega) b0 c0.1 c0.2 h4 g4
 refine zvb N h hs hpart ?_ ?_ ?_
 · unfold zg8; rcases (by omega : x.Op = 2 ∨ x.Op = 3 ∨ x.Op = 4 ∨ x.Op = 5 ∨ x.Op = 6) with e | e | e | e | e <;> rw [e] <;> rfl
 · unfold zd; rw [w1, w2]; rcases (by omega : x.Op = 2 ∨ x.Op = 3 ∨ x.Op = 4 ∨ x.Op = 5 ∨ x.Op = 6) with e | e | e | e | e <;> simp only [e, Int.reduceBEq, ctr, cfa, obs] <;> rfl
 · unfold zaf znd; rw [hi, zfa N (by omega) h.ok]; simp only [obs, a0, a1, a2, w1, hel, ifp (show 0 ≤ x.Op - 2 by omega), ifp (show x.Op - 2 < (([0, 1, 2, 3, 4] : List Int).length : Int) by show x.Op - 2 < 5; omega), zhr b0]; rcases (by omega : x.Op = 2 ∨ x.Op = 3 ∨ x.Op = 4 ∨ x.Op = 5 ∨ x.Op = 6) with e | e | e | e | e <;> simp only [e, Int.reduceBEq, ctr, cfa, obs] <;> rfl
end
section
variable {p : zB} {s : zC}
theorem zad2 (N : Nat) (hN : 20000 < N) (h : ProgV p) (hs : StoP p s.Storage) {x : zI} (hop : x.Op = 7 ∨ x.Op = 8) (a0 : idx x.Args 0 = some ((ai x 0 : Nat) : Int)) (a1 : idx x.Args 1 = some ((ai x 1 : Nat) : Int))
 (b0 : ai x 0 < p.zA.length) (b1 : ai x 1 < p.zA.length) (c0 : isD (og p.zA (ai x 0)).Kind = true) (c1 : isD (og p.zA (ai x 1)).Kind = true) (cn : zdd (og p.zA (ai x 1)) = zdd (og p.zA (ai x 0))) :
 (∃ e o k, (1 ≤ e ∧ e ≤ 5) ∧ z25 p s x = .error e ∧ zdc N (mI p s 0) ((ai x 0 : Nat) : Int) ((ai x 1 : Nat) : Int) = some (o, mI p s e) ∧ zne N p s x = some (k, e)) ∨
 ∃ o, z25 p s x = .ok o ∧ zdc N (mI p s 0) ((ai x 0 : Nat) : Int) ((ai x 1 : Nat) : Int) = some (o, mI p s 0) ∧ zne N p s x = some (zt8 x.Op o, 0) := by
 have hcond : ∀ o : Int, (cond (x.Op == 7) (some ((o == 0), (0 : Int))) (some (decide (o < 0), 0))) = some (zt8 x.Op o, 0) := fun o => by
  unfold zt8; rcases hop with e | e <;> rw [e]
  · rw [ifp rfl, zcn o]; rfl
  · rw [ifn (by decide)]; rfl
 unfold z25 zdc zne
 rw [show (mI p s 0).zB = p from rfl, zhr b0, a0, a1]
 simp only [obs, zz7]
 rw [zvl h b0 c0]
 simp only [obs]
 show (∃ e o k, _ ∧ (if zdd (og p.zA (ai x 0)) = true then _ else _) = _ ∧ _ ∧ _) ∨ ∃ o, (if zdd (og p.zA (ai x 0)) = true then _ else _) = _ ∧ _ ∧ _
 cases hn : zdd (og p.zA (ai x 0)) with
 | true =>
  rw [hn] at cn; simp only [if_true, ctr]; rcases zru N (by omega) h hs b0 c0 hn with ⟨e, k, he, h1, h2, h3⟩ | ⟨n, h1, h2, h3, h4⟩
  · left; rw [h1, h2, h3]; simp only [obs]; rw [z7h N (by omega) h hs b1 c1 (show e ≠ 0 by omega)]; simp only [obs]; rw [zxt N (by omega) zst zst, zd1, dct (show e ≠ 0 by omega)]; exact ⟨e, _, false, by omega, rfl, rfl, rfl⟩
  · rw [h1, h2, h3]; simp only [obs, bsf, cfa]; rcases zru N (by omega) h hs b1 c1 cn with ⟨e, k, he, g1, g2, g3⟩ | ⟨n2, g1, g2, g3, g4⟩
    · left; rw [g1, g2, g3]; simp only [obs]; rw [zxt N (by omega) h4 zst, zd1, dct (show e ≠ 0 by omega)]; exact ⟨e, _, false, by omega, rfl, rfl, rfl⟩
    · right; rw [g1, g2, g3]; simp only [obs, bsf, cfa]; rw [zxt N (by omega) h4 g4, zadw N (by omega) h4 g4]; simp only [obs, hcond]; exact ⟨_, rfl, rfl, rfl⟩
 | false =>
  simp only [Bool.false_eq_true, if_false, cfa]; have z0 := zeu ((zkf h.ok b0).ty c0).1; have z1 := zeu ((zkf h.ok b1).ty c1).1; rcases zyl N (by omega) h hs b0 c0 with ⟨e, k, he, h1, h2, h3⟩ | ⟨b, h1, h2, h3, h4⟩
  · left; obtain ⟨b', g1, g2⟩ := z8a N (by omega) h hs b1 c1 (show e ≠ 0 by omega); rw [h1, h2, h3]; simp only [obs]; rw [g1]; simp only [obs]; rw [z9o _ _ (by decide) (by omega), zd1, dct (show e ≠ 0 by omega)]; exact ⟨e, _, false, by omega, rfl, rfl, rfl⟩
  · rw [h1, h2, h3]; simp only [obs, bsf, cfa]; rcases zyl N (by omega) h hs b1 c1 with ⟨e, k, he, g1, g2, g3⟩ | ⟨b2, g1, g2, g3, g4⟩
    · left; rw [g1, g2, g3]; simp only [obs]; rw [z9o _ _ (by omega) (by decide), zd1, dct (show e ≠ 0 by omega)]; exact ⟨e, _, false, by omega, rfl, rfl, rfl⟩
    · right; rw [g1, g2, g3]; simp only [obs, bsf, cfa]; rw [z9o _ _ (by omega) (by omega), zagl N (by omega) b b2 (by omega) (by omega) (fun o => cond (x.Op == 7) (some ((o == 0), (0 : Int))) (some (decide (o < 0), 0))), hcond]; exact ⟨_, rfl, rfl, rfl⟩
theorem z9j (h : ProgV p) {i : Nat} (hi : i < p.zA.length) (hk : (og p.zA i).Kind = 5) : 0 ≤ (og p.zA i).Target ∧ (og p.zA i).Target < (p.zG.length : Int) := (zkf h.ok hi).tg hk
theorem zz6 (i : Nat) (hi : i < p.zA.length) (e : Int) : zcy (mI p s e) (i : Int) = some (og p.zA i).Target := by
 unfold zcy
 rw [show (mI p s e).zB = p from rfl, zhr hi]
 rfl
theorem zafs (N : Nat) (hN : 20000 < N) (h : ProgV p) (hs : StI p s) {x : zI} (hx : p.zG[s.At.toNat]? = some x) (hop : x.Op = 7 ∨ x.Op = 8) : zh7 N p s x := by
 have hm := lmg hx
 have hi := zm0 hs hx
 have q0 := hs.at0
 have q1 := hs.at1
 have i40 := h.i40
 have wn1 : w6 (s.At + 1) = s.At + 1 := w6e
 have hcls : zjx x.Op = [1, 4, 6] := by rcases hop with e | e <;> rw [e] <;> rfl
 obtain ⟨a0, b0, c0⟩ := zf1 h hm (k := 0) (c := 1) (by rw [hcls]; rfl)
 obtain ⟨a1, b1, c1⟩ := zf1 h hm (k := 1) (c := 4) (by rw [hcls]; rfl)
 obtain ⟨a2, b2, c2⟩ := zf1 h hm (k := 2) (c := 6) (by rw [hcls]; rfl)
 have c0 : isD (og p.zA (ai x 0)).Kind = true := c0
 have c1 : (isD (og p.zA (ai x 1)).Kind && (zdd (og p.zA (ai x 1)) == zdd (og p.zA (ai x 0)))) = true := c1
 have c2 : decide ((og p.zA (ai x 2)).Kind = 5) = true := c2
 rw [Bool.and_eq_true] at c1
 have cn := eq_of_beq c1.2
 have lt := z9j h b2 (of_decide_eq_true c2)
 have a0 : idx x.Args 0 = some ((ai x 0 : Nat) : Int) := a0
 have a1 : idx x.Args 1 = some ((ai x 1 : Nat) : Int) := a1
 have a2 : idx x.Args 2 = some ((ai x 2 : Nat) : Int) := a2
 have hex : zg8 p s x = (match z25 p s x with | .error e => .error e | .ok o => .ok (cond (zt8 x.Op o) (oa p x 2).Target (s.At + 1), s)) := by
  unfold zg8; rcases hop with e | e <;> rw [e] <;> rfl
 have hpr : zd N (mI p s 0) x = (zdc N (mI p s 0) ((ai x 0 : Nat) : Int) ((ai x 1 : Nat) : Int)).bind fun r10 => cond (zt8 x.Op r10.1) ((zcy r10.2 ((ai x 2 : Nat) : Int)).bind fun r15 => some (r15, r10.2)) (some (s.At + 1, r10.2)) := by
  unfold zd zt8; rcases hop with e | e <;> simp only [e, Int.reduceBEq, ctr, cfa, obs, a0, a1, a2, show (mI p s 0).zC = s from rfl, wn1]
  · congr 1
    funext r
    rw [ifp trivial, zcn]; cases decide (r.1 = 0) <;> rfl
  · congr 1
 have hrf : zaf N p s = (zne N p s x).bind fun r6 => cond (r6.2 != 0) (some (0, r6.2, s)) (cond r6.1 (some ((og p.zA (ai x 2)).Target, 0, s)) (some (s.At + 1, 0, s))) := by
  unfold zaf; rw [hi, zfa N (by omega) h.ok]; rcases hop with e | e <;> simp only [e, Int.reduceBEq, ctr, cfa, obs, a2, zhr b2, wn1]
 unfold zh7
 rw [hex, hpr, hrf]
 rcases zad2 N hN h hs.sto hop a0 a1 b0 b1 c0 c1.1 cn with ⟨e, o, k, he, h1, h2, h3⟩ | ⟨o, h1, h2, h3⟩
 · left; rw [h1, h2, h3]; simp only [obs, zd1, dct (show e ≠ 0 by omega), ctr]; rw [zz6 _ b2]; cases zt8 x.Op o
   · exact ⟨e, _, _, _, rfl, by omega, rfl, rfl⟩
   · exact ⟨e, _, _, _, rfl, by omega, rfl, rfl⟩
 · right; rw [h1, h2, h3]; simp only [obs, bsf, cfa]; rw [zz6 _ b2]; cases zt8 x.Op o
   · exact ⟨_, _, _, rfl, rfl, rfl, fun _ => ⟨rfl, by show 0 ≤ s.At + 1; omega, by show s.At + 1 ≤ _; omega⟩, hs, rfl, rfl, rfl⟩
   · exact ⟨_, _, _, rfl, rfl, rfl, fun _ => ⟨rfl, by show 0 ≤ (og p.zA (ai x 2)).Target; omega, by show (og p.zA (ai x 2)).Target ≤ _; omega⟩, hs, rfl, rfl, rfl⟩
theorem zaha (N : Nat) (hN : 20000 < N) (h : ProgV p) (hs : StI p s) {x : zI} (hx : p.zG[s.At.toNat]? = some x) (hop : x.Op = 9) : zh7 N p s x := by
 have hm := lmg hx
 have hi := zm0 hs hx
 obtain ⟨a0, b0, c0⟩ := zf1 h hm (k := 0) (c := 6) (by rw [hop]; rfl)
 have c0 : decide ((og p.zA (ai x 0)).Kind = 5) = true := c0
 have lt := z9j h b0 (of_decide_eq_true c0)
 have a0 : idx x.Args 0 = some ((ai x 0 : Nat) : Int) := a0
 right
 refine ⟨(og p.zA (ai x 0)).Target, (og p.zA (ai x 0)).Target, s, by unfold zg8; rw [hop]; rfl, ?_, ?_, fun _ => ⟨rfl, by omega, by omega⟩, hs, rfl, rfl, rfl⟩
 · unfold zd; simp only [hop, Int.reduceBEq, ctr, cfa, obs, a0]; rw [zz6 _ b0]; rfl
 · unfold zaf; rw [hi, zfa N (by omega) h.ok]; simp only [hop, Int.reduceBEq, ctr, cfa, obs, a0, zhr b0]
theorem zyp (N : Nat) (hN : 2000 < N) (h : ProgV p) (hs : StoP p s.Storage) {i : Nat} (hi : i < p.zA.length) (h3 : (og p.zA i).Kind = 3) (o : Nat) (ho : o ≤ 16777215) :
 zcz N s.Storage (zdh p.zA i) (zka o) = some (stV s.Storage (zdh p.zA i).toNat o, 0) ∧ zj6 N s.Storage (zdh p.zA i) (zka o) = some (stV s.Storage (zdh p.zA i).toNat o) ∧ StoP p (stV s.Storage (zdh p.zA i).toNat o) := by
 obtain ⟨q, l0, l1, l2⟩ := zx5 h hi h3 hs
 refine ⟨zadh N hN hs.sto q o ho, zadr N hN hs.sto q o ho, ⟨zagg hs.sto (by omega) (by omega) ho, by rw [zadk (by omega)]; exact hs.size⟩⟩
theorem zaf1 (N : Nat) (hN : 20000 < N) (h : ProgV p) (hs : StI p s) {x : zI} (hx : p.zG[s.At.toNat]? = some x) (hop : x.Op = 10) : zh7 N p s x := by
 have hm := lmg hx
 have hi := zm0 hs hx
 have q0 := hs.at0
 have q1 := hs.at1
 have i40 := h.i40
 have wn1 : w6 (s.At + 1) = s.At + 1 := w6e
 have hl := hs.sto.sto.le
 obtain ⟨a0, b0, c0⟩ := zf1 h hm (k := 0) (c := 5) (by rw [hop]; rfl)
 obtain ⟨a1, b1, c1⟩ := zf1 h hm (k := 1) (c := 0) (by rw [hop]; rfl)
 have c0 : decide ((og p.zA (ai x 0)).Kind = 3) = true := c0
 have c0 := of_decide_eq_true c0
 have c1 : isS (og p.zA (ai x 1)).Kind = true := c1
 have a0 : idx x.Args 0 = some ((ai x 0 : Nat) : Int) := a0
 have a1 : idx x.Args 1 = some ((ai x 1 : Nat) : Int) := a1
 have hz := zeu ((zkf h.ok b1).ty (zt7 c1)).1
 have hex : zg8 p s x = zqc s (match adI p s.Storage (ai x 1) with | .error e => .error e | .ok a => .ok (mS s (stV s.Storage (zdh p.zA (ai x 0)).toNat a.toNat))) := by unfold zg8; rw [hop]; rfl
 have hpr : zd N (mI p s 0) x = (zd2 N (mI p s 0) x.Args).bind fun r => some (s.At + 1, r) := by
  unfold zd; simp only [hop, Int.reduceBEq, ctr, cfa, obs, show (mI p s 0).zC = s from rfl, wn1]
 have hrf : zaf N p s = (zdz N p s ((ai x 1 : Nat) : Int)).bind fun r12 => cond (r12.2 != 0) (some (0, r12.2, s)) ((zj6 N s.Storage (zdh p.zA (ai x 0)) (⟨0, (⟨1, r12.1⟩ : Address), 0⟩ : Pointer)).bind fun r15 => some (s.At + 1, 0, mS s r15)) := by
  unfold zaf; rw [hi, zfa N (by omega) h.ok]; simp only [hop, Int.reduceBEq, ctr, cfa, obs, a0, a1, zns b0, wn1]; rfl
 unfold zh7
 rw [hex, hpr, hrf]
 unfold zd2
 rw [a0, a1]
 simp only [obs]
 rcases z65 N (by omega) h hs.sto b1 c1 with ⟨e, j, k, he, h1, h2, h3⟩ | ⟨a, h1, h2, h3, h4, h5⟩
 · left; rw [h1, h2, h3]; simp only [obs, show (mI p s e).raised = e from rfl, zcn, zd1, dct (show e ≠ 0 by omega), dcf (show ¬ e = 0 by omega), ctr, cfa]; exact ⟨e, _, _, _, rfl, by omega, rfl, rfl⟩
 · right; obtain ⟨a, rfl⟩ : ∃ k : Nat, a = (k : Int) := ⟨a.toNat, by omega⟩; obtain ⟨g1, g2, g3⟩ := zyp N (by omega) h hs.sto b0 c0 a (by omega); rw [h1, h2, h3]; simp only [obs, show (mI p s 0).raised = 0 from rfl, show (mI p s 0).layout = znv p.zA from rfl, show (mI p s 0).zC = s from rfl, bst, bsf, ctr, cfa]; rw [zns b0]; simp only [obs]; rw [show (⟨0, (⟨1, (a : Int)⟩ : Address), 0⟩ : Pointer) = zka a from rfl, g1, g2]; exact ⟨_, _, _, rfl, rfl, rfl, fun _ => ⟨rfl, by omega, by omega⟩, hs.S g3, rfl, rfl, rfl⟩
theorem zaf0 (N : Nat) (hN : 20000 < N) (h : ProgV p) (hs : StI p s) {x : zI} (hx : p.zG[s.At.toNat]? = some x) (hop : x.Op = 11) : zh7 N p s x := by
 have hm := lmg hx
 have hi := zm0 hs hx
 have q0 := hs.at0
 have q1 := hs.at1
 have i40 := h.i40
 have wn1 : w6 (s.At + 1) = s.At + 1 := w6e
 obtain ⟨a0, b0, c0⟩ := zf1 h hm (k := 0) (c := 5) (by rw [hop]; rfl)
 obtain ⟨a1, b1, c1⟩ := zf1 h hm (k := 1) (c := 5) (by rw [hop]; rfl)
 have c0 : decide ((og p.zA (ai x 0)).Kind = 3) = true := c0
 have c0 := of_decide_eq_true c0
 have c1 : decide ((og p.zA (ai x 1)).Kind = 3) = true := c1
 have c1 := of_decide_eq_true c1
 have a0 : idx x.Args 0 = some ((ai x 0 : Nat) : Int) := a0
 have a1 : idx x.Args 1 = some ((ai x 1 : Nat) : Int) := a1
 have hex : zg8 p s x = zqc s (match ldV s.Storage (zdh p.zA (ai x 1)) with | none => .error 4 | some o => .ok (mS s (stV s.Storage (zdh p.zA (ai x 0)).toNat o.toNat))) := by unfold zg8; rw [hop]; rfl
 have hpr : zd N (mI p s 0) x = (zdg N (mI p s 0) x.Args).bind fun r => some (s.At + 1, r) := by
  unfold zd; simp only [hop, Int.reduceBEq, ctr, cfa, obs, show (mI p s 0).zC = s from rfl, wn1]
 have hrf : zaf N p s = (zoh N s.Storage (zdh p.zA (ai x 1))).bind fun r18 => cond (r18.2 != 0) (some (0, 4, s)) ((zj6 N s.Storage (zdh p.zA (ai x 0)) r18.1).bind fun r21 => some (s.At + 1, 0, mS s r21)) := by
  unfold zaf; rw [hi, zfa N (by omega) h.ok]; simp only [hop, Int.reduceBEq, ctr, cfa, obs, a0, a1, zns b0, zns b1, wn1]; rfl
 unfold zh7
 rw [hex, hpr, hrf]
 unfold zdg
 rw [a0, a1]
 simp only [obs]
 rw [zvt N (by omega) h hs.sto b1 c1, z6k N (by omega) hs.sto.sto (zx5 h b1 c1 hs.sto).1]
 cases hld : ldV s.Storage (zdh p.zA (ai x 1)) with
 | none => exact .inl ⟨4, _, _, _, rfl, by decide, rfl, rfl⟩
 | some o =>
  right; have ho := z2m hs.sto.sto hld; obtain ⟨o, rfl⟩ : ∃ k : Nat, o = (k : Int) := ⟨o.toNat, by omega⟩; obtain ⟨g1, g2, g3⟩ := zyp N (by omega) h hs.sto b0 c0 o (by omega); simp only [obs, show (mI p s 0).raised = 0 from rfl, show (mI p s 0).layout = znv p.zA from rfl, show (mI p s 0).zC = s from rfl, bst, bsf, ctr, cfa]; rw [zns b0]; simp only [obs]; rw [g1, g2]; exact ⟨_, _, _, rfl, rfl, rfl, fun _ => ⟨rfl, by omega, by omega⟩, hs.S g3, rfl, rfl, rfl⟩
theorem zafz (N : Nat) (hN : 20000 < N) (h : ProgV p) (hs : StI p s) {x : zI} (hx : p.zG[s.At.toNat]? = some x) (hop : x.Op = 12) : zh7 N p s x := by
 have hm := lmg hx
 have hi := zm0 hs hx
 have q0 := hs.at0
 have q1 := hs.at1
 have i40 := h.i40
 have wn1 : w6 (s.At + 1) = s.At + 1 := w6e
 obtain ⟨a0, b0, c0⟩ := zf1 h hm (k := 0) (c := 5) (by rw [hop]; rfl)
 obtain ⟨a1, b1, c1⟩ := zf1 h hm (k := 1) (c := 3) (by rw [hop]; rfl)
 have c0 : decide ((og p.zA (ai x 0)).Kind = 3) = true := c0
 have c0 := of_decide_eq_true c0
 have c1 : (isD (og p.zA (ai x 1)).Kind && zdd (og p.zA (ai x 1))) = true := c1
 rw [Bool.and_eq_true] at c1
 have a0 : idx x.Args 0 = some ((ai x 0 : Nat) : Int) := a0
 have a1 : idx x.Args 1 = some ((ai x 1 : Nat) : Int) := a1
 have hex : zg8 p s x = zqc s (match ldV s.Storage (zdh p.zA (ai x 0)) with
  | none => .error 4
  | some o => match nuI p s.Storage (ai x 1) with
   | .error e => .error e
   | .ok n => if inB (o + zge n) 0 16777215 = true then .ok (mS s (stV s.Storage (zdh p.zA (ai x 0)).toNat (o + zge n).toNat)) else .error 5) := by unfold zg8; rw [hop]; rfl
 have hpr : zd N (mI p s 0) x = (zeg N (mI p s 0) x.Args).bind fun r => some (s.At + 1, r) := by
  unfold zd; simp only [hop, Int.reduceBEq, ctr, cfa, obs, show (mI p s 0).zC = s from rfl, wn1]
 have hrf : zaf N p s = (zoh N s.Storage (zdh p.zA (ai x 0))).bind fun r24 => cond (r24.2 != 0) (some (0, 4, s)) ((zds N p s ((ai x 1 : Nat) : Int)).bind fun r26 => cond (r26.2 != 0) (some (0, r26.2, s)) ((zo2 N r26.1).bind fun r27 =>
  cond (!inB (w6 (r24.1.Address.Offset + r27)) 0 16777215) (some (0, 5, s)) ((zj6 N s.Storage (zdh p.zA (ai x 0)) (⟨r24.1.Kind, (⟨r24.1.Address.zU, (w6 (r24.1.Address.Offset + r27))⟩ : Address), r24.1.Authority⟩ : Pointer)).bind fun r31 => some (s.At + 1, 0, mS s r31)))) := by
  unfold zaf; rw [hi, zfa N (by omega) h.ok]; simp only [hop, Int.reduceBEq, ctr, cfa, obs, a0, a1, zns b0, wn1, zjg]; rfl
 unfold zh7
 rw [hex, hpr, hrf]
 unfold zeg
 rw [a0, a1]
 simp only [obs]
 rw [zvt N (by omega) h hs.sto b0 c0, z6k N (by omega) hs.sto.sto (zx5 h b0 c0 hs.sto).1]
 cases hld : ldV s.Storage (zdh p.zA (ai x 0)) with
 | none => exact .inl ⟨4, _, _, _, rfl, by decide, rfl, rfl⟩
 | some o =>
  have ho := z2m hs.sto.sto hld; simp only [obs, show (mI p s 0).raised = 0 from rfl, bsf, cfa]; rcases zru N (by omega) h hs.sto b1 c1.1 c1.2 with ⟨e, k, he, h1, h2, h3⟩ | ⟨n, h1, h2, h3, h4⟩
  · left; rw [h1, h2, h3]; simp only [obs]; rw [zz4 N (by omega) zst]; simp only [obs, show (mI p s e).raised = e from rfl, zd1, dct (show e ≠ 0 by omega), ctr]; exact ⟨e, _, _, _, rfl, by omega, rfl, rfl⟩
  · have hw := zwf h4; rw [h1, h2, h3]; simp only [obs, show (mI p s 0).raised = 0 from rfl, bsf, cfa]; rw [zz4 N (by omega) h4, z48 N (by omega) h4]; simp only [obs, z0c, show (zka o).Address.Offset = o from rfl]; rw [w6e (n := o + zge n)]; cases hin : inB (o + zge n) 0 16777215 with
    | false => exact .inl ⟨5, _, _, _, rfl, by decide, rfl, rfl⟩
    | true =>
     right; have hr := zbf.1 hin; obtain ⟨q, hq⟩ : ∃ k : Nat, o + zge n = (k : Int) := ⟨(o + zge n).toNat, by omega⟩; obtain ⟨g1, g2, g3⟩ := zyp N (by omega) h hs.sto b0 c0 q (by omega); simp only [bnt, cfa, if_true, show (mI p s 0).zC = s from rfl]; rw [hq, show (⟨(zka o).Kind, (⟨(zka o).Address.zU, (q : Int)⟩ : Address), (zka o).Authority⟩ : Pointer) = zka q from rfl, g1, g2]; exact ⟨_, _, _, rfl, rfl, rfl, fun _ => ⟨rfl, by omega, by omega⟩, hs.S g3, rfl, rfl, rfl⟩
end
section
variable {p : zB} {s : zC}
theorem zafy (N : Nat) (hN : 20000 < N) (h : ProgV p) (hs : StI p s) {x : zI} (hx : p.zG[s.At.toNat]? = some x) (hop : x.Op = 13) : zh7 N p s x := by
 have hm := lmg hx
 have hi := zm0 hs hx
 have q0 := hs.at0
 have q1 := hs.at1
 have st := hs.stk
 obtain ⟨a0, b0, c0⟩ := zf1 h hm (k := 0) (c := 6) (by rw [hop]; rfl)
 have c0 : decide ((og p.zA (ai x 0)).Kind = 5) = true := c0
 have lt := z9j h b0 (of_decide_eq_true c0)
 have a0 : idx x.Args 0 = some ((ai x 0 : Nat) : Int) := a0
 have hex : zg8 p s x = if 6 ≤ s.Stack.length then .error 6 else .ok ((og p.zA (ai x 0)).Target, mK s (s.Stack ++ [s.At])) := by unfold zg8; rw [hop]; rfl
 have hpr : zd N (mI p s 0) x = (zfx (mI p s 0) (og p.zA (ai x 0)).Target).bind fun r => some (r.1, r.2) := by
  unfold zd; simp only [hop, Int.reduceBEq, ctr, cfa, obs, a0, zz6 _ b0]
 have hrf : zaf N p s = cond ((s.Stack.length : Int) == 6) (some (0, 6, s)) (cond (Nat.ble ((s.Stack.length + ([s.At] : List Int).length) * 8) zbr) (some ((og p.zA (ai x 0)).Target, 0, mK s (s.Stack ++ [s.At]))) none) := by
  unfold zaf; rw [hi, zfa N (by omega) h.ok]; simp only [hop, Int.reduceBEq, ctr, cfa, obs, a0, zhr b0]; rfl
 unfold zh7
 rw [hex, hpr, hrf]
 unfold zfx zki
 simp only [show (mI p s 0).zC = s from rfl, lns, zcn]
 by_cases h6 : 6 ≤ s.Stack.length
 · left; rw [ifp h6, dct (show (s.Stack.length : Int) ≥ 6 by omega), dct (show (s.Stack.length : Int) = 6 by omega)]; exact ⟨6, _, _, _, rfl, by decide, rfl, rfl⟩
 · right; rw [ifn h6, dcf (show ¬ (s.Stack.length : Int) ≥ 6 by omega), dcf (show ¬ (s.Stack.length : Int) = 6 by omega), zao (by omega), zao (by omega)]; simp only [cfa, ctr, obs]; rw [zao (by omega)]; refine ⟨_, _, _, rfl, rfl, rfl, fun _ => ⟨rfl, by omega, by omega⟩, hs.K (by rw [lna, lns]; omega) (fun i hi => ?_), rfl, rfl, rfl⟩; rcases List.mem_append.1 hi with g | g
   · exact hs.calls i g
   · rw [List.mem_singleton.1 g]; exact ⟨⟨q0, q1⟩, x, hx, hop⟩
theorem zafx (N : Nat) (hN : 20000 < N) (h : ProgV p) (hs : StI p s) {x : zI} (hx : p.zG[s.At.toNat]? = some x) (hop : x.Op = 14) : zh7 N p s x := by
 have hi := zm0 hs hx
 have q0 := hs.at0
 have q1 := hs.at1
 have st := hs.stk
 have i40 := h.i40
 have hex : zg8 p s x = if s.Stack.length = 0 then .ok (s.At, mT s 1) else .ok (s.Stack.getD (s.Stack.length - 1) 0 + 1, mK s (s.Stack.take (s.Stack.length - 1))) := by unfold zg8; rw [hop]; rfl
 have hpr : zd N (mI p s 0) x = (zfy (mI p s 0)).bind fun r => some (r.1, r.2) := by
  unfold zd; simp only [hop, Int.reduceBEq, ctr, cfa, obs]
 unfold zh7 zaf
 rw [hex, hpr, hi, zfa N (by omega) h.ok]
 simp only [hop, Int.reduceBEq, ctr, cfa, obs]
 unfold zfy
 simp only [show (mI p s 0).zC = s from rfl, zcn]
 right
 by_cases h0 : s.Stack.length = 0
 · rw [ifp h0, dct (show (s.Stack.length : Int) = 0 by omega)]; exact ⟨_, _, _, rfl, rfl, rfl, fun h => (by cases h), hs.T (by decide) (by decide), rfl, rfl, rfl⟩
 · rw [ifn h0, dcf (show ¬ (s.Stack.length : Int) = 0 by omega)]; simp only [cfa]; have wl : w6 ((s.Stack.length : Int) - 1) = ((s.Stack.length - 1 : Nat) : Int) := by rw [w6e]; omega
   have hg : s.Stack[s.Stack.length - 1]? = some (s.Stack.getD (s.Stack.length - 1) 0) := by
    rw [gdd, lge (by omega)]; rfl
   have hc := hs.calls _ (lmg hg); have wn : w6 (s.Stack.getD (s.Stack.length - 1) 0 + 1) = s.Stack.getD (s.Stack.length - 1) 0 + 1 := w6e; have k1 : 0 ≤ ((s.Stack.length - 1 : Nat) : Int) ∧ ((s.Stack.length - 1 : Nat) : Int) ≤ (s.Stack.length : Int) := by omega
   have k2 : 0 ≤ (0 : Int) ∧ (0 : Int) ≤ ((s.Stack.length - 1 : Nat) : Int) := by omega
   have k3 : 0 ≤ ((s.Stack.length - 1 : Nat) : Int) := by omega
   have k4 : ((s.Stack.length - 1 : Nat) : Int) < (s.Stack.length : Int) := by omega
   simp only [wl, zai, itn, hg, obs, ifp k1, ifp k2, ifp k3, ifp k4, wn]; unfold zki; rw [show (s.Stack.take (s.Stack.length - 1)).drop (0 : Int).toNat = s.Stack.take (s.Stack.length - 1) from rfl, zao (by rw [lnt]; omega)]; refine ⟨_, _, _, rfl, rfl, rfl, fun _ => ⟨rfl, by omega, by omega⟩, hs.K (by rw [lnt]; omega) (fun i hi => hs.calls i (List.mem_of_mem_take hi)), rfl, rfl, rfl⟩
theorem zafw (N : Nat) (hN : 20000 < N) (h : ProgV p) (hs : StI p s) {x : zI} (hx : p.zG[s.At.toNat]? = some x) (hop : x.Op = 15) : zh7 N p s x := by
 have hm := lmg hx
 have hi := zm0 hs hx
 obtain ⟨a0, b0, c0⟩ := zf1 h hm (k := 0) (c := 3) (by rw [hop]; rfl)
 have c0 : (isD (og p.zA (ai x 0)).Kind && zdd (og p.zA (ai x 0))) = true := c0
 rw [Bool.and_eq_true] at c0
 have a0 : idx x.Args 0 = some ((ai x 0 : Nat) : Int) := a0
 have hex : zg8 p s x = (match nuI p s.Storage (ai x 0) with | .error e => .error e | .ok n => if inB (zge n) 100 999 = true then .error (zge n) else .error 2) := by unfold zg8; rw [hop]; rfl
 have hpr : zd N (mI p s 0) x = (zev N (mI p s 0) ((ai x 0 : Nat) : Int)).bind fun r => some (w6 (s.At + 1), r) := by
  unfold zd; simp only [hop, Int.reduceBEq, ctr, cfa, obs, a0]; rfl
 have hrf : zaf N p s = (zds N p s ((ai x 0 : Nat) : Int)).bind fun r36 => cond (r36.2 != 0) (some (0, r36.2, s)) ((zo2 N r36.1).bind fun r37 => cond (inB r37 100 999) (some (0, r37, s)) (some (0, 2, s))) := by
  unfold zaf; rw [hi, zfa N (by omega) h.ok]; simp only [hop, Int.reduceBEq, ctr, cfa, obs, a0, zjg]
 unfold zh7
 rw [hex, hpr, hrf]
 unfold zev
 left
 rcases zru N (by omega) h hs.sto b0 c0.1 c0.2 with ⟨e, k, he, h1, h2, h3⟩ | ⟨n, h1, h2, h3, h4⟩
 · rw [h1, h2, h3]; simp only [obs]; rw [zz4 N (by omega) zst]; simp only [obs, z0c]; rw [zu4 p s (show e ≠ 0 by omega), zu4 p s (show e ≠ 0 by omega), zd1, dct (show e ≠ 0 by omega)]; exact ⟨e, _, _, _, rfl, by omega, by cases inB (zge ⟨0, 0⟩) 100 999 <;> rfl, rfl⟩
 · have hw := zwf h4; rw [h1, h2, h3]; simp only [obs, bsf, cfa]; rw [zz4 N (by omega) h4, z48 N (by omega) h4]; simp only [obs, z0c, z7o]; cases hin : inB (zge n) 100 999 with
   | true =>
    have := zbf.1 hin; exact ⟨zge n, _, _, _, rfl, by omega, rfl, rfl⟩
   | false => exact ⟨2, _, _, _, rfl, by omega, rfl, rfl⟩
theorem zafv (N : Nat) (hN : 20000 < N) (h : ProgV p) (hs : StI p s) {x : zI} (hx : p.zG[s.At.toNat]? = some x) (hop : x.Op = 16) : zh7 N p s x := by
 have hm := lmg hx
 have hi := zm0 hs hx
 have e0 := hs.ex0
 have e1 := hs.ex1
 obtain ⟨a0, b0, c0⟩ := zf1 h hm (k := 0) (c := 2) (by rw [hop]; rfl)
 have c0 : (isS (og p.zA (ai x 0)).Kind && zdd (og p.zA (ai x 0))) = true := c0
 rw [Bool.and_eq_true] at c0
 have a0 : idx x.Args 0 = some ((ai x 0 : Nat) : Int) := a0
 have hn : zdq ⟨s.Exception, 0⟩ := ⟨⟨by show -999999999999999 ≤ s.Exception; omega, by show s.Exception ≤ 999999999999999; omega⟩, (by show (0 : Int) ≤ 0; decide), (by show (0 : Int) ≤ 15; decide)⟩
 refine zvb N h hs (z78 N (by omega) h hs.sto b0 c0.1 c0.2 hn false) (by unfold zg8; rw [hop]; rfl) ?_ ?_
 · unfold zd; simp only [hop, Int.reduceBEq, ctr, cfa, obs, a0, show (mI p s 0).zC = s from rfl, show (mI p s 0).zB = p from rfl, zhr b0]; cases zdw N (⟨s.Exception, 0⟩ : Number) (og p.zA (ai x 0)).zJ false with
   | none => rfl
   | some r =>
    simp only [obs]; cases zap N (mI p s 0) ((ai x 0 : Nat) : Int) r.1 r.2 <;> rfl
 · unfold zaf; rw [hi, zfa N (by omega) h.ok]; simp only [hop, Int.reduceBEq, ctr, cfa, obs, a0]
theorem zab7 (N : Nat) (hN : 20000 < N) (h : ProgV p) (hs : StoP p s.Storage) {i : Nat} (hi : i < p.zA.length) (hk : isD (og p.zA i).Kind = true) :
 (∃ e l k, (1 ≤ e ∧ e ≤ 5) ∧ z43 p s i = .error e ∧ zef N (mI p s 0) (i : Int) = some (l, mI p s e) ∧ zrz N p s (i : Int) = some (k, e)) ∨
 ∃ l, z43 p s i = .ok l ∧ zef N (mI p s 0) (i : Int) = some (l, mI p s 0) ∧ zrz N p s (i : Int) = some (l, 0) ∧ l.size ≤ 256 := by
 unfold z43 zef zrz
 rw [show (mI p s 0).zB = p from rfl, zhr hi, zvl h hi hk]
 simp only [obs, zz7]
 cases hn : zdd (og p.zA i) with
 | true =>
  simp only [if_true, bnt, cfa]; rcases zru N (by omega) h hs hi hk hn with ⟨e, k, he, h1, h2, h3⟩ | ⟨n, h1, h2, h3, h4⟩
  · left; rw [h1, h2, h3]; simp only [obs]; rw [z7i zst, zd1, dct (show e ≠ 0 by omega)]; exact ⟨e, _, _, by omega, rfl, rfl, rfl⟩
  · right; rw [h1, h2, h3]; simp only [obs, bsf, cfa]; rw [z7i h4, zafa N (by omega) h4]; exact ⟨_, rfl, rfl, rfl, zabc h4⟩
 | false =>
  simp only [Bool.false_eq_true, if_false, Bool.not_false, ctr]; have hz := zeu ((zkf h.ok hi).ty hk).1; rcases zyl N (by omega) h hs hi hk with ⟨e, k, he, h1, h2, h3⟩ | ⟨b, h1, h2, h3, h4⟩
  · left; rw [h1, h2, h3]; exact ⟨e, _, _, by omega, rfl, rfl, rfl⟩
  · right; rw [h1, h2, h3]; exact ⟨_, rfl, rfl, rfl, by omega⟩
theorem zafu (N : Nat) (hN : 20000 < N) (h : ProgV p) (hs : StI p s) {x : zI} (hx : p.zG[s.At.toNat]? = some x) (hop : x.Op = 17) : zh7 N p s x := by
 have hm := lmg hx
 have hi := zm0 hs hx
 have q0 := hs.at0
 have q1 := hs.at1
 have i40 := h.i40
 have ln := hs.lines
 have wn1 : w6 (s.At + 1) = s.At + 1 := w6e
 obtain ⟨a0, b0, c0⟩ := zf1 h hm (k := 0) (c := 1) (by rw [hop]; rfl)
 have c0 : isD (og p.zA (ai x 0)).Kind = true := c0
 have a0 : idx x.Args 0 = some ((ai x 0 : Nat) : Int) := a0
 have hex : zg8 p s x = (match z43 p s (ai x 0) with | .error e => .error e | .ok l => if s.Lines.length = 40 then .ok (s.At + 1, mT s 3) else .ok (s.At + 1, mL s (s.Lines ++ [l]))) := by unfold zg8; rw [hop]; rfl
 have hpr : zd N (mI p s 0) x = (zfe N (mI p s 0) ((ai x 0 : Nat) : Int)).bind fun r => some (s.At + 1, r) := by
  unfold zd; simp only [hop, Int.reduceBEq, ctr, cfa, obs, a0, show (mI p s 0).zC = s from rfl, wn1]
 have hrf : zaf N p s = (zrz N p s ((ai x 0 : Nat) : Int)).bind fun r42 => cond (r42.2 != 0) (some (0, r42.2, s)) (cond ((s.Lines.length : Int) == 40) (some (s.At + 1, 0, mT s 3))
  (cond (Nat.ble ((s.Lines.length + ([r42.1] : List ByteArray).length) * 16) zbr) (some (s.At + 1, 0, mL s (s.Lines ++ [r42.1]))) none)) := by
  unfold zaf; rw [hi, zfa N (by omega) h.ok]; simp only [hop, Int.reduceBEq, ctr, cfa, obs, a0, wn1]; rfl
 unfold zh7
 rw [hex, hpr, hrf]
 unfold zfe
 rcases zab7 N hN h hs.sto b0 c0 with ⟨e, l, k, he, h1, h2, h3⟩ | ⟨l, h1, h2, h3, h4⟩
 · left; rw [h1, h2, h3]; simp only [obs, show (mI p s e).raised = e from rfl, zd1, dct (show e ≠ 0 by omega), ctr]; exact ⟨e, _, _, _, rfl, by omega, rfl, rfl⟩
 · right; rw [h1, h2, h3]; simp only [obs, show (mI p s 0).raised = 0 from rfl, show (mI p s 0).zC = s from rfl, bsf, cfa, zcn]
   by_cases h40 : s.Lines.length = 40
   · rw [ifp h40, dct (show (s.Lines.length : Int) = 40 by omega)]; exact ⟨_, _, _, rfl, rfl, rfl, fun h => (by cases h), hs.T (by decide) (by decide), rfl, rfl, rfl⟩
   · rw [ifn h40, dcf (show ¬ (s.Lines.length : Int) = 40 by omega)]; unfold zki; rw [zao (by omega)]; simp only [ctr, cfa, obs, lns]; rw [zao (by omega)]; exact ⟨_, _, _, rfl, rfl, rfl, fun _ => ⟨rfl, by omega, by omega⟩, hs.L (by omega) h4, rfl, rfl, rfl⟩
theorem zaft (N : Nat) (hN : 20000 < N) (h : ProgV p) (hs : StI p s) {x : zI} (hx : p.zG[s.At.toNat]? = some x) (hop : x.Op = 18) : zh7 N p s x := by
 have hi := zm0 hs hx
 have q0 := hs.at0
 have q1 := hs.at1
 have i40 := h.i40
 have wn1 : w6 (s.At + 1) = s.At + 1 := w6e
 right
 refine ⟨s.At + 1, s.At + 1, mT s 1, by unfold zg8; rw [hop]; rfl, ?_, ?_, fun h => (by cases h), hs.T (by decide) (by decide), rfl, rfl, rfl⟩
 · unfold zd; simp only [hop, Int.reduceBEq, ctr, cfa, obs, show (mI p s 0).zC = s from rfl, wn1]; rfl
 · unfold zaf; rw [hi, zfa N (by omega) h.ok]; simp only [hop, Int.reduceBEq, ctr, cfa, obs, wn1]; rfl
theorem zaej (N : Nat) (hN : 20000 < N) (h : ProgV p) (hs : StI p s) {x : zI} (hx : p.zG[s.At.toNat]? = some x) : zh7 N p s x := by
 have ho := zag0 h (lmg hx)
 rcases (by omega : x.Op = 0 ∨ x.Op = 1 ∨ (2 ≤ x.Op ∧ x.Op ≤ 6) ∨ (x.Op = 7 ∨ x.Op = 8) ∨ x.Op = 9 ∨ x.Op = 10 ∨ x.Op = 11 ∨ x.Op = 12 ∨ x.Op = 13 ∨ x.Op = 14 ∨ x.Op = 15 ∨ x.Op = 16 ∨ x.Op = 17 ∨ x.Op = 18) with e | e | e | e | e | e | e | e | e | e | e | e | e | e
 · exact zahc N hN h hs hx e
 · exact zahb N hN h hs hx e
 · exact zac9 N hN h hs hx e
 · exact zafs N hN h hs hx e
 · exact zaha N hN h hs hx e
 · exact zaf1 N hN h hs hx e
 · exact zaf0 N hN h hs hx e
 · exact zafz N hN h hs hx e
 · exact zafy N hN h hs hx e
 · exact zafx N hN h hs hx e
 · exact zafw N hN h hs hx e
 · exact zafv N hN h hs hx e
 · exact zafu N hN h hs hx e
 · exact zaft N hN h hs hx e
end
section
variable {p : zB} {s : zC}
def zsl (t : zN) (a e : Int) : Bool := inB a t.From (t.To - 1) && (decide (t.Exception = 0) || decide (t.Exception = e))
def z6u (p : zB) (a e : Int) : Option Nat := (List.range p.zL.length).findSome? fun i => (p.zL[i]?).bind fun t => if zsl t a e = true then some i else none
def zia (p : zB) (a e : Int) : Int := match z6u p a e with | some i => (p.zL.getD i ⟨0, 0, 0, 0⟩).Handler | none => -1
theorem z7q {a e : Int} {i : Nat} (h : z6u p a e = some i) : ∃ t, p.zL[i]? = some t ∧ zsl t a e = true := by
 obtain ⟨j, _, hj⟩ := eof h
 rw [Option.bind_eq_some_iff] at hj
 obtain ⟨t, ht, hj⟩ := hj
 split at hj
 · rename_i hh; cases hj; exact ⟨t, ht, hh⟩
 · cases hj
theorem z7m (h : ProgV p) {t : zN} (ht : t ∈ p.zL) : 0 ≤ t.From ∧ t.From < t.To ∧ t.To ≤ (p.zG.length : Int) ∧ 0 ≤ t.Handler ∧ t.Handler < (p.zG.length : Int) := by
 have := h.mon t ht
 unfold zzv at this
 simp only [Bool.and_eq_true, decide_eq_true_eq] at this
 obtain ⟨h1, h2, h3, h4, h5⟩ := this
 have := zbf.1 h5
 omega
theorem z61 (h : ProgV p) (a e : Int) : zia p a e = -1 ∨ (0 ≤ zia p a e ∧ zia p a e < (p.zG.length : Int)) := by
 unfold zia
 cases hi : z6u p a e with
 | none => exact .inl rfl
 | some i =>
  obtain ⟨t, ht, _⟩ := z7q hi; right; simp only []; rw [gdd, ht]; exact (z7m h (lmg ht)).2.2.2
theorem zaaw {β : Type} (f : Nat → β) (a e : Int) : (List.range p.zL.length).findSome? (fun i => ((p.zL[i]?).bind fun t => if zsl t a e = true then some i else none).map f) = (z6u p a e).map f := by
 have key : ∀ l : List Nat, l.findSome? (fun i => ((p.zL[i]?).bind fun t => if zsl t a e = true then some i else none).map f) = (l.findSome? (fun i => (p.zL[i]?).bind fun t => if zsl t a e = true then some i else none)).map f := by
  intro l
  induction l with
  | nil => rfl
  | cons i l ih =>
   rw [List.findSome?_cons, List.findSome?_cons]; cases (p.zL[i]?).bind fun t => if zsl t a e = true then some i else none with
   | none => exact ih
   | some j => rfl
 exact key _
theorem zabu (N : Nat) (hN : 20000 < N) (h : ProgV p) (a e : Int) : zi7 N p a e = some (zia p a e) := by
 have m6 := h.m6
 have i40 := h.i40
 unfold zi7 zo
 have l1 := zbh (f := zo.r0 N) (fun i => (p.zL, (p.zL.length : Int), (i : Int), a, e)) (fun i => ((p.zL[i]?).bind fun t => if zsl t a e = true then some i else none).map fun i : Nat => (i : Int)) p.zL.length
  (fun i hi => by
   have hx := lge hi; have hf := z7m h (List.getElem_mem hi); simp only [zo.r0, zo.b0, zai, hx, obs, dct (show (i : Int) < (p.zL.length : Int) by omega), ctr]; have e1 : zg4 p.zL[i] a e = some (zsl p.zL[i] a e) := by
    unfold zg4 zsl; rw [w6e, z0c, zcn, zcn]; simp only [obs]; cases inB a p.zL[i].From (p.zL[i].To - 1) <;> cases decide (p.zL[i].Exception = 0) <;> cases decide (p.zL[i].Exception = e) <;> rfl
   rw [e1, w6e]; cases zsl p.zL[i] a e <;> rfl)
  (by simp only [zo.r0, zo.b0, dcf (show ¬ (p.zL.length : Int) < (p.zL.length : Int) by omega), cfa]) (N := N) (by omega)
 simp only [nc0] at l1
 rw [l1, zaaw]
 unfold zia
 cases hi : z6u p a e with
 | none => rfl
 | some i =>
  obtain ⟨t, ht, _⟩ := z7q hi; simp only [Option.map_some, zb5, obs]; rw [dcf (show ¬ ((i : Nat) : Int) < 0 by omega), cfa, zai, ht, gdd, ht]; rfl
theorem z8t (N : Nat) (hN : 20000 < N) (h : ProgV p) (a e : Int) : zes N p a e = some (zia p a e) := by
 have m6 := h.m6
 unfold zes
 have l1 := zbh (f := zes.r0 N) (fun i => (a, e, (i : Int), p)) (fun i => ((p.zL[i]?).bind fun t => if zsl t a e = true then some i else none).map fun i : Nat => (p.zL.getD i ⟨0, 0, 0, 0⟩).Handler) p.zL.length
  (fun i hi => by
   have hx := lge hi; simp only [zes.r0, zes.b0, zai, hx, obs, dct (show (i : Int) < (p.zL.length : Int) by omega), ctr]; have e1 : ((cond (decide (p.zL[i].From ≤ a)) (some (decide (a < p.zL[i].To))) (some false)).bind fun g1002 => (cond g1002 ((cond (p.zL[i].Exception == 0) (some true) (some (p.zL[i].Exception == e))).bind fun g1003 => some g1003) (some false))) = some (zsl p.zL[i] a e) := by
    unfold zsl inB; rw [zcn, zcn, show decide (a ≤ p.zL[i].To - 1) = decide (a < p.zL[i].To) by rw [decide_eq_decide]; omega]; cases decide (p.zL[i].From ≤ a) <;> cases decide (a < p.zL[i].To) <;> cases decide (p.zL[i].Exception = 0) <;> cases decide (p.zL[i].Exception = e) <;> rfl
   rw [← Option.bind_assoc, e1, w6e]; simp only [obs]; cases zsl p.zL[i] a e with
   | false => rfl
   | true =>
    simp only [ctr, if_true, Option.map_some]; rw [gdd, hx]; rfl)
  (by simp only [zes.r0, zes.b0, dcf (show ¬ (p.zL.length : Int) < (p.zL.length : Int) by omega), cfa]) (N := N) (by omega)
 simp only [nc0] at l1
 rw [l1, zaaw]
 unfold zia
 cases z6u p a e <;> rfl
def zk2 (p : zB) (e : Int) : Nat → zC → zC
 | 0, s => s
 | k + 1, s => if 0 ≤ zia p s.At e then mA s (zia p s.At e) else if s.Stack.length = 0 then mT s 2
  else zk2 p e k (mK (mA s (s.Stack.getD (s.Stack.length - 1) 0)) (s.Stack.take (s.Stack.length - 1)))
theorem z32 (N : Nat) (hN : 20000 < N) (h : ProgV p) (e : Int) (he : e ≠ 0) (z : zC) : ∀ (k : Nat) (s : zC), StI p s → s.Stack.length < k → ∀ K : Nat, k ≤ K →
 zj (za0.r0 N) K (mI p s e) = some (.inl (mI p (zk2 p e k s) e)) ∧ zj (zhn.r0 N) K (e, p, s, z) = some (.inl (zk2 p e k s)) ∧ StI p (zk2 p e k s) ∧ (zk2 p e k s).Steps = s.Steps ∧ (zk2 p e k s).Exception = s.Exception ∧
 (zk2 p e k s).Storage = s.Storage ∧ (zk2 p e k s).Lines = s.Lines ∧ (s.Status = 0 → (zk2 p e k s).Status = 0 ∨ (zk2 p e k s).Status = 2)
 | 0, s, _, h, _, _ => by omega
 | k + 1, s, hs, hk, K, hK => by
  obtain ⟨K, rfl⟩ : ∃ J, K = J + 1 := ⟨K - 1, by omega⟩; have hh := zabu N hN h s.At e; have hr := z8t N hN h s.At e; have rg := z61 h s.At e; have h6 := hs.stk; simp only [zj, za0.r0, za0.b0, zhn.r0, zhn.b0]; simp only [show (mI p s e).zB = p from rfl, show (mI p s e).zC = s from rfl, show (mI p s e).raised = e from rfl, show (mI p s e).layout = znv p.zA from rfl]; rw [hh, hr]; simp only [obs]; unfold zk2
  by_cases h0 : 0 ≤ zia p s.At e
  · rw [ifp h0, dct (show zia p s.At e ≥ 0 by omega), zd1, dct (show zia p s.At e ≠ -1 by omega)]; exact ⟨rfl, rfl, hs.A h0 (by omega), rfl, rfl, rfl, rfl, fun h => .inl h⟩
  · rw [ifn h0, dcf (show ¬ zia p s.At e ≥ 0 by omega), zd1, dcf (show ¬ zia p s.At e ≠ -1 by omega), zcn]
    by_cases hz : s.Stack.length = 0
    · rw [ifp hz, dct (show (s.Stack.length : Int) = 0 by omega)]; exact ⟨rfl, rfl, hs.T (by omega) (by omega), rfl, rfl, rfl, rfl, fun _ => .inr rfl⟩
    · have wl : w6 ((s.Stack.length : Int) - 1) = ((s.Stack.length - 1 : Nat) : Int) := by rw [w6e]; omega
      have hg : s.Stack[s.Stack.length - 1]? = some (s.Stack.getD (s.Stack.length - 1) 0) := by rw [gdd, lge (by omega)]; rfl
      obtain ⟨hrr, _⟩ := hs.calls _ (lmg hg); have k1 : 0 ≤ ((s.Stack.length - 1 : Nat) : Int) ∧ ((s.Stack.length - 1 : Nat) : Int) ≤ (s.Stack.length : Int) := by omega
      have k2 : 0 ≤ (0 : Int) ∧ (0 : Int) ≤ ((s.Stack.length - 1 : Nat) : Int) := by omega
      rw [ifn hz, dcf (show ¬ (s.Stack.length : Int) = 0 by omega)]; simp only [cfa, wl, zai, hg, obs, ifp k1, ifp k2, itn]; unfold zki; rw [show (s.Stack.take (s.Stack.length - 1)).drop (0 : Int).toNat = s.Stack.take (s.Stack.length - 1) from rfl, zao (by rw [lnt]; omega)]; simp only [ctr, obs]; have hs2 : StI p (mK (mA s (s.Stack.getD (s.Stack.length - 1) 0)) (s.Stack.take (s.Stack.length - 1))) := (hs.A hrr.1 hrr.2).K (by rw [lnt]; omega) fun i hi2 => hs.calls i (List.mem_of_mem_take hi2); exact z32 N hN h e he z k _ hs2 (by show (s.Stack.take (s.Stack.length - 1)).length < k; rw [lnt]; omega) K (by omega)
def z0j (s : zC) : zC := if s.Status = 0 ∧ s.Steps = 300 then mT s 3 else s
def z6r (p : zB) (s : zC) : zI := p.zG.getD s.At.toNat ⟨0, []⟩
def zht (p : zB) (s : zC) : zC :=
 match zg8 p (mP s (s.Steps + 1)) (z6r p s) with
 | .error e => z0j (zk2 p e (s.Stack.length + 1) (mE (mP s (s.Steps + 1)) e))
 | .ok (n, t) => if t.Status ≠ 0 then t else if n = (p.zG.length : Int) then mT t 1 else z0j (mA t n)
theorem z63 (t : zC) : ((cond (t.Status == 0) (some (t.Steps == 300)) (some false)).bind fun g => cond g (some (⟨t.Storage, t.At, t.Stack, t.Lines, 3, t.Exception, t.Steps⟩ : zC)) (some t)) = some (z0j t) := by
 unfold z0j
 rw [zcn, zcn]
 by_cases h1 : t.Status = 0
 · rw [dct h1]
   by_cases h2 : t.Steps = 300
   · rw [dct h2, ifp ⟨h1, h2⟩]; rfl
   · rw [dcf h2, ifn (fun h => h2 h.2)]; rfl
 · rw [dcf h1, ifn (fun h => h1 h.1)]; rfl
theorem zaaz (t : zC) (e : Int) : ((cond (t.Status == 0) (some (t.Steps == 300)) (some false)).bind fun g => cond g ((zas (mI p t e) 3).bind fun r => some r.zC) (some t)) = some (z0j t) := z63 t
theorem zaay {t : zC} (h : StI p t) : StI p (z0j t) ∧ (z0j t).Steps = t.Steps ∧ ((z0j t).Status = 0 → t.Steps ≠ 300) := by
 unfold z0j
 split
 · exact ⟨h.T (by omega) (by omega), rfl, fun h => by have h' : (3 : Int) = 0 := h; omega⟩
 · rename_i hn; exact ⟨h, rfl, fun h1 h2 => hn ⟨h1, h2⟩⟩
theorem zaac (h : StI p s) : zj9 s = some s := by
 have h2 := h.stk
 have h3 := h.lines
 have h4 := h.sto.sto.le
 have h5 := h.sto.sto.tags
 unfold zj9 zh5 zj2
 rw [zaar (by omega), obs, zao (by omega), ctr, obs, zao (by omega)]
 rfl
theorem zw1 (N : Nat) (hN : 20000 < N) (h : ProgV p) (hs : StI p s) (hrun : s.Status = 0) (h3 : s.Steps < 300) :
 zfw N p s (znv p.zA) = some (zht p s) ∧ zvm N p s = some (zht p s) ∧ StI p (zht p s) ∧ (zht p s).Steps = s.Steps + 1 ∧ ((zht p s).Status = 0 → s.Steps + 1 < 300) := by
 have a0 := hs.at0
 have a1 := hs.at1
 have p0 := hs.sp0
 have hx : p.zG[s.At.toNat]? = some (z6r p s) := by
  unfold z6r; rw [gdd, lge (by omega)]; rfl
 have hi : idx p.zG s.At = some (z6r p s) := by unfold idx; rw [ifp a0, hx]
 have hs1 : StI p (mP s (s.Steps + 1)) := hs.P (by omega) (by omega)
 have hb := zaej N hN h hs1 (x := z6r p s) hx
 unfold zfw zvm
 rw [hi, zaac hs]
 simp only [obs]
 rw [w6e (n := s.Steps + 1)]
 show ((zd N (mI p (mP s (s.Steps + 1)) 0) (z6r p s)).bind _) = _ ∧ ((zaf N p (mP s (s.Steps + 1))).bind _) = _ ∧ _
 unfold zht
 rcases hb with ⟨e, nx, ny, t, g1, g2, g3, g4⟩ | ⟨n, k, t, g1, g3, g4, g5, g6, g7, g8, g9⟩
 · rw [g1, g3, g4]; simp only [obs]; have hse : StI p (mE (mP s (s.Steps + 1)) e) := hs1.E (by omega) (by omega); obtain ⟨k1, k2, k3, k4, k5, k6, k7, k8⟩ := z32 N hN h e (by omega) ⟨⟨⟨#[]⟩, []⟩, 0, [], [], 0, 0, 0⟩ (s.Stack.length + 1) _ hse (Nat.lt_succ_self _) N (by have := hs.stk; omega); rw [show (mI p (mP s (s.Steps + 1)) e).raised = e from rfl, zd1, dct (show e ≠ 0 by omega)]; simp only [ctr]; have hf := zaay k3; have k4' : (zk2 p e (s.Stack.length + 1) (mE (mP s (s.Steps + 1)) e)).Steps = s.Steps + 1 := k4; refine ⟨?_, ?_, hf.1, hf.2.1.trans k4, fun h => ?_⟩
   · unfold za0; show ((((zj (za0.r0 N) N (mI p (mE (mP s (s.Steps + 1)) e) e)).bind _)).bind _) = _; rw [k1]; exact zaaz _ e
   · unfold zhn; show ((((zj (zhn.r0 N) N (e, p, mE (mP s (s.Steps + 1)) e, _)).bind _)).bind _) = _; rw [k2]; exact z63 _
   · have := hf.2.2 h; omega
 · rw [g1, g3, g4]; simp only [obs, bsf, cfa, show (mI p t 0).raised = 0 from rfl, show (mI p t 0).zC = t from rfl]; have g8' : t.Steps = s.Steps + 1 := g8; have e0 : (t.Status != 0) = decide (t.Status ≠ 0) := zd1 _ _; have e1 : (t.Status == 0) = decide (t.Status = 0) := zcn _ _; rw [e0, e1]
   by_cases hst : t.Status = 0
   · obtain ⟨j1, j2, j3⟩ := g5 hst; subst j1; rw [dct hst, dcf (show ¬ t.Status ≠ 0 by omega), ifn (show ¬ t.Status ≠ 0 by omega)]; simp only [ctr, cfa, zcn]
     by_cases hl : k = (p.zG.length : Int)
     · rw [dct hl, ifp hl]; exact ⟨rfl, rfl, g6.T (by omega) (by omega), g8', fun h => by have h' : (1 : Int) = 0 := h; omega⟩
     · rw [dcf hl, ifn hl]; have hta : StI p (mA t k) := g6.A (by omega) (by omega); have hf := zaay hta; have f1 := z63 (mA t k); have f2 := zaaz (p := p) (mA t k) 0; rw [zcn, zcn] at f1 f2; have e2 : (mA t k).Status = t.Status := rfl; rw [e2, dct hst] at f1 f2; refine ⟨f2, f1, hf.1, hf.2.1.trans g8', fun h => ?_⟩; have := hf.2.2 h; have e3 : (mA t k).Steps = t.Steps := rfl; have := g6.sp1; omega
   · rw [dcf hst, dct (show t.Status ≠ 0 from hst), ifp (show t.Status ≠ 0 from hst)]; exact ⟨rfl, rfl, g6, g8', fun h => absurd h hst⟩
end
section
variable {p : zB} {s : zC}
def z2s (n : Nat) : Storage := ⟨⟨(List.replicate (16 * n) 0).toArray⟩, List.replicate n false⟩
theorem z4x (n : Nat) : (z2s n).Bytes.size = 16 * n := by
 show (List.replicate (16 * n) (0 : UInt8)).length = _
 rw [lnr]
theorem zadf {n : Nat} (hn : n ≤ 64) : zo9 (z2s n) := by
 have hz := z4x n
 refine ⟨by omega, by omega, ?_, fun i hi => ?_⟩
 · rw [hz]; show (List.replicate n false).length = _; rw [lnr]; omega
 · have hi' : (List.replicate n false)[i]? = some true := hi; rw [List.getElem?_replicate] at hi'; split at hi' <;> cases hi'
theorem zagc {n : Nat} (hn : n ≤ 64) : zi5 (n : Int) = some (z2s n, 0) := by
 unfold zi5 znn
 have hb : inB (n : Int) 0 64 = true := zbf.2 ⟨by omega, by omega⟩
 have hs1 : (⟨#[0]⟩ : ByteArray).size = 1 := rfl
 rw [zaep, hb, w6e]
 simp only [obs, bnt, cfa]
 rw [ifp ⟨by omega, by omega, by rw [hs1]; omega⟩, obs, ifp, ifp (Int.le_refl _), zao (by omega), ctr, show ((n : Int) * 16).toNat = 16 * n by omega, itn]
 show some ((⟨⟨(Lib.repeatL [0] (16 * n)).toArray⟩, _⟩ : Storage), (0 : Int)) = _
 rw [ztx]
 rfl
theorem zac6 (n a k : Nat) : clr (List.replicate n false) a k = List.replicate n false := by
 refine List.ext_getElem? fun i => ?_
 rw [zyg]
 split
 · rw [List.getElem?_replicate, lnr]
 · rfl
def zpj (p : zB) : Nat → Storage
 | 0 => z2s (zkm p.zA).toNat
 | k + 1 => if (og p.zA k).Kind = 0 then wrV (zpj p k) (zdh p.zA k).toNat (zvd (og p.zA k)) else zpj p k
theorem zz2 (h : ProgV p) : 0 ≤ zkm p.zA ∧ zkm p.zA ≤ 24 := by
 have := z34 h
 have := h.quads
 omega
theorem z9k (N : Nat) (hN : 400 < N) (h : ProgV p) : ∀ k, k ≤ p.zA.length → StoP p (zpj p k) ∧ (zpj p k).Tags = List.replicate (zkm p.zA).toNat false
 | 0, _ => by
  have hl := zz2 h; exact ⟨⟨zadf (by omega), by show ((z2s _).Bytes.size : Int) = _; rw [z4x]; omega⟩, rfl⟩
 | k + 1, hk => by
  obtain ⟨i1, i2⟩ := z9k N hN h k (by omega); show StoP p (if (og p.zA k).Kind = 0 then _ else _) ∧ (if (og p.zA k).Kind = 0 then wrV (zpj p k) (zdh p.zA k).toNat (zvd (og p.zA k)) else zpj p k).Tags = _
  by_cases h0 : (og p.zA k).Kind = 0
  · rw [ifp h0]; have ov := zkf h.ok (show k < p.zA.length by omega); obtain ⟨t1, t2⟩ := ov.ty (by rw [h0]; rfl); obtain ⟨_, _, e3⟩ := z28 N hN t1 t2 (ov.val (.inl h0)); obtain ⟨d1, d2⟩ := z4m h (show k < p.zA.length by omega) (.inl h0) i1; have hp := zeu t1; have w : (zdh p.zA k).toNat + (zvd (og p.zA k)).size ≤ (zpj p k).Bytes.size := by omega
    refine ⟨⟨z8g i1.sto w (by omega), by rw [zyo w]; exact i1.size⟩, ?_⟩; show clr (zpj p k).Tags _ _ = _; rw [i2, zac6]
  · rw [ifn h0]; exact ⟨i1, i2⟩
theorem zabn (N : Nat) (hN : 20000 < N) (h : ProgV p) (hc : (zly p).2 = 0) : zav N p = some (zpj p p.zA.length, 0) := by
 have hl := zz2 h
 have n24 := h.n24
 unfold zav
 rw [zacm N (by omega), hc, z17 N (by omega) h.ok]
 simp only [obs, bsf, cfa]
 rw [show zkm p.zA = ((zkm p.zA).toNat : Int) by omega, zagc (by omega)]
 simp only [obs]
 have l1 := zbh (f := zav.r0 N) (fun i => (znv p.zA, 0, p.zA, (p.zA.length : Int), (i : Int), (⟨⟨#[]⟩, []⟩ : Storage), zpj p i)) (fun _ => none) p.zA.length
  (fun i hi => by
   simp only [zav.r0, zav.b0, zhr hi, obs, dct (show (i : Int) < (p.zA.length : Int) by omega), ctr, orB, bsf, Bool.or_false]; rw [w6e (n := (i : Int) + 1)]
   by_cases h0 : (og p.zA i).Kind = 0
   · rw [zd1, dcf (fun hh => hh h0)]; simp only [cfa]; have ov := zkf h.ok hi; obtain ⟨t1, t2⟩ := ov.ty (by rw [h0]; rfl); obtain ⟨e1, _, e3⟩ := z28 N (by omega) t1 t2 (ov.val (.inl h0)); obtain ⟨i1, _⟩ := z9k N (by omega) h i (by omega); obtain ⟨d1, d2⟩ := z4m h hi (.inl h0) i1; have hp := zeu t1; have w : (zdh p.zA i).toNat + (zvd (og p.zA i)).size ≤ (zpj p i).Bytes.size := by omega
     rw [e1, zns hi]; simp only [obs, bsf, cfa]; have hw := z8i N (by omega) i1.sto w (by omega); rw [show (((zdh p.zA i).toNat : Nat) : Int) = zdh p.zA i by omega] at hw; rw [hw]; simp only [obs]; have e : zpj p (i + 1) = wrV (zpj p i) (zdh p.zA i).toNat (zvd (og p.zA i)) := by
      show (if (og p.zA i).Kind = 0 then _ else _) = _; rw [ifp h0]
     rw [e]; rfl
   · rw [zd1, dct h0]; simp only [ctr]; have e : zpj p (i + 1) = zpj p i := by
      show (if (og p.zA i).Kind = 0 then _ else _) = _; rw [ifn h0]
     rw [e]; rfl)
  (by simp only [zav.r0, zav.b0, dcf (show ¬ (p.zA.length : Int) < (p.zA.length : Int) by omega), cfa]) (N := N) (by omega)
 simp only [nc0] at l1
 have e0 : zpj p 0 = z2s (zkm p.zA).toNat := rfl
 rw [e0] at l1
 rw [l1]
 have : ∀ l : List Nat, l.findSome? (fun _ => (none : Option (Storage × Int))) = none := fun l => by rw [List.findSome?_eq_none_iff]; intros; rfl
 rw [this]
 rfl
def zl4 (p : zB) : zC := ⟨zpj p p.zA.length, 0, [], [], 0, 0, 0⟩
theorem z4n (N : Nat) (hN : 20000 < N) (h : ProgV p) (hc : (zly p).2 = 0) : ze7 N p = some (zl4 p, 0) := by
 unfold ze7
 rw [zabn N hN h hc]
 rfl
theorem zuc (h : ProgV p) : StI p (zl4 p) := {
 sto := (z9k 401 (by decide) h _ (Nat.le_refl _)).1
 at0 := Int.le_refl _
 at1 := by have := h.i0; show (0 : Int) < _; omega
 stk := by show (0 : Nat) ≤ 6; omega
 calls := fun i hi => by cases hi
 lines := by show (0 : Nat) ≤ 40; omega
 long := fun i hi => by cases hi
 st0 := Int.le_refl _
 st1 := by show (0 : Int) ≤ 3; omega
 ex0 := Int.le_refl _
 ex1 := by show (0 : Int) ≤ 999; omega
 sp0 := Int.le_refl _
 sp1 := by show (0 : Int) ≤ 300; omega }
theorem zw4 (N : Nat) (hN : 20000 < N) (h : ProgV p) (hc : (zly p).2 = 0) : zd0 N p = some (znv p.zA, zkm p.zA, 0) := by
 unfold zd0
 rw [zacm N (by omega), hc, z17 N (by omega) h.ok]
 rfl
def zqx (p : zB) : Nat → zC → zC
 | 0, s => s
 | k + 1, s => if s.Status = 0 then zqx p k (zht p s) else s
theorem z68 (N : Nat) (hN : 20000 < N) (h : ProgV p) (z : zP) : ∀ (k : Nat) (s : zC), StI p s → (s.Status = 0 → s.Steps < 300) → (300 - s.Steps < (k : Int)) → ∀ K : Nat, k ≤ K →
 zl (zbm.r0 N) K (300, znv p.zA, s.Steps, s, p, s) = some (300, znv p.zA, (zqx p k s).Steps, zqx p k s, p, zqx p k s) ∧ zl (zn5.r0 N) K (p, z, s) = some (p, z, zqx p k s) ∧ StI p (zqx p k s) ∧ (zqx p k s).Status ≠ 0
 | 0, s, hs, h1, h2, K, hK => by
  have := hs.sp1; omega
 | k + 1, s, hs, h1, h2, K, hK => by
  obtain ⟨K, rfl⟩ : ∃ J, K = J + 1 := ⟨K - 1, by omega⟩; simp only [zl, zbm.r0, zbm.b0, zn5.r0, zn5.b0, zcn]; unfold zqx
  by_cases hst : s.Status = 0
  · obtain ⟨g1, g2, g3, g4, g5⟩ := zw1 N hN h hs hst (h1 hst); have p0 := hs.sp0; have p1 := h1 hst; rw [dct hst, dct p1, ifp hst]; simp only [ctr, obs]; rw [g1, g2, w6e, ← g4]; simp only [obs, zh9]; exact z68 N hN h z k _ g3 (fun hh => by rw [g4]; exact g5 hh) (by rw [g4]; omega) K (by omega)
  · rw [dcf hst, ifn hst]; have : ∀ b : Bool, (cond b (some false) (some false)) = some false := fun b => by cases b <;> rfl
    simp only [cfa, this, obs]; exact ⟨trivial, trivial, hs, hst⟩
def resI (t : zC) : zP := ⟨t.Lines, t.Status, t.Exception, t.Steps⟩
def zpl (p : zB) : zC := zqx p 301 (zl4 p)
theorem z9s (N : Nat) (hN : 20000 < N) (h : ProgV p) (z : zP) :
 zl (zbm.r0 N) N (300, znv p.zA, 0, zl4 p, p, zl4 p) = some (300, znv p.zA, (zpl p).Steps, zpl p, p, zpl p) ∧ zl (zn5.r0 N) N (p, z, zl4 p) = some (p, z, zpl p) ∧ StI p (zpl p) ∧ (zpl p).Status ≠ 0 :=
 z68 N hN h z 301 _ (zuc h) (fun _ => by show (0 : Int) < 300; omega) (by show (300 : Int) - 0 < 301; omega) N (by omega)
theorem zag2 (N : Nat) (hN : 20000 < N) (h : ProgV p) (hc : (zly p).2 = 0) : zjb N p = some (resI (zpl p), 0) := by
 unfold zjb zbm
 rw [z4n N hN h hc, zw4 N hN h hc]
 simp only [obs, bsf, cfa, zh9]
 rw [(z9s N hN h ⟨[], 0, 0, 0⟩).1]
 rfl
theorem zaao {n : Nat} (h : Wft En n Ty.zB p) : p.zA.length ≤ n ∧ p.zG.length ≤ n ∧ p.zL.length ≤ n ∧ ∀ x ∈ p.zG, x.Args.length ≤ n := by
 have h1 := h (.lst Ty.zF p.zA) (by show _ ∈ zmr p; simp [zmr])
 have h2 := h (.lst Ty.zI p.zG) (by show _ ∈ zmr p; simp [zmr])
 have h3 := h (.lst Ty.zN p.zL) (by show _ ∈ zmr p; simp [zmr])
 cases h1 with
 | lst h1 _ =>
  cases h2 with
  | lst h2 h2' =>
   cases h3 with
   | lst h3 _ =>
    refine ⟨h1, h2, h3, fun x hx => ?_⟩; have h4 := h2' x hx (.lst (Ty.int .i64) x.Args) (by show _ ∈ zqa x; simp [zqa]); cases h4 with
    | lst h4 _ => exact h4
theorem zqz {n : Nat} (h : n ≤ 1000000000) : Nat.ble n zbr = true := Nat.ble_eq_true_of_le (by unfold zbr; omega)
theorem z85 (N : Nat) (hN : 1048600 < N) (hp : Wft En 1048576 Ty.zB p) : zdu N p = some p := by
 obtain ⟨w1, w2, w3, w4⟩ := zaao hp
 unfold zdu
 rw [zqz (by omega), zqz (by omega)]
 simp only [ctr]
 have l1 := za1 (f := zdu.r0 N) (fun i => ((i : Int), p, (⟨[], [], []⟩ : zB), (⟨p.zA, p.zG.take i, p.zL⟩ : zB))) p.zG.length
  (fun i hi => by
   have hx := lge hi; have ha := w4 _ (List.getElem_mem hi); simp only [zdu.r0, zdu.b0, zai, hx, obs, dct (show (i : Int) < (p.zG.length : Int) by omega), ctr, zh5, zqz (show p.zG[i].Args.length * 8 ≤ 1000000000 by omega)]; rw [zqz (by rw [lnt]; simp only [lnc, ln0]; omega), ctr, w6e, ← List.take_append_getElem hi]; rfl)
  (by simp only [zdu.r0, zdu.b0, dcf (show ¬ (p.zG.length : Int) < (p.zG.length : Int) by omega), cfa]) (N := N) (by omega)
 simp only [nc0, List.take_zero] at l1
 rw [l1, obs, List.take_length]
theorem zah6 (N : Nat) (hN : 1048600 < N) (hp : Wft En 1048576 Ty.zB p) : ∃ b, zco N p = some b := by
 obtain ⟨w1, w2, w3, w4⟩ := zaao hp
 unfold zco
 simp only [orB, obs]
 cases (decide ((p.zA.length : Int) > 28) || decide ((p.zG.length : Int) > 44)) || decide ((p.zL.length : Int) > 9) with
 | true => exact ⟨_, rfl⟩
 | false =>
  simp only [cfa]; have l1 := zta (f := zco.r0 N) (fun i t => t = ((i : Int), p)) (fun r => True) p.zA.length
   (fun i t hi ht => by
    subst ht; have hx := lge hi; simp only [zco.r0, zco.b0, zai, hx, obs, dct (show (i : Int) < (p.zA.length : Int) by omega), ctr, orB]; rw [w6e (n := (i : Int) + 1)]; cases (decide ((p.zA[i].Name.size : Int) > 100) || decide ((p.zA[i].Base.size : Int) > 100)) || decide ((p.zA[i].Value.S.size : Int) > 600) with
    | true => exact .inr ⟨_, rfl, trivial⟩
    | false => exact .inl ⟨_, rfl, rfl⟩)
   (fun t ht => by
    subst ht; simp only [zco.r0, zco.b0, dcf (show ¬ (p.zA.length : Int) < (p.zA.length : Int) by omega), cfa]; exact ⟨_, rfl, rfl⟩) (N := N) (by omega) (s := (0, p)) rfl
  rcases l1 with ⟨t, g1, g2⟩ | ⟨r, g1, _⟩
  · rw [g1, g2]; simp only [obs, zb5]; have l2 := zta (f := zco.r2 N) (fun i t => t = ((i : Int), p)) (fun r => True) p.zG.length
     (fun i t hi ht => by
      subst ht; have hx := lge hi; simp only [zco.r2, zco.b2, zai, hx, obs, dct (show (i : Int) < (p.zG.length : Int) by omega), ctr]; rw [w6e (n := (i : Int) + 1)]; cases decide ((p.zG[i].Args.length : Int) > 6) with
      | true => exact .inr ⟨_, rfl, trivial⟩
      | false => exact .inl ⟨_, rfl, rfl⟩)
     (fun t ht => by
      subst ht; simp only [zco.r2, zco.b2, dcf (show ¬ (p.zG.length : Int) < (p.zG.length : Int) by omega), cfa]; exact ⟨_, rfl, rfl⟩) (N := N) (by omega) (s := (0, p)) rfl
    rcases l2 with ⟨t, g3, _⟩ | ⟨r, g3, _⟩
    · rw [g3]; exact ⟨_, rfl⟩
    · rw [g3]; exact ⟨_, rfl⟩
  · rw [g1]; exact ⟨_, rfl⟩
theorem z0z (N : Nat) (l : List ByteArray) (h : l.length < N) (hl : l.length < 1000000) : zc0 N l l = some true := by
 unfold zc0
 simp only [bsf, cfa]
 have l1 := zbh (f := zc0.r0 N) (fun i => (l, l, (i : Int))) (fun _ => none) l.length
  (fun i hi => by
   have hx := lge hi; simp only [zc0.r0, zc0.b0, zai, hx, obs, dct (show (i : Int) < (l.length : Int) by omega), ctr, bst, bnt, cfa]; rw [w6e]; rfl)
  (by simp only [zc0.r0, zc0.b0, dcf (show ¬ (l.length : Int) < (l.length : Int) by omega), cfa]) h
 simp only [nc0] at l1
 rw [l1]
 have : ∀ l : List Nat, l.findSome? (fun _ => (none : Option Bool)) = none := fun l => by rw [List.findSome?_eq_none_iff]; intros; rfl
 rw [this]
 rfl
theorem z8d (N : Nat) (r : zP) (h : r.Lines.length < N) (hl : r.Lines.length < 1000000) : zgh N r r = some true := by
 unfold zgh
 rw [z0z N _ h hl]
 simp only [obs, bst, ctr]
theorem zahe : zqf 2000000 = some true := by kernel_rfl
end
theorem zadl (p : Nat → Bool) (n : Nat) {R : Type} (r : Nat → R) : (List.range n).any p = ((List.range n).findSome? fun i => if p i = true then some (r i) else none).isSome := by
 induction List.range n with
 | nil => rfl
 | cons a l ih =>
  rw [List.any_cons, List.findSome?_cons]; cases h : p a with
  | true => simp
  | false => simpa using ih
theorem z9p {σ : Type} {f : σ → Option (Round Int σ)} (S : Nat → σ) (p : Nat → Bool) (n : Nat) (h : ∀ i, i < n → f (S i) = some (if p i = true then .result (i : Int) else .again (S (i + 1)))) (hl : f (S n) = some (.leave (S n))) {N : Nat} (hN : n < N) :
 (((zj f N (S 0)).bind fun z2 => zb5 z2 (fun z => some z) (fun _ => some (-1))).bind fun r1 => some (decide (r1 ≥ 0))) = some ((List.range n).any p) := by
 have l1 := zbh (f := f) S (fun i => if p i = true then some (i : Int) else none) n (fun i hi => by rw [h i hi]; cases p i <;> rfl) hl hN
 rw [l1, zadl p n (fun i => (i : Int))]
 cases h2 : (List.range n).findSome? (fun i => if p i = true then some (i : Int) else none) with
 | none => rfl
 | some r =>
  obtain ⟨i, _, hi⟩ := eof h2; split at hi
  · injection hi with hi; subst hi; simp only [obs, zb5, Option.isSome_some]; rw [dct (by omega)]
  · cases hi
def zlp (t : List Bool) : Nat → List Int
 | 0 => []
 | i + 1 => if t.getD i false = true then zlp t i ++ [(i : Int) * 16] else zlp t i
theorem z4k (t : List Bool) : ∀ i, (zlp t i).length ≤ i
 | 0 => Nat.le_refl 0
 | i + 1 => by
  have := z4k t i; unfold zlp; split
  · rw [lna, lns]; omega
  · omega
theorem z88 (t : List Bool) (o : Int) : ∀ i, o ∈ zlp t i ↔ ∃ k : Nat, k < i ∧ t.getD k false = true ∧ o = (k : Int) * 16
 | 0 => by simp [zlp]
 | i + 1 => by
  have ih := z88 t o i; unfold zlp; constructor
  · intro h; split at h
    · rename_i hi; rcases List.mem_append.1 h with h | h
      · obtain ⟨k, h1, h2⟩ := ih.1 h; exact ⟨k, by omega, h2⟩
      · rw [List.mem_singleton] at h; exact ⟨i, by omega, hi, h⟩
    · obtain ⟨k, h1, h2⟩ := ih.1 h; exact ⟨k, by omega, h2⟩
  · rintro ⟨k, h1, h2, h3⟩
    by_cases hk : k = i
    · subst hk; rw [ifp h2]; exact List.mem_append_right _ (by rw [h3]; exact List.mem_singleton_self _)
    · have := ih.2 ⟨k, by omega, h2, h3⟩; split
      · exact List.mem_append_left _ this
      · exact this
structure StoW (s : Storage) : Prop where
 le : s.Bytes.size ≤ 1024
 quad : s.Bytes.size % 16 = 0
 tags : s.Tags.length = s.Bytes.size / 16
 err : zvc s = ((s.Tags.length : Int), 0)
 ptr : ∀ i, s.Tags[i]? = some true → (zoj (zmg s i)).2 = 0
theorem zae5 {s : Storage} (h : (zvc s).2 = 0) : StoW s := by
 have h0 := h
 unfold zvc at h0
 split at h0
 · cases h0
 split at h0
 · cases h0
 split at h0
 · cases h0
 rename_i a1 a2 a3
 have ht : s.Tags.length = s.Bytes.size / 16 := cbc a3
 cases hf : (List.range s.Tags.length).findSome? (gS s) with
 | some r =>
  rw [hf] at h0; obtain ⟨i, _, hi⟩ := eof hf; unfold gS at hi; cases hx : s.Tags[i]? with
  | none => rw [hx] at hi; cases hi
  | some b =>
   rw [hx] at hi; simp only [obs] at hi; split at hi
   · injection hi with hi; subst hi; cases h0
   · cases hi
 | none =>
  refine ⟨by omega, by omega, ht, ?_, fun i hi => ?_⟩
  · unfold zvc; rw [ifn a1, ifn a2, ifn a3, hf]
  · rw [List.findSome?_eq_none_iff] at hf; have hl := (gei hi).1; have := hf i (List.mem_range.2 hl); unfold gS at this; rw [hi] at this; simp only [obs] at this; split at this
    · cases this
    · rename_i h5; exact cbc fun h6 => h5 ⟨trivial, h6⟩
def z95 (s : Storage) (o : Int) : Bool := (zoj (zmg s (o / 16).toNat)).1.Kind != 0 || (zoj (zmg s (o / 16).toNat)).1.Address.zU != 1
theorem zaa7 (s : Storage) (k : Nat) : ((zoj (zmg s k)).1.Kind != 0 || (zoj (zmg s k)).1.Address.zU != 1) = z95 s ((k : Int) * 16) := by
 unfold z95
 rw [show ((k : Int) * 16 / 16).toNat = k by omega]
theorem z99 (N : Nat) (s : Storage) (h : StoW s) (hN : 2000 < N) : zbn N s = some (zlp s.Tags s.Tags.length, 0) := by
 have hle := h.le
 have htg := h.tags
 unfold zbn
 rw [(zs2 N hN s).1, h.err]
 simp only [obs, bsf, cfa]
 have l1 := za1 (f := zbn.r0 N) (fun i => (zlp s.Tags i, s.Tags, (s.Tags.length : Int), (i : Int))) s.Tags.length
  (fun i hi => by
   have hx := lge hi; have hg : s.Tags.getD i false = s.Tags[i] := by rw [gdd, hx]; rfl
   have := z4k s.Tags i; have rm : Nat.ble (((zlp s.Tags i).length + ([(w6 ((i : Int) * 16))] : List Int).length) * 8) zbr = true := Nat.ble_eq_true_of_le (by unfold zbr; simp; omega); simp only [zbn.r0, zbn.b0, zai, hx, obs, dct (show (i : Int) < (s.Tags.length : Int) by omega), ctr, rm]; rw [w6e (n := (i : Int) + 1), w6e (n := (i : Int) * 16), zlp, hg]; cases s.Tags[i] <;> rfl)
  (by simp only [zbn.r0, zbn.b0, dcf (show ¬ (s.Tags.length : Int) < (s.Tags.length : Int) by omega), cfa]) (N := N) (by omega)
 simp only [nc0] at l1
 exact congrArg (fun z => z.bind fun y1 => some (y1.1, (0 : Int))) l1
theorem zadi (N : Nat) (hN : 2000 < N) {s : Storage} (h : StoW s) {k : Nat} (hk : s.Tags[k]? = some true) : zdj N s ((k : Int) * 16) = some (zoj (zmg s k)) := by
 have hl := h.le
 have hq := h.quad
 have ht := h.tags
 have hi := (gei hk).1
 unfold zdj zis
 rw [(zs2 N hN s).1, h.err]
 simp only [obs, bsf, cfa]
 rw [dcf (show ¬ (k : Int) * 16 < 0 by omega), dcf (show ¬ (k : Int) * 16 ≥ (s.Bytes.size : Int) by omega), tme, show ((k : Int) * 16) % 16 = 0 by omega]
 simp only [bsf, cfa, obs]
 rw [tde, show ((k : Int) * 16) / 16 = (k : Int) by omega, w6e (n := (k : Int)), zai, hk]
 simp only [obs, bnt, cfa]
 rw [w6e, ifp, ifp, show ((k : Int) * 16).toNat = 16 * k by omega, show ((k : Int) * 16 + 16).toNat = 16 * k + 16 by omega, z8j N (by omega) _ (by rw [zdf _ _ _ (by omega) (by omega)]; omega), zph]
 rfl
theorem z87 {s : Storage} {i : Nat} (h : i < (zlp s.Tags s.Tags.length).length) : ∃ k : Nat, s.Tags[k]? = some true ∧ (zlp s.Tags s.Tags.length)[i] = (k : Int) * 16 := by
 obtain ⟨k, h1, h2, h3⟩ := (z88 s.Tags _ _).1 (List.getElem_mem h)
 refine ⟨k, ?_, h3⟩
 rw [gdd, lge h1] at h2
 rw [lge h1]
 exact congrArg some h2
def anyP (s : Storage) : Bool := (List.range (zlp s.Tags s.Tags.length).length).any fun i => z95 s ((zlp s.Tags s.Tags.length).getD i 0)
theorem zag3 {α : Type} (d : α) {l : List α} {k : Int} (h : inB k 0 ((l.length : Int) - 1) = true) : idx l k = some (l.getD k.toNat d) := by
 unfold inB at h
 rw [Bool.and_eq_true, decide_eq_true_iff, decide_eq_true_iff] at h
 obtain ⟨j, rfl⟩ : ∃ j : Nat, k = (j : Int) := ⟨k.toNat, by omega⟩
 rw [zai, itn, gdd, lge (by omega)]
 rfl
def anyL (l : List ByteArray) : Bool := (List.range l.length).any fun i => decide (((l.getD i ⟨#[]⟩).size : Int) > 256)
theorem zwe {α : Type} (d : α) {l : List α} {i : Nat} (h : i < l.length) : l.getD i d = l[i] := by
 rw [gdd, lge h]; rfl
theorem zacz (x : Int) (l : List Int) : zhe (x :: l) = if x = 0 then zhe l else x := rfl
theorem z7z : ∀ (l : List Int), zhe l = 0 ↔ ∀ x ∈ l, x = 0
 | [] => by simp [zhe]
 | x :: l => by
  rw [zacz, List.forall_mem_cons, ← z7z l]
  by_cases h : x = 0
  · rw [ifp h]; exact ⟨fun h1 => ⟨h, h1⟩, fun h1 => h1.2⟩
  · rw [ifn h]; exact ⟨fun h1 => absurd h1 h, fun h1 => h1.1⟩
theorem z97 {p : Nat → Bool} {n : Nat} (h : ∀ i, i < n → p i = false) : (List.range n).any p = false := by
 rw [List.any_eq_false]
 exact fun i hi => by rw [h i (List.mem_range.1 hi)]; simp
theorem zaca (N : Nat) (l : List Int) (h : l.length < N) (hl : l.length < 1000000000) : zga N l l = some true := by
 unfold zga
 simp only [bsf, cfa]
 have l1 := zbh (f := zga.r0 N) (fun i => (l, l, (i : Int))) (fun _ => none) l.length
  (fun i hi => by
   have hx := lge hi; simp only [zga.r0, zga.b0, zai, hx, obs, dct (show (i : Int) < (l.length : Int) by omega), ctr, bsf, cfa]; rw [w6e]; rfl)
  (by simp only [zga.r0, zga.b0, dcf (show ¬ (l.length : Int) < (l.length : Int) by omega), cfa]) h
 simp only [nc0] at l1
 rw [l1]
 have : ∀ l : List Nat, l.findSome? (fun _ => (none : Option Bool)) = none := fun l => by rw [List.findSome?_eq_none_iff]; intros; rfl
 rw [this]
 rfl
theorem zabi (N : Nat) (l : List Bool) (h : l.length < N) (hl : l.length < 1000000) : zer N l l = some true := by
 unfold zer
 simp only [bsf, cfa]
 have l1 := zbh (f := zer.r0 N) (fun i => (l, l, (i : Int))) (fun _ => none) l.length
  (fun i hi => by
   have hx := lge hi; simp only [zer.r0, zer.b0, zai, hx, obs, dct (show (i : Int) < (l.length : Int) by omega), ctr, bst, bnt, cfa]; rw [w6e]; rfl)
  (by simp only [zer.r0, zer.b0, dcf (show ¬ (l.length : Int) < (l.length : Int) by omega), cfa]) h
 simp only [nc0] at l1
 rw [l1]
 have : ∀ l : List Nat, l.findSome? (fun _ => (none : Option Bool)) = none := fun l => by rw [List.findSome?_eq_none_iff]; intros; rfl
 rw [this]
 rfl
theorem zadn (N : Nat) (s : Storage) (h : s.Tags.length < N) (hl : s.Tags.length < 1000000) : zj1 N s s = some true := by
 unfold zj1
 rw [bst, ctr, zabi N _ h hl]
 rfl
section
variable {p : zB} {s : zC}
def fitM (s : zC) : Prop := s.Storage.Bytes.size ≤ 1048576 ∧ s.Storage.Tags.length ≤ 1048576 ∧ s.Stack.length ≤ 1048576 ∧ s.Lines.length ≤ 1048576
def z4t (p : zB) (k : Int) : Bool := !inB k 0 ((p.zG.length : Int) - 1) || (p.zG.getD k.toNat ⟨0, []⟩).Op != 13
def anyM (p : zB) (l : List Int) : Bool := (List.range l.length).any fun i => z4t p (l.getD i 0)
def z35 (p : zB) (t : Storage) : Int := if (t.Bytes.size : Int) ≠ 16 * zkm p.zA then 18 else if (zvc t).2 ≠ 0 then (zvc t).2 else cond (anyP t) 22 0
def lstM (p : zB) (s : zC) : List Int := [cond (!inB s.At 0 ((p.zG.length : Int) - 1)) 3 0,
 cond (decide ((s.Stack.length : Int) > 6) || decide ((s.Lines.length : Int) > 40)) 2 0, cond (anyM p s.Stack) 3 0, cond (anyL s.Lines) 18 0, cond (!inB s.Status 0 3) 4 0,
 cond (!(inB s.Exception 0 999 && inB s.Steps 0 300)) 3 0]
def errM (p : zB) (s : zC) : Int := if (zly p).2 ≠ 0 then (zly p).2 else if z35 p s.Storage ≠ 0 then z35 p s.Storage else zhe (lstM p s)
theorem zae6 {t : Storage} (h : StoP p t) : z35 p t = 0 := by
 have hs := h.sto
 unfold z35
 rw [ifn (by have := h.size; omega), hs.err, ifn (by simp)]
 have : anyP t = false := z97 fun i hi => by
  obtain ⟨k, k1, k2⟩ := z87 hi; obtain ⟨off, _, h3⟩ := hs.ptr k k1; rw [zwe _ hi, k2, ← zaa7, h3]; rfl
 rw [this]
 rfl
theorem zaek (p : zB) (k : Int) : z4t p k = false ↔ (0 ≤ k ∧ k < (p.zG.length : Int)) ∧ ∃ x, p.zG[k.toNat]? = some x ∧ x.Op = 13 := by
 unfold z4t
 rw [Bool.or_eq_false_iff, Bool.not_eq_false', zbf, zd1, decide_eq_false_iff_not, Classical.not_not]
 constructor
 · rintro ⟨h1, h2⟩
   have hl : k.toNat < p.zG.length := by omega
   rw [zwe _ hl] at h2; exact ⟨by omega, _, lge hl, h2⟩
 · rintro ⟨h1, x, h2, h3⟩
   refine ⟨by omega, ?_⟩; rw [gdd, h2]; exact h3
theorem zaa1 (hc : (zly p).2 = 0) (h : StI p s) : errM p s = 0 := by
 have h5 : anyM p s.Stack = false := z97 fun i hi => by
  rw [zwe _ hi]; exact (zaek p _).2 (h.calls _ (List.getElem_mem hi))
 have h6 : anyL s.Lines = false := z97 fun i hi => by
  have := h.long _ (List.getElem_mem hi); rw [zwe _ hi, decide_eq_false_iff_not]; omega
 obtain ⟨r5, r6, r7, r8, r9, r10, r11, r12, r13, r14, r15, r16, r17⟩ := h
 unfold errM
 rw [ifn, zae6 r5, ifn, z7z]
 simp only [lstM, List.forall_mem_cons, List.not_mem_nil, false_imp_iff, implies_true, and_true]
 rw [zbf.2 ⟨r6, by omega⟩, h5, h6, zbf.2 ⟨r12, r13⟩, zbf.2 ⟨r14, r15⟩, zbf.2 ⟨r16, r17⟩, dcf (by omega), dcf (by omega)]
 exact ⟨rfl, rfl, rfl, rfl, rfl, rfl⟩
end
section
variable {p : zB} {s : zC}
def trT (p : zB) : Nat → zC → List zC
 | 0, _ => []
 | k + 1, s => if s.Status = 0 then zht p s :: trT p k (zht p s) else []
def trL (p : zB) (k : Nat) : List zC := zl4 p :: trT p k (zl4 p)
theorem zaai (p : zB) : ∀ (k : Nat) (s : zC), (trT p k s).length ≤ k
 | 0, _ => Nat.le_refl 0
 | k + 1, s => by
  have := zaai p k (zht p s); unfold trT; split
  · rw [lnc]; omega
  · exact Nat.zero_le _
theorem zae2 (p : zB) (k : Nat) : (trL p k).length ≤ k + 1 := by
 have := zaai p k (zl4 p)
 unfold trL
 rw [lnc]; omega
theorem zyb (b : Bool) (e : Int) : zch b e = some (cond b e 0) := by cases b <;> rfl
theorem zaav (N : Nat) (hN : 1100 < N) (p : zB) : zd8 N p = some (zly p).2 := by
 unfold zd8
 rw [z82 N hN]
 rfl
theorem z0d (N : Nat) (l : List Int) (h : l.length < N) (hl : l.length < 1000000000) : zae N l = some (zhe l) := by
 unfold zae
 have := zbh (f := zae.r0 N) (fun i => (l, (l.length : Int), (i : Int))) (fun i => (l[i]?).bind fun x => if x = 0 then none else some x) l.length
  (fun i hi => by
   have hx := lge hi; simp only [zae.r0, zae.b0, zai, hx, obs, dct (show (i : Int) < (l.length : Int) by omega), ctr]
   by_cases h0 : l[i] = 0
   · simp only [h0, bsf, cfa, if_true]; rw [w6e]; rfl
   · simp only [h0, if_false]; rw [show (l[i] != 0) = true by simpa using h0]; rfl)
  (by simp only [zae.r0, zae.b0, dcf (show ¬ (l.length : Int) < (l.length : Int) by omega), cfa]) h
 simp only [nc0] at this
 rw [this, zmh, ← zot]
 simp only [obs]
 cases l.findSome? (fun x => if x = 0 then none else some x) <;> rfl
end
section
variable {p : zB} {s : zC}
theorem zaah (N : Nat) (hN : 20000 < N) (h : ProgV p) (n : Int) (hn : n ≤ 300) : ∀ (k : Nat) (s : zC) (out : List zC), StI p s → (s.Status = 0 → s.Steps < 300) → s.Steps + (k : Int) = n → out.length + k ≤ 1000 → ∀ K : Nat, k < K →
 (∃ j t, zl (zbi.r0 N) K (n, znv p.zA, s.Steps, out, p, s) = some (n, znv p.zA, j, out ++ trT p k s, p, t)) ∧ ∃ t, zl (ziv.r0 N) K (n, out, p, s) = some (n, out ++ trT p k s, p, t)
 | 0, s, out, hs, h1, h2, h3, K, hK => by
  obtain ⟨K, rfl⟩ : ∃ J, K = J + 1 := ⟨K - 1, by omega⟩; have ca : ∀ b : Bool, (cond b (some false) (some false) : Option Bool) = some false := fun b => by cases b <;> rfl
  simp only [zl, zbi.r0, zbi.b0, ziv.r0, ziv.b0]; rw [dcf (show ¬ s.Steps < n by omega), ca, cfa]; simp only [obs, cfa]; exact ⟨⟨_, _, by rw [trT, List.append_nil]⟩, ⟨_, by rw [trT, List.append_nil]⟩⟩
 | k + 1, s, out, hs, h1, h2, h3, K, hK => by
  obtain ⟨K, rfl⟩ : ∃ J, K = J + 1 := ⟨K - 1, by omega⟩; simp only [zl, zbi.r0, zbi.b0, ziv.r0, ziv.b0, zcn]; rw [dct (show s.Steps < n by omega)]
  by_cases hst : s.Status = 0
  · obtain ⟨g1, g2, g3, g4, g5⟩ := zw1 N hN h hs hst (h1 hst); have p0 := hs.sp0; have e : trT p (k + 1) s = zht p s :: trT p k (zht p s) := by rw [trT, ifp hst]
    have rm : Nat.ble ((out.length + ([zht p s] : List zC).length) * 120) zbr = true := zao (by simp only [lnc, ln0]; omega); rw [dct hst]; simp only [ctr, obs]; rw [g1, g2, w6e, ← g4, e]; simp only [obs, ze0, rm, ctr]; obtain ⟨⟨j, t, q1⟩, ⟨t', q2⟩⟩ := zaah N hN h n hn k (zht p s) (out ++ [zht p s]) g3 (fun hh => by rw [g4]; exact g5 hh) (by rw [g4]; omega) (by simp only [lna, lnc, ln0]; omega) K (by omega); rw [List.append_assoc, List.singleton_append] at q1 q2; exact ⟨⟨j, t, q1⟩, ⟨t', q2⟩⟩
  · rw [dcf hst, trT, ifn hst, List.append_nil]; simp only [ctr, cfa, obs]; exact ⟨⟨_, _, rfl⟩, ⟨_, rfl⟩⟩
theorem zaad (N : Nat) (hN : 20000 < N) (h : ProgV p) (hc : (zly p).2 = 0) (k : Nat) (hk : k ≤ 300) : zio N p (k : Int) = some (trL p k, 0) := by
 have f2 : ∀ a b : Int, zae N [a, b] = some (zhe [a, b]) := fun a b => z0d N _ (by simp; omega) (by simp)
 have hb : inB (k : Int) 0 300 = true := zbf.2 ⟨by omega, by omega⟩
 unfold zio zbi
 rw [zaav N (by omega), hc]
 simp only [obs, z0c, zyb, f2, hb, bnt, cfa]
 rw [show zhe [0, 0] = 0 from rfl, z4n N hN h hc, zw4 N hN h hc]
 simp only [obs, bsf, cfa, ze0]
 rw [zao (by show (0 + 1) * 120 ≤ 1000000; decide), ctr]
 obtain ⟨⟨j, t, q1⟩, _⟩ := zaah N hN h (k : Int) (by omega) k (zl4 p) ([] ++ [zl4 p]) (zuc h) (fun _ => by show (0 : Int) < 300; omega) (by show (0 : Int) + (k : Int) = _; omega) (by show 1 + k ≤ 1000; omega) N (by omega)
 simp only [obs]
 rw [show (0 : Int) = (zl4 p).Steps from rfl, q1]
 rfl
def z3d (s : zC) (i : Nat) : Option Bool := (s.Lines[i]?).bind fun l => if decide ((l.size : Int) > 300) = true then some false else none
def fewM (s : zC) : Bool := match (List.range (min s.Lines.length 44)).findSome? (z3d s) with
 | some r => r
 | none => (((decide ((s.Storage.Bytes.size : Int) ≤ 480) && decide ((s.Storage.Tags.length : Int) ≤ 30)) && decide ((s.Stack.length : Int) ≤ 9)) && decide ((s.Lines.length : Int) < 44))
theorem zaev (N : Nat) (hN : 1000 < N) (s : zC) : zfc N s = some (fewM s) := by
 unfold zfc fewM
 have l1 := zbh (f := zfc.r0 N) (fun i => ((i : Int), s)) (z3d s) (min s.Lines.length 44)
  (fun i hi => by
   have hlt : i < s.Lines.length := by omega
   have hx := lge hlt; simp only [zfc.r0, zfc.b0, zxw, obs, dct (show (i : Int) < (s.Lines.length : Int) by omega), dct (show (i : Int) < 44 by omega), Bool.and_self, ctr, zai, hx, z3d]; rw [w6e (n := (i : Int) + 1)]; cases (decide ((s.Lines[i].size : Int) > 300)) <;> rfl)
  (by
   have e : (decide (((min s.Lines.length 44 : Nat) : Int) < (s.Lines.length : Int)) && decide (((min s.Lines.length 44 : Nat) : Int) < 44)) = false := by
    by_cases h : s.Lines.length < 44
    · rw [dcf (show ¬ ((min s.Lines.length 44 : Nat) : Int) < (s.Lines.length : Int) by omega)]; rfl
    · rw [dcf (show ¬ ((min s.Lines.length 44 : Nat) : Int) < 44 by omega)]; simp
   simp only [zfc.r0, zfc.b0, zxw, obs, e, cfa]) (N := N) (by omega)
 simp only [nc0] at l1
 rw [l1]
 cases (List.range (min s.Lines.length 44)).findSome? (z3d s) with
 | some r => rfl
 | none =>
  simp only [obs, zb5, zxw]
theorem zaa0 (h : ProgV p) (hs : StI p s) : fewM s = true := by
 have h1 : (List.range (min s.Lines.length 44)).findSome? (z3d s) = none := by
  rw [List.findSome?_eq_none_iff]; intro i hi; rw [List.mem_range] at hi; have hl : i < s.Lines.length := by omega
  have := hs.long _ (List.getElem_mem hl); unfold z3d; rw [lge hl, obs, dcf (by omega)]; rfl
 have a2 := hs.stk
 have a3 := hs.lines
 have a4 := hs.sto.size
 have a5 := hs.sto.sto.tags
 have a6 := h.quads
 unfold fewM
 rw [h1]
 simp only [Bool.and_eq_true, decide_eq_true_iff]
 omega
theorem zagj (N : Nat) (hN : 100000 < N) (s : zC) (h2 : s.Stack.length < 100000) (h3 : s.Lines.length < 100000) (h4 : s.Storage.Tags.length < 100000) : zl5 N s s = some true := by
 unfold zl5
 rw [zadn N _ (by omega) (by omega)]
 simp only [obs, ctr, bst]
 rw [zaca N _ (by omega) (by omega)]
 simp only [obs, ctr]
 rw [z0z N _ (by omega) (by omega)]
 rfl
theorem z8q (N : Nat) (hN : 100000 < N) (hs : StI p s) : zl5 N s s = some true := by
 have a2 := hs.stk
 have a3 := hs.lines
 have a4 := hs.sto.sto.le
 have a5 := hs.sto.sto.tags
 exact zagj N hN s (by omega) (by omega) (by omega)
end
section
variable {p : zB} {s : zC}
theorem zaaq (hs : fitM s) : zj9 s = some s := by
 obtain ⟨w1, w2, w4, w5⟩ := hs
 unfold zj9 zhm zk7 zh5 zj2
 rw [zqz (by omega), zqz (by omega), zqz (by omega)]
 rfl
theorem zaea (p : zB) (hlen : p.zG.length < 1000000000) (k : Int) : zfg k (p.zG.length : Int) p = some (z4t p k) := by
 unfold zfg zhd z4t
 rw [w6e, z0c]
 simp only [obs]
 cases h : inB k 0 ((p.zG.length : Int) - 1) with
 | false => rfl
 | true =>
  rw [zag3 ⟨0, []⟩ h]; rfl
theorem zad9 (N : Nat) (p : zB) (hlen : p.zG.length < 1000000000) (l : List Int) (h : l.length < N) (hl : l.length < 1000000000) : zdt N l (p.zG.length : Int) p = some (anyM p l) := by
 unfold zdt zak
 have l1 := z9p (f := zak.r0 N) (fun i => (l, (l.length : Int), (i : Int), (p.zG.length : Int), p)) (fun i => z4t p (l.getD i 0)) l.length
  (fun i hi => by
   have hx := lge hi; simp only [zak.r0, zak.b0, zai, hx, obs, dct (show (i : Int) < (l.length : Int) by omega), ctr, zaea p hlen, zwe 0 hi]; rw [w6e]; cases z4t p l[i] <;> rfl)
  (by simp only [zak.r0, zak.b0, dcf (show ¬ (l.length : Int) < (l.length : Int) by omega), cfa]) (N := N) h
 simp only [nc0] at l1
 exact l1
theorem zad8 (N : Nat) (l : List ByteArray) (h : l.length < N) (hl : l.length < 1000000000) : zc3 N l = some (anyL l) := by
 unfold zc3 zab
 have l1 := z9p (f := zab.r0 N) (fun i => (l, (l.length : Int), (i : Int))) (fun i => decide (((l.getD i ⟨#[]⟩).size : Int) > 256)) l.length
  (fun i hi => by
   have hx := lge hi; simp only [zab.r0, zab.b0, zai, hx, obs, dct (show (i : Int) < (l.length : Int) by omega), ctr, zha, zwe _ hi]; rw [w6e]; cases decide ((l[i].size : Int) > 256) <;> rfl)
  (by simp only [zab.r0, zab.b0, dcf (show ¬ (l.length : Int) < (l.length : Int) by omega), cfa]) (N := N) h
 simp only [nc0] at l1
 exact l1
theorem zag1 (N : Nat) (hN : 20000 < N) (h : ProgV p) (hc : (zly p).2 = 0) (t : Storage) : zg0 N p t = some (z35 p t) := by
 have f2 : ∀ a b : Int, zae N [a, b] = some (zhe [a, b]) := fun a b => z0d N _ (by simp; omega) (by simp)
 have hl := zz2 h
 unfold zg0 z35
 rw [zw4 N hN h hc]
 simp only [obs, zyb, f2]
 rw [w6e, show zkm p.zA * 16 = 16 * zkm p.zA by omega]
 by_cases h1 : (t.Bytes.size : Int) = 16 * zkm p.zA
 · rw [h1, ifn]; rw [show zhe [0, cond (16 * zkm p.zA != 16 * zkm p.zA) 18 0] = 0 by rw [bsf]; rfl]; simp only [bsf, cfa]; rw [(zs2 N (by omega) t).1]; simp only [obs]
   by_cases h2 : (zvc t).2 = 0
   · have hw := zae5 h2; have hle := hw.le; have htg := hw.tags; have hol := z4k t.Tags t.Tags.length; rw [h2, ifn]; simp only [bsf, cfa]; rw [z99 N t hw (by omega)]; simp only [obs]; unfold ze9 zaj; have l1 := z9p (f := zaj.r0 N) (fun i => (zlp t.Tags t.Tags.length, ((zlp t.Tags t.Tags.length).length : Int), (i : Int), t)) (fun i => z95 t ((zlp t.Tags t.Tags.length).getD i 0)) (zlp t.Tags t.Tags.length).length
      (fun i hi => by
       obtain ⟨k, k1, k2⟩ := z87 hi; have hx := lge hi; have hg : (zlp t.Tags t.Tags.length).getD i 0 = (k : Int) * 16 := by rw [gdd, hx, k2]; rfl
       simp only [zaj.r0, zaj.b0, zai, hx, obs, dct (show (i : Int) < ((zlp t.Tags t.Tags.length).length : Int) by omega), ctr, k2, hg, zg9]; rw [zadi N (by omega) hw k1, w6e]; simp only [obs, orB]; rw [zaa7]; cases z95 t ((k : Int) * 16) <;> rfl)
      (by simp only [zaj.r0, zaj.b0, dcf (show ¬ ((zlp t.Tags t.Tags.length).length : Int) < ((zlp t.Tags t.Tags.length).length : Int) by omega), cfa]) (N := N) (by omega)
     simp only [nc0] at l1; rw [l1]; simp only [obs, zyb]; rfl
   · rw [ifp h2, zd1, dct h2]; rfl
 · rw [ifp h1, show zhe [0, cond ((t.Bytes.size : Int) != 16 * zkm p.zA) 18 0] = 18 by rw [zd1, dct h1]; rfl]; rfl
theorem z9l (N : Nat) (hN : 1048600 < N) (hs : fitM s) : zdi N p s = some (errM p s) := by
 obtain ⟨w1, w2, w4, w5⟩ := hs
 have f6 : ∀ a b d e f g : Int, zae N [a, b, d, e, f, g] = some (zhe [a, b, d, e, f, g]) := fun a b d e f g => z0d N _ (by simp; omega) (by simp)
 unfold zdi errM
 rw [zaav N (by omega)]
 simp only [obs]
 by_cases hc : (zly p).2 = 0
 · have h := zacl hc; have i40 := h.i40; rw [hc, ifn]; simp only [bsf, cfa]; rw [zag1 N (by omega) h hc]; simp only [obs]
   by_cases h1 : z35 p s.Storage = 0
   · rw [h1, ifn]; simp only [bsf, cfa]; rw [zad8 N _ (by omega) (by omega), zad9 N p (by omega) _ (by omega) (by omega)]; simp only [obs, z0c, zyb, orB, w6e (n := (p.zG.length : Int) - 1), f6, Bool.not_not]; unfold lstM; rw [show (!inB s.Exception 0 999 || !inB s.Steps 0 300) = !(inB s.Exception 0 999 && inB s.Steps 0 300) by cases inB s.Exception 0 999 <;> cases inB s.Steps 0 300 <;> rfl]
   · rw [ifp h1, zd1, dct h1]; rfl
 · rw [ifp hc, zd1, dct hc]; rfl
theorem zadj (N : Nat) (hN : 20000 < N) (hp : ProgV p) (hc : (zly p).2 = 0) (hs : StI p s) (h : zdi N p s = some 0) (h1 : s.Status = 0) (h2 : s.Steps < 300) : zk1 N p s = some (zht p s, 0) := by
 have f2 : ∀ a b : Int, zae N [a, b] = some (zhe [a, b]) := fun a b => z0d N _ (by simp; omega) (by simp)
 unfold zk1
 rw [h]
 simp only [obs, orB, zyb, f2]
 rw [show (s.Status != 0 || decide (s.Steps ≥ 300)) = false by rw [h1, dcf (by omega)]; rfl]
 rw [show zhe [0, cond false 26 0] = 0 from rfl, zw4 N hN hp hc]
 simp only [obs, bsf, cfa]
 rw [(zw1 N hN hp hs h1 h2).1]
 rfl
theorem zaax (hs : StI p s) : fitM s := by
 have a2 := hs.stk
 have a3 := hs.lines
 have a4 := hs.sto.sto.le
 have a5 := hs.sto.sto.tags
 exact ⟨by omega, by omega, by omega, by omega⟩
end
section
variable {p : zB} {s : zC}
def trF (p : zB) (k : Nat) (s : zC) : List zC := s :: trT p k s
theorem zaf5 (k : Nat) (h : s.Status = 0) : trF p (k + 1) s = s :: trF p k (zht p s) := by
 unfold trF
 rw [show trT p (k + 1) s = zht p s :: trT p k (zht p s) by rw [trT, ifp h]]
theorem zae3 (k : Nat) (h : s.Status ≠ 0) : trF p k s = [s] := by
 unfold trF
 cases k with
 | zero => rfl
 | succ k => rw [trT, ifn h]
structure At (p : zB) (L : List zC) (n : Int) (i : Nat) (t : zC) : Prop where
 get : L[i]? = some t
 ok : StI p t
 steps : t.Steps = n + (i : Int)
 run : t.Status = 0 ↔ i + 1 < L.length
 few : t.Status = 0 → t.Steps < 300
 next : i + 1 < L.length → L[i + 1]? = some (zht p t)
theorem zaf6 (N : Nat) (hN : 20000 < N) (h : ProgV p) : ∀ (k : Nat) (s : zC), StI p s → (s.Status = 0 → s.Steps < 300) → 300 - s.Steps ≤ (k : Int) →
 (∀ i, i < (trF p k s).length → ∃ t, At p (trF p k s) s.Steps i t) ∧ (trF p k s)[(trF p k s).length - 1]? = some (zqx p (k + 1) s) := by
 have stop : ∀ (k : Nat) (s : zC), StI p s → s.Status ≠ 0 → (∀ i, i < (trF p k s).length → ∃ t, At p (trF p k s) s.Steps i t) ∧ (trF p k s)[(trF p k s).length - 1]? = some (zqx p (k + 1) s) := by
  intro k s hs hst; rw [zae3 k hst]; refine ⟨fun i hi => ?_, by rw [zqx, ifn hst]; rfl⟩; obtain rfl : i = 0 := by rw [lns] at hi; omega
  exact ⟨s, rfl, hs, by show s.Steps = s.Steps + (0 : Int); omega, ⟨fun h => absurd h hst, fun h => by rw [lns] at h; omega⟩, fun h => absurd h hst, fun h => by rw [lns] at h; omega⟩
 intro k
 induction k with
 | zero =>
  intro s hs h1 h2; refine stop 0 s hs fun hst => ?_; have := h1 hst; omega
 | succ k ih =>
  intro s hs h1 h2
  by_cases hst : s.Status = 0
  · obtain ⟨g1, g2, g3, g4, g5⟩ := zw1 N hN h hs hst (h1 hst); obtain ⟨i1, i2⟩ := ih (zht p s) g3 (fun hh => by rw [g4]; exact g5 hh) (by rw [g4]; omega); have hl : 0 < (trF p k (zht p s)).length := by unfold trF; rw [lnc]; omega
    rw [zaf5 k hst]; refine ⟨fun i hi => ?_, ?_⟩
    · cases i with
      | zero =>
       refine ⟨s, rfl, hs, by show s.Steps = s.Steps + (0 : Int); omega, ⟨fun _ => by rw [lnc]; omega, fun _ => hst⟩, h1, fun _ => ?_⟩; rw [List.getElem?_cons_succ]; rfl
      | succ j =>
       rw [lnc] at hi; obtain ⟨t, a1, a2, a3, a4, a5, a6⟩ := i1 j (by omega); refine ⟨t, by rw [List.getElem?_cons_succ]; exact a1, a2, by rw [a3, g4]; omega, by rw [lnc]; exact a4.trans ⟨fun h => by omega, fun h => by omega⟩, a5, fun hh => ?_⟩; rw [lnc] at hh; rw [List.getElem?_cons_succ]; exact a6 (by omega)
    · rw [lnc, Nat.add_sub_cancel, show zqx p (k + 1 + 1) s = zqx p (k + 1) (zht p s) by rw [zqx, ifp hst], ← i2]; obtain ⟨m, hm⟩ : ∃ m, (trF p k (zht p s)).length = m + 1 := ⟨(trF p k (zht p s)).length - 1, by omega⟩; rw [hm, List.getElem?_cons_succ, Nat.add_sub_cancel]
  · exact stop (k + 1) s hs hst
theorem zaf4 (N : Nat) (hN : 20000 < N) (h : ProgV p) : (∀ i, i < (trL p 300).length → ∃ t, At p (trL p 300) 0 i t) ∧ (trL p 300)[(trL p 300).length - 1]? = some (zpl p) :=
 zaf6 N hN h 300 (zl4 p) (zuc h) (fun _ => by show (0 : Int) < 300; omega) (by show (300 : Int) - 0 ≤ 300; omega)
end
theorem plainInterpretAgain : zjj := by
 intro p hp
 refine ⟨2000000, ?_⟩
 obtain ⟨b, hb⟩ := zah6 2000000 (by decide) hp
 have hN : 20000 < 2000000 := by decide
 have hno : ∀ l : List Nat, l.findSome? (fun _ => (none : Option Bool)) = none := fun l => by rw [List.findSome?_eq_none_iff]; intros; rfl
 unfold za8
 rw [zahe]
 simp only [obs, bnt, cfa]
 rw [hb]
 cases b with
 | false => rfl
 | true =>
  simp only [obs, bnt, cfa]; rw [zadv _ (by decide)]; simp only [obs]
  by_cases hc : (zly p).2 = 0
  case neg =>
   rw [show ((zly p).2 != 0) = true by rw [zd1]; exact dct hc]; rfl
  have h := zacl hc; rw [hc, bsf, cfa, z85 _ (by decide) hp]; simp only [obs]; rw [show (300 : Int) = ((300 : Nat) : Int) from rfl, zaad _ hN h hc 300 (by decide), z4n _ hN h hc, zag2 _ hN h hc]; simp only [obs, bsf, cfa]; have hl := zae2 p 300; have hl0 : 0 < (trL p 300).length := by unfold trL; rw [lnc]; omega
  have h00 : (trL p 300)[0]? = some (zl4 p) := rfl; obtain ⟨ha, hlast⟩ := zaf4 2000000 hN h; have he := (z9s 2000000 hN h ⟨[], 0, 0, 0⟩).2.2.1; generalize trL p 300 = L at hl hl0 ha hlast h00 ⊢; simp only [zcn]; rw [dcf (show ¬ (L.length : Int) = 0 by omega), dcf (show ¬ (L.length : Int) > 301 by omega)]; simp only [cfa, obs]; rw [zaev _ (by decide), zaa0 h (zuc h)]; simp only [obs, bnt, cfa]; rw [show (0 : Int) = ((0 : Nat) : Int) from rfl, zai, h00]; simp only [obs]; rw [z8q 2000000 (by decide) (zuc h)]; simp only [obs, bnt, cfa]; have l1 := zbh (f := za8.r0 2000000) (fun i => (L, (i : Int), p, resI (zpl p))) (fun _ => none) L.length
   (fun i hi => by
    obtain ⟨t, a1, a2, a3, a4, a5, a6⟩ := ha i hi; have hf := zaax a2; have hE := zaa1 hc a2; have hi1 : w6 ((L.length : Int) - 1) = (L.length : Int) - 1 := w6e; have e1 : ((t.Status == 0) == decide ((i : Int) < (L.length : Int) - 1)) = true := by
     rw [zcn, show decide (t.Status = 0) = decide ((i : Int) < (L.length : Int) - 1) by
      rw [decide_eq_decide, a4]; omega]
     exact bst _
    simp only [za8.r0, za8.b0, zai, a1, obs, dct (show (i : Int) < (L.length : Int) by omega), ctr, hi1]; rw [zaev _ (by decide), zaa0 h a2, z85 _ (by decide) hp, zaaq hf]; simp only [obs, bnt, cfa]; rw [z9l _ (by decide) hf, hE]; simp only [obs, bsf, cfa]; rw [show (t.Steps != (i : Int)) = false by rw [zd1, decide_eq_false_iff_not, Classical.not_not, a3]; omega, e1, w6e (n := (i : Int) + 1)]; simp only [obs, bnt, cfa]; cases i with
    | zero => rfl
    | succ j =>
     obtain ⟨u, b1, b2, b3, b4, b5, b6⟩ := ha j (by omega); have hu : u.Status = 0 := b4.2 hi; have hn := b6 hi; rw [a1] at hn; cases hn; have hfu := zaax b2; rw [show (((j + 1 : Nat) : Int) == 0) = false by rw [zcn]; exact dcf (by omega), cfa, w6e (n := ((j + 1 : Nat) : Int) - 1), show ((j + 1 : Nat) : Int) - 1 = (j : Int) by omega, zai, b1]; simp only [obs]; rw [zaaq hfu]; simp only [obs]; rw [zadj 2000000 hN h hc b2 (by rw [z9l _ (by decide) hfu, zaa1 hc b2]) hu (b5 hu)]; simp only [obs, bsf, cfa]; rw [z8q 2000000 (by decide) a2]; rfl)
   (by simp only [za8.r0, za8.b0, dcf (show ¬ (L.length : Int) < (L.length : Int) by omega), cfa]) (N := 2000000) (by omega)
  simp only [nc0] at l1 ⊢; rw [l1, hno]; simp only [obs, zb5]; rw [w6e (n := (L.length : Int) - 1), show (L.length : Int) - 1 = ((L.length - 1 : Nat) : Int) by omega, zai, hlast]; simp only [obs]; have hll := he.lines; rw [show (⟨(zpl p).Lines, (zpl p).Status, (zpl p).Exception, (zpl p).Steps⟩ : zP) = resI (zpl p) from rfl, z8d 2000000 (resI (zpl p)) (by show (zpl p).Lines.length < _; omega) (by show (zpl p).Lines.length < _; omega)]; rfl
end
end Go.Proofs.YtmifhmfokbigiaaGreatDoor.M
namespace Go.Proofs.YtmifhmfokbigiaaGreatDoor
theorem interpretAgain_card : Rows.InterpretAgainUptoCardSaid := M.cardInterpretAgain M.plainInterpretAgain
#print axioms interpretAgain_card
end Go.Proofs.YtmifhmfokbigiaaGreatDoor
