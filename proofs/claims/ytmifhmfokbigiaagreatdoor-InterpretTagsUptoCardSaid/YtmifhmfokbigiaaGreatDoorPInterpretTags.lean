/- InterpretTags: the law answers true for every input of bulk at most 1048576, and its arguments read as they did; by the seat's second form, tied to the program's text. -/
import Derived.Test.YtmifhmfokbigiaaGreatDoorPInterpretTagsx1
import Derived.Test.YtmifhmfokbigiaaGreatDoorWInterpretTags
namespace Go.Proofs.YtmifhmfokbigiaaGreatDoor.M
open Go Go.Amx
set_option linter.unusedVariables false
set_option linter.unusedSimpArgs false
set_option maxRecDepth 100000
noncomputable section
section
variable {p : zB} {s : zC}
theorem zyg (o : zF) : zcz o = some (zc1 o) := by
 unfold zcz zc1
 rw [zd1]
theorem zt5 (h : ProgV p) {i : Nat} (hi : i < p.zA.length) (hk : isD (og p.zA i).Kind = true) : zkc p (i : Int) = some (zc1 (og p.zA i)) := by
 unfold zkc
 rw [zgh hi]
 simp only [obs, zt4]
 rw [z79 (zo5 hi) (h.ok.ok i hi) hk]
theorem zabe (N : Nat) (hN : 4000 < N) (h : ProgV p) {i : Nat} (hi : i < p.zA.length) (ht : zjb (og p.zA i).zJ) {x : Number} (hx : zda x) (half : Bool) : zpq N p s (i : Int) x half = zsp N p s i (zme x (og p.zA i).zJ half) := by
 unfold zpq zsp
 rw [zgh hi]
 simp only [obs]
 rw [zadu N hN hx ht]
 simp only [obs]
 rcases z83 x (og p.zA i).zJ half with h0 | h0 <;> rw [h0] <;> rfl
theorem zq0 : zda ⟨0, 0⟩ := ⟨⟨by decide, by decide⟩, by decide, by decide⟩
def zsn (N : Nat) (p : zB) (s : zC) (m : Except Int zC) (prog : Option zD) (rf : Option (Int × zC)) : Prop :=
 (∃ e u, (1 ≤ e ∧ e ≤ 5) ∧ m = .error e ∧ prog = some (mI p s e) ∧ rf = some (e, u)) ∨ ∃ t, m = .ok (mS s t) ∧ prog = some (mI p (mS s t) 0) ∧ rf = some (0, mS s t) ∧ StoP p t
theorem zsn.mk (N : Nat) {m : Except Int zC} {r : Value × Int} {i : Nat} (hN : 2000 < N) (h : ProgV p) (hs : StoP p s.Storage) (hi : i < p.zA.length) (hk : isS (og p.zA i).Kind = true) (hn : zc1 (og p.zA i) = true)
 (hr : r.2 = 0 ∨ r.2 = 19 ∨ r.2 = 20) (hS : r.1 = ⟨r.1.N, ⟨#[]⟩⟩) (hb : r.2 = 0 → -((10 ^ (og p.zA i).zJ.Length.toNat : Nat) : Int) < r.1.N ∧ r.1.N < ((10 ^ (og p.zA i).zJ.Length.toNat : Nat) : Int)) (hm : m = zm9 p s i r) :
 zsn N p s m (zaj N (mI p s 0) (i : Int) r.1 r.2) (zsp N p s i r) := by
 subst hm
 rcases zacq N hN h hs hi hk hn hr hS hb with ⟨e, he, h1, h2, h3⟩ | ⟨t, h1, h2, h3, h4⟩
 · exact .inl ⟨e, s, by omega, h1, h2, h3⟩
 · exact .inr ⟨t, h1, h2, h3, h4⟩
theorem z6r (N : Nat) (hN : 4000 < N) (h : ProgV p) (hs : StoP p s.Storage) {i : Nat} (hi : i < p.zA.length) (hk : isS (og p.zA i).Kind = true) (hn : zc1 (og p.zA i) = true) {x : Number} (hx : zda x) (half : Bool) :
 zsn N p s (zm9 p s i (zme x (og p.zA i).zJ half)) ((zdh N x (og p.zA i).zJ half).bind fun r4 => (zaj N (mI p s 0) (i : Int) r4.1 r4.2).bind fun r5 => some r5) (zpq N p s (i : Int) x half) := by
 have ht := z0n h hi (zsl hk) hn
 rw [z9t N (by omega) hx ht, zabe N hN h hi ht hx]
 have := zsn.mk (m := zm9 p s i (zme x (og p.zA i).zJ half)) N (by omega) h hs hi hk hn (by rcases z83 x (og p.zA i).zJ half with h | h; exact .inl h; exact .inr (.inl h)) (zafl x _ half) (fun h0 => zaav h0) rfl
 simp only [obs]
 rcases this with ⟨e, u, he, h1, h2, h3⟩ | ⟨t, h1, h2, h3, h4⟩
 · exact .inl ⟨e, u, he, h1, by rw [h2]; rfl, h3⟩
 · exact .inr ⟨t, h1, by rw [h2]; rfl, h3, h4⟩
theorem z8j (N : Nat) (hN : 4000 < N) (h : ProgV p) (hs : StoP p s.Storage) {i j : Nat} (hi : i < p.zA.length) (hk : isS (og p.zA i).Kind = true) (hn : zc1 (og p.zA i) = true) (hj : j < p.zA.length) (hkj : isD (og p.zA j).Kind = true) (hnj : zc1 (og p.zA j) = true) (half : Bool) :
 zsn N p s (match nuI p s.Storage j with | .error e => .error e | .ok n => zm9 p s i (zme n (og p.zA i).zJ half)) (zc5 N (mI p s 0) (i : Int) (j : Int) half)
  ((zdd N p s (j : Int)).bind fun r11 => cond (r11.2 != 0) (some (r11.2, s)) ((zpq N p s (i : Int) r11.1 half).bind fun r13 => some (r13.1, r13.2))) := by
 have ht := z0n h hi (zsl hk) hn
 unfold zc5
 rw [show (mI p s 0).zB = p from rfl, zgh hi]
 simp only [obs, zyg, hn, ctr]
 rcases zqa N (by omega) h hs hj hkj hnj with ⟨e, k, he, h1, h2, h3⟩ | ⟨n, h1, h2, h3, h4⟩
 · left; rw [h1, h2, h3]; simp only [obs]; rw [z9t N (by omega) zq0 ht]; simp only [obs]; rw [zaah N s (i : Int) _ _ (show e ≠ 0 by omega), zd1, dct (show e ≠ 0 by omega)]; exact ⟨e, s, by omega, rfl, rfl, rfl⟩
 · rw [h1, h2, h3]; simp only [obs, bsf, cfa]; have := z6r N hN h hs hi hk hn h4 half; rcases this with ⟨e, u, he, g1, g2, g3⟩ | ⟨t, g1, g2, g3, g4⟩
   · exact .inl ⟨e, u, he, g1, g2, by rw [g3]; rfl⟩
   · exact .inr ⟨t, g1, g2, by rw [g3]; rfl, g4⟩
theorem zabq (N : Nat) (hN : 20000 < N) (h : ProgV p) (hs : StoP p s.Storage) {i j : Nat} (hi : i < p.zA.length) (hk : isS (og p.zA i).Kind = true) (hn : zc1 (og p.zA i) = false) (hj : j < p.zA.length) (hkj : isD (og p.zA j).Kind = true) :
 zsn N p s (match byI p s.Storage j with | .error e => .error e | .ok b => wrI p s i (zqi b (og p.zA i).zJ.Length.toNat)) (zc5 N (mI p s 0) (i : Int) (j : Int) false)
  ((zif N p s (j : Int)).bind fun r5 => cond (r5.2 != 0) (some (r5.2, s)) ((zdj N p s (i : Int)).bind fun r6 => cond (r6.2 != 0) (some (r6.2, s))
   ((zio N r5.1 (og p.zA i).zJ.Length).bind fun r8 => (zcy N s.Storage r6.1 r8).bind fun r9 => some (0, mS s r9)))) := by
 have hty := ((zi5 h.ok hi).ty (zsl hk)).1
 have hsz := zd8 hty
 have h0 : (og p.zA i).zJ.Kind = 0 := by
  unfold zc1 at hn; have := of_decide_eq_false hn; omega
 have hle : szE (og p.zA i).zJ = (og p.zA i).zJ.Length := by unfold szE; rw [ifn, ifn, ifn]
 have hL : (og p.zA i).zJ.Length = (((og p.zA i).zJ.Length.toNat : Nat) : Int) := by omega
 have tail : ∀ b : ByteArray, b.size ≤ 5000 → ∀ M : zD, ((zc9 N (og p.zA i)).bind fun r7 => (zd6 b r7).bind fun r8 => (zc9 N (og p.zA i)).bind fun r9 =>
  if 0 ≤ r9 ∧ r9 ≤ (r8.size : Int) then (if 0 ≤ (0 : Int) ∧ (0 : Int) ≤ r9 then ((zas N M (i : Int) (r8.extract (0 : Int).toNat r9.toNat)).bind fun r10 => some r10) else none) else none) = zas N M (i : Int) (zqi b (og p.zA i).zJ.Length.toNat) := by
  intro b hb M; rw [z5b N (by omega) hty, hle]; simp only [obs]; have hpad := z8o b hb (og p.zA i).zJ.Length.toNat (by omega); rw [← hL] at hpad; rw [hpad, obs]; have hps : (⟨(bl b ++ List.replicate ((og p.zA i).zJ.Length.toNat - b.size) 32).toArray⟩ : ByteArray).size = b.size + ((og p.zA i).zJ.Length.toNat - b.size) := by
   show (bl b ++ List.replicate ((og p.zA i).zJ.Length.toNat - b.size) 32).length = _; rw [lna, lnr, zap]
  rw [ifp ⟨by omega, by rw [hps]; omega⟩, ifp, show (0 : Int).toNat = 0 from rfl, zabu]; cases zas N M (i : Int) (zqi b (og p.zA i).zJ.Length.toNat) <;> rfl
 unfold zc5
 rw [show (mI p s 0).zB = p from rfl, zgh hi]
 simp only [obs, zyg, hn, cfa]
 rcases zw1 N (by omega) h hs hj hkj with ⟨e, k, he, h1, h2, h3⟩ | ⟨b, h1, h2, h3, h4⟩
 · left; rw [h1, h2, h3]; simp only [obs]; rw [tail _ (by decide), zd1, dct (show e ≠ 0 by omega)]; unfold zas; obtain ⟨j', hj'⟩ := z61 N (by omega) h hs hi hk (show e ≠ 0 by omega); rw [hj']; simp only [obs, show (mI p s e).raised = e from rfl, zcn, dcf (show e ≠ 0 by omega), cfa]; exact ⟨e, s, by omega, rfl, rfl, rfl⟩
 · have hzb := zd8 ((zi5 h.ok hj).ty hkj).1; have hrp : zio N b (og p.zA i).zJ.Length = some (zqi b (og p.zA i).zJ.Length.toNat) := by
    have h := zzv N (by omega) b (by omega) (og p.zA i).zJ.Length.toNat (by omega); rw [← hL] at h; exact h
   rw [h1, h2, h3]; simp only [obs, bsf, cfa]; rw [tail b (by omega), hrp]; simp only [obs]; rcases z9i N (by omega) h hs hi hk (d := zqi b (og p.zA i).zJ.Length.toNat) (by rw [z0l]; omega) with ⟨e, k, he, g1, g2, g3⟩ | ⟨a, g1, g2, g3, g4, g5⟩
   · left; rw [g2, g3]; simp only [obs, zd1, dct (show e ≠ 0 by omega), ctr]; exact ⟨e, s, by omega, g1, rfl, rfl⟩
   · right; rw [g2, g3]; simp only [obs, bsf, cfa]; rw [g4]; exact ⟨_, g1, rfl, rfl, g5⟩
theorem zab2 (N : Nat) (hN : 4000 < N) (h : ProgV p) (hs : StoP p s.Storage) {op : Int} (hop : 0 ≤ op ∧ op ≤ 4) {i : Nat} (hi : i < p.zA.length) (hk : isS (og p.zA i).Kind = true) (hn : zc1 (og p.zA i) = true) {a b : Number} (ha : zda a) (hb : zda b) :
 zsn N p s (zm9 p s i (zj9 op a b (og p.zA i).zJ false)) ((zfn N op a b (og p.zA i).zJ false).bind fun r7 => (zaj N (mI p s 0) (i : Int) r7.1 r7.2).bind fun r9 => some r9)
  ((zj2 N (⟨op, (og p.zA i).zJ, false⟩ : zS) a b).bind fun r18 => zsp N p s i r18) := by
 have ht := z0n h hi (zsl hk) hn
 rw [zad0 N (by omega) hop ha hb ht, zadv N hN hop ha hb ht]
 have := zsn.mk (m := zm9 p s i (zj9 op a b (og p.zA i).zJ false)) N (by omega) h hs hi hk hn (zab3 _ _ _ _ _) (zaea _ _ _ _ _) (fun h0 => z9g h0) rfl
 simp only [obs]
 rcases this with ⟨e, u, he, h1, h2, h3⟩ | ⟨t, h1, h2, h3, h4⟩
 · exact .inl ⟨e, u, he, h1, by rw [h2]; rfl, h3⟩
 · exact .inr ⟨t, h1, by rw [h2]; rfl, h3, h4⟩
theorem ztt (N : Nat) (h : ProgV p) (hs : StI p s) {x : zI} {m : Except Int zC} {prog : Option zD} {rf : Option (Int × zC)} (hp : zsn N p s m prog rf) (hx : zfj p s x = zm4 s m)
 (h1 : zd N (mI p s 0) x = prog.bind fun r => some (w6 (s.At + 1), r)) (h2 : zad N p s = rf.bind fun r => some (w6 (s.At + 1), r.1, r.2)) : zgn N p s x := by
 have a0 := hs.at0
 have a1 := hs.at1
 have i40 := h.i40
 have wn1 : w6 (s.At + 1) = s.At + 1 := w6e
 unfold zgn
 rw [hx, h1, h2, wn1]
 rcases hp with ⟨e, u, he, g1, g2, g3⟩ | ⟨t, g1, g2, g3, g4⟩
 · rw [g1, g2, g3]; exact .inl ⟨e, _, _, u, rfl, by omega, rfl, rfl⟩
 · rw [g1, g2, g3]; exact .inr ⟨_, _, _, rfl, rfl, rfl, fun _ => ⟨rfl, by omega, by omega⟩, hs.S g4, rfl, rfl, rfl⟩
theorem zks (hs : StI p s) {x : zI} (hx : p.zG[s.At.toNat]? = some x) : idx p.zG s.At = some x := by
 unfold idx
 rw [ifp hs.at0, hx]
theorem zafp (N : Nat) (hN : 20000 < N) (h : ProgV p) (hs : StI p s) {x : zI} (hx : p.zG[s.At.toNat]? = some x) (hop : x.Op = 0) : zgn N p s x := by
 have hm := lmg hx
 have hi := zks hs hx
 obtain ⟨a0, b0, c0⟩ := ze8 h hm (k := 0) (c := 0) (by rw [hop]; rfl)
 obtain ⟨a1, b1, c1⟩ := ze8 h hm (k := 1) (c := 4) (by rw [hop]; rfl)
 have c0 : isS (og p.zA (ai x 0)).Kind = true := c0
 have c1 : (isD (og p.zA (ai x 1)).Kind && (zc1 (og p.zA (ai x 1)) == zc1 (og p.zA (ai x 0)))) = true := c1
 rw [Bool.and_eq_true] at c1
 have cn := eq_of_beq c1.2
 have a0 : idx x.Args 0 = some ((ai x 0 : Nat) : Int) := a0
 have a1 : idx x.Args 1 = some ((ai x 1 : Nat) : Int) := a1
 have hex : zfj p s x = zm4 s (if zc1 (og p.zA (ai x 0)) = true then z4e p s x false else z64 p s x) := by unfold zfj; rw [hop]; rfl
 cases hn : zc1 (og p.zA (ai x 0)) with
 | true =>
  rw [hn] at hex cn; refine ztt N h hs (z8j N (by omega) h hs.sto b0 c0 hn b1 c1.1 cn false) hex ?_ ?_
  · unfold zd; simp only [hop, Int.reduceBEq, ctr, cfa, obs, a0, a1]; rfl
  · unfold zad zk7; rw [hi, zeg N (by omega) h.ok]; simp only [hop, Int.reduceBEq, ctr, cfa, obs, a0, a1, zt5 h b0 (zsl c0), hn, bnt]
 | false =>
  rw [hn] at hex; refine ztt N h hs (zabq N (by omega) h hs.sto b0 c0 hn b1 c1.1) hex ?_ ?_
  · unfold zd; simp only [hop, Int.reduceBEq, ctr, cfa, obs, a0, a1]; rfl
  · unfold zad zk7; rw [hi, zeg N (by omega) h.ok]; simp only [hop, Int.reduceBEq, ctr, cfa, obs, a0, a1, zt5 h b0 (zsl c0), hn, Bool.not_false, zgh b0]; rfl
theorem zafo (N : Nat) (hN : 20000 < N) (h : ProgV p) (hs : StI p s) {x : zI} (hx : p.zG[s.At.toNat]? = some x) (hop : x.Op = 1) : zgn N p s x := by
 have hm := lmg hx
 have hi := zks hs hx
 obtain ⟨a0, b0, c0⟩ := ze8 h hm (k := 0) (c := 2) (by rw [hop]; rfl)
 obtain ⟨a1, b1, c1⟩ := ze8 h hm (k := 1) (c := 3) (by rw [hop]; rfl)
 have c0 : (isS (og p.zA (ai x 0)).Kind && zc1 (og p.zA (ai x 0))) = true := c0
 have c1 : (isD (og p.zA (ai x 1)).Kind && zc1 (og p.zA (ai x 1))) = true := c1
 rw [Bool.and_eq_true] at c0 c1
 have a0 : idx x.Args 0 = some ((ai x 0 : Nat) : Int) := a0
 have a1 : idx x.Args 1 = some ((ai x 1 : Nat) : Int) := a1
 refine ztt N h hs (z8j N (by omega) h hs.sto b0 c0.1 c0.2 b1 c1.1 c1.2 true) (by unfold zfj; rw [hop]; rfl) ?_ ?_
 · unfold zd; simp only [hop, Int.reduceBEq, ctr, cfa, obs, a0, a1]; rfl
 · unfold zad zk7; rw [hi, zeg N (by omega) h.ok]; simp only [hop, Int.reduceBEq, ctr, cfa, obs, a0, a1]
theorem zab4 (N : Nat) (hN : 20000 < N) (h : ProgV p) (hs : StI p s) {x : zI} (hx : p.zG[s.At.toNat]? = some x) (hop : 2 ≤ x.Op ∧ x.Op ≤ 6) : zgn N p s x := by
 have hm := lmg hx
 have hi := zks hs hx
 have hcls : zie x.Op = [2, 3, 3] := by
  rcases (by omega : x.Op = 2 ∨ x.Op = 3 ∨ x.Op = 4 ∨ x.Op = 5 ∨ x.Op = 6) with e | e | e | e | e <;> rw [e] <;> rfl
 obtain ⟨a0, b0, c0⟩ := ze8 h hm (k := 0) (c := 2) (by rw [hcls]; rfl)
 obtain ⟨a1, b1, c1⟩ := ze8 h hm (k := 1) (c := 3) (by rw [hcls]; rfl)
 obtain ⟨a2, b2, c2⟩ := ze8 h hm (k := 2) (c := 3) (by rw [hcls]; rfl)
 have c0 : (isS (og p.zA (ai x 0)).Kind && zc1 (og p.zA (ai x 0))) = true := c0
 have c1 : (isD (og p.zA (ai x 1)).Kind && zc1 (og p.zA (ai x 1))) = true := c1
 have c2 : (isD (og p.zA (ai x 2)).Kind && zc1 (og p.zA (ai x 2))) = true := c2
 rw [Bool.and_eq_true] at c0 c1 c2
 have a0 : idx x.Args 0 = some ((ai x 0 : Nat) : Int) := a0
 have a1 : idx x.Args 1 = some ((ai x 1 : Nat) : Int) := a1
 have a2 : idx x.Args 2 = some ((ai x 2 : Nat) : Int) := a2
 have w1 : w6 (x.Op - 2) = x.Op - 2 := w6e
 have w2 : w6 (x.Op - 2 + 0) = x.Op - 2 := by rw [Int.add_zero]; exact w1
 have hel : (([0, 1, 2, 3, 4] : List Int)[(x.Op - 2).toNat]?) = some (x.Op - 2) := by
  rcases (by omega : x.Op = 2 ∨ x.Op = 3 ∨ x.Op = 4 ∨ x.Op = 5 ∨ x.Op = 6) with e | e | e | e | e <;> rw [e] <;> rfl
 have hpart : zsn N p s (zud p s x) (zdg N (mI p s 0) (x.Op - 2) x.Args)
  ((zdd N p s ((ai x 1 : Nat) : Int)).bind fun r11 => cond (r11.2 != 0) (some (r11.2, s)) ((zdd N p s ((ai x 2 : Nat) : Int)).bind fun r15 => cond (r15.2 != 0) (some (r15.2, s))
   ((zj2 N (⟨x.Op - 2, (og p.zA (ai x 0)).zJ, false⟩ : zS) r11.1 r15.1).bind fun r18 => zsp N p s (ai x 0) r18))) := by
  unfold zud zdg; rw [a0, a1, a2]; simp only [obs]; rcases zqa N (by omega) h hs.sto b1 c1.1 c1.2 with ⟨e, k, he, h1, h2, h3⟩ | ⟨n, h1, h2, h3, h4⟩
  · left; rw [h1, h2, h3]; simp only [obs]; rw [z54 N (by omega) h hs.sto b2 c2.1 (show e ≠ 0 by omega)]; simp only [obs, show (mI p s e).raised = e from rfl, zd1, dct (show e ≠ 0 by omega), ctr]; exact ⟨e, s, by omega, rfl, rfl, rfl⟩
  · rw [h1, h2, h3]; simp only [obs, bsf, cfa]; rcases zqa N (by omega) h hs.sto b2 c2.1 c2.2 with ⟨e, k, he, g1, g2, g3⟩ | ⟨n2, g1, g2, g3, g4⟩
    · left; rw [g1, g2, g3]; simp only [obs, show (mI p s e).raised = e from rfl, zd1, dct (show e ≠ 0 by omega), ctr]; exact ⟨e, s, by omega, rfl, rfl, rfl⟩
    · rw [g1, g2, g3]; simp only [obs, show (mI p s 0).raised = 0 from rfl, show (mI p s 0).zB = p from rfl, bsf, cfa]; rw [zgh b0]; simp only [obs]; exact zab2 N (by omega) h hs.sto (by omega) b0 c0.1 c0.2 h4 g4
 refine ztt N h hs hpart ?_ ?_ ?_
 · unfold zfj; rcases (by omega : x.Op = 2 ∨ x.Op = 3 ∨ x.Op = 4 ∨ x.Op = 5 ∨ x.Op = 6) with e | e | e | e | e <;> rw [e] <;> rfl
 · unfold zd; rw [w1, w2]; rcases (by omega : x.Op = 2 ∨ x.Op = 3 ∨ x.Op = 4 ∨ x.Op = 5 ∨ x.Op = 6) with e | e | e | e | e <;> simp only [e, Int.reduceBEq, ctr, cfa, obs] <;> rfl
 · unfold zad zk7; rw [hi, zeg N (by omega) h.ok]; simp only [obs, a0, a1, a2, w1, hel, ifp (show 0 ≤ x.Op - 2 by omega), ifp (show x.Op - 2 < (([0, 1, 2, 3, 4] : List Int).length : Int) by show x.Op - 2 < 5; omega), zgh b0]; rcases (by omega : x.Op = 2 ∨ x.Op = 3 ∨ x.Op = 4 ∨ x.Op = 5 ∨ x.Op = 6) with e | e | e | e | e <;> simp only [e, Int.reduceBEq, ctr, cfa, obs] <;> rfl
end
section
variable {p : zB} {s : zC}
theorem zacu (N : Nat) (hN : 20000 < N) (h : ProgV p) (hs : StoP p s.Storage) {x : zI} (hop : x.Op = 7 ∨ x.Op = 8) (a0 : idx x.Args 0 = some ((ai x 0 : Nat) : Int)) (a1 : idx x.Args 1 = some ((ai x 1 : Nat) : Int))
 (b0 : ai x 0 < p.zA.length) (b1 : ai x 1 < p.zA.length) (c0 : isD (og p.zA (ai x 0)).Kind = true) (c1 : isD (og p.zA (ai x 1)).Kind = true) (cn : zc1 (og p.zA (ai x 1)) = zc1 (og p.zA (ai x 0))) :
 (∃ e o k, (1 ≤ e ∧ e ≤ 5) ∧ z1f p s x = .error e ∧ zc0 N (mI p s 0) ((ai x 0 : Nat) : Int) ((ai x 1 : Nat) : Int) = some (o, mI p s e) ∧ zla N p s x = some (k, e)) ∨
 ∃ o, z1f p s x = .ok o ∧ zc0 N (mI p s 0) ((ai x 0 : Nat) : Int) ((ai x 1 : Nat) : Int) = some (o, mI p s 0) ∧ zla N p s x = some (zsm x.Op o, 0) := by
 have hcond : ∀ o : Int, (cond (x.Op == 7) (some ((o == 0), (0 : Int))) (some (decide (o < 0), 0))) = some (zsm x.Op o, 0) := fun o => by
  unfold zsm; rcases hop with e | e <;> rw [e]
  · rw [ifp rfl, zcn o]; rfl
  · rw [ifn (by decide)]; rfl
 unfold z1f zc0 zla
 rw [show (mI p s 0).zB = p from rfl, zgh b0, a0, a1]
 simp only [obs, zyg]
 rw [zt5 h b0 c0]
 simp only [obs]
 show (∃ e o k, _ ∧ (if zc1 (og p.zA (ai x 0)) = true then _ else _) = _ ∧ _ ∧ _) ∨ ∃ o, (if zc1 (og p.zA (ai x 0)) = true then _ else _) = _ ∧ _ ∧ _
 cases hn : zc1 (og p.zA (ai x 0)) with
 | true =>
  rw [hn] at cn; simp only [if_true, ctr]; rcases zqa N (by omega) h hs b0 c0 hn with ⟨e, k, he, h1, h2, h3⟩ | ⟨n, h1, h2, h3, h4⟩
  · left; rw [h1, h2, h3]; simp only [obs]; rw [z54 N (by omega) h hs b1 c1 (show e ≠ 0 by omega)]; simp only [obs]; rw [zwf N (by omega) zq0 zq0, zd1, dct (show e ≠ 0 by omega)]; exact ⟨e, _, false, by omega, rfl, rfl, rfl⟩
  · rw [h1, h2, h3]; simp only [obs, bsf, cfa]; rcases zqa N (by omega) h hs b1 c1 cn with ⟨e, k, he, g1, g2, g3⟩ | ⟨n2, g1, g2, g3, g4⟩
    · left; rw [g1, g2, g3]; simp only [obs]; rw [zwf N (by omega) h4 zq0, zd1, dct (show e ≠ 0 by omega)]; exact ⟨e, _, false, by omega, rfl, rfl, rfl⟩
    · right; rw [g1, g2, g3]; simp only [obs, bsf, cfa]; rw [zwf N (by omega) h4 g4, zacn N (by omega) h4 g4]; simp only [obs, hcond]; exact ⟨_, rfl, rfl, rfl⟩
 | false =>
  simp only [Bool.false_eq_true, if_false, cfa]; have z0 := zd8 ((zi5 h.ok b0).ty c0).1; have z1 := zd8 ((zi5 h.ok b1).ty c1).1; rcases zw1 N (by omega) h hs b0 c0 with ⟨e, k, he, h1, h2, h3⟩ | ⟨b, h1, h2, h3, h4⟩
  · left; obtain ⟨b', g1, g2⟩ := z6u N (by omega) h hs b1 c1 (show e ≠ 0 by omega); rw [h1, h2, h3]; simp only [obs]; rw [g1]; simp only [obs]; rw [z8q _ _ (by decide) (by omega), zd1, dct (show e ≠ 0 by omega)]; exact ⟨e, _, false, by omega, rfl, rfl, rfl⟩
  · rw [h1, h2, h3]; simp only [obs, bsf, cfa]; rcases zw1 N (by omega) h hs b1 c1 with ⟨e, k, he, g1, g2, g3⟩ | ⟨b2, g1, g2, g3, g4⟩
    · left; rw [g1, g2, g3]; simp only [obs]; rw [z8q _ _ (by omega) (by decide), zd1, dct (show e ≠ 0 by omega)]; exact ⟨e, _, false, by omega, rfl, rfl, rfl⟩
    · right; rw [g1, g2, g3]; simp only [obs, bsf, cfa]; rw [z8q _ _ (by omega) (by omega), zae1 N (by omega) b b2 (by omega) (by omega) (fun o => cond (x.Op == 7) (some ((o == 0), (0 : Int))) (some (decide (o < 0), 0))), hcond]; exact ⟨_, rfl, rfl, rfl⟩
theorem z8n (h : ProgV p) {i : Nat} (hi : i < p.zA.length) (hk : (og p.zA i).Kind = 5) : 0 ≤ (og p.zA i).Target ∧ (og p.zA i).Target < (p.zG.length : Int) := (zi5 h.ok hi).tg hk
theorem zye (i : Nat) (hi : i < p.zA.length) (e : Int) : zco (mI p s e) (i : Int) = some (og p.zA i).Target := by
 unfold zco
 rw [show (mI p s e).zB = p from rfl, zgh hi]
 rfl
theorem zaec (N : Nat) (hN : 20000 < N) (h : ProgV p) (hs : StI p s) {x : zI} (hx : p.zG[s.At.toNat]? = some x) (hop : x.Op = 7 ∨ x.Op = 8) : zgn N p s x := by
 have hm := lmg hx
 have hi := zks hs hx
 have q0 := hs.at0
 have q1 := hs.at1
 have i40 := h.i40
 have wn1 : w6 (s.At + 1) = s.At + 1 := w6e
 have hcls : zie x.Op = [1, 4, 6] := by rcases hop with e | e <;> rw [e] <;> rfl
 obtain ⟨a0, b0, c0⟩ := ze8 h hm (k := 0) (c := 1) (by rw [hcls]; rfl)
 obtain ⟨a1, b1, c1⟩ := ze8 h hm (k := 1) (c := 4) (by rw [hcls]; rfl)
 obtain ⟨a2, b2, c2⟩ := ze8 h hm (k := 2) (c := 6) (by rw [hcls]; rfl)
 have c0 : isD (og p.zA (ai x 0)).Kind = true := c0
 have c1 : (isD (og p.zA (ai x 1)).Kind && (zc1 (og p.zA (ai x 1)) == zc1 (og p.zA (ai x 0)))) = true := c1
 have c2 : decide ((og p.zA (ai x 2)).Kind = 5) = true := c2
 rw [Bool.and_eq_true] at c1
 have cn := eq_of_beq c1.2
 have lt := z8n h b2 (of_decide_eq_true c2)
 have a0 : idx x.Args 0 = some ((ai x 0 : Nat) : Int) := a0
 have a1 : idx x.Args 1 = some ((ai x 1 : Nat) : Int) := a1
 have a2 : idx x.Args 2 = some ((ai x 2 : Nat) : Int) := a2
 have hex : zfj p s x = (match z1f p s x with | .error e => .error e | .ok o => .ok (cond (zsm x.Op o) (oa p x 2).Target (s.At + 1), s)) := by
  unfold zfj; rcases hop with e | e <;> rw [e] <;> rfl
 have hpr : zd N (mI p s 0) x = (zc0 N (mI p s 0) ((ai x 0 : Nat) : Int) ((ai x 1 : Nat) : Int)).bind fun r10 => cond (zsm x.Op r10.1) ((zco r10.2 ((ai x 2 : Nat) : Int)).bind fun r15 => some (r15, r10.2)) (some (s.At + 1, r10.2)) := by
  unfold zd zsm; rcases hop with e | e <;> simp only [e, Int.reduceBEq, ctr, cfa, obs, a0, a1, a2, show (mI p s 0).zC = s from rfl, wn1]
  · congr 1
    funext r
    rw [ifp trivial, zcn]; cases decide (r.1 = 0) <;> rfl
  · congr 1
 have hrf : zad N p s = (zla N p s x).bind fun r6 => cond (r6.2 != 0) (some (0, r6.2, s)) (cond r6.1 (some ((og p.zA (ai x 2)).Target, 0, s)) (some (s.At + 1, 0, s))) := by
  unfold zad; rw [hi, zeg N (by omega) h.ok]; rcases hop with e | e <;> simp only [e, Int.reduceBEq, ctr, cfa, obs, a2, zgh b2, wn1]
 unfold zgn
 rw [hex, hpr, hrf]
 rcases zacu N hN h hs.sto hop a0 a1 b0 b1 c0 c1.1 cn with ⟨e, o, k, he, h1, h2, h3⟩ | ⟨o, h1, h2, h3⟩
 · left; rw [h1, h2, h3]; simp only [obs, zd1, dct (show e ≠ 0 by omega), ctr]; rw [zye _ b2]; cases zsm x.Op o
   · exact ⟨e, _, _, _, rfl, by omega, rfl, rfl⟩
   · exact ⟨e, _, _, _, rfl, by omega, rfl, rfl⟩
 · right; rw [h1, h2, h3]; simp only [obs, bsf, cfa]; rw [zye _ b2]; cases zsm x.Op o
   · exact ⟨_, _, _, rfl, rfl, rfl, fun _ => ⟨rfl, by show 0 ≤ s.At + 1; omega, by show s.At + 1 ≤ _; omega⟩, hs, rfl, rfl, rfl⟩
   · exact ⟨_, _, _, rfl, rfl, rfl, fun _ => ⟨rfl, by show 0 ≤ (og p.zA (ai x 2)).Target; omega, by show (og p.zA (ai x 2)).Target ≤ _; omega⟩, hs, rfl, rfl, rfl⟩
theorem zafn (N : Nat) (hN : 20000 < N) (h : ProgV p) (hs : StI p s) {x : zI} (hx : p.zG[s.At.toNat]? = some x) (hop : x.Op = 9) : zgn N p s x := by
 have hm := lmg hx
 have hi := zks hs hx
 obtain ⟨a0, b0, c0⟩ := ze8 h hm (k := 0) (c := 6) (by rw [hop]; rfl)
 have c0 : decide ((og p.zA (ai x 0)).Kind = 5) = true := c0
 have lt := z8n h b0 (of_decide_eq_true c0)
 have a0 : idx x.Args 0 = some ((ai x 0 : Nat) : Int) := a0
 right
 refine ⟨(og p.zA (ai x 0)).Target, (og p.zA (ai x 0)).Target, s, by unfold zfj; rw [hop]; rfl, ?_, ?_, fun _ => ⟨rfl, by omega, by omega⟩, hs, rfl, rfl, rfl⟩
 · unfold zd; simp only [hop, Int.reduceBEq, ctr, cfa, obs, a0]; rw [zye _ b0]; rfl
 · unfold zad; rw [hi, zeg N (by omega) h.ok]; simp only [hop, Int.reduceBEq, ctr, cfa, obs, a0, zgh b0]
theorem zw5 (N : Nat) (hN : 2000 < N) (h : ProgV p) (hs : StoP p s.Storage) {i : Nat} (hi : i < p.zA.length) (h3 : (og p.zA i).Kind = 3) (o : Nat) (ho : o ≤ 16777215) :
 zcs N s.Storage (zc3 p.zA i) (ziu o) = some (stV s.Storage (zc3 p.zA i).toNat o, 0) ∧ zik N s.Storage (zc3 p.zA i) (ziu o) = some (stV s.Storage (zc3 p.zA i).toNat o) ∧ StoP p (stV s.Storage (zc3 p.zA i).toNat o) := by
 obtain ⟨q, l0, l1, l2⟩ := zww h hi h3 hs
 refine ⟨zacc N hN hs.sto q o ho, zaci N hN hs.sto q o ho, ⟨zaex hs.sto (by omega) (by omega) ho, by rw [zacd (by omega)]; exact hs.size⟩⟩
theorem zael (N : Nat) (hN : 20000 < N) (h : ProgV p) (hs : StI p s) {x : zI} (hx : p.zG[s.At.toNat]? = some x) (hop : x.Op = 10) : zgn N p s x := by
 have hm := lmg hx
 have hi := zks hs hx
 have q0 := hs.at0
 have q1 := hs.at1
 have i40 := h.i40
 have wn1 : w6 (s.At + 1) = s.At + 1 := w6e
 have hl := hs.sto.sto.le
 obtain ⟨a0, b0, c0⟩ := ze8 h hm (k := 0) (c := 5) (by rw [hop]; rfl)
 obtain ⟨a1, b1, c1⟩ := ze8 h hm (k := 1) (c := 0) (by rw [hop]; rfl)
 have c0 : decide ((og p.zA (ai x 0)).Kind = 3) = true := c0
 have c0 := of_decide_eq_true c0
 have c1 : isS (og p.zA (ai x 1)).Kind = true := c1
 have a0 : idx x.Args 0 = some ((ai x 0 : Nat) : Int) := a0
 have a1 : idx x.Args 1 = some ((ai x 1 : Nat) : Int) := a1
 have hz := zd8 ((zi5 h.ok b1).ty (zsl c1)).1
 have hex : zfj p s x = zm4 s (match adI p s.Storage (ai x 1) with | .error e => .error e | .ok a => .ok (mS s (stV s.Storage (zc3 p.zA (ai x 0)).toNat a.toNat))) := by unfold zfj; rw [hop]; rfl
 have hpr : zd N (mI p s 0) x = (zdk N (mI p s 0) x.Args).bind fun r => some (s.At + 1, r) := by
  unfold zd; simp only [hop, Int.reduceBEq, ctr, cfa, obs, show (mI p s 0).zC = s from rfl, wn1]
 have hrf : zad N p s = (zdj N p s ((ai x 1 : Nat) : Int)).bind fun r12 => cond (r12.2 != 0) (some (0, r12.2, s)) ((zik N s.Storage (zc3 p.zA (ai x 0)) (⟨0, (⟨1, r12.1⟩ : Address), 0⟩ : Pointer)).bind fun r15 => some (s.At + 1, 0, mS s r15)) := by
  unfold zad; rw [hi, zeg N (by omega) h.ok]; simp only [hop, Int.reduceBEq, ctr, cfa, obs, a0, a1, zln b0, wn1]; rfl
 unfold zgn
 rw [hex, hpr, hrf]
 unfold zdk
 rw [a0, a1]
 simp only [obs]
 rcases z5k N (by omega) h hs.sto b1 c1 with ⟨e, j, k, he, h1, h2, h3⟩ | ⟨a, h1, h2, h3, h4, h5⟩
 · left; rw [h1, h2, h3]; simp only [obs, show (mI p s e).raised = e from rfl, zcn, zd1, dct (show e ≠ 0 by omega), dcf (show ¬ e = 0 by omega), ctr, cfa]; exact ⟨e, _, _, _, rfl, by omega, rfl, rfl⟩
 · right; obtain ⟨a, rfl⟩ : ∃ k : Nat, a = (k : Int) := ⟨a.toNat, by omega⟩; obtain ⟨g1, g2, g3⟩ := zw5 N (by omega) h hs.sto b0 c0 a (by omega); rw [h1, h2, h3]; simp only [obs, show (mI p s 0).raised = 0 from rfl, show (mI p s 0).layout = zoi p.zA from rfl, show (mI p s 0).zC = s from rfl, bst, bsf, ctr, cfa]; rw [zln b0]; simp only [obs]; rw [show (⟨0, (⟨1, (a : Int)⟩ : Address), 0⟩ : Pointer) = ziu a from rfl, g1, g2]; exact ⟨_, _, _, rfl, rfl, rfl, fun _ => ⟨rfl, by omega, by omega⟩, hs.S g3, rfl, rfl, rfl⟩
theorem zaek (N : Nat) (hN : 20000 < N) (h : ProgV p) (hs : StI p s) {x : zI} (hx : p.zG[s.At.toNat]? = some x) (hop : x.Op = 11) : zgn N p s x := by
 have hm := lmg hx
 have hi := zks hs hx
 have q0 := hs.at0
 have q1 := hs.at1
 have i40 := h.i40
 have wn1 : w6 (s.At + 1) = s.At + 1 := w6e
 obtain ⟨a0, b0, c0⟩ := ze8 h hm (k := 0) (c := 5) (by rw [hop]; rfl)
 obtain ⟨a1, b1, c1⟩ := ze8 h hm (k := 1) (c := 5) (by rw [hop]; rfl)
 have c0 : decide ((og p.zA (ai x 0)).Kind = 3) = true := c0
 have c0 := of_decide_eq_true c0
 have c1 : decide ((og p.zA (ai x 1)).Kind = 3) = true := c1
 have c1 := of_decide_eq_true c1
 have a0 : idx x.Args 0 = some ((ai x 0 : Nat) : Int) := a0
 have a1 : idx x.Args 1 = some ((ai x 1 : Nat) : Int) := a1
 have hex : zfj p s x = zm4 s (match ldV s.Storage (zc3 p.zA (ai x 1)) with | none => .error 4 | some o => .ok (mS s (stV s.Storage (zc3 p.zA (ai x 0)).toNat o.toNat))) := by unfold zfj; rw [hop]; rfl
 have hpr : zd N (mI p s 0) x = (zc2 N (mI p s 0) x.Args).bind fun r => some (s.At + 1, r) := by
  unfold zd; simp only [hop, Int.reduceBEq, ctr, cfa, obs, show (mI p s 0).zC = s from rfl, wn1]
 have hrf : zad N p s = (zl6 N s.Storage (zc3 p.zA (ai x 1))).bind fun r18 => cond (r18.2 != 0) (some (0, 4, s)) ((zik N s.Storage (zc3 p.zA (ai x 0)) r18.1).bind fun r21 => some (s.At + 1, 0, mS s r21)) := by
  unfold zad; rw [hi, zeg N (by omega) h.ok]; simp only [hop, Int.reduceBEq, ctr, cfa, obs, a0, a1, zln b0, zln b1, wn1]; rfl
 unfold zgn
 rw [hex, hpr, hrf]
 unfold zc2
 rw [a0, a1]
 simp only [obs]
 rw [zub N (by omega) h hs.sto b1 c1, z43 N (by omega) hs.sto.sto (zww h b1 c1 hs.sto).1]
 cases hld : ldV s.Storage (zc3 p.zA (ai x 1)) with
 | none => exact .inl ⟨4, _, _, _, rfl, by decide, rfl, rfl⟩
 | some o =>
  right; have ho := z0x hs.sto.sto hld; obtain ⟨o, rfl⟩ : ∃ k : Nat, o = (k : Int) := ⟨o.toNat, by omega⟩; obtain ⟨g1, g2, g3⟩ := zw5 N (by omega) h hs.sto b0 c0 o (by omega); simp only [obs, show (mI p s 0).raised = 0 from rfl, show (mI p s 0).layout = zoi p.zA from rfl, show (mI p s 0).zC = s from rfl, bst, bsf, ctr, cfa]; rw [zln b0]; simp only [obs]; rw [g1, g2]; exact ⟨_, _, _, rfl, rfl, rfl, fun _ => ⟨rfl, by omega, by omega⟩, hs.S g3, rfl, rfl, rfl⟩
theorem zaej (N : Nat) (hN : 20000 < N) (h : ProgV p) (hs : StI p s) {x : zI} (hx : p.zG[s.At.toNat]? = some x) (hop : x.Op = 12) : zgn N p s x := by
 have hm := lmg hx
 have hi := zks hs hx
 have q0 := hs.at0
 have q1 := hs.at1
 have i40 := h.i40
 have wn1 : w6 (s.At + 1) = s.At + 1 := w6e
 obtain ⟨a0, b0, c0⟩ := ze8 h hm (k := 0) (c := 5) (by rw [hop]; rfl)
 obtain ⟨a1, b1, c1⟩ := ze8 h hm (k := 1) (c := 3) (by rw [hop]; rfl)
 have c0 : decide ((og p.zA (ai x 0)).Kind = 3) = true := c0
 have c0 := of_decide_eq_true c0
 have c1 : (isD (og p.zA (ai x 1)).Kind && zc1 (og p.zA (ai x 1))) = true := c1
 rw [Bool.and_eq_true] at c1
 have a0 : idx x.Args 0 = some ((ai x 0 : Nat) : Int) := a0
 have a1 : idx x.Args 1 = some ((ai x 1 : Nat) : Int) := a1
 have hex : zfj p s x = zm4 s (match ldV s.Storage (zc3 p.zA (ai x 0)) with
  | none => .error 4
  | some o => match nuI p s.Storage (ai x 1) with
   | .error e => .error e
   | .ok n => if inB (o + zfl n) 0 16777215 = true then .ok (mS s (stV s.Storage (zc3 p.zA (ai x 0)).toNat (o + zfl n).toNat)) else .error 5) := by unfold zfj; rw [hop]; rfl
 have hpr : zd N (mI p s 0) x = (zdv N (mI p s 0) x.Args).bind fun r => some (s.At + 1, r) := by
  unfold zd; simp only [hop, Int.reduceBEq, ctr, cfa, obs, show (mI p s 0).zC = s from rfl, wn1]
 have hrf : zad N p s = (zl6 N s.Storage (zc3 p.zA (ai x 0))).bind fun r24 => cond (r24.2 != 0) (some (0, 4, s)) ((zdd N p s ((ai x 1 : Nat) : Int)).bind fun r26 => cond (r26.2 != 0) (some (0, r26.2, s)) ((zmx N r26.1).bind fun r27 =>
  cond (!inB (w6 (r24.1.Address.Offset + r27)) 0 16777215) (some (0, 5, s)) ((zik N s.Storage (zc3 p.zA (ai x 0)) (⟨r24.1.Kind, (⟨r24.1.Address.zV, (w6 (r24.1.Address.Offset + r27))⟩ : Address), r24.1.Authority⟩ : Pointer)).bind fun r31 => some (s.At + 1, 0, mS s r31)))) := by
  unfold zad; rw [hi, zeg N (by omega) h.ok]; simp only [hop, Int.reduceBEq, ctr, cfa, obs, a0, a1, zln b0, wn1, zht]; rfl
 unfold zgn
 rw [hex, hpr, hrf]
 unfold zdv
 rw [a0, a1]
 simp only [obs]
 rw [zub N (by omega) h hs.sto b0 c0, z43 N (by omega) hs.sto.sto (zww h b0 c0 hs.sto).1]
 cases hld : ldV s.Storage (zc3 p.zA (ai x 0)) with
 | none => exact .inl ⟨4, _, _, _, rfl, by decide, rfl, rfl⟩
 | some o =>
  have ho := z0x hs.sto.sto hld; simp only [obs, show (mI p s 0).raised = 0 from rfl, bsf, cfa]; rcases zqa N (by omega) h hs.sto b1 c1.1 c1.2 with ⟨e, k, he, h1, h2, h3⟩ | ⟨n, h1, h2, h3, h4⟩
  · left; rw [h1, h2, h3]; simp only [obs]; rw [zyd N (by omega) zq0]; simp only [obs, show (mI p s e).raised = e from rfl, zd1, dct (show e ≠ 0 by omega), ctr]; exact ⟨e, _, _, _, rfl, by omega, rfl, rfl⟩
  · have hw := zu0 h4; rw [h1, h2, h3]; simp only [obs, show (mI p s 0).raised = 0 from rfl, bsf, cfa]; rw [zyd N (by omega) h4, z30 N (by omega) h4]; simp only [obs, z4j, show (ziu o).Address.Offset = o from rfl]; rw [w6e (n := o + zfl n)]; cases hin : inB (o + zfl n) 0 16777215 with
    | false => exact .inl ⟨5, _, _, _, rfl, by decide, rfl, rfl⟩
    | true =>
     right; have hr := zbf.1 hin; obtain ⟨q, hq⟩ : ∃ k : Nat, o + zfl n = (k : Int) := ⟨(o + zfl n).toNat, by omega⟩; obtain ⟨g1, g2, g3⟩ := zw5 N (by omega) h hs.sto b0 c0 q (by omega); simp only [bnt, cfa, if_true, show (mI p s 0).zC = s from rfl]; rw [hq, show (⟨(ziu o).Kind, (⟨(ziu o).Address.zV, (q : Int)⟩ : Address), (ziu o).Authority⟩ : Pointer) = ziu q from rfl, g1, g2]; exact ⟨_, _, _, rfl, rfl, rfl, fun _ => ⟨rfl, by omega, by omega⟩, hs.S g3, rfl, rfl, rfl⟩
end
section
variable {p : zB} {s : zC}
theorem zaei (N : Nat) (hN : 20000 < N) (h : ProgV p) (hs : StI p s) {x : zI} (hx : p.zG[s.At.toNat]? = some x) (hop : x.Op = 13) : zgn N p s x := by
 have hm := lmg hx
 have hi := zks hs hx
 have q0 := hs.at0
 have q1 := hs.at1
 have st := hs.stk
 obtain ⟨a0, b0, c0⟩ := ze8 h hm (k := 0) (c := 6) (by rw [hop]; rfl)
 have c0 : decide ((og p.zA (ai x 0)).Kind = 5) = true := c0
 have lt := z8n h b0 (of_decide_eq_true c0)
 have a0 : idx x.Args 0 = some ((ai x 0 : Nat) : Int) := a0
 have hex : zfj p s x = if 6 ≤ s.Stack.length then .error 6 else .ok ((og p.zA (ai x 0)).Target, mK s (s.Stack ++ [s.At])) := by unfold zfj; rw [hop]; rfl
 have hpr : zd N (mI p s 0) x = (ze4 (mI p s 0) (og p.zA (ai x 0)).Target).bind fun r => some (r.1, r.2) := by
  unfold zd; simp only [hop, Int.reduceBEq, ctr, cfa, obs, a0, zye _ b0]
 have hrf : zad N p s = cond ((s.Stack.length : Int) == 6) (some (0, 6, s)) (cond (Nat.ble ((s.Stack.length + ([s.At] : List Int).length) * 8) zbr) (some ((og p.zA (ai x 0)).Target, 0, mK s (s.Stack ++ [s.At]))) none) := by
  unfold zad; rw [hi, zeg N (by omega) h.ok]; simp only [hop, Int.reduceBEq, ctr, cfa, obs, a0, zgh b0]; rfl
 unfold zgn
 rw [hex, hpr, hrf]
 unfold ze4 zki
 simp only [show (mI p s 0).zC = s from rfl, lns, zcn]
 by_cases h6 : 6 ≤ s.Stack.length
 · left; rw [ifp h6, dct (show (s.Stack.length : Int) ≥ 6 by omega), dct (show (s.Stack.length : Int) = 6 by omega)]; exact ⟨6, _, _, _, rfl, by decide, rfl, rfl⟩
 · right; rw [ifn h6, dcf (show ¬ (s.Stack.length : Int) ≥ 6 by omega), dcf (show ¬ (s.Stack.length : Int) = 6 by omega), zah (by omega), zah (by omega)]; simp only [cfa, ctr, obs]; rw [zah (by omega)]; refine ⟨_, _, _, rfl, rfl, rfl, fun _ => ⟨rfl, by omega, by omega⟩, hs.K (by rw [lna, lns]; omega) (fun i hi => ?_), rfl, rfl, rfl⟩; rcases List.mem_append.1 hi with g | g
   · exact hs.calls i g
   · rw [List.mem_singleton.1 g]; exact ⟨⟨q0, q1⟩, x, hx, hop⟩
theorem zaeh (N : Nat) (hN : 20000 < N) (h : ProgV p) (hs : StI p s) {x : zI} (hx : p.zG[s.At.toNat]? = some x) (hop : x.Op = 14) : zgn N p s x := by
 have hi := zks hs hx
 have q0 := hs.at0
 have q1 := hs.at1
 have st := hs.stk
 have i40 := h.i40
 have hex : zfj p s x = if s.Stack.length = 0 then .ok (s.At, mT s 1) else .ok (s.Stack.getD (s.Stack.length - 1) 0 + 1, mK s (s.Stack.take (s.Stack.length - 1))) := by unfold zfj; rw [hop]; rfl
 have hpr : zd N (mI p s 0) x = (ze7 (mI p s 0)).bind fun r => some (r.1, r.2) := by
  unfold zd; simp only [hop, Int.reduceBEq, ctr, cfa, obs]
 unfold zgn zad
 rw [hex, hpr, hi, zeg N (by omega) h.ok]
 simp only [hop, Int.reduceBEq, ctr, cfa, obs]
 unfold ze7
 simp only [show (mI p s 0).zC = s from rfl, zcn]
 right
 by_cases h0 : s.Stack.length = 0
 · rw [ifp h0, dct (show (s.Stack.length : Int) = 0 by omega)]; exact ⟨_, _, _, rfl, rfl, rfl, fun h => (by cases h), hs.T (by decide) (by decide), rfl, rfl, rfl⟩
 · rw [ifn h0, dcf (show ¬ (s.Stack.length : Int) = 0 by omega)]; simp only [cfa]; have wl : w6 ((s.Stack.length : Int) - 1) = ((s.Stack.length - 1 : Nat) : Int) := by rw [w6e]; omega
   have hg : s.Stack[s.Stack.length - 1]? = some (s.Stack.getD (s.Stack.length - 1) 0) := by
    rw [gdd, lge (by omega)]; rfl
   have hc := hs.calls _ (lmg hg); have wn : w6 (s.Stack.getD (s.Stack.length - 1) 0 + 1) = s.Stack.getD (s.Stack.length - 1) 0 + 1 := w6e; have k1 : 0 ≤ ((s.Stack.length - 1 : Nat) : Int) ∧ ((s.Stack.length - 1 : Nat) : Int) ≤ (s.Stack.length : Int) := by omega
   have k2 : 0 ≤ (0 : Int) ∧ (0 : Int) ≤ ((s.Stack.length - 1 : Nat) : Int) := by omega
   have k3 : 0 ≤ ((s.Stack.length - 1 : Nat) : Int) := by omega
   have k4 : ((s.Stack.length - 1 : Nat) : Int) < (s.Stack.length : Int) := by omega
   simp only [wl, zai, itn, hg, obs, ifp k1, ifp k2, ifp k3, ifp k4, wn]; unfold zki; rw [show (s.Stack.take (s.Stack.length - 1)).drop (0 : Int).toNat = s.Stack.take (s.Stack.length - 1) from rfl, zah (by rw [lnt]; omega)]; refine ⟨_, _, _, rfl, rfl, rfl, fun _ => ⟨rfl, by omega, by omega⟩, hs.K (by rw [lnt]; omega) (fun i hi => hs.calls i (List.mem_of_mem_take hi)), rfl, rfl, rfl⟩
theorem zaeg (N : Nat) (hN : 20000 < N) (h : ProgV p) (hs : StI p s) {x : zI} (hx : p.zG[s.At.toNat]? = some x) (hop : x.Op = 15) : zgn N p s x := by
 have hm := lmg hx
 have hi := zks hs hx
 obtain ⟨a0, b0, c0⟩ := ze8 h hm (k := 0) (c := 3) (by rw [hop]; rfl)
 have c0 : (isD (og p.zA (ai x 0)).Kind && zc1 (og p.zA (ai x 0))) = true := c0
 rw [Bool.and_eq_true] at c0
 have a0 : idx x.Args 0 = some ((ai x 0 : Nat) : Int) := a0
 have hex : zfj p s x = (match nuI p s.Storage (ai x 0) with | .error e => .error e | .ok n => if inB (zfl n) 100 999 = true then .error (zfl n) else .error 2) := by unfold zfj; rw [hop]; rfl
 have hpr : zd N (mI p s 0) x = (zea N (mI p s 0) ((ai x 0 : Nat) : Int)).bind fun r => some (w6 (s.At + 1), r) := by
  unfold zd; simp only [hop, Int.reduceBEq, ctr, cfa, obs, a0]; rfl
 have hrf : zad N p s = (zdd N p s ((ai x 0 : Nat) : Int)).bind fun r36 => cond (r36.2 != 0) (some (0, r36.2, s)) ((zmx N r36.1).bind fun r37 => cond (inB r37 100 999) (some (0, r37, s)) (some (0, 2, s))) := by
  unfold zad; rw [hi, zeg N (by omega) h.ok]; simp only [hop, Int.reduceBEq, ctr, cfa, obs, a0, zht]
 unfold zgn
 rw [hex, hpr, hrf]
 unfold zea
 left
 rcases zqa N (by omega) h hs.sto b0 c0.1 c0.2 with ⟨e, k, he, h1, h2, h3⟩ | ⟨n, h1, h2, h3, h4⟩
 · rw [h1, h2, h3]; simp only [obs]; rw [zyd N (by omega) zq0]; simp only [obs, z4j]; rw [zti p s (show e ≠ 0 by omega), zti p s (show e ≠ 0 by omega), zd1, dct (show e ≠ 0 by omega)]; exact ⟨e, _, _, _, rfl, by omega, by cases inB (zfl ⟨0, 0⟩) 100 999 <;> rfl, rfl⟩
 · have hw := zu0 h4; rw [h1, h2, h3]; simp only [obs, bsf, cfa]; rw [zyd N (by omega) h4, z30 N (by omega) h4]; simp only [obs, z4j, z6f]; cases hin : inB (zfl n) 100 999 with
   | true =>
    have := zbf.1 hin; exact ⟨zfl n, _, _, _, rfl, by omega, rfl, rfl⟩
   | false => exact ⟨2, _, _, _, rfl, by omega, rfl, rfl⟩
theorem zaef (N : Nat) (hN : 20000 < N) (h : ProgV p) (hs : StI p s) {x : zI} (hx : p.zG[s.At.toNat]? = some x) (hop : x.Op = 16) : zgn N p s x := by
 have hm := lmg hx
 have hi := zks hs hx
 have e0 := hs.ex0
 have e1 := hs.ex1
 obtain ⟨a0, b0, c0⟩ := ze8 h hm (k := 0) (c := 2) (by rw [hop]; rfl)
 have c0 : (isS (og p.zA (ai x 0)).Kind && zc1 (og p.zA (ai x 0))) = true := c0
 rw [Bool.and_eq_true] at c0
 have a0 : idx x.Args 0 = some ((ai x 0 : Nat) : Int) := a0
 have hn : zda ⟨s.Exception, 0⟩ := ⟨⟨by show -999999999999999 ≤ s.Exception; omega, by show s.Exception ≤ 999999999999999; omega⟩, (by show (0 : Int) ≤ 0; decide), (by show (0 : Int) ≤ 15; decide)⟩
 refine ztt N h hs (z6r N (by omega) h hs.sto b0 c0.1 c0.2 hn false) (by unfold zfj; rw [hop]; rfl) ?_ ?_
 · unfold zd; simp only [hop, Int.reduceBEq, ctr, cfa, obs, a0, show (mI p s 0).zC = s from rfl, show (mI p s 0).zB = p from rfl, zgh b0]; cases zdh N (⟨s.Exception, 0⟩ : Number) (og p.zA (ai x 0)).zJ false with
   | none => rfl
   | some r =>
    simp only [obs]; cases zaj N (mI p s 0) ((ai x 0 : Nat) : Int) r.1 r.2 <;> rfl
 · unfold zad; rw [hi, zeg N (by omega) h.ok]; simp only [hop, Int.reduceBEq, ctr, cfa, obs, a0]
theorem zaa3 (N : Nat) (hN : 20000 < N) (h : ProgV p) (hs : StoP p s.Storage) {i : Nat} (hi : i < p.zA.length) (hk : isD (og p.zA i).Kind = true) :
 (∃ e l k, (1 ≤ e ∧ e ≤ 5) ∧ z3t p s i = .error e ∧ zdu N (mI p s 0) (i : Int) = some (l, mI p s e) ∧ zqe N p s (i : Int) = some (k, e)) ∨
 ∃ l, z3t p s i = .ok l ∧ zdu N (mI p s 0) (i : Int) = some (l, mI p s 0) ∧ zqe N p s (i : Int) = some (l, 0) ∧ l.size ≤ 256 := by
 unfold z3t zdu zqe
 rw [show (mI p s 0).zB = p from rfl, zgh hi, zt5 h hi hk]
 simp only [obs, zyg]
 cases hn : zc1 (og p.zA i) with
 | true =>
  simp only [if_true, bnt, cfa]; rcases zqa N (by omega) h hs hi hk hn with ⟨e, k, he, h1, h2, h3⟩ | ⟨n, h1, h2, h3, h4⟩
  · left; rw [h1, h2, h3]; simp only [obs]; rw [z55 zq0, zd1, dct (show e ≠ 0 by omega)]; exact ⟨e, _, _, by omega, rfl, rfl, rfl⟩
  · right; rw [h1, h2, h3]; simp only [obs, bsf, cfa]; rw [z55 h4, zadr N (by omega) h4]; exact ⟨_, rfl, rfl, rfl, z98 h4⟩
 | false =>
  simp only [Bool.false_eq_true, if_false, Bool.not_false, ctr]; have hz := zd8 ((zi5 h.ok hi).ty hk).1; rcases zw1 N (by omega) h hs hi hk with ⟨e, k, he, h1, h2, h3⟩ | ⟨b, h1, h2, h3, h4⟩
  · left; rw [h1, h2, h3]; exact ⟨e, _, _, by omega, rfl, rfl, rfl⟩
  · right; rw [h1, h2, h3]; exact ⟨_, rfl, rfl, rfl, by omega⟩
theorem zaee (N : Nat) (hN : 20000 < N) (h : ProgV p) (hs : StI p s) {x : zI} (hx : p.zG[s.At.toNat]? = some x) (hop : x.Op = 17) : zgn N p s x := by
 have hm := lmg hx
 have hi := zks hs hx
 have q0 := hs.at0
 have q1 := hs.at1
 have i40 := h.i40
 have ln := hs.lines
 have wn1 : w6 (s.At + 1) = s.At + 1 := w6e
 obtain ⟨a0, b0, c0⟩ := ze8 h hm (k := 0) (c := 1) (by rw [hop]; rfl)
 have c0 : isD (og p.zA (ai x 0)).Kind = true := c0
 have a0 : idx x.Args 0 = some ((ai x 0 : Nat) : Int) := a0
 have hex : zfj p s x = (match z3t p s (ai x 0) with | .error e => .error e | .ok l => if s.Lines.length = 40 then .ok (s.At + 1, mT s 3) else .ok (s.At + 1, mL s (s.Lines ++ [l]))) := by unfold zfj; rw [hop]; rfl
 have hpr : zd N (mI p s 0) x = (zel N (mI p s 0) ((ai x 0 : Nat) : Int)).bind fun r => some (s.At + 1, r) := by
  unfold zd; simp only [hop, Int.reduceBEq, ctr, cfa, obs, a0, show (mI p s 0).zC = s from rfl, wn1]
 have hrf : zad N p s = (zqe N p s ((ai x 0 : Nat) : Int)).bind fun r42 => cond (r42.2 != 0) (some (0, r42.2, s)) (cond ((s.Lines.length : Int) == 40) (some (s.At + 1, 0, mT s 3))
  (cond (Nat.ble ((s.Lines.length + ([r42.1] : List ByteArray).length) * 16) zbr) (some (s.At + 1, 0, mL s (s.Lines ++ [r42.1]))) none)) := by
  unfold zad; rw [hi, zeg N (by omega) h.ok]; simp only [hop, Int.reduceBEq, ctr, cfa, obs, a0, wn1]; rfl
 unfold zgn
 rw [hex, hpr, hrf]
 unfold zel
 rcases zaa3 N hN h hs.sto b0 c0 with ⟨e, l, k, he, h1, h2, h3⟩ | ⟨l, h1, h2, h3, h4⟩
 · left; rw [h1, h2, h3]; simp only [obs, show (mI p s e).raised = e from rfl, zd1, dct (show e ≠ 0 by omega), ctr]; exact ⟨e, _, _, _, rfl, by omega, rfl, rfl⟩
 · right; rw [h1, h2, h3]; simp only [obs, show (mI p s 0).raised = 0 from rfl, show (mI p s 0).zC = s from rfl, bsf, cfa, zcn]
   by_cases h40 : s.Lines.length = 40
   · rw [ifp h40, dct (show (s.Lines.length : Int) = 40 by omega)]; exact ⟨_, _, _, rfl, rfl, rfl, fun h => (by cases h), hs.T (by decide) (by decide), rfl, rfl, rfl⟩
   · rw [ifn h40, dcf (show ¬ (s.Lines.length : Int) = 40 by omega)]; unfold zki; rw [zah (by omega)]; simp only [ctr, cfa, obs, lns]; rw [zah (by omega)]; exact ⟨_, _, _, rfl, rfl, rfl, fun _ => ⟨rfl, by omega, by omega⟩, hs.L (by omega) h4, rfl, rfl, rfl⟩
theorem zaed (N : Nat) (hN : 20000 < N) (h : ProgV p) (hs : StI p s) {x : zI} (hx : p.zG[s.At.toNat]? = some x) (hop : x.Op = 18) : zgn N p s x := by
 have hi := zks hs hx
 have q0 := hs.at0
 have q1 := hs.at1
 have i40 := h.i40
 have wn1 : w6 (s.At + 1) = s.At + 1 := w6e
 right
 refine ⟨s.At + 1, s.At + 1, mT s 1, by unfold zfj; rw [hop]; rfl, ?_, ?_, fun h => (by cases h), hs.T (by decide) (by decide), rfl, rfl, rfl⟩
 · unfold zd; simp only [hop, Int.reduceBEq, ctr, cfa, obs, show (mI p s 0).zC = s from rfl, wn1]; rfl
 · unfold zad; rw [hi, zeg N (by omega) h.ok]; simp only [hop, Int.reduceBEq, ctr, cfa, obs, wn1]; rfl
theorem z86 (N : Nat) (hN : 20000 < N) (h : ProgV p) (hs : StI p s) {x : zI} (hx : p.zG[s.At.toNat]? = some x) : zgn N p s x := by
 have ho := zabt h (lmg hx)
 rcases (by omega : x.Op = 0 ∨ x.Op = 1 ∨ (2 ≤ x.Op ∧ x.Op ≤ 6) ∨ (x.Op = 7 ∨ x.Op = 8) ∨ x.Op = 9 ∨ x.Op = 10 ∨ x.Op = 11 ∨ x.Op = 12 ∨ x.Op = 13 ∨ x.Op = 14 ∨ x.Op = 15 ∨ x.Op = 16 ∨ x.Op = 17 ∨ x.Op = 18) with e | e | e | e | e | e | e | e | e | e | e | e | e | e
 · exact zafp N hN h hs hx e
 · exact zafo N hN h hs hx e
 · exact zab4 N hN h hs hx e
 · exact zaec N hN h hs hx e
 · exact zafn N hN h hs hx e
 · exact zael N hN h hs hx e
 · exact zaek N hN h hs hx e
 · exact zaej N hN h hs hx e
 · exact zaei N hN h hs hx e
 · exact zaeh N hN h hs hx e
 · exact zaeg N hN h hs hx e
 · exact zaef N hN h hs hx e
 · exact zaee N hN h hs hx e
 · exact zaed N hN h hs hx e
end
section
variable {p : zB} {s : zC}
def zqm (t : zN) (a e : Int) : Bool := inB a t.From (t.To - 1) && (decide (t.Exception = 0) || decide (t.Exception = e))
def z5c (p : zB) (a e : Int) : Option Nat := (List.range p.zL.length).findSome? fun i => (p.zL[i]?).bind fun t => if zqm t a e = true then some i else none
def zgp (p : zB) (a e : Int) : Int := match z5c p a e with | some i => (p.zL.getD i ⟨0, 0, 0, 0⟩).Handler | none => -1
theorem z6j {a e : Int} {i : Nat} (h : z5c p a e = some i) : ∃ t, p.zL[i]? = some t ∧ zqm t a e = true := by
 obtain ⟨j, _, hj⟩ := eof h
 rw [Option.bind_eq_some_iff] at hj
 obtain ⟨t, ht, hj⟩ := hj
 split at hj
 · rename_i hh; cases hj; exact ⟨t, ht, hh⟩
 · cases hj
theorem z6d (h : ProgV p) {t : zN} (ht : t ∈ p.zL) : 0 ≤ t.From ∧ t.From < t.To ∧ t.To ≤ (p.zG.length : Int) ∧ 0 ≤ t.Handler ∧ t.Handler < (p.zG.length : Int) := by
 have := h.mon t ht
 unfold zx4 at this
 simp only [Bool.and_eq_true, decide_eq_true_eq] at this
 obtain ⟨h1, h2, h3, h4, h5⟩ := this
 have := zbf.1 h5
 omega
theorem z5f (h : ProgV p) (a e : Int) : zgp p a e = -1 ∨ (0 ≤ zgp p a e ∧ zgp p a e < (p.zG.length : Int)) := by
 unfold zgp
 cases hi : z5c p a e with
 | none => exact .inl rfl
 | some i =>
  obtain ⟨t, ht, _⟩ := z6j hi; right; simp only []; rw [gdd, ht]; exact (z6d h (lmg ht)).2.2.2
theorem z9w {β : Type} (f : Nat → β) (a e : Int) : (List.range p.zL.length).findSome? (fun i => ((p.zL[i]?).bind fun t => if zqm t a e = true then some i else none).map f) = (z5c p a e).map f := by
 have key : ∀ l : List Nat, l.findSome? (fun i => ((p.zL[i]?).bind fun t => if zqm t a e = true then some i else none).map f) = (l.findSome? (fun i => (p.zL[i]?).bind fun t => if zqm t a e = true then some i else none)).map f := by
  intro l
  induction l with
  | nil => rfl
  | cons i l ih =>
   rw [List.findSome?_cons, List.findSome?_cons]; cases (p.zL[i]?).bind fun t => if zqm t a e = true then some i else none with
   | none => exact ih
   | some j => rfl
 exact key _
theorem zaaq (N : Nat) (hN : 20000 < N) (h : ProgV p) (a e : Int) : zhr N p a e = some (zgp p a e) := by
 have m6 := h.m6
 have i40 := h.i40
 unfold zhr zp
 have l1 := zbh (f := zp.r0 N) (fun i => (p.zL, (p.zL.length : Int), (i : Int), a, e)) (fun i => ((p.zL[i]?).bind fun t => if zqm t a e = true then some i else none).map fun i : Nat => (i : Int)) p.zL.length
  (fun i hi => by
   have hx := lge hi; have hf := z6d h (List.getElem_mem hi); simp only [zp.r0, zp.b0, zai, hx, obs, dct (show (i : Int) < (p.zL.length : Int) by omega), ctr]; have e1 : zf6 p.zL[i] a e = some (zqm p.zL[i] a e) := by
    unfold zf6 zqm; rw [w6e, z4j, zcn, zcn]; simp only [obs]; cases inB a p.zL[i].From (p.zL[i].To - 1) <;> cases decide (p.zL[i].Exception = 0) <;> cases decide (p.zL[i].Exception = e) <;> rfl
   rw [e1, w6e]; cases zqm p.zL[i] a e <;> rfl)
  (by simp only [zp.r0, zp.b0, dcf (show ¬ (p.zL.length : Int) < (p.zL.length : Int) by omega), cfa]) (N := N) (by omega)
 simp only [nc0] at l1
 rw [l1, z9w]
 unfold zgp
 cases hi : z5c p a e with
 | none => rfl
 | some i =>
  obtain ⟨t, ht, _⟩ := z6j hi; simp only [Option.map_some, zb5, obs]; rw [dcf (show ¬ ((i : Nat) : Int) < 0 by omega), cfa, zai, ht, gdd, ht]; rfl
theorem z7l (N : Nat) (hN : 20000 < N) (h : ProgV p) (a e : Int) : zd4 N p a e = some (zgp p a e) := by
 have m6 := h.m6
 unfold zd4
 have l1 := zbh (f := zd4.r0 N) (fun i => (a, e, (i : Int), p)) (fun i => ((p.zL[i]?).bind fun t => if zqm t a e = true then some i else none).map fun i : Nat => (p.zL.getD i ⟨0, 0, 0, 0⟩).Handler) p.zL.length
  (fun i hi => by
   have hx := lge hi; simp only [zd4.r0, zd4.b0, zai, hx, obs, dct (show (i : Int) < (p.zL.length : Int) by omega), ctr]; have e1 : ((cond (decide (p.zL[i].From ≤ a)) (some (decide (a < p.zL[i].To))) (some false)).bind fun g1002 => (cond g1002 ((cond (p.zL[i].Exception == 0) (some true) (some (p.zL[i].Exception == e))).bind fun g1003 => some g1003) (some false))) = some (zqm p.zL[i] a e) := by
    unfold zqm inB; rw [zcn, zcn, show decide (a ≤ p.zL[i].To - 1) = decide (a < p.zL[i].To) by rw [decide_eq_decide]; omega]; cases decide (p.zL[i].From ≤ a) <;> cases decide (a < p.zL[i].To) <;> cases decide (p.zL[i].Exception = 0) <;> cases decide (p.zL[i].Exception = e) <;> rfl
   rw [← Option.bind_assoc, e1, w6e]; simp only [obs]; cases zqm p.zL[i] a e with
   | false => rfl
   | true =>
    simp only [ctr, if_true, Option.map_some]; rw [gdd, hx]; rfl)
  (by simp only [zd4.r0, zd4.b0, dcf (show ¬ (p.zL.length : Int) < (p.zL.length : Int) by omega), cfa]) (N := N) (by omega)
 simp only [nc0] at l1
 rw [l1, z9w]
 unfold zgp
 cases z5c p a e <;> rfl
def zhs (p : zB) (e : Int) : Nat → zC → zC
 | 0, s => s
 | k + 1, s => if 0 ≤ zgp p s.At e then mA s (zgp p s.At e) else if s.Stack.length = 0 then mT s 2
  else zhs p e k (mK (mA s (s.Stack.getD (s.Stack.length - 1) 0)) (s.Stack.take (s.Stack.length - 1)))
theorem zwh (N : Nat) (hN : 20000 < N) (h : ProgV p) (e : Int) (he : e ≠ 0) (z : zC) : ∀ (k : Nat) (s : zC), StI p s → s.Stack.length < k → ∀ K : Nat, k ≤ K →
 zj (zav.r0 N) K (mI p s e) = some (.inl (mI p (zhs p e k s) e)) ∧ zj (zgd.r0 N) K (e, p, s, z) = some (.inl (zhs p e k s)) ∧ StI p (zhs p e k s) ∧ (zhs p e k s).Steps = s.Steps ∧ (zhs p e k s).Exception = s.Exception ∧
 (zhs p e k s).Storage = s.Storage ∧ (zhs p e k s).Lines = s.Lines ∧ (s.Status = 0 → (zhs p e k s).Status = 0 ∨ (zhs p e k s).Status = 2)
 | 0, s, _, h, _, _ => by omega
 | k + 1, s, hs, hk, K, hK => by
  obtain ⟨K, rfl⟩ : ∃ J, K = J + 1 := ⟨K - 1, by omega⟩; have hh := zaaq N hN h s.At e; have hr := z7l N hN h s.At e; have rg := z5f h s.At e; have h6 := hs.stk; simp only [zj, zav.r0, zav.b0, zgd.r0, zgd.b0]; simp only [show (mI p s e).zB = p from rfl, show (mI p s e).zC = s from rfl, show (mI p s e).raised = e from rfl, show (mI p s e).layout = zoi p.zA from rfl]; rw [hh, hr]; simp only [obs]; unfold zhs
  by_cases h0 : 0 ≤ zgp p s.At e
  · rw [ifp h0, dct (show zgp p s.At e ≥ 0 by omega), zd1, dct (show zgp p s.At e ≠ -1 by omega)]; exact ⟨rfl, rfl, hs.A h0 (by omega), rfl, rfl, rfl, rfl, fun h => .inl h⟩
  · rw [ifn h0, dcf (show ¬ zgp p s.At e ≥ 0 by omega), zd1, dcf (show ¬ zgp p s.At e ≠ -1 by omega), zcn]
    by_cases hz : s.Stack.length = 0
    · rw [ifp hz, dct (show (s.Stack.length : Int) = 0 by omega)]; exact ⟨rfl, rfl, hs.T (by omega) (by omega), rfl, rfl, rfl, rfl, fun _ => .inr rfl⟩
    · have wl : w6 ((s.Stack.length : Int) - 1) = ((s.Stack.length - 1 : Nat) : Int) := by rw [w6e]; omega
      have hg : s.Stack[s.Stack.length - 1]? = some (s.Stack.getD (s.Stack.length - 1) 0) := by rw [gdd, lge (by omega)]; rfl
      obtain ⟨hrr, _⟩ := hs.calls _ (lmg hg); have k1 : 0 ≤ ((s.Stack.length - 1 : Nat) : Int) ∧ ((s.Stack.length - 1 : Nat) : Int) ≤ (s.Stack.length : Int) := by omega
      have k2 : 0 ≤ (0 : Int) ∧ (0 : Int) ≤ ((s.Stack.length - 1 : Nat) : Int) := by omega
      rw [ifn hz, dcf (show ¬ (s.Stack.length : Int) = 0 by omega)]; simp only [cfa, wl, zai, hg, obs, ifp k1, ifp k2, itn]; unfold zki; rw [show (s.Stack.take (s.Stack.length - 1)).drop (0 : Int).toNat = s.Stack.take (s.Stack.length - 1) from rfl, zah (by rw [lnt]; omega)]; simp only [ctr, obs]; have hs2 : StI p (mK (mA s (s.Stack.getD (s.Stack.length - 1) 0)) (s.Stack.take (s.Stack.length - 1))) := (hs.A hrr.1 hrr.2).K (by rw [lnt]; omega) fun i hi2 => hs.calls i (List.mem_of_mem_take hi2); exact zwh N hN h e he z k _ hs2 (by show (s.Stack.take (s.Stack.length - 1)).length < k; rw [lnt]; omega) K (by omega)
def zoj (s : zC) : zC := if s.Status = 0 ∧ s.Steps = 300 then mT s 3 else s
def zyb (p : zB) (s : zC) : zI := p.zG.getD s.At.toNat ⟨0, []⟩
def zj8 (p : zB) (s : zC) : zC :=
 match zfj p (mP s (s.Steps + 1)) (zyb p s) with
 | .error e => zoj (zhs p e (s.Stack.length + 1) (mE (mP s (s.Steps + 1)) e))
 | .ok (n, t) => if t.Status ≠ 0 then t else if n = (p.zG.length : Int) then mT t 1 else zoj (mA t n)
theorem z5i (t : zC) : ((cond (t.Status == 0) (some (t.Steps == 300)) (some false)).bind fun g => cond g (some (⟨t.Storage, t.At, t.Stack, t.Lines, 3, t.Exception, t.Steps⟩ : zC)) (some t)) = some (zoj t) := by
 unfold zoj
 rw [zcn, zcn]
 by_cases h1 : t.Status = 0
 · rw [dct h1]
   by_cases h2 : t.Steps = 300
   · rw [dct h2, ifp ⟨h1, h2⟩]; rfl
   · rw [dcf h2, ifn (fun h => h2 h.2)]; rfl
 · rw [dcf h1, ifn (fun h => h1 h.1)]; rfl
theorem z9y (t : zC) (e : Int) : ((cond (t.Status == 0) (some (t.Steps == 300)) (some false)).bind fun g => cond g ((zak (mI p t e) 3).bind fun r => some r.zC) (some t)) = some (zoj t) := z5i t
theorem z9x {t : zC} (h : StI p t) : StI p (zoj t) ∧ (zoj t).Steps = t.Steps ∧ ((zoj t).Status = 0 → t.Steps ≠ 300) := by
 unfold zoj
 split
 · exact ⟨h.T (by omega) (by omega), rfl, fun h => by have h' : (3 : Int) = 0 := h; omega⟩
 · rename_i hn; exact ⟨h, rfl, fun h1 h2 => hn ⟨h1, h2⟩⟩
theorem z9d (h : StI p s) : zvm s = some s := by
 have h2 := h.stk
 have h3 := h.lines
 have h4 := h.sto.sto.le
 have h5 := h.sto.sto.tags
 unfold zvm zji zvj
 rw [z9s (by omega), obs, zah (by omega), ctr, obs, zah (by omega)]
 rfl
theorem z5t (N : Nat) (hN : 20000 < N) (h : ProgV p) (hs : StI p s) (hrun : s.Status = 0) (h3 : s.Steps < 300) :
 zg4 N p s (zoi p.zA) = some (zj8 p s) ∧ zxf N p s = some (zj8 p s) ∧ StI p (zj8 p s) ∧ (zj8 p s).Steps = s.Steps + 1 ∧ ((zj8 p s).Status = 0 → s.Steps + 1 < 300) := by
 have a0 := hs.at0
 have a1 := hs.at1
 have p0 := hs.sp0
 have hx : p.zG[s.At.toNat]? = some (zyb p s) := by
  unfold zyb; rw [gdd, lge (by omega)]; rfl
 have hi : idx p.zG s.At = some (zyb p s) := by unfold idx; rw [ifp a0, hx]
 have hs1 : StI p (mP s (s.Steps + 1)) := hs.P (by omega) (by omega)
 have hb := z86 N hN h hs1 (x := zyb p s) hx
 unfold zg4 zxf
 rw [hi, z9d hs]
 simp only [obs]
 rw [w6e (n := s.Steps + 1)]
 show ((zd N (mI p (mP s (s.Steps + 1)) 0) (zyb p s)).bind _) = _ ∧ ((zad N p (mP s (s.Steps + 1))).bind _) = _ ∧ _
 unfold zj8
 rcases hb with ⟨e, nx, ny, t, g1, g2, g3, g4⟩ | ⟨n, k, t, g1, g3, g4, g5, g6, g7, g8, g9⟩
 · rw [g1, g3, g4]; simp only [obs]; have hse : StI p (mE (mP s (s.Steps + 1)) e) := hs1.E (by omega) (by omega); obtain ⟨k1, k2, k3, k4, k5, k6, k7, k8⟩ := zwh N hN h e (by omega) ⟨⟨⟨#[]⟩, []⟩, 0, [], [], 0, 0, 0⟩ (s.Stack.length + 1) _ hse (Nat.lt_succ_self _) N (by have := hs.stk; omega); rw [show (mI p (mP s (s.Steps + 1)) e).raised = e from rfl, zd1, dct (show e ≠ 0 by omega)]; simp only [ctr]; have hf := z9x k3; have k4' : (zhs p e (s.Stack.length + 1) (mE (mP s (s.Steps + 1)) e)).Steps = s.Steps + 1 := k4; refine ⟨?_, ?_, hf.1, hf.2.1.trans k4, fun h => ?_⟩
   · unfold zav; show ((((zj (zav.r0 N) N (mI p (mE (mP s (s.Steps + 1)) e) e)).bind _)).bind _) = _; rw [k1]; exact z9y _ e
   · unfold zgd; show ((((zj (zgd.r0 N) N (e, p, mE (mP s (s.Steps + 1)) e, _)).bind _)).bind _) = _; rw [k2]; exact z5i _
   · have := hf.2.2 h; omega
 · rw [g1, g3, g4]; simp only [obs, bsf, cfa, show (mI p t 0).raised = 0 from rfl, show (mI p t 0).zC = t from rfl]; have g8' : t.Steps = s.Steps + 1 := g8; have e0 : (t.Status != 0) = decide (t.Status ≠ 0) := zd1 _ _; have e1 : (t.Status == 0) = decide (t.Status = 0) := zcn _ _; rw [e0, e1]
   by_cases hst : t.Status = 0
   · obtain ⟨j1, j2, j3⟩ := g5 hst; subst j1; rw [dct hst, dcf (show ¬ t.Status ≠ 0 by omega), ifn (show ¬ t.Status ≠ 0 by omega)]; simp only [ctr, cfa, zcn]
     by_cases hl : k = (p.zG.length : Int)
     · rw [dct hl, ifp hl]; exact ⟨rfl, rfl, g6.T (by omega) (by omega), g8', fun h => by have h' : (1 : Int) = 0 := h; omega⟩
     · rw [dcf hl, ifn hl]; have hta : StI p (mA t k) := g6.A (by omega) (by omega); have hf := z9x hta; have f1 := z5i (mA t k); have f2 := z9y (p := p) (mA t k) 0; rw [zcn, zcn] at f1 f2; have e2 : (mA t k).Status = t.Status := rfl; rw [e2, dct hst] at f1 f2; refine ⟨f2, f1, hf.1, hf.2.1.trans g8', fun h => ?_⟩; have := hf.2.2 h; have e3 : (mA t k).Steps = t.Steps := rfl; have := g6.sp1; omega
   · rw [dcf hst, dct (show t.Status ≠ 0 from hst), ifp (show t.Status ≠ 0 from hst)]; exact ⟨rfl, rfl, g6, g8', fun h => absurd h hst⟩
end
section
variable {p : zB} {s : zC}
def z04 (n : Nat) : Storage := ⟨⟨(List.replicate (16 * n) 0).toArray⟩, List.replicate n false⟩
theorem z3i (n : Nat) : (z04 n).Bytes.size = 16 * n := by
 show (List.replicate (16 * n) (0 : UInt8)).length = _
 rw [lnr]
theorem zaca {n : Nat} (hn : n ≤ 64) : zm6 (z04 n) := by
 have hz := z3i n
 refine ⟨by omega, by omega, ?_, fun i hi => ?_⟩
 · rw [hz]; show (List.replicate n false).length = _; rw [lnr]; omega
 · have hi' : (List.replicate n false)[i]? = some true := hi; rw [List.getElem?_replicate] at hi'; split at hi' <;> cases hi'
theorem zaet {n : Nat} (hn : n ≤ 64) : zhq (n : Int) = some (z04 n, 0) := by
 unfold zhq znn
 have hb : inB (n : Int) 0 64 = true := zbf.2 ⟨by omega, by omega⟩
 have hs1 : (⟨#[0]⟩ : ByteArray).size = 1 := rfl
 rw [zada, hb, w6e]
 simp only [obs, bnt, cfa]
 rw [ifp ⟨by omega, by omega, by rw [hs1]; omega⟩, obs, ifp, ifp (Int.le_refl _), zah (by omega), ctr, show ((n : Int) * 16).toNat = 16 * n by omega, itn]
 show some ((⟨⟨(Lib.repeatL [0] (16 * n)).toArray⟩, _⟩ : Storage), (0 : Int)) = _
 rw [zrx]
 rfl
theorem zab1 (n a k : Nat) : clr (List.replicate n false) a k = List.replicate n false := by
 refine List.ext_getElem? fun i => ?_
 rw [zuw]
 split
 · rw [List.getElem?_replicate, lnr]
 · rfl
def zm2 (p : zB) : Nat → Storage
 | 0 => z04 (znf p.zA).toNat
 | k + 1 => if (og p.zA k).Kind = 0 then wrV (zm2 p k) (zc3 p.zA k).toNat (ztu (og p.zA k)) else zm2 p k
theorem z4f (h : ProgV p) : 0 ≤ znf p.zA ∧ znf p.zA ≤ 24 := by
 have := z17 h
 have := h.quads
 omega
theorem z4i (N : Nat) (hN : 400 < N) (h : ProgV p) : ∀ k, k ≤ p.zA.length → StoP p (zm2 p k) ∧ (zm2 p k).Tags = List.replicate (znf p.zA).toNat false
 | 0, _ => by
  have hl := z4f h; exact ⟨⟨zaca (by omega), by show ((z04 _).Bytes.size : Int) = _; rw [z3i]; omega⟩, rfl⟩
 | k + 1, hk => by
  obtain ⟨i1, i2⟩ := z4i N hN h k (by omega); show StoP p (if (og p.zA k).Kind = 0 then _ else _) ∧ (if (og p.zA k).Kind = 0 then wrV (zm2 p k) (zc3 p.zA k).toNat (ztu (og p.zA k)) else zm2 p k).Tags = _
  by_cases h0 : (og p.zA k).Kind = 0
  · rw [ifp h0]; have ov := zi5 h.ok (show k < p.zA.length by omega); obtain ⟨t1, t2⟩ := ov.ty (by rw [h0]; rfl); obtain ⟨_, _, e3⟩ := z1m N hN t1 t2 (ov.val (.inl h0)); obtain ⟨d1, d2⟩ := z2y h (show k < p.zA.length by omega) (.inl h0) i1; have hp := zd8 t1; have w : (zc3 p.zA k).toNat + (ztu (og p.zA k)).size ≤ (zm2 p k).Bytes.size := by omega
    refine ⟨⟨z66 i1.sto w (by omega), by rw [zw4 w]; exact i1.size⟩, ?_⟩; show clr (zm2 p k).Tags _ _ = _; rw [i2, zab1]
  · rw [ifn h0]; exact ⟨i1, i2⟩
theorem zaai (N : Nat) (hN : 20000 < N) (h : ProgV p) (hc : (zpm p).2 = 0) : zao N p = some (zm2 p p.zA.length, 0) := by
 have hl := z4f h
 have n24 := h.n24
 unfold zao
 rw [zabg N (by omega), hc, z0j N (by omega) h.ok]
 simp only [obs, bsf, cfa]
 rw [show znf p.zA = ((znf p.zA).toNat : Int) by omega, zaet (by omega)]
 simp only [obs]
 have l1 := zbh (f := zao.r0 N) (fun i => (zoi p.zA, 0, p.zA, (p.zA.length : Int), (i : Int), (⟨⟨#[]⟩, []⟩ : Storage), zm2 p i)) (fun _ => none) p.zA.length
  (fun i hi => by
   simp only [zao.r0, zao.b0, zgh hi, obs, dct (show (i : Int) < (p.zA.length : Int) by omega), ctr, orB, bsf, Bool.or_false]; rw [w6e (n := (i : Int) + 1)]
   by_cases h0 : (og p.zA i).Kind = 0
   · rw [zd1, dcf (fun hh => hh h0)]; simp only [cfa]; have ov := zi5 h.ok hi; obtain ⟨t1, t2⟩ := ov.ty (by rw [h0]; rfl); obtain ⟨e1, _, e3⟩ := z1m N (by omega) t1 t2 (ov.val (.inl h0)); obtain ⟨i1, _⟩ := z4i N (by omega) h i (by omega); obtain ⟨d1, d2⟩ := z2y h hi (.inl h0) i1; have hp := zd8 t1; have w : (zc3 p.zA i).toNat + (ztu (og p.zA i)).size ≤ (zm2 p i).Bytes.size := by omega
     rw [e1, zln hi]; simp only [obs, bsf, cfa]; have hw := z67 N (by omega) i1.sto w (by omega); rw [show (((zc3 p.zA i).toNat : Nat) : Int) = zc3 p.zA i by omega] at hw; rw [hw]; simp only [obs]; have e : zm2 p (i + 1) = wrV (zm2 p i) (zc3 p.zA i).toNat (ztu (og p.zA i)) := by
      show (if (og p.zA i).Kind = 0 then _ else _) = _; rw [ifp h0]
     rw [e]; rfl
   · rw [zd1, dct h0]; simp only [ctr]; have e : zm2 p (i + 1) = zm2 p i := by
      show (if (og p.zA i).Kind = 0 then _ else _) = _; rw [ifn h0]
     rw [e]; rfl)
  (by simp only [zao.r0, zao.b0, dcf (show ¬ (p.zA.length : Int) < (p.zA.length : Int) by omega), cfa]) (N := N) (by omega)
 simp only [nc0] at l1
 have e0 : zm2 p 0 = z04 (znf p.zA).toNat := rfl
 rw [e0] at l1
 rw [l1]
 have : ∀ l : List Nat, l.findSome? (fun _ => (none : Option (Storage × Int))) = none := fun l => by rw [List.findSome?_eq_none_iff]; intros; rfl
 rw [this]
 rfl
def zol (p : zB) : zC := ⟨zm2 p p.zA.length, 0, [], [], 0, 0, 0⟩
theorem zacz (N : Nat) (hN : 20000 < N) (h : ProgV p) (hc : (zpm p).2 = 0) : zgc N p = some (zol p, 0) := by
 unfold zgc
 rw [zaai N hN h hc]
 rfl
theorem zzr (h : ProgV p) : StI p (zol p) := {
 sto := (z4i 401 (by decide) h _ (Nat.le_refl _)).1
 at0 := Int.le_refl _
 at1 := by have := h.i0; show (0 : Int) < _; omega
 stk := by show (0 : Nat) ≤ 6; omega
 calls := fun i hi => by cases hi
 lines := by show (0 : Nat) ≤ 40; omega
 long := fun i hi => by cases hi
 st0 := Int.le_refl _
 st1 := by show (0 : Int) ≤ 3; omega
 ex0 := Int.le_refl _
 ex1 := by show (0 : Int) ≤ 999; omega
 sp0 := Int.le_refl _
 sp1 := by show (0 : Int) ≤ 300; omega }
theorem zabh (N : Nat) (hN : 20000 < N) (h : ProgV p) (hc : (zpm p).2 = 0) : zgu N p = some (zoi p.zA, znf p.zA, 0) := by
 unfold zgu
 rw [zabg N (by omega), hc, z0j N (by omega) h.ok]
 rfl
theorem z45 {n : Nat} (h : Wft En n Ty.zB p) : p.zA.length ≤ n ∧ p.zG.length ≤ n ∧ p.zL.length ≤ n ∧ ∀ x ∈ p.zG, x.Args.length ≤ n := by
 have h1 := h (.lst Ty.zF p.zA) (by show _ ∈ zkl p; simp [zkl])
 have h2 := h (.lst Ty.zI p.zG) (by show _ ∈ zkl p; simp [zkl])
 have h3 := h (.lst Ty.zN p.zL) (by show _ ∈ zkl p; simp [zkl])
 cases h1 with
 | lst h1 _ =>
  cases h2 with
  | lst h2 h2' =>
   cases h3 with
   | lst h3 _ =>
    refine ⟨h1, h2, h3, fun x hx => ?_⟩; have h4 := h2' x hx (.lst (Ty.int .i64) x.Args) (by show _ ∈ zob x; simp [zob]); cases h4 with
    | lst h4 _ => exact h4
theorem zw7 {n : Nat} (h : n ≤ 1000000000) : Nat.ble n zbr = true := Nat.ble_eq_true_of_le (by unfold zbr; omega)
theorem zacs (N : Nat) (hN : 1048600 < N) (hp : Wft En 1048576 Ty.zB p) : zfb N p = some p := by
 obtain ⟨w1, w2, w3, w4⟩ := z45 hp
 unfold zfb
 rw [zw7 (by omega), zw7 (by omega)]
 simp only [ctr]
 have l1 := za1 (f := zfb.r0 N) (fun i => ((i : Int), p, (⟨[], [], []⟩ : zB), (⟨p.zA, p.zG.take i, p.zL⟩ : zB))) p.zG.length
  (fun i hi => by
   have hx := lge hi; have ha := w4 _ (List.getElem_mem hi); simp only [zfb.r0, zfb.b0, zai, hx, obs, dct (show (i : Int) < (p.zG.length : Int) by omega), ctr, zji, zw7 (show p.zG[i].Args.length * 8 ≤ 1000000000 by omega)]; rw [zw7 (by rw [lnt]; simp only [lnc, ln0]; omega), ctr, w6e, ← List.take_append_getElem hi]; rfl)
  (by simp only [zfb.r0, zfb.b0, dcf (show ¬ (p.zG.length : Int) < (p.zG.length : Int) by omega), cfa]) (N := N) (by omega)
 simp only [nc0, List.take_zero] at l1
 rw [l1, obs, List.take_length]
theorem zagj (N : Nat) (hN : 1048600 < N) (hp : Wft En 1048576 Ty.zB p) : ∃ b, zb9 N p = some b := by
 obtain ⟨w1, w2, w3, w4⟩ := z45 hp
 unfold zb9
 simp only [orB, obs]
 cases (decide ((p.zA.length : Int) > 28) || decide ((p.zG.length : Int) > 44)) || decide ((p.zL.length : Int) > 9) with
 | true => exact ⟨_, rfl⟩
 | false =>
  simp only [cfa]; have l1 := zta (f := zb9.r0 N) (fun i t => t = ((i : Int), p)) (fun r => True) p.zA.length
   (fun i t hi ht => by
    subst ht; have hx := lge hi; simp only [zb9.r0, zb9.b0, zai, hx, obs, dct (show (i : Int) < (p.zA.length : Int) by omega), ctr, orB]; rw [w6e (n := (i : Int) + 1)]; cases (decide ((p.zA[i].Name.size : Int) > 100) || decide ((p.zA[i].Base.size : Int) > 100)) || decide ((p.zA[i].Value.S.size : Int) > 600) with
    | true => exact .inr ⟨_, rfl, trivial⟩
    | false => exact .inl ⟨_, rfl, rfl⟩)
   (fun t ht => by
    subst ht; simp only [zb9.r0, zb9.b0, dcf (show ¬ (p.zA.length : Int) < (p.zA.length : Int) by omega), cfa]; exact ⟨_, rfl, rfl⟩) (N := N) (by omega) (s := (0, p)) rfl
  rcases l1 with ⟨t, g1, g2⟩ | ⟨r, g1, _⟩
  · rw [g1, g2]; simp only [obs, zb5]; have l2 := zta (f := zb9.r2 N) (fun i t => t = ((i : Int), p)) (fun r => True) p.zG.length
     (fun i t hi ht => by
      subst ht; have hx := lge hi; simp only [zb9.r2, zb9.b2, zai, hx, obs, dct (show (i : Int) < (p.zG.length : Int) by omega), ctr]; rw [w6e (n := (i : Int) + 1)]; cases decide ((p.zG[i].Args.length : Int) > 6) with
      | true => exact .inr ⟨_, rfl, trivial⟩
      | false => exact .inl ⟨_, rfl, rfl⟩)
     (fun t ht => by
      subst ht; simp only [zb9.r2, zb9.b2, dcf (show ¬ (p.zG.length : Int) < (p.zG.length : Int) by omega), cfa]; exact ⟨_, rfl, rfl⟩) (N := N) (by omega) (s := (0, p)) rfl
    rcases l2 with ⟨t, g3, _⟩ | ⟨r, g3, _⟩
    · rw [g3]; exact ⟨_, rfl⟩
    · rw [g3]; exact ⟨_, rfl⟩
  · rw [g1]; exact ⟨_, rfl⟩
theorem zafr : zoo 2000000 = some true := by kernel_rfl
end
section
variable {p : zB} {s : zC}
theorem z4k (t : zC) : (zoj t).Storage = t.Storage ∧ (zoj t).Lines = t.Lines ∧ (zoj t).Exception = t.Exception := by
 unfold zoj
 split <;> exact ⟨rfl, rfl, rfl⟩
def zi7 (t : Storage) : Prop := ∀ i : Nat, t.Tags[i]? ≠ some true
theorem z8d {t : Storage} (h : zi7 t) (a : Nat) (d : ByteArray) : zi7 (wrV t a d) := fun i hi => by
 have hi' : (clr t.Tags a d.size)[i]? = some true := hi
 rw [zuw] at hi'
 split at hi'
 · split at hi' <;> cases hi'
 · exact h i hi'
theorem z8e {t : Storage} (h : zi7 t) (a : Int) : ldV t a = none := by
 unfold ldV
 rw [ifn (h _)]
theorem z0u {t : zC} {i : Nat} {r : Value × Int} (h : zi7 s.Storage) (hp : zm9 p s i r = .ok t) : zi7 t.Storage := by
 unfold zm9 at hp
 split at hp
 · cases hp
 split at hp
 · cases hp
 unfold wrI at hp
 split at hp
 · cases hp
 · cases hp; exact z8d h _ _
theorem zaam {x : zI} (hx : x.Op ≠ 10) (ho : 0 ≤ x.Op) (h : zi7 s.Storage) {n : Int} {t : zC} (he : zfj p s x = .ok (n, t)) : zi7 t.Storage := by
 have fin : ∀ r : Except Int zC, (∀ t, r = .ok t → zi7 t.Storage) → zm4 s r = .ok (n, t) → zi7 t.Storage := fun r hr hf => by
  unfold zm4 at hf; split at hf
  · cases hf
  · cases hf; exact hr _ rfl
 have mv : ∀ half t, z4e p s x half = .ok t → zi7 t.Storage := fun half t hm => by
  unfold z4e at hm; split at hm
  · cases hm
  · exact z0u h hm
 have mt : ∀ t, z64 p s x = .ok t → zi7 t.Storage := fun t hm => by
  unfold z64 at hm; split at hm
  · cases hm
  · unfold wrI at hm; split at hm
    · cases hm
    · cases hm; exact z8d h _ _
 have ca : ∀ t, zud p s x = .ok t → zi7 t.Storage := fun t hm => by
  unfold zud at hm; split at hm
  · cases hm
  · split at hm
    · cases hm
    · exact z0u h hm
 unfold zfj at he
 split at he
 · refine fin _ (fun t ht => ?_) he; split at ht
   · exact mv _ _ ht
   · exact mt _ ht
 · exact fin _ (fun t ht => mv _ _ ht) he
 · exact fin _ ca he
 · exact fin _ ca he
 · exact fin _ ca he
 · exact fin _ ca he
 · exact fin _ ca he
 · split at he
   · cases he
   · cases he; exact h
 · split at he
   · cases he
   · cases he; exact h
 · cases he; exact h
 · rename_i h10; omega
 · refine fin _ (fun t ht => ?_) he; rw [z8e h] at ht; cases ht
 · refine fin _ (fun t ht => ?_) he; rw [z8e h] at ht; cases ht
 · split at he
   · cases he
   · cases he; exact h
 · split at he
   · cases he; exact h
   · cases he; exact h
 · split at he
   · cases he
   · split at he <;> cases he
 · exact fin _ (fun t ht => z0u h ht) he
 · split at he
   · cases he
   · split at he
     · cases he; exact h
     · cases he; exact h
 · cases he; exact h
theorem zaal (N : Nat) (hN : 20000 < N) (h : ProgV p) (hs : StI p s) (hrun : s.Status = 0) (h3 : s.Steps < 300) (hn : ∀ x ∈ p.zG, x.Op ≠ 10) (ht : zi7 s.Storage) : zi7 (zj8 p s).Storage := by
 have a0 := hs.at0
 have a1 := hs.at1
 have p0 := hs.sp0
 have hx : p.zG[s.At.toNat]? = some (zyb p s) := by
  unfold zyb; rw [gdd, lge (by omega)]; rfl
 have hm := lmg hx
 have hs1 : StI p (mP s (s.Steps + 1)) := hs.P (by omega) (by omega)
 have hb := z86 N hN h hs1 (x := zyb p s) hx
 unfold zj8
 rcases hb with ⟨e, nx, ny, t, g1, g2, g3, g4⟩ | ⟨n, k, t, g1, g3, g4, g5, g6, g7, g8, g9⟩
 · rw [g1]; have hse : StI p (mE (mP s (s.Steps + 1)) e) := hs1.E (by omega) (by omega); obtain ⟨k1, k2, k3, k4, k5, k6, k7, k8⟩ := zwh N hN h e (by omega) ⟨⟨⟨#[]⟩, []⟩, 0, [], [], 0, 0, 0⟩ (s.Stack.length + 1) _ hse (Nat.lt_succ_self _) N (by have := hs.stk; omega); obtain ⟨f1, f2, f3⟩ := z4k (zhs p e (s.Stack.length + 1) (mE (mP s (s.Steps + 1)) e)); have e1 : (zoj (zhs p e (s.Stack.length + 1) (mE (mP s (s.Steps + 1)) e))).Storage = s.Storage := f1.trans k6; show zi7 (zoj (zhs p e (s.Stack.length + 1) (mE (mP s (s.Steps + 1)) e))).Storage; rw [e1]; exact ht
 · rw [g1]; have hq : zi7 t.Storage := zaam (s := mP s (s.Steps + 1)) (hn _ hm) (zabt h hm).1 ht g1; show zi7 (if t.Status ≠ 0 then t else if n = (p.zG.length : Int) then mT t 1 else zoj (mA t n)).Storage; split
   · exact hq
   · split
     · exact hq
     · rw [(z4k (mA t n)).1]; exact hq
theorem z9e (N : Nat) (hN : 400 < N) (h : ProgV p) : zi7 (zol p).Storage := fun i hi => by
 have := (z4i N hN h _ (Nat.le_refl _)).2
 have hi' : (zm2 p p.zA.length).Tags[i]? = some true := hi
 rw [this, List.getElem?_replicate] at hi'
 split at hi' <;> cases hi'
end
section
variable {p : zB} {s : zC}
def trT (p : zB) : Nat → zC → List zC
 | 0, _ => []
 | k + 1, s => if s.Status = 0 then zj8 p s :: trT p k (zj8 p s) else []
def trL (p : zB) (k : Nat) : List zC := zol p :: trT p k (zol p)
theorem z9k (p : zB) : ∀ (k : Nat) (s : zC), (trT p k s).length ≤ k
 | 0, _ => Nat.le_refl 0
 | k + 1, s => by
  have := z9k p k (zj8 p s); unfold trT; split
  · rw [lnc]; omega
  · exact Nat.zero_le _
theorem z9l (N : Nat) (hN : 20000 < N) (h : ProgV p) (Q : zC → Prop) (hq : ∀ s, StI p s → s.Status = 0 → s.Steps < 300 → Q s → Q (zj8 p s)) : ∀ (k : Nat) (s : zC), StI p s → (s.Status = 0 → s.Steps < 300) → Q s → ∀ t ∈ trT p k s, StI p t ∧ Q t
 | 0, _, _, _, _, t, ht => by cases ht
 | k + 1, s, hs, h1, hQ, t, ht => by
  unfold trT at ht; split at ht
  · rename_i hst; obtain ⟨g1, g2, g3, g4, g5⟩ := z5t N hN h hs hst (h1 hst); have hQ' := hq s hs hst (h1 hst) hQ; rcases List.mem_cons.1 ht with rfl | ht
    · exact ⟨g3, hQ'⟩
    · exact z9l N hN h Q hq k _ g3 (fun hh => by rw [g4]; exact g5 hh) hQ' t ht
  · cases ht
theorem zadm (N : Nat) (hN : 20000 < N) (h : ProgV p) (Q : zC → Prop) (h0 : Q (zol p)) (hq : ∀ s, StI p s → s.Status = 0 → s.Steps < 300 → Q s → Q (zj8 p s)) (k : Nat) : ∀ t ∈ trL p k, StI p t ∧ Q t := fun t ht => by
 rcases List.mem_cons.1 ht with rfl | ht
 · exact ⟨zzr h, h0⟩
 · exact z9l N hN h Q hq k _ (zzr h) (fun _ => by show (0 : Int) < 300; omega) h0 t ht
theorem zadl (p : zB) (k : Nat) : (trL p k).length ≤ k + 1 := by
 have := z9k p k (zol p)
 unfold trL
 rw [lnc]; omega
theorem zad3 (b : Bool) (e : Int) : zlp b e = some (cond b e 0) := by cases b <;> rfl
theorem zad2 (N : Nat) (hN : 1100 < N) (p : zB) : zf3 N p = some (zpm p).2 := by
 unfold zf3
 rw [z73 N hN]
 rfl
theorem zac0 (N : Nat) (l : List Int) (h : l.length < N) (hl : l.length < 1000000000) : zbw N l = some (zhe l) := by
 unfold zbw
 have := zbh (f := zbw.r0 N) (fun i => (l, (l.length : Int), (i : Int))) (fun i => (l[i]?).bind fun x => if x = 0 then none else some x) l.length
  (fun i hi => by
   have hx := lge hi; simp only [zbw.r0, zbw.b0, zai, hx, obs, dct (show (i : Int) < (l.length : Int) by omega), ctr]
   by_cases h0 : l[i] = 0
   · simp only [h0, bsf, cfa, if_true]; rw [w6e]; rfl
   · simp only [h0, if_false]; rw [show (l[i] != 0) = true by simpa using h0]; rfl)
  (by simp only [zbw.r0, zbw.b0, dcf (show ¬ (l.length : Int) < (l.length : Int) by omega), cfa]) h
 simp only [nc0] at this
 rw [this, zmh, ← zot]
 simp only [obs]
 cases l.findSome? (fun x => if x = 0 then none else some x) <;> rfl
end
section
variable {p : zB} {s : zC}
theorem z9j (N : Nat) (hN : 20000 < N) (h : ProgV p) (n : Int) (hn : n ≤ 300) : ∀ (k : Nat) (s : zC) (out : List zC), StI p s → (s.Status = 0 → s.Steps < 300) → s.Steps + (k : Int) = n → out.length + k ≤ 1000 → ∀ K : Nat, k < K →
 (∃ j t, zl (za8.r0 N) K (n, zoi p.zA, s.Steps, out, p, s) = some (n, zoi p.zA, j, out ++ trT p k s, p, t)) ∧ ∃ t, zl (zhd.r0 N) K (n, out, p, s) = some (n, out ++ trT p k s, p, t)
 | 0, s, out, hs, h1, h2, h3, K, hK => by
  obtain ⟨K, rfl⟩ : ∃ J, K = J + 1 := ⟨K - 1, by omega⟩; have ca : ∀ b : Bool, (cond b (some false) (some false) : Option Bool) = some false := fun b => by cases b <;> rfl
  simp only [zl, za8.r0, za8.b0, zhd.r0, zhd.b0]; rw [dcf (show ¬ s.Steps < n by omega), ca, cfa]; simp only [obs, cfa]; exact ⟨⟨_, _, by rw [trT, List.append_nil]⟩, ⟨_, by rw [trT, List.append_nil]⟩⟩
 | k + 1, s, out, hs, h1, h2, h3, K, hK => by
  obtain ⟨K, rfl⟩ : ∃ J, K = J + 1 := ⟨K - 1, by omega⟩; simp only [zl, za8.r0, za8.b0, zhd.r0, zhd.b0, zcn]; rw [dct (show s.Steps < n by omega)]
  by_cases hst : s.Status = 0
  · obtain ⟨g1, g2, g3, g4, g5⟩ := z5t N hN h hs hst (h1 hst); have p0 := hs.sp0; have e : trT p (k + 1) s = zj8 p s :: trT p k (zj8 p s) := by rw [trT, ifp hst]
    have rm : Nat.ble ((out.length + ([zj8 p s] : List zC).length) * 120) zbr = true := zah (by simp only [lnc, ln0]; omega); rw [dct hst]; simp only [ctr, obs]; rw [g1, g2, w6e, ← g4, e]; simp only [obs, zed, rm, ctr]; obtain ⟨⟨j, t, q1⟩, ⟨t', q2⟩⟩ := z9j N hN h n hn k (zj8 p s) (out ++ [zj8 p s]) g3 (fun hh => by rw [g4]; exact g5 hh) (by rw [g4]; omega) (by simp only [lna, lnc, ln0]; omega) K (by omega); rw [List.append_assoc, List.singleton_append] at q1 q2; exact ⟨⟨j, t, q1⟩, ⟨t', q2⟩⟩
  · rw [dcf hst, trT, ifn hst, List.append_nil]; simp only [ctr, cfa, obs]; exact ⟨⟨_, _, rfl⟩, ⟨_, rfl⟩⟩
theorem z9f (N : Nat) (hN : 20000 < N) (h : ProgV p) (hc : (zpm p).2 = 0) (k : Nat) (hk : k ≤ 300) : zg8 N p (k : Int) = some (trL p k, 0) := by
 have f2 : ∀ a b : Int, zbw N [a, b] = some (zhe [a, b]) := fun a b => zac0 N _ (by simp; omega) (by simp)
 have hb : inB (k : Int) 0 300 = true := zbf.2 ⟨by omega, by omega⟩
 unfold zg8 za8
 rw [zad2 N (by omega), hc]
 simp only [obs, z4j, zad3, f2, hb, bnt, cfa]
 rw [show zhe [0, 0] = 0 from rfl, zacz N hN h hc, zabh N hN h hc]
 simp only [obs, bsf, cfa, zed]
 rw [zah (by show (0 + 1) * 120 ≤ 1000000; decide), ctr]
 obtain ⟨⟨j, t, q1⟩, _⟩ := z9j N hN h (k : Int) (by omega) k (zol p) ([] ++ [zol p]) (zzr h) (fun _ => by show (0 : Int) < 300; omega) (by show (0 : Int) + (k : Int) = _; omega) (by show 1 + k ≤ 1000; omega) N (by omega)
 simp only [obs]
 rw [show (0 : Int) = (zol p).Steps from rfl, q1]
 rfl
def z1o (s : zC) (i : Nat) : Option Bool := (s.Lines[i]?).bind fun l => if decide ((l.size : Int) > 300) = true then some false else none
def fewM (s : zC) : Bool := match (List.range (min s.Lines.length 44)).findSome? (z1o s) with
 | some r => r
 | none => (((decide ((s.Storage.Bytes.size : Int) ≤ 480) && decide ((s.Storage.Tags.length : Int) ≤ 30)) && decide ((s.Stack.length : Int) ≤ 9)) && decide ((s.Lines.length : Int) < 44))
theorem zagi (N : Nat) (hN : 1000 < N) (s : zC) : zfe N s = some (fewM s) := by
 unfold zfe fewM
 have l1 := zbh (f := zfe.r0 N) (fun i => ((i : Int), s)) (z1o s) (min s.Lines.length 44)
  (fun i hi => by
   have hlt : i < s.Lines.length := by omega
   have hx := lge hlt; simp only [zfe.r0, zfe.b0, zwi, obs, dct (show (i : Int) < (s.Lines.length : Int) by omega), dct (show (i : Int) < 44 by omega), Bool.and_self, ctr, zai, hx, z1o]; rw [w6e (n := (i : Int) + 1)]; cases (decide ((s.Lines[i].size : Int) > 300)) <;> rfl)
  (by
   have e : (decide (((min s.Lines.length 44 : Nat) : Int) < (s.Lines.length : Int)) && decide (((min s.Lines.length 44 : Nat) : Int) < 44)) = false := by
    by_cases h : s.Lines.length < 44
    · rw [dcf (show ¬ ((min s.Lines.length 44 : Nat) : Int) < (s.Lines.length : Int) by omega)]; rfl
    · rw [dcf (show ¬ ((min s.Lines.length 44 : Nat) : Int) < 44 by omega)]; simp
   simp only [zfe.r0, zfe.b0, zwi, obs, e, cfa]) (N := N) (by omega)
 simp only [nc0] at l1
 rw [l1]
 cases (List.range (min s.Lines.length 44)).findSome? (z1o s) with
 | some r => rfl
 | none =>
  simp only [obs, zb5, zwi]
theorem zad6 (h : ProgV p) (hs : StI p s) : fewM s = true := by
 have h1 : (List.range (min s.Lines.length 44)).findSome? (z1o s) = none := by
  rw [List.findSome?_eq_none_iff]; intro i hi; rw [List.mem_range] at hi; have hl : i < s.Lines.length := by omega
  have := hs.long _ (List.getElem_mem hl); unfold z1o; rw [lge hl, obs, dcf (by omega)]; rfl
 have a2 := hs.stk
 have a3 := hs.lines
 have a4 := hs.sto.size
 have a5 := hs.sto.sto.tags
 have a6 := h.quads
 unfold fewM
 rw [h1]
 simp only [Bool.and_eq_true, decide_eq_true_iff]
 omega
end
theorem zaaa {L : List zC} {i : Nat} {t : zC} (hx : L[i]? = some t) (ht : zi7 t.Storage) (hl : t.Storage.Tags.length ≤ 1000) : zj (zf.r4 2000000) 2000000 (L, (i : Int), 0) = some (.inr (L, (i : Int), (t.Storage.Tags.length : Int))) := by
 have l1 := zbh (f := zf.r4 2000000) (fun j => (L, (i : Int), (j : Int))) (fun _ => none) t.Storage.Tags.length
  (fun j hj => by
   have hy := lge hj; have hf : t.Storage.Tags[j] = false := by
    cases hb : t.Storage.Tags[j] with
    | false => rfl
    | true => rw [hb] at hy; exact absurd hy (ht j)
   rw [hf] at hy; simp only [zf.r4, zf.b4, zai, hx, hy, obs, dct (show (j : Int) < (t.Storage.Tags.length : Int) by omega), ctr, cfa]; rw [w6e]; rfl)
  (by simp only [zf.r4, zf.b4, zai, hx, obs, dcf (show ¬ (t.Storage.Tags.length : Int) < (t.Storage.Tags.length : Int) by omega), cfa]) (N := 2000000) (by omega)
 simp only [nc0] at l1
 rw [l1]
 have hno : ∀ l : List Nat, l.findSome? (fun _ => (none : Option Bool)) = none := fun l => by rw [List.findSome?_eq_none_iff]; intros; rfl
 rw [hno]
def z8r (p : zB) (i : Nat) : Option Bool := (p.zG[i]?).bind fun x => if x.Op = 10 then some true else none
theorem plainInterpretTags : ziz := by
 intro p hp
 refine ⟨2000000, ?_⟩
 obtain ⟨b, hb⟩ := zagj 2000000 (by decide) hp
 obtain ⟨w1, w2, w3, w4⟩ := z45 hp
 have hN : 20000 < 2000000 := by decide
 have hno : ∀ l : List Nat, l.findSome? (fun _ => (none : Option Bool)) = none := fun l => by rw [List.findSome?_eq_none_iff]; intros; rfl
 unfold zf
 rw [zafr]
 simp only [obs, bnt, cfa]
 rw [hb]
 cases b with
 | false => rfl
 | true =>
  simp only [obs, bnt, cfa]; rw [zacm _ (by decide)]; simp only [obs]
  by_cases hc : (zpm p).2 = 0
  case neg =>
   rw [show ((zpm p).2 != 0) = true by rw [zd1]; exact dct hc]; rfl
  have h := zae2 hc; rw [hc, bsf, cfa]; have l0 := zbh (f := zf.r0 2000000) (fun i => ((i : Int), p)) (z8r p) p.zG.length
   (fun i hi => by
    have hx := lge hi; simp only [zf.r0, zf.b0, zai, hx, obs, dct (show (i : Int) < (p.zG.length : Int) by omega), ctr, z8r, zcn]; rw [w6e]
    by_cases h0 : p.zG[i].Op = 10
    · rw [dct h0, ifp h0]; rfl
    · rw [dcf h0, ifn h0]; rfl)
   (by simp only [zf.r0, zf.b0, dcf (show ¬ (p.zG.length : Int) < (p.zG.length : Int) by omega), cfa]) (N := 2000000) (by omega)
  simp only [nc0] at l0; rw [l0]; cases hg : (List.range p.zG.length).findSome? (z8r p) with
  | some r =>
   obtain ⟨i, _, hi⟩ := eof hg; unfold z8r at hi; rw [Option.bind_eq_some_iff] at hi; obtain ⟨x, _, hi⟩ := hi; split at hi
   · cases hi; rfl
   · cases hi
  | none =>
   rw [List.findSome?_eq_none_iff] at hg; have hn : ∀ x ∈ p.zG, x.Op ≠ 10 := fun x hx h0 => by
    obtain ⟨i, hi, he⟩ := List.getElem_of_mem hx; have := hg i (List.mem_range.2 hi); unfold z8r at this; rw [lge hi, he, obs, ifp h0] at this; cases this
   simp only [obs, zb5]; rw [zacs _ (by decide) hp]; simp only [obs]; rw [show (300 : Int) = ((300 : Nat) : Int) from rfl, z9f _ hN h hc 300 (by decide)]; have hl := zadl p 300; have hl0 : 0 < (trL p 300).length := by unfold trL; rw [lnc]; omega
   have ha := zadm 2000000 hN h (fun t => zi7 t.Storage) (z9e 2000000 (by decide) h) (fun s hs h1 h2 h3 => zaal 2000000 hN h hs h1 h2 hn h3) 300; generalize trL p 300 = L at hl hl0 ha ⊢; simp only [obs, bsf, cfa, zcn]; rw [dcf (show ¬ (L.length : Int) = 0 by omega), cfa, obs, dcf (show ¬ (L.length : Int) > 301 by omega), cfa]; have l2 := zbh (f := zf.r2 2000000) (fun i => (L, (i : Int))) (fun _ => none) L.length
    (fun i hi => by
     have hx := lge hi; obtain ⟨hs, ht⟩ := ha _ (List.getElem_mem hi); have hle := hs.sto.sto.le; have htg := hs.sto.sto.tags; simp only [zf.r2, zf.b2, zai, hx, obs, dct (show (i : Int) < (L.length : Int) by omega), ctr]; rw [zagi _ (by decide), zad6 h hs, zaaa hx ht (by omega)]; simp only [obs, bnt, cfa, zb5]; rw [w6e]; rfl)
    (by simp only [zf.r2, zf.b2, dcf (show ¬ (L.length : Int) < (L.length : Int) by omega), cfa]) (N := 2000000) (by omega)
   simp only [nc0] at l2; rw [l2, hno]; rfl
end
end Go.Proofs.YtmifhmfokbigiaaGreatDoor.M
namespace Go.Proofs.YtmifhmfokbigiaaGreatDoor
theorem interpretTags_card : Rows.InterpretTagsUptoCardSaid := M.cardInterpretTags M.plainInterpretTags
#print axioms interpretTags_card
end Go.Proofs.YtmifhmfokbigiaaGreatDoor
