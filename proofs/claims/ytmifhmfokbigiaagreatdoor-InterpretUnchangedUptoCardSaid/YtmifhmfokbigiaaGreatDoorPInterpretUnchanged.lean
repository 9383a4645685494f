/- InterpretUnchanged: the law answers true for every input of bulk at most 1048576, and its arguments read as they did; by the seat's second form, tied to the program's text. -/
import Derived.Test.YtmifhmfokbigiaaGreatDoorPInterpretUnchangedx1
import Derived.Test.YtmifhmfokbigiaaGreatDoorWInterpretUnchanged
namespace Go.Proofs.YtmifhmfokbigiaaGreatDoor.M
open Go Go.Amx
set_option linter.unusedVariables false
set_option linter.unusedSimpArgs false
set_option maxRecDepth 100000
noncomputable section
section
variable {p : zB} {s : zC}
theorem zadp (N : Nat) (hN : 20000 < N) (h : ProgV p) (hs : StoP p s.Storage) {x : zI} (hop : x.Op = 7 ∨ x.Op = 8) (a0 : idx x.Args 0 = some ((ai x 0 : Nat) : Int)) (a1 : idx x.Args 1 = some ((ai x 1 : Nat) : Int))
 (b0 : ai x 0 < p.zA.length) (b1 : ai x 1 < p.zA.length) (c0 : isD (og p.zA (ai x 0)).Kind = true) (c1 : isD (og p.zA (ai x 1)).Kind = true) (cn : zdd (og p.zA (ai x 1)) = zdd (og p.zA (ai x 0))) :
 (∃ e o k, (1 ≤ e ∧ e ≤ 5) ∧ z2i p s x = .error e ∧ zdc N (mI p s 0) ((ai x 0 : Nat) : Int) ((ai x 1 : Nat) : Int) = some (o, mI p s e) ∧ zm9 N p s x = some (k, e)) ∨
 ∃ o, z2i p s x = .ok o ∧ zdc N (mI p s 0) ((ai x 0 : Nat) : Int) ((ai x 1 : Nat) : Int) = some (o, mI p s 0) ∧ zm9 N p s x = some (zt8 x.Op o, 0) := by
 have hcond : ∀ o : Int, (cond (x.Op == 7) (some ((o == 0), (0 : Int))) (some (decide (o < 0), 0))) = some (zt8 x.Op o, 0) := fun o => by
  unfold zt8; rcases hop with e | e <;> rw [e]
  · rw [ifp rfl, zcn o]; rfl
  · rw [ifn (by decide)]; rfl
 unfold z2i zdc zm9
 rw [show (mI p s 0).zB = p from rfl, zie b0, a0, a1]
 simp only [obs, zzt]
 rw [zvi h b0 c0]
 simp only [obs]
 show (∃ e o k, _ ∧ (if zdd (og p.zA (ai x 0)) = true then _ else _) = _ ∧ _ ∧ _) ∨ ∃ o, (if zdd (og p.zA (ai x 0)) = true then _ else _) = _ ∧ _ ∧ _
 cases hn : zdd (og p.zA (ai x 0)) with
 | true =>
  rw [hn] at cn; simp only [if_true, ctr]; rcases zrj N (by omega) h hs b0 c0 hn with ⟨e, k, he, h1, h2, h3⟩ | ⟨n, h1, h2, h3, h4⟩
  · left; rw [h1, h2, h3]; simp only [obs]; rw [z62 N (by omega) h hs b1 c1 (show e ≠ 0 by omega)]; simp only [obs]; rw [zxq N (by omega) zs2 zs2, zd1, dct (show e ≠ 0 by omega)]; exact ⟨e, _, false, by omega, rfl, rfl, rfl⟩
  · rw [h1, h2, h3]; simp only [obs, bsf, cfa]; rcases zrj N (by omega) h hs b1 c1 cn with ⟨e, k, he, g1, g2, g3⟩ | ⟨n2, g1, g2, g3, g4⟩
    · left; rw [g1, g2, g3]; simp only [obs]; rw [zxq N (by omega) h4 zs2, zd1, dct (show e ≠ 0 by omega)]; exact ⟨e, _, false, by omega, rfl, rfl, rfl⟩
    · right; rw [g1, g2, g3]; simp only [obs, bsf, cfa]; rw [zxq N (by omega) h4 g4, zadj N (by omega) h4 g4]; simp only [obs, hcond]; exact ⟨_, rfl, rfl, rfl⟩
 | false =>
  simp only [Bool.false_eq_true, if_false, cfa]; have z0 := zfl ((zlk h.ok b0).ty c0).1; have z1 := zfl ((zlk h.ok b1).ty c1).1; rcases zyb N (by omega) h hs b0 c0 with ⟨e, k, he, h1, h2, h3⟩ | ⟨b, h1, h2, h3, h4⟩
  · left; obtain ⟨b', g1, g2⟩ := z7n N (by omega) h hs b1 c1 (show e ≠ 0 by omega); rw [h1, h2, h3]; simp only [obs]; rw [g1]; simp only [obs]; rw [z9c _ _ (by decide) (by omega), zd1, dct (show e ≠ 0 by omega)]; exact ⟨e, _, false, by omega, rfl, rfl, rfl⟩
  · rw [h1, h2, h3]; simp only [obs, bsf, cfa]; rcases zyb N (by omega) h hs b1 c1 with ⟨e, k, he, g1, g2, g3⟩ | ⟨b2, g1, g2, g3, g4⟩
    · left; rw [g1, g2, g3]; simp only [obs]; rw [z9c _ _ (by omega) (by decide), zd1, dct (show e ≠ 0 by omega)]; exact ⟨e, _, false, by omega, rfl, rfl, rfl⟩
    · right; rw [g1, g2, g3]; simp only [obs, bsf, cfa]; rw [z9c _ _ (by omega) (by omega), zafz N (by omega) b b2 (by omega) (by omega) (fun o => cond (x.Op == 7) (some ((o == 0), (0 : Int))) (some (decide (o < 0), 0))), hcond]; exact ⟨_, rfl, rfl, rfl⟩
theorem z89 (h : ProgV p) {i : Nat} (hi : i < p.zA.length) (hk : (og p.zA i).Kind = 5) : 0 ≤ (og p.zA i).Target ∧ (og p.zA i).Target < (p.zF.length : Int) := (zlk h.ok hi).tg hk
theorem zzs (i : Nat) (hi : i < p.zA.length) (e : Int) : zcv (mI p s e) (i : Int) = some (og p.zA i).Target := by
 unfold zcv
 rw [show (mI p s e).zB = p from rfl, zie hi]
 rfl
theorem zafb (N : Nat) (hN : 20000 < N) (h : ProgV p) (hs : StI p s) {x : zI} (hx : p.zF[s.At.toNat]? = some x) (hop : x.Op = 7 ∨ x.Op = 8) : zhz N p s x := by
 have hm := lmg hx
 have hi := zme hs hx
 have q0 := hs.at0
 have q1 := hs.at1
 have i40 := h.i40
 have wn1 : w6 (s.At + 1) = s.At + 1 := w6e
 have hcls : zjs x.Op = [1, 4, 6] := by rcases hop with e | e <;> rw [e] <;> rfl
 obtain ⟨a0, b0, c0⟩ := zfw h hm (k := 0) (c := 1) (by rw [hcls]; rfl)
 obtain ⟨a1, b1, c1⟩ := zfw h hm (k := 1) (c := 4) (by rw [hcls]; rfl)
 obtain ⟨a2, b2, c2⟩ := zfw h hm (k := 2) (c := 6) (by rw [hcls]; rfl)
 have c0 : isD (og p.zA (ai x 0)).Kind = true := c0
 have c1 : (isD (og p.zA (ai x 1)).Kind && (zdd (og p.zA (ai x 1)) == zdd (og p.zA (ai x 0)))) = true := c1
 have c2 : decide ((og p.zA (ai x 2)).Kind = 5) = true := c2
 rw [Bool.and_eq_true] at c1
 have cn := eq_of_beq c1.2
 have lt := z89 h b2 (of_decide_eq_true c2)
 have a0 : idx x.Args 0 = some ((ai x 0 : Nat) : Int) := a0
 have a1 : idx x.Args 1 = some ((ai x 1 : Nat) : Int) := a1
 have a2 : idx x.Args 2 = some ((ai x 2 : Nat) : Int) := a2
 have hex : zg4 p s x = (match z2i p s x with | .error e => .error e | .ok o => .ok (cond (zt8 x.Op o) (oa p x 2).Target (s.At + 1), s)) := by
  unfold zg4; rcases hop with e | e <;> rw [e] <;> rfl
 have hpr : zd N (mI p s 0) x = (zdc N (mI p s 0) ((ai x 0 : Nat) : Int) ((ai x 1 : Nat) : Int)).bind fun r10 => cond (zt8 x.Op r10.1) ((zcv r10.2 ((ai x 2 : Nat) : Int)).bind fun r15 => some (r15, r10.2)) (some (s.At + 1, r10.2)) := by
  unfold zd zt8; rcases hop with e | e <;> simp only [e, Int.reduceBEq, ctr, cfa, obs, a0, a1, a2, show (mI p s 0).zC = s from rfl, wn1]
  · congr 1
    funext r
    rw [ifp trivial, zcn]; cases decide (r.1 = 0) <;> rfl
  · congr 1
 have hrf : zae N p s = (zm9 N p s x).bind fun r6 => cond (r6.2 != 0) (some (0, r6.2, s)) (cond r6.1 (some ((og p.zA (ai x 2)).Target, 0, s)) (some (s.At + 1, 0, s))) := by
  unfold zae; rw [hi, zel N (by omega) h.ok]; rcases hop with e | e <;> simp only [e, Int.reduceBEq, ctr, cfa, obs, a2, zie b2, wn1]
 unfold zhz
 rw [hex, hpr, hrf]
 rcases zadp N hN h hs.sto hop a0 a1 b0 b1 c0 c1.1 cn with ⟨e, o, k, he, h1, h2, h3⟩ | ⟨o, h1, h2, h3⟩
 · left; rw [h1, h2, h3]; simp only [obs, zd1, dct (show e ≠ 0 by omega), ctr]; rw [zzs _ b2]; cases zt8 x.Op o
   · exact ⟨e, _, _, _, rfl, by omega, rfl, rfl⟩
   · exact ⟨e, _, _, _, rfl, by omega, rfl, rfl⟩
 · right; rw [h1, h2, h3]; simp only [obs, bsf, cfa]; rw [zzs _ b2]; cases zt8 x.Op o
   · exact ⟨_, _, _, rfl, rfl, rfl, fun _ => ⟨rfl, by show 0 ≤ s.At + 1; omega, by show s.At + 1 ≤ _; omega⟩, hs, rfl, rfl, rfl⟩
   · exact ⟨_, _, _, rfl, rfl, rfl, fun _ => ⟨rfl, by show 0 ≤ (og p.zA (ai x 2)).Target; omega, by show (og p.zA (ai x 2)).Target ≤ _; omega⟩, hs, rfl, rfl, rfl⟩
theorem zago (N : Nat) (hN : 20000 < N) (h : ProgV p) (hs : StI p s) {x : zI} (hx : p.zF[s.At.toNat]? = some x) (hop : x.Op = 9) : zhz N p s x := by
 have hm := lmg hx
 have hi := zme hs hx
 obtain ⟨a0, b0, c0⟩ := zfw h hm (k := 0) (c := 6) (by rw [hop]; rfl)
 have c0 : decide ((og p.zA (ai x 0)).Kind = 5) = true := c0
 have lt := z89 h b0 (of_decide_eq_true c0)
 have a0 : idx x.Args 0 = some ((ai x 0 : Nat) : Int) := a0
 right
 refine ⟨(og p.zA (ai x 0)).Target, (og p.zA (ai x 0)).Target, s, by unfold zg4; rw [hop]; rfl, ?_, ?_, fun _ => ⟨rfl, by omega, by omega⟩, hs, rfl, rfl, rfl⟩
 · unfold zd; simp only [hop, Int.reduceBEq, ctr, cfa, obs, a0]; rw [zzs _ b0]; rfl
 · unfold zae; rw [hi, zel N (by omega) h.ok]; simp only [hop, Int.reduceBEq, ctr, cfa, obs, a0, zie b0]
theorem zyd (N : Nat) (hN : 2000 < N) (h : ProgV p) (hs : StoP p s.Storage) {i : Nat} (hi : i < p.zA.length) (h3 : (og p.zA i).Kind = 3) (o : Nat) (ho : o ≤ 16777215) :
 zcw N s.Storage (zef p.zA i) (zji o) = some (stV s.Storage (zef p.zA i).toNat o, 0) ∧ zjv N s.Storage (zef p.zA i) (zji o) = some (stV s.Storage (zef p.zA i).toNat o) ∧ StoP p (stV s.Storage (zef p.zA i).toNat o) := by
 obtain ⟨q, l0, l1, l2⟩ := zx3 h hi h3 hs
 refine ⟨zac2 N hN hs.sto q o ho, zadc N hN hs.sto q o ho, ⟨zafv hs.sto (by omega) (by omega) ho, by rw [zac6 (by omega)]; exact hs.size⟩⟩
theorem zafk (N : Nat) (hN : 20000 < N) (h : ProgV p) (hs : StI p s) {x : zI} (hx : p.zF[s.At.toNat]? = some x) (hop : x.Op = 10) : zhz N p s x := by
 have hm := lmg hx
 have hi := zme hs hx
 have q0 := hs.at0
 have q1 := hs.at1
 have i40 := h.i40
 have wn1 : w6 (s.At + 1) = s.At + 1 := w6e
 have hl := hs.sto.sto.le
 obtain ⟨a0, b0, c0⟩ := zfw h hm (k := 0) (c := 5) (by rw [hop]; rfl)
 obtain ⟨a1, b1, c1⟩ := zfw h hm (k := 1) (c := 0) (by rw [hop]; rfl)
 have c0 : decide ((og p.zA (ai x 0)).Kind = 3) = true := c0
 have c0 := of_decide_eq_true c0
 have c1 : isS (og p.zA (ai x 1)).Kind = true := c1
 have a0 : idx x.Args 0 = some ((ai x 0 : Nat) : Int) := a0
 have a1 : idx x.Args 1 = some ((ai x 1 : Nat) : Int) := a1
 have hz := zfl ((zlk h.ok b1).ty (zt7 c1)).1
 have hex : zg4 p s x = zp3 s (match adI p s.Storage (ai x 1) with | .error e => .error e | .ok a => .ok (mS s (stV s.Storage (zef p.zA (ai x 0)).toNat a.toNat))) := by unfold zg4; rw [hop]; rfl
 have hpr : zd N (mI p s 0) x = (zdz N (mI p s 0) x.Args).bind fun r => some (s.At + 1, r) := by
  unfold zd; simp only [hop, Int.reduceBEq, ctr, cfa, obs, show (mI p s 0).zC = s from rfl, wn1]
 have hrf : zae N p s = (zdx N p s ((ai x 1 : Nat) : Int)).bind fun r12 => cond (r12.2 != 0) (some (0, r12.2, s)) ((zjv N s.Storage (zef p.zA (ai x 0)) (⟨0, (⟨1, r12.1⟩ : Address), 0⟩ : Pointer)).bind fun r15 => some (s.At + 1, 0, mS s r15)) := by
  unfold zae; rw [hi, zel N (by omega) h.ok]; simp only [hop, Int.reduceBEq, ctr, cfa, obs, a0, a1, zok b0, wn1]; rfl
 unfold zhz
 rw [hex, hpr, hrf]
 unfold zdz
 rw [a0, a1]
 simp only [obs]
 rcases z6k N (by omega) h hs.sto b1 c1 with ⟨e, j, k, he, h1, h2, h3⟩ | ⟨a, h1, h2, h3, h4, h5⟩
 · left; rw [h1, h2, h3]; simp only [obs, show (mI p s e).raised = e from rfl, zcn, zd1, dct (show e ≠ 0 by omega), dcf (show ¬ e = 0 by omega), ctr, cfa]; exact ⟨e, _, _, _, rfl, by omega, rfl, rfl⟩
 · right; obtain ⟨a, rfl⟩ : ∃ k : Nat, a = (k : Int) := ⟨a.toNat, by omega⟩; obtain ⟨g1, g2, g3⟩ := zyd N (by omega) h hs.sto b0 c0 a (by omega); rw [h1, h2, h3]; simp only [obs, show (mI p s 0).raised = 0 from rfl, show (mI p s 0).layout = ztm p.zA from rfl, show (mI p s 0).zC = s from rfl, bst, bsf, ctr, cfa]; rw [zok b0]; simp only [obs]; rw [show (⟨0, (⟨1, (a : Int)⟩ : Address), 0⟩ : Pointer) = zji a from rfl, g1, g2]; exact ⟨_, _, _, rfl, rfl, rfl, fun _ => ⟨rfl, by omega, by omega⟩, hs.S g3, rfl, rfl, rfl⟩
theorem zafj (N : Nat) (hN : 20000 < N) (h : ProgV p) (hs : StI p s) {x : zI} (hx : p.zF[s.At.toNat]? = some x) (hop : x.Op = 11) : zhz N p s x := by
 have hm := lmg hx
 have hi := zme hs hx
 have q0 := hs.at0
 have q1 := hs.at1
 have i40 := h.i40
 have wn1 : w6 (s.At + 1) = s.At + 1 := w6e
 obtain ⟨a0, b0, c0⟩ := zfw h hm (k := 0) (c := 5) (by rw [hop]; rfl)
 obtain ⟨a1, b1, c1⟩ := zfw h hm (k := 1) (c := 5) (by rw [hop]; rfl)
 have c0 : decide ((og p.zA (ai x 0)).Kind = 3) = true := c0
 have c0 := of_decide_eq_true c0
 have c1 : decide ((og p.zA (ai x 1)).Kind = 3) = true := c1
 have c1 := of_decide_eq_true c1
 have a0 : idx x.Args 0 = some ((ai x 0 : Nat) : Int) := a0
 have a1 : idx x.Args 1 = some ((ai x 1 : Nat) : Int) := a1
 have hex : zg4 p s x = zp3 s (match ldV s.Storage (zef p.zA (ai x 1)) with | none => .error 4 | some o => .ok (mS s (stV s.Storage (zef p.zA (ai x 0)).toNat o.toNat))) := by unfold zg4; rw [hop]; rfl
 have hpr : zd N (mI p s 0) x = (zdf N (mI p s 0) x.Args).bind fun r => some (s.At + 1, r) := by
  unfold zd; simp only [hop, Int.reduceBEq, ctr, cfa, obs, show (mI p s 0).zC = s from rfl, wn1]
 have hrf : zae N p s = (zgq N s.Storage (zef p.zA (ai x 1))).bind fun r18 => cond (r18.2 != 0) (some (0, 4, s)) ((zjv N s.Storage (zef p.zA (ai x 0)) r18.1).bind fun r21 => some (s.At + 1, 0, mS s r21)) := by
  unfold zae; rw [hi, zel N (by omega) h.ok]; simp only [hop, Int.reduceBEq, ctr, cfa, obs, a0, a1, zok b0, zok b1, wn1]; rfl
 unfold zhz
 rw [hex, hpr, hrf]
 unfold zdf
 rw [a0, a1]
 simp only [obs]
 rw [zvl N (by omega) h hs.sto b1 c1, z5v N (by omega) hs.sto.sto (zx3 h b1 c1 hs.sto).1]
 cases hld : ldV s.Storage (zef p.zA (ai x 1)) with
 | none => exact .inl ⟨4, _, _, _, rfl, by decide, rfl, rfl⟩
 | some o =>
  right; have ho := z1q hs.sto.sto hld; obtain ⟨o, rfl⟩ : ∃ k : Nat, o = (k : Int) := ⟨o.toNat, by omega⟩; obtain ⟨g1, g2, g3⟩ := zyd N (by omega) h hs.sto b0 c0 o (by omega); simp only [obs, show (mI p s 0).raised = 0 from rfl, show (mI p s 0).layout = ztm p.zA from rfl, show (mI p s 0).zC = s from rfl, bst, bsf, ctr, cfa]; rw [zok b0]; simp only [obs]; rw [g1, g2]; exact ⟨_, _, _, rfl, rfl, rfl, fun _ => ⟨rfl, by omega, by omega⟩, hs.S g3, rfl, rfl, rfl⟩
theorem zafi (N : Nat) (hN : 20000 < N) (h : ProgV p) (hs : StI p s) {x : zI} (hx : p.zF[s.At.toNat]? = some x) (hop : x.Op = 12) : zhz N p s x := by
 have hm := lmg hx
 have hi := zme hs hx
 have q0 := hs.at0
 have q1 := hs.at1
 have i40 := h.i40
 have wn1 : w6 (s.At + 1) = s.At + 1 := w6e
 obtain ⟨a0, b0, c0⟩ := zfw h hm (k := 0) (c := 5) (by rw [hop]; rfl)
 obtain ⟨a1, b1, c1⟩ := zfw h hm (k := 1) (c := 3) (by rw [hop]; rfl)
 have c0 : decide ((og p.zA (ai x 0)).Kind = 3) = true := c0
 have c0 := of_decide_eq_true c0
 have c1 : (isD (og p.zA (ai x 1)).Kind && zdd (og p.zA (ai x 1))) = true := c1
 rw [Bool.and_eq_true] at c1
 have a0 : idx x.Args 0 = some ((ai x 0 : Nat) : Int) := a0
 have a1 : idx x.Args 1 = some ((ai x 1 : Nat) : Int) := a1
 have hex : zg4 p s x = zp3 s (match ldV s.Storage (zef p.zA (ai x 0)) with
  | none => .error 4
  | some o => match nuI p s.Storage (ai x 1) with
   | .error e => .error e
   | .ok n => if inB (o + zgb n) 0 16777215 = true then .ok (mS s (stV s.Storage (zef p.zA (ai x 0)).toNat (o + zgb n).toNat)) else .error 5) := by unfold zg4; rw [hop]; rfl
 have hpr : zd N (mI p s 0) x = (zed N (mI p s 0) x.Args).bind fun r => some (s.At + 1, r) := by
  unfold zd; simp only [hop, Int.reduceBEq, ctr, cfa, obs, show (mI p s 0).zC = s from rfl, wn1]
 have hrf : zae N p s = (zgq N s.Storage (zef p.zA (ai x 0))).bind fun r24 => cond (r24.2 != 0) (some (0, 4, s)) ((zdq N p s ((ai x 1 : Nat) : Int)).bind fun r26 => cond (r26.2 != 0) (some (0, r26.2, s)) ((zoj N r26.1).bind fun r27 =>
  cond (!inB (w6 (r24.1.Address.Offset + r27)) 0 16777215) (some (0, 5, s)) ((zjv N s.Storage (zef p.zA (ai x 0)) (⟨r24.1.Kind, (⟨r24.1.Address.zS, (w6 (r24.1.Address.Offset + r27))⟩ : Address), r24.1.Authority⟩ : Pointer)).bind fun r31 => some (s.At + 1, 0, mS s r31)))) := by
  unfold zae; rw [hi, zel N (by omega) h.ok]; simp only [hop, Int.reduceBEq, ctr, cfa, obs, a0, a1, zok b0, wn1, zhk]; rfl
 unfold zhz
 rw [hex, hpr, hrf]
 unfold zed
 rw [a0, a1]
 simp only [obs]
 rw [zvl N (by omega) h hs.sto b0 c0, z5v N (by omega) hs.sto.sto (zx3 h b0 c0 hs.sto).1]
 cases hld : ldV s.Storage (zef p.zA (ai x 0)) with
 | none => exact .inl ⟨4, _, _, _, rfl, by decide, rfl, rfl⟩
 | some o =>
  have ho := z1q hs.sto.sto hld; simp only [obs, show (mI p s 0).raised = 0 from rfl, bsf, cfa]; rcases zrj N (by omega) h hs.sto b1 c1.1 c1.2 with ⟨e, k, he, h1, h2, h3⟩ | ⟨n, h1, h2, h3, h4⟩
  · left; rw [h1, h2, h3]; simp only [obs]; rw [zzr N (by omega) zs2]; simp only [obs, show (mI p s e).raised = e from rfl, zd1, dct (show e ≠ 0 by omega), ctr]; exact ⟨e, _, _, _, rfl, by omega, rfl, rfl⟩
  · have hw := zv3 h4; rw [h1, h2, h3]; simp only [obs, show (mI p s 0).raised = 0 from rfl, bsf, cfa]; rw [zzr N (by omega) h4, z4l N (by omega) h4]; simp only [obs, z2l, show (zji o).Address.Offset = o from rfl]; rw [w6e (n := o + zgb n)]; cases hin : inB (o + zgb n) 0 16777215 with
    | false => exact .inl ⟨5, _, _, _, rfl, by decide, rfl, rfl⟩
    | true =>
     right; have hr := zbf.1 hin; obtain ⟨q, hq⟩ : ∃ k : Nat, o + zgb n = (k : Int) := ⟨(o + zgb n).toNat, by omega⟩; obtain ⟨g1, g2, g3⟩ := zyd N (by omega) h hs.sto b0 c0 q (by omega); simp only [bnt, cfa, if_true, show (mI p s 0).zC = s from rfl]; rw [hq, show (⟨(zji o).Kind, (⟨(zji o).Address.zS, (q : Int)⟩ : Address), (zji o).Authority⟩ : Pointer) = zji q from rfl, g1, g2]; exact ⟨_, _, _, rfl, rfl, rfl, fun _ => ⟨rfl, by omega, by omega⟩, hs.S g3, rfl, rfl, rfl⟩
end
section
variable {p : zB} {s : zC}
theorem zafh (N : Nat) (hN : 20000 < N) (h : ProgV p) (hs : StI p s) {x : zI} (hx : p.zF[s.At.toNat]? = some x) (hop : x.Op = 13) : zhz N p s x := by
 have hm := lmg hx
 have hi := zme hs hx
 have q0 := hs.at0
 have q1 := hs.at1
 have st := hs.stk
 obtain ⟨a0, b0, c0⟩ := zfw h hm (k := 0) (c := 6) (by rw [hop]; rfl)
 have c0 : decide ((og p.zA (ai x 0)).Kind = 5) = true := c0
 have lt := z89 h b0 (of_decide_eq_true c0)
 have a0 : idx x.Args 0 = some ((ai x 0 : Nat) : Int) := a0
 have hex : zg4 p s x = if 6 ≤ s.Stack.length then .error 6 else .ok ((og p.zA (ai x 0)).Target, mK s (s.Stack ++ [s.At])) := by unfold zg4; rw [hop]; rfl
 have hpr : zd N (mI p s 0) x = (zfq (mI p s 0) (og p.zA (ai x 0)).Target).bind fun r => some (r.1, r.2) := by
  unfold zd; simp only [hop, Int.reduceBEq, ctr, cfa, obs, a0, zzs _ b0]
 have hrf : zae N p s = cond ((s.Stack.length : Int) == 6) (some (0, 6, s)) (cond (Nat.ble ((s.Stack.length + ([s.At] : List Int).length) * 8) zbr) (some ((og p.zA (ai x 0)).Target, 0, mK s (s.Stack ++ [s.At]))) none) := by
  unfold zae; rw [hi, zel N (by omega) h.ok]; simp only [hop, Int.reduceBEq, ctr, cfa, obs, a0, zie b0]; rfl
 unfold zhz
 rw [hex, hpr, hrf]
 unfold zfq zki
 simp only [show (mI p s 0).zC = s from rfl, lns, zcn]
 by_cases h6 : 6 ≤ s.Stack.length
 · left; rw [ifp h6, dct (show (s.Stack.length : Int) ≥ 6 by omega), dct (show (s.Stack.length : Int) = 6 by omega)]; exact ⟨6, _, _, _, rfl, by decide, rfl, rfl⟩
 · right; rw [ifn h6, dcf (show ¬ (s.Stack.length : Int) ≥ 6 by omega), dcf (show ¬ (s.Stack.length : Int) = 6 by omega), za0 (by omega), za0 (by omega)]; simp only [cfa, ctr, obs]; rw [za0 (by omega)]; refine ⟨_, _, _, rfl, rfl, rfl, fun _ => ⟨rfl, by omega, by omega⟩, hs.K (by rw [lna, lns]; omega) (fun i hi => ?_), rfl, rfl, rfl⟩; rcases List.mem_append.1 hi with g | g
   · exact hs.calls i g
   · rw [List.mem_singleton.1 g]; exact ⟨⟨q0, q1⟩, x, hx, hop⟩
theorem zafg (N : Nat) (hN : 20000 < N) (h : ProgV p) (hs : StI p s) {x : zI} (hx : p.zF[s.At.toNat]? = some x) (hop : x.Op = 14) : zhz N p s x := by
 have hi := zme hs hx
 have q0 := hs.at0
 have q1 := hs.at1
 have st := hs.stk
 have i40 := h.i40
 have hex : zg4 p s x = if s.Stack.length = 0 then .ok (s.At, mT s 1) else .ok (s.Stack.getD (s.Stack.length - 1) 0 + 1, mK s (s.Stack.take (s.Stack.length - 1))) := by unfold zg4; rw [hop]; rfl
 have hpr : zd N (mI p s 0) x = (zfs (mI p s 0)).bind fun r => some (r.1, r.2) := by
  unfold zd; simp only [hop, Int.reduceBEq, ctr, cfa, obs]
 unfold zhz zae
 rw [hex, hpr, hi, zel N (by omega) h.ok]
 simp only [hop, Int.reduceBEq, ctr, cfa, obs]
 unfold zfs
 simp only [show (mI p s 0).zC = s from rfl, zcn]
 right
 by_cases h0 : s.Stack.length = 0
 · rw [ifp h0, dct (show (s.Stack.length : Int) = 0 by omega)]; exact ⟨_, _, _, rfl, rfl, rfl, fun h => (by cases h), hs.T (by decide) (by decide), rfl, rfl, rfl⟩
 · rw [ifn h0, dcf (show ¬ (s.Stack.length : Int) = 0 by omega)]; simp only [cfa]; have wl : w6 ((s.Stack.length : Int) - 1) = ((s.Stack.length - 1 : Nat) : Int) := by rw [w6e]; omega
   have hg : s.Stack[s.Stack.length - 1]? = some (s.Stack.getD (s.Stack.length - 1) 0) := by
    rw [gdd, lge (by omega)]; rfl
   have hc := hs.calls _ (lmg hg); have wn : w6 (s.Stack.getD (s.Stack.length - 1) 0 + 1) = s.Stack.getD (s.Stack.length - 1) 0 + 1 := w6e; have k1 : 0 ≤ ((s.Stack.length - 1 : Nat) : Int) ∧ ((s.Stack.length - 1 : Nat) : Int) ≤ (s.Stack.length : Int) := by omega
   have k2 : 0 ≤ (0 : Int) ∧ (0 : Int) ≤ ((s.Stack.length - 1 : Nat) : Int) := by omega
   have k3 : 0 ≤ ((s.Stack.length - 1 : Nat) : Int) := by omega
   have k4 : ((s.Stack.length - 1 : Nat) : Int) < (s.Stack.length : Int) := by omega
   simp only [wl, zai, itn, hg, obs, ifp k1, ifp k2, ifp k3, ifp k4, wn]; unfold zki; rw [show (s.Stack.take (s.Stack.length - 1)).drop (0 : Int).toNat = s.Stack.take (s.Stack.length - 1) from rfl, za0 (by rw [lnt]; omega)]; refine ⟨_, _, _, rfl, rfl, rfl, fun _ => ⟨rfl, by omega, by omega⟩, hs.K (by rw [lnt]; omega) (fun i hi => hs.calls i (List.mem_of_mem_take hi)), rfl, rfl, rfl⟩
theorem zaff (N : Nat) (hN : 20000 < N) (h : ProgV p) (hs : StI p s) {x : zI} (hx : p.zF[s.At.toNat]? = some x) (hop : x.Op = 15) : zhz N p s x := by
 have hm := lmg hx
 have hi := zme hs hx
 obtain ⟨a0, b0, c0⟩ := zfw h hm (k := 0) (c := 3) (by rw [hop]; rfl)
 have c0 : (isD (og p.zA (ai x 0)).Kind && zdd (og p.zA (ai x 0))) = true := c0
 rw [Bool.and_eq_true] at c0
 have a0 : idx x.Args 0 = some ((ai x 0 : Nat) : Int) := a0
 have hex : zg4 p s x = (match nuI p s.Storage (ai x 0) with | .error e => .error e | .ok n => if inB (zgb n) 100 999 = true then .error (zgb n) else .error 2) := by unfold zg4; rw [hop]; rfl
 have hpr : zd N (mI p s 0) x = (zeu N (mI p s 0) ((ai x 0 : Nat) : Int)).bind fun r => some (w6 (s.At + 1), r) := by
  unfold zd; simp only [hop, Int.reduceBEq, ctr, cfa, obs, a0]; rfl
 have hrf : zae N p s = (zdq N p s ((ai x 0 : Nat) : Int)).bind fun r36 => cond (r36.2 != 0) (some (0, r36.2, s)) ((zoj N r36.1).bind fun r37 => cond (inB r37 100 999) (some (0, r37, s)) (some (0, 2, s))) := by
  unfold zae; rw [hi, zel N (by omega) h.ok]; simp only [hop, Int.reduceBEq, ctr, cfa, obs, a0, zhk]
 unfold zhz
 rw [hex, hpr, hrf]
 unfold zeu
 left
 rcases zrj N (by omega) h hs.sto b0 c0.1 c0.2 with ⟨e, k, he, h1, h2, h3⟩ | ⟨n, h1, h2, h3, h4⟩
 · rw [h1, h2, h3]; simp only [obs]; rw [zzr N (by omega) zs2]; simp only [obs, z2l]; rw [zu3 p s (show e ≠ 0 by omega), zu3 p s (show e ≠ 0 by omega), zd1, dct (show e ≠ 0 by omega)]; exact ⟨e, _, _, _, rfl, by omega, by cases inB (zgb ⟨0, 0⟩) 100 999 <;> rfl, rfl⟩
 · have hw := zv3 h4; rw [h1, h2, h3]; simp only [obs, bsf, cfa]; rw [zzr N (by omega) h4, z4l N (by omega) h4]; simp only [obs, z2l, z68]; cases hin : inB (zgb n) 100 999 with
   | true =>
    have := zbf.1 hin; exact ⟨zgb n, _, _, _, rfl, by omega, rfl, rfl⟩
   | false => exact ⟨2, _, _, _, rfl, by omega, rfl, rfl⟩
theorem zafe (N : Nat) (hN : 20000 < N) (h : ProgV p) (hs : StI p s) {x : zI} (hx : p.zF[s.At.toNat]? = some x) (hop : x.Op = 16) : zhz N p s x := by
 have hm := lmg hx
 have hi := zme hs hx
 have e0 := hs.ex0
 have e1 := hs.ex1
 obtain ⟨a0, b0, c0⟩ := zfw h hm (k := 0) (c := 2) (by rw [hop]; rfl)
 have c0 : (isS (og p.zA (ai x 0)).Kind && zdd (og p.zA (ai x 0))) = true := c0
 rw [Bool.and_eq_true] at c0
 have a0 : idx x.Args 0 = some ((ai x 0 : Nat) : Int) := a0
 have hn : zdl ⟨s.Exception, 0⟩ := ⟨⟨by show -999999999999999 ≤ s.Exception; omega, by show s.Exception ≤ 999999999999999; omega⟩, (by show (0 : Int) ≤ 0; decide), (by show (0 : Int) ≤ 15; decide)⟩
 refine zva N h hs (z7l N (by omega) h hs.sto b0 c0.1 c0.2 hn false) (by unfold zg4; rw [hop]; rfl) ?_ ?_
 · unfold zd; simp only [hop, Int.reduceBEq, ctr, cfa, obs, a0, show (mI p s 0).zC = s from rfl, show (mI p s 0).zB = p from rfl, zie b0]; cases zdv N (⟨s.Exception, 0⟩ : Number) (og p.zA (ai x 0)).zJ false with
   | none => rfl
   | some r =>
    simp only [obs]; cases zal N (mI p s 0) ((ai x 0 : Nat) : Int) r.1 r.2 <;> rfl
 · unfold zae; rw [hi, zel N (by omega) h.ok]; simp only [hop, Int.reduceBEq, ctr, cfa, obs, a0]
theorem zabp (N : Nat) (hN : 20000 < N) (h : ProgV p) (hs : StoP p s.Storage) {i : Nat} (hi : i < p.zA.length) (hk : isD (og p.zA i).Kind = true) :
 (∃ e l k, (1 ≤ e ∧ e ≤ 5) ∧ z4h p s i = .error e ∧ zec N (mI p s 0) (i : Int) = some (l, mI p s e) ∧ zrz N p s (i : Int) = some (k, e)) ∨
 ∃ l, z4h p s i = .ok l ∧ zec N (mI p s 0) (i : Int) = some (l, mI p s 0) ∧ zrz N p s (i : Int) = some (l, 0) ∧ l.size ≤ 256 := by
 unfold z4h zec zrz
 rw [show (mI p s 0).zB = p from rfl, zie hi, zvi h hi hk]
 simp only [obs, zzt]
 cases hn : zdd (og p.zA i) with
 | true =>
  simp only [if_true, bnt, cfa]; rcases zrj N (by omega) h hs hi hk hn with ⟨e, k, he, h1, h2, h3⟩ | ⟨n, h1, h2, h3, h4⟩
  · left; rw [h1, h2, h3]; simp only [obs]; rw [z63 zs2, zd1, dct (show e ≠ 0 by omega)]; exact ⟨e, _, _, by omega, rfl, rfl, rfl⟩
  · right; rw [h1, h2, h3]; simp only [obs, bsf, cfa]; rw [z63 h4, zaeq N (by omega) h4]; exact ⟨_, rfl, rfl, rfl, zaau h4⟩
 | false =>
  simp only [Bool.false_eq_true, if_false, Bool.not_false, ctr]; have hz := zfl ((zlk h.ok hi).ty hk).1; rcases zyb N (by omega) h hs hi hk with ⟨e, k, he, h1, h2, h3⟩ | ⟨b, h1, h2, h3, h4⟩
  · left; rw [h1, h2, h3]; exact ⟨e, _, _, by omega, rfl, rfl, rfl⟩
  · right; rw [h1, h2, h3]; exact ⟨_, rfl, rfl, rfl, by omega⟩
theorem zafd (N : Nat) (hN : 20000 < N) (h : ProgV p) (hs : StI p s) {x : zI} (hx : p.zF[s.At.toNat]? = some x) (hop : x.Op = 17) : zhz N p s x := by
 have hm := lmg hx
 have hi := zme hs hx
 have q0 := hs.at0
 have q1 := hs.at1
 have i40 := h.i40
 have ln := hs.lines
 have wn1 : w6 (s.At + 1) = s.At + 1 := w6e
 obtain ⟨a0, b0, c0⟩ := zfw h hm (k := 0) (c := 1) (by rw [hop]; rfl)
 have c0 : isD (og p.zA (ai x 0)).Kind = true := c0
 have a0 : idx x.Args 0 = some ((ai x 0 : Nat) : Int) := a0
 have hex : zg4 p s x = (match z4h p s (ai x 0) with | .error e => .error e | .ok l => if s.Lines.length = 40 then .ok (s.At + 1, mT s 3) else .ok (s.At + 1, mL s (s.Lines ++ [l]))) := by unfold zg4; rw [hop]; rfl
 have hpr : zd N (mI p s 0) x = (ze9 N (mI p s 0) ((ai x 0 : Nat) : Int)).bind fun r => some (s.At + 1, r) := by
  unfold zd; simp only [hop, Int.reduceBEq, ctr, cfa, obs, a0, show (mI p s 0).zC = s from rfl, wn1]
 have hrf : zae N p s = (zrz N p s ((ai x 0 : Nat) : Int)).bind fun r42 => cond (r42.2 != 0) (some (0, r42.2, s)) (cond ((s.Lines.length : Int) == 40) (some (s.At + 1, 0, mT s 3))
  (cond (Nat.ble ((s.Lines.length + ([r42.1] : List ByteArray).length) * 16) zbr) (some (s.At + 1, 0, mL s (s.Lines ++ [r42.1]))) none)) := by
  unfold zae; rw [hi, zel N (by omega) h.ok]; simp only [hop, Int.reduceBEq, ctr, cfa, obs, a0, wn1]; rfl
 unfold zhz
 rw [hex, hpr, hrf]
 unfold ze9
 rcases zabp N hN h hs.sto b0 c0 with ⟨e, l, k, he, h1, h2, h3⟩ | ⟨l, h1, h2, h3, h4⟩
 · left; rw [h1, h2, h3]; simp only [obs, show (mI p s e).raised = e from rfl, zd1, dct (show e ≠ 0 by omega), ctr]; exact ⟨e, _, _, _, rfl, by omega, rfl, rfl⟩
 · right; rw [h1, h2, h3]; simp only [obs, show (mI p s 0).raised = 0 from rfl, show (mI p s 0).zC = s from rfl, bsf, cfa, zcn]
   by_cases h40 : s.Lines.length = 40
   · rw [ifp h40, dct (show (s.Lines.length : Int) = 40 by omega)]; exact ⟨_, _, _, rfl, rfl, rfl, fun h => (by cases h), hs.T (by decide) (by decide), rfl, rfl, rfl⟩
   · rw [ifn h40, dcf (show ¬ (s.Lines.length : Int) = 40 by omega)]; unfold zki; rw [za0 (by omega)]; simp only [ctr, cfa, obs, lns]; rw [za0 (by omega)]; exact ⟨_, _, _, rfl, rfl, rfl, fun _ => ⟨rfl, by omega, by omega⟩, hs.L (by omega) h4, rfl, rfl, rfl⟩
theorem zafc (N : Nat) (hN : 20000 < N) (h : ProgV p) (hs : StI p s) {x : zI} (hx : p.zF[s.At.toNat]? = some x) (hop : x.Op = 18) : zhz N p s x := by
 have hi := zme hs hx
 have q0 := hs.at0
 have q1 := hs.at1
 have i40 := h.i40
 have wn1 : w6 (s.At + 1) = s.At + 1 := w6e
 right
 refine ⟨s.At + 1, s.At + 1, mT s 1, by unfold zg4; rw [hop]; rfl, ?_, ?_, fun h => (by cases h), hs.T (by decide) (by decide), rfl, rfl, rfl⟩
 · unfold zd; simp only [hop, Int.reduceBEq, ctr, cfa, obs, show (mI p s 0).zC = s from rfl, wn1]; rfl
 · unfold zae; rw [hi, zel N (by omega) h.ok]; simp only [hop, Int.reduceBEq, ctr, cfa, obs, wn1]; rfl
theorem z9s (N : Nat) (hN : 20000 < N) (h : ProgV p) (hs : StI p s) {x : zI} (hx : p.zF[s.At.toNat]? = some x) : zhz N p s x := by
 have ho := zagg h (lmg hx)
 rcases (by omega : x.Op = 0 ∨ x.Op = 1 ∨ (2 ≤ x.Op ∧ x.Op ≤ 6) ∨ (x.Op = 7 ∨ x.Op = 8) ∨ x.Op = 9 ∨ x.Op = 10 ∨ x.Op = 11 ∨ x.Op = 12 ∨ x.Op = 13 ∨ x.Op = 14 ∨ x.Op = 15 ∨ x.Op = 16 ∨ x.Op = 17 ∨ x.Op = 18) with e | e | e | e | e | e | e | e | e | e | e | e | e | e
 · exact zagq N hN h hs hx e
 · exact zagp N hN h hs hx e
 · exact zacu N hN h hs hx e
 · exact zafb N hN h hs hx e
 · exact zago N hN h hs hx e
 · exact zafk N hN h hs hx e
 · exact zafj N hN h hs hx e
 · exact zafi N hN h hs hx e
 · exact zafh N hN h hs hx e
 · exact zafg N hN h hs hx e
 · exact zaff N hN h hs hx e
 · exact zafe N hN h hs hx e
 · exact zafd N hN h hs hx e
 · exact zafc N hN h hs hx e
end
section
variable {p : zB} {s : zC}
def zsl (t : zN) (a e : Int) : Bool := inB a t.From (t.To - 1) && (decide (t.Exception = 0) || decide (t.Exception = e))
def z56 (p : zB) (a e : Int) : Option Nat := (List.range p.zL.length).findSome? fun i => (p.zL[i]?).bind fun t => if zsl t a e = true then some i else none
def zh5 (p : zB) (a e : Int) : Int := match z56 p a e with | some i => (p.zL.getD i ⟨0, 0, 0, 0⟩).Handler | none => -1
theorem z69 {a e : Int} {i : Nat} (h : z56 p a e = some i) : ∃ t, p.zL[i]? = some t ∧ zsl t a e = true := by
 obtain ⟨j, _, hj⟩ := eof h
 rw [Option.bind_eq_some_iff] at hj
 obtain ⟨t, ht, hj⟩ := hj
 split at hj
 · rename_i hh; cases hj; exact ⟨t, ht, hh⟩
 · cases hj
theorem z66 (h : ProgV p) {t : zN} (ht : t ∈ p.zL) : 0 ≤ t.From ∧ t.From < t.To ∧ t.To ≤ (p.zF.length : Int) ∧ 0 ≤ t.Handler ∧ t.Handler < (p.zF.length : Int) := by
 have := h.mon t ht
 unfold zzl at this
 simp only [Bool.and_eq_true, decide_eq_true_eq] at this
 obtain ⟨h1, h2, h3, h4, h5⟩ := this
 have := zbf.1 h5
 omega
theorem z6c (h : ProgV p) (a e : Int) : zh5 p a e = -1 ∨ (0 ≤ zh5 p a e ∧ zh5 p a e < (p.zF.length : Int)) := by
 unfold zh5
 cases hi : z56 p a e with
 | none => exact .inl rfl
 | some i =>
  obtain ⟨t, ht, _⟩ := z69 hi; right; simp only []; rw [gdd, ht]; exact (z66 h (lmg ht)).2.2.2
theorem zaai {β : Type} (f : Nat → β) (a e : Int) : (List.range p.zL.length).findSome? (fun i => ((p.zL[i]?).bind fun t => if zsl t a e = true then some i else none).map f) = (z56 p a e).map f := by
 have key : ∀ l : List Nat, l.findSome? (fun i => ((p.zL[i]?).bind fun t => if zsl t a e = true then some i else none).map f) = (l.findSome? (fun i => (p.zL[i]?).bind fun t => if zsl t a e = true then some i else none)).map f := by
  intro l
  induction l with
  | nil => rfl
  | cons i l ih =>
   rw [List.findSome?_cons, List.findSome?_cons]; cases (p.zL[i]?).bind fun t => if zsl t a e = true then some i else none with
   | none => exact ih
   | some j => rfl
 exact key _
theorem zabb (N : Nat) (hN : 20000 < N) (h : ProgV p) (a e : Int) : ziz N p a e = some (zh5 p a e) := by
 have m6 := h.m6
 have i40 := h.i40
 unfold ziz zo
 have l1 := zbh (f := zo.r0 N) (fun i => (p.zL, (p.zL.length : Int), (i : Int), a, e)) (fun i => ((p.zL[i]?).bind fun t => if zsl t a e = true then some i else none).map fun i : Nat => (i : Int)) p.zL.length
  (fun i hi => by
   have hx := lge hi; have hf := z66 h (List.getElem_mem hi); simp only [zo.r0, zo.b0, zai, hx, obs, dct (show (i : Int) < (p.zL.length : Int) by omega), ctr]; have e1 : zg0 p.zL[i] a e = some (zsl p.zL[i] a e) := by
    unfold zg0 zsl; rw [w6e, z2l, zcn, zcn]; simp only [obs]; cases inB a p.zL[i].From (p.zL[i].To - 1) <;> cases decide (p.zL[i].Exception = 0) <;> cases decide (p.zL[i].Exception = e) <;> rfl
   rw [e1, w6e]; cases zsl p.zL[i] a e <;> rfl)
  (by simp only [zo.r0, zo.b0, dcf (show ¬ (p.zL.length : Int) < (p.zL.length : Int) by omega), cfa]) (N := N) (by omega)
 simp only [nc0] at l1
 rw [l1, zaai]
 unfold zh5
 cases hi : z56 p a e with
 | none => rfl
 | some i =>
  obtain ⟨t, ht, _⟩ := z69 hi; simp only [Option.map_some, zb5, obs]; rw [dcf (show ¬ ((i : Nat) : Int) < 0 by omega), cfa, zai, ht, gdd, ht]; rfl
theorem z8g (N : Nat) (hN : 20000 < N) (h : ProgV p) (a e : Int) : zer N p a e = some (zh5 p a e) := by
 have m6 := h.m6
 unfold zer
 have l1 := zbh (f := zer.r0 N) (fun i => (a, e, (i : Int), p)) (fun i => ((p.zL[i]?).bind fun t => if zsl t a e = true then some i else none).map fun i : Nat => (p.zL.getD i ⟨0, 0, 0, 0⟩).Handler) p.zL.length
  (fun i hi => by
   have hx := lge hi; simp only [zer.r0, zer.b0, zai, hx, obs, dct (show (i : Int) < (p.zL.length : Int) by omega), ctr]; have e1 : ((cond (decide (p.zL[i].From ≤ a)) (some (decide (a < p.zL[i].To))) (some false)).bind fun g1002 => (cond g1002 ((cond (p.zL[i].Exception == 0) (some true) (some (p.zL[i].Exception == e))).bind fun g1003 => some g1003) (some false))) = some (zsl p.zL[i] a e) := by
    unfold zsl inB; rw [zcn, zcn, show decide (a ≤ p.zL[i].To - 1) = decide (a < p.zL[i].To) by rw [decide_eq_decide]; omega]; cases decide (p.zL[i].From ≤ a) <;> cases decide (a < p.zL[i].To) <;> cases decide (p.zL[i].Exception = 0) <;> cases decide (p.zL[i].Exception = e) <;> rfl
   rw [← Option.bind_assoc, e1, w6e]; simp only [obs]; cases zsl p.zL[i] a e with
   | false => rfl
   | true =>
    simp only [ctr, if_true, Option.map_some]; rw [gdd, hx]; rfl)
  (by simp only [zer.r0, zer.b0, dcf (show ¬ (p.zL.length : Int) < (p.zL.length : Int) by omega), cfa]) (N := N) (by omega)
 simp only [nc0] at l1
 rw [l1, zaai]
 unfold zh5
 cases z56 p a e <;> rfl
def zj8 (p : zB) (e : Int) : Nat → zC → zC
 | 0, s => s
 | k + 1, s => if 0 ≤ zh5 p s.At e then mA s (zh5 p s.At e) else if s.Stack.length = 0 then mT s 2
  else zj8 p e k (mK (mA s (s.Stack.getD (s.Stack.length - 1) 0)) (s.Stack.take (s.Stack.length - 1)))
theorem zxr (N : Nat) (hN : 20000 < N) (h : ProgV p) (e : Int) (he : e ≠ 0) (z : zC) : ∀ (k : Nat) (s : zC), StI p s → s.Stack.length < k → ∀ K : Nat, k ≤ K →
 zj (zax.r0 N) K (mI p s e) = some (.inl (mI p (zj8 p e k s) e)) ∧ zj (zhp.r0 N) K (e, p, s, z) = some (.inl (zj8 p e k s)) ∧ StI p (zj8 p e k s) ∧ (zj8 p e k s).Steps = s.Steps ∧ (zj8 p e k s).Exception = s.Exception ∧
 (zj8 p e k s).Storage = s.Storage ∧ (zj8 p e k s).Lines = s.Lines ∧ (s.Status = 0 → (zj8 p e k s).Status = 0 ∨ (zj8 p e k s).Status = 2)
 | 0, s, _, h, _, _ => by omega
 | k + 1, s, hs, hk, K, hK => by
  obtain ⟨K, rfl⟩ : ∃ J, K = J + 1 := ⟨K - 1, by omega⟩; have hh := zabb N hN h s.At e; have hr := z8g N hN h s.At e; have rg := z6c h s.At e; have h6 := hs.stk; simp only [zj, zax.r0, zax.b0, zhp.r0, zhp.b0]; simp only [show (mI p s e).zB = p from rfl, show (mI p s e).zC = s from rfl, show (mI p s e).raised = e from rfl, show (mI p s e).layout = ztm p.zA from rfl]; rw [hh, hr]; simp only [obs]; unfold zj8
  by_cases h0 : 0 ≤ zh5 p s.At e
  · rw [ifp h0, dct (show zh5 p s.At e ≥ 0 by omega), zd1, dct (show zh5 p s.At e ≠ -1 by omega)]; exact ⟨rfl, rfl, hs.A h0 (by omega), rfl, rfl, rfl, rfl, fun h => .inl h⟩
  · rw [ifn h0, dcf (show ¬ zh5 p s.At e ≥ 0 by omega), zd1, dcf (show ¬ zh5 p s.At e ≠ -1 by omega), zcn]
    by_cases hz : s.Stack.length = 0
    · rw [ifp hz, dct (show (s.Stack.length : Int) = 0 by omega)]; exact ⟨rfl, rfl, hs.T (by omega) (by omega), rfl, rfl, rfl, rfl, fun _ => .inr rfl⟩
    · have wl : w6 ((s.Stack.length : Int) - 1) = ((s.Stack.length - 1 : Nat) : Int) := by rw [w6e]; omega
      have hg : s.Stack[s.Stack.length - 1]? = some (s.Stack.getD (s.Stack.length - 1) 0) := by rw [gdd, lge (by omega)]; rfl
      obtain ⟨hrr, _⟩ := hs.calls _ (lmg hg); have k1 : 0 ≤ ((s.Stack.length - 1 : Nat) : Int) ∧ ((s.Stack.length - 1 : Nat) : Int) ≤ (s.Stack.length : Int) := by omega
      have k2 : 0 ≤ (0 : Int) ∧ (0 : Int) ≤ ((s.Stack.length - 1 : Nat) : Int) := by omega
      rw [ifn hz, dcf (show ¬ (s.Stack.length : Int) = 0 by omega)]; simp only [cfa, wl, zai, hg, obs, ifp k1, ifp k2, itn]; unfold zki; rw [show (s.Stack.take (s.Stack.length - 1)).drop (0 : Int).toNat = s.Stack.take (s.Stack.length - 1) from rfl, za0 (by rw [lnt]; omega)]; simp only [ctr, obs]; have hs2 : StI p (mK (mA s (s.Stack.getD (s.Stack.length - 1) 0)) (s.Stack.take (s.Stack.length - 1))) := (hs.A hrr.1 hrr.2).K (by rw [lnt]; omega) fun i hi2 => hs.calls i (List.mem_of_mem_take hi2); exact zxr N hN h e he z k _ hs2 (by show (s.Stack.take (s.Stack.length - 1)).length < k; rw [lnt]; omega) K (by omega)
def zsn (s : zC) : zC := if s.Status = 0 ∧ s.Steps = 300 then mT s 3 else s
def zzq (p : zB) (s : zC) : zI := p.zF.getD s.At.toNat ⟨0, []⟩
def zqc (p : zB) (s : zC) : zC :=
 match zg4 p (mP s (s.Steps + 1)) (zzq p s) with
 | .error e => zsn (zj8 p e (s.Stack.length + 1) (mE (mP s (s.Steps + 1)) e))
 | .ok (n, t) => if t.Status ≠ 0 then t else if n = (p.zF.length : Int) then mT t 1 else zsn (mA t n)
theorem z6e (t : zC) : ((cond (t.Status == 0) (some (t.Steps == 300)) (some false)).bind fun g => cond g (some (⟨t.Storage, t.At, t.Stack, t.Lines, 3, t.Exception, t.Steps⟩ : zC)) (some t)) = some (zsn t) := by
 unfold zsn
 rw [zcn, zcn]
 by_cases h1 : t.Status = 0
 · rw [dct h1]
   by_cases h2 : t.Steps = 300
   · rw [dct h2, ifp ⟨h1, h2⟩]; rfl
   · rw [dcf h2, ifn (fun h => h2 h.2)]; rfl
 · rw [dcf h1, ifn (fun h => h1 h.1)]; rfl
theorem zaak (t : zC) (e : Int) : ((cond (t.Status == 0) (some (t.Steps == 300)) (some false)).bind fun g => cond g ((zao (mI p t e) 3).bind fun r => some r.zC) (some t)) = some (zsn t) := z6e t
theorem zaaj {t : zC} (h : StI p t) : StI p (zsn t) ∧ (zsn t).Steps = t.Steps ∧ ((zsn t).Status = 0 → t.Steps ≠ 300) := by
 unfold zsn
 split
 · exact ⟨h.T (by omega) (by omega), rfl, fun h => by have h' : (3 : Int) = 0 := h; omega⟩
 · rename_i hn; exact ⟨h, rfl, fun h1 h2 => hn ⟨h1, h2⟩⟩
theorem z92 (h : StI p s) : zkf s = some s := by
 have h2 := h.stk
 have h3 := h.lines
 have h4 := h.sto.sto.le
 have h5 := h.sto.sto.tags
 unfold zkf zhv zjt
 rw [zaad (by omega), obs, za0 (by omega), ctr, obs, za0 (by omega)]
 rfl
theorem zabr (N : Nat) (hN : 20000 < N) (h : ProgV p) (hs : StI p s) (hrun : s.Status = 0) (h3 : s.Steps < 300) :
 zik N p s (ztm p.zA) = some (zqc p s) ∧ z4n N p s = some (zqc p s) ∧ StI p (zqc p s) ∧ (zqc p s).Steps = s.Steps + 1 ∧ ((zqc p s).Status = 0 → s.Steps + 1 < 300) := by
 have a0 := hs.at0
 have a1 := hs.at1
 have p0 := hs.sp0
 have hx : p.zF[s.At.toNat]? = some (zzq p s) := by
  unfold zzq; rw [gdd, lge (by omega)]; rfl
 have hi : idx p.zF s.At = some (zzq p s) := by unfold idx; rw [ifp a0, hx]
 have hs1 : StI p (mP s (s.Steps + 1)) := hs.P (by omega) (by omega)
 have hb := z9s N hN h hs1 (x := zzq p s) hx
 unfold zik z4n
 rw [hi, z92 hs]
 simp only [obs]
 rw [w6e (n := s.Steps + 1)]
 show ((zd N (mI p (mP s (s.Steps + 1)) 0) (zzq p s)).bind _) = _ ∧ ((zae N p (mP s (s.Steps + 1))).bind _) = _ ∧ _
 unfold zqc
 rcases hb with ⟨e, nx, ny, t, g1, g2, g3, g4⟩ | ⟨n, k, t, g1, g3, g4, g5, g6, g7, g8, g9⟩
 · rw [g1, g3, g4]; simp only [obs]; have hse : StI p (mE (mP s (s.Steps + 1)) e) := hs1.E (by omega) (by omega); obtain ⟨k1, k2, k3, k4, k5, k6, k7, k8⟩ := zxr N hN h e (by omega) ⟨⟨⟨#[]⟩, []⟩, 0, [], [], 0, 0, 0⟩ (s.Stack.length + 1) _ hse (Nat.lt_succ_self _) N (by have := hs.stk; omega); rw [show (mI p (mP s (s.Steps + 1)) e).raised = e from rfl, zd1, dct (show e ≠ 0 by omega)]; simp only [ctr]; have hf := zaaj k3; have k4' : (zj8 p e (s.Stack.length + 1) (mE (mP s (s.Steps + 1)) e)).Steps = s.Steps + 1 := k4; refine ⟨?_, ?_, hf.1, hf.2.1.trans k4, fun h => ?_⟩
   · unfold zax; show ((((zj (zax.r0 N) N (mI p (mE (mP s (s.Steps + 1)) e) e)).bind _)).bind _) = _; rw [k1]; exact zaak _ e
   · unfold zhp; show ((((zj (zhp.r0 N) N (e, p, mE (mP s (s.Steps + 1)) e, _)).bind _)).bind _) = _; rw [k2]; exact z6e _
   · have := hf.2.2 h; omega
 · rw [g1, g3, g4]; simp only [obs, bsf, cfa, show (mI p t 0).raised = 0 from rfl, show (mI p t 0).zC = t from rfl]; have g8' : t.Steps = s.Steps + 1 := g8; have e0 : (t.Status != 0) = decide (t.Status ≠ 0) := zd1 _ _; have e1 : (t.Status == 0) = decide (t.Status = 0) := zcn _ _; rw [e0, e1]
   by_cases hst : t.Status = 0
   · obtain ⟨j1, j2, j3⟩ := g5 hst; subst j1; rw [dct hst, dcf (show ¬ t.Status ≠ 0 by omega), ifn (show ¬ t.Status ≠ 0 by omega)]; simp only [ctr, cfa, zcn]
     by_cases hl : k = (p.zF.length : Int)
     · rw [dct hl, ifp hl]; exact ⟨rfl, rfl, g6.T (by omega) (by omega), g8', fun h => by have h' : (1 : Int) = 0 := h; omega⟩
     · rw [dcf hl, ifn hl]; have hta : StI p (mA t k) := g6.A (by omega) (by omega); have hf := zaaj hta; have f1 := z6e (mA t k); have f2 := zaak (p := p) (mA t k) 0; rw [zcn, zcn] at f1 f2; have e2 : (mA t k).Status = t.Status := rfl; rw [e2, dct hst] at f1 f2; refine ⟨f2, f1, hf.1, hf.2.1.trans g8', fun h => ?_⟩; have := hf.2.2 h; have e3 : (mA t k).Steps = t.Steps := rfl; have := g6.sp1; omega
   · rw [dcf hst, dct (show t.Status ≠ 0 from hst), ifp (show t.Status ≠ 0 from hst)]; exact ⟨rfl, rfl, g6, g8', fun h => absurd h hst⟩
end
section
variable {p : zB} {s : zC}
theorem z42 (h : ProgV p) : 0 ≤ zla p.zA ∧ zla p.zA ≤ 24 := by
 have := z27 h
 have := h.quads
 omega
theorem z6u (N : Nat) (hN : 20000 < N) (h : ProgV p) (hc : (zo9 p).2 = 0) : zfp N p = some (ztm p.zA, zla p.zA, 0) := by
 unfold zfp
 rw [zaf3 N (by omega), hc, z6t N (by omega) h.ok]
 rfl
theorem zaab {n : Nat} (h : Wft En n Ty.zB p) : p.zA.length ≤ n ∧ p.zF.length ≤ n ∧ p.zL.length ≤ n ∧ ∀ x ∈ p.zF, x.Args.length ≤ n := by
 have h1 := h (.lst Ty.zG p.zA) (by show _ ∈ zl8 p; simp [zl8])
 have h2 := h (.lst Ty.zI p.zF) (by show _ ∈ zl8 p; simp [zl8])
 have h3 := h (.lst Ty.zN p.zL) (by show _ ∈ zl8 p; simp [zl8])
 cases h1 with
 | lst h1 _ =>
  cases h2 with
  | lst h2 h2' =>
   cases h3 with
   | lst h3 _ =>
    refine ⟨h1, h2, h3, fun x hx => ?_⟩; have h4 := h2' x hx (.lst (Ty.int .i64) x.Args) (by show _ ∈ zps x; simp [zps]); cases h4 with
    | lst h4 _ => exact h4
theorem zqp {n : Nat} (h : n ≤ 1000000000) : Nat.ble n zbr = true := Nat.ble_eq_true_of_le (by unfold zbr; omega)
theorem zadn (N : Nat) (hN : 1048600 < N) (hp : Wft En 1048576 Ty.zB p) : zfy N p = some p := by
 obtain ⟨w1, w2, w3, w4⟩ := zaab hp
 unfold zfy
 rw [zqp (by omega), zqp (by omega)]
 simp only [ctr]
 have l1 := za1 (f := zfy.r0 N) (fun i => ((i : Int), p, (⟨[], [], []⟩ : zB), (⟨p.zA, p.zF.take i, p.zL⟩ : zB))) p.zF.length
  (fun i hi => by
   have hx := lge hi; have ha := w4 _ (List.getElem_mem hi); simp only [zfy.r0, zfy.b0, zai, hx, obs, dct (show (i : Int) < (p.zF.length : Int) by omega), ctr, zhv, zqp (show p.zF[i].Args.length * 8 ≤ 1000000000 by omega)]; rw [zqp (by rw [lnt]; simp only [lnc, ln0]; omega), ctr, w6e, ← List.take_append_getElem hi]; rfl)
  (by simp only [zfy.r0, zfy.b0, dcf (show ¬ (p.zF.length : Int) < (p.zF.length : Int) by omega), cfa]) (N := N) (by omega)
 simp only [nc0, List.take_zero] at l1
 rw [l1, obs, List.take_length]
theorem zaho (N : Nat) (hN : 1048600 < N) (hp : Wft En 1048576 Ty.zB p) : ∃ b, zch N p = some b := by
 obtain ⟨w1, w2, w3, w4⟩ := zaab hp
 unfold zch
 simp only [orB, obs]
 cases (decide ((p.zA.length : Int) > 28) || decide ((p.zF.length : Int) > 44)) || decide ((p.zL.length : Int) > 9) with
 | true => exact ⟨_, rfl⟩
 | false =>
  simp only [cfa]; have l1 := zta (f := zch.r0 N) (fun i t => t = ((i : Int), p)) (fun r => True) p.zA.length
   (fun i t hi ht => by
    subst ht; have hx := lge hi; simp only [zch.r0, zch.b0, zai, hx, obs, dct (show (i : Int) < (p.zA.length : Int) by omega), ctr, orB]; rw [w6e (n := (i : Int) + 1)]; cases (decide ((p.zA[i].Name.size : Int) > 100) || decide ((p.zA[i].Base.size : Int) > 100)) || decide ((p.zA[i].Value.S.size : Int) > 600) with
    | true => exact .inr ⟨_, rfl, trivial⟩
    | false => exact .inl ⟨_, rfl, rfl⟩)
   (fun t ht => by
    subst ht; simp only [zch.r0, zch.b0, dcf (show ¬ (p.zA.length : Int) < (p.zA.length : Int) by omega), cfa]; exact ⟨_, rfl, rfl⟩) (N := N) (by omega) (s := (0, p)) rfl
  rcases l1 with ⟨t, g1, g2⟩ | ⟨r, g1, _⟩
  · rw [g1, g2]; simp only [obs, zb5]; have l2 := zta (f := zch.r2 N) (fun i t => t = ((i : Int), p)) (fun r => True) p.zF.length
     (fun i t hi ht => by
      subst ht; have hx := lge hi; simp only [zch.r2, zch.b2, zai, hx, obs, dct (show (i : Int) < (p.zF.length : Int) by omega), ctr]; rw [w6e (n := (i : Int) + 1)]; cases decide ((p.zF[i].Args.length : Int) > 6) with
      | true => exact .inr ⟨_, rfl, trivial⟩
      | false => exact .inl ⟨_, rfl, rfl⟩)
     (fun t ht => by
      subst ht; simp only [zch.r2, zch.b2, dcf (show ¬ (p.zF.length : Int) < (p.zF.length : Int) by omega), cfa]; exact ⟨_, rfl, rfl⟩) (N := N) (by omega) (s := (0, p)) rfl
    rcases l2 with ⟨t, g3, _⟩ | ⟨r, g3, _⟩
    · rw [g3]; exact ⟨_, rfl⟩
    · rw [g3]; exact ⟨_, rfl⟩
  · rw [g1]; exact ⟨_, rfl⟩
theorem z7x (N : Nat) (l : List ByteArray) (h : l.length < N) (hl : l.length < 1000000) : zck N l l = some true := by
 unfold zck
 simp only [bsf, cfa]
 have l1 := zbh (f := zck.r0 N) (fun i => (l, l, (i : Int))) (fun _ => none) l.length
  (fun i hi => by
   have hx := lge hi; simp only [zck.r0, zck.b0, zai, hx, obs, dct (show (i : Int) < (l.length : Int) by omega), ctr, bst, bnt, cfa]; rw [w6e]; rfl)
  (by simp only [zck.r0, zck.b0, dcf (show ¬ (l.length : Int) < (l.length : Int) by omega), cfa]) h
 simp only [nc0] at l1
 rw [l1]
 have : ∀ l : List Nat, l.findSome? (fun _ => (none : Option Bool)) = none := fun l => by rw [List.findSome?_eq_none_iff]; intros; rfl
 rw [this]
 rfl
theorem zags : zqa 2000000 = some true := by kernel_rfl
end
theorem z8c (p : Nat → Bool) (n : Nat) {R : Type} (r : Nat → R) : (List.range n).any p = ((List.range n).findSome? fun i => if p i = true then some (r i) else none).isSome := by
 induction List.range n with
 | nil => rfl
 | cons a l ih =>
  rw [List.any_cons, List.findSome?_cons]; cases h : p a with
  | true => simp
  | false => simpa using ih
theorem z9d {σ : Type} {f : σ → Option (Round Int σ)} (S : Nat → σ) (p : Nat → Bool) (n : Nat) (h : ∀ i, i < n → f (S i) = some (if p i = true then .result (i : Int) else .again (S (i + 1)))) (hl : f (S n) = some (.leave (S n))) {N : Nat} (hN : n < N) :
 (((zj f N (S 0)).bind fun z2 => zb5 z2 (fun z => some z) (fun _ => some (-1))).bind fun r1 => some (decide (r1 ≥ 0))) = some ((List.range n).any p) := by
 have l1 := zbh (f := f) S (fun i => if p i = true then some (i : Int) else none) n (fun i hi => by rw [h i hi]; cases p i <;> rfl) hl hN
 rw [l1, z8c p n (fun i => (i : Int))]
 cases h2 : (List.range n).findSome? (fun i => if p i = true then some (i : Int) else none) with
 | none => rfl
 | some r =>
  obtain ⟨i, _, hi⟩ := eof h2; split at hi
  · injection hi with hi; subst hi; simp only [obs, zb5, Option.isSome_some]; rw [dct (by omega)]
  · cases hi
theorem z8j {σ : Type} {R : Type} {f : σ → Option (Round R σ)} (S : Nat → σ) (p : Nat → Bool) (e : R) (n : Nat) (h : ∀ i, i < n → f (S i) = some (if p i = true then .result e else .again (S (i + 1)))) (hl : f (S n) = some (.leave (S n))) {N : Nat} (hN : n < N) (K : σ → Option R) :
 ((zj f N (S 0)).bind fun z => zb5 z (fun z => some z) K) = if (List.range n).any p = true then some e else K (S n) := by
 have l1 := zbh (f := f) S (fun i => if p i = true then some e else none) n (fun i hi => by rw [h i hi]; cases p i <;> rfl) hl hN
 rw [l1, z8c p n (fun i => e)]
 cases h2 : (List.range n).findSome? (fun i => if p i = true then some e else none) with
 | none => rfl
 | some r =>
  obtain ⟨i, _, hi⟩ := eof h2; split at hi
  · injection hi with hi; subst hi; rfl
  · cases hi
def ze4 (t : List Bool) : Nat → List Int
 | 0 => []
 | i + 1 => if t.getD i false = true then ze4 t i ++ [(i : Int) * 16] else ze4 t i
theorem zwe (t : List Bool) : ∀ i, (ze4 t i).length ≤ i
 | 0 => Nat.le_refl 0
 | i + 1 => by
  have := zwe t i; unfold ze4; split
  · rw [lna, lns]; omega
  · omega
theorem z31 (t : List Bool) (o : Int) : ∀ i, o ∈ ze4 t i ↔ ∃ k : Nat, k < i ∧ t.getD k false = true ∧ o = (k : Int) * 16
 | 0 => by simp [ze4]
 | i + 1 => by
  have ih := z31 t o i; unfold ze4; constructor
  · intro h; split at h
    · rename_i hi; rcases List.mem_append.1 h with h | h
      · obtain ⟨k, h1, h2⟩ := ih.1 h; exact ⟨k, by omega, h2⟩
      · rw [List.mem_singleton] at h; exact ⟨i, by omega, hi, h⟩
    · obtain ⟨k, h1, h2⟩ := ih.1 h; exact ⟨k, by omega, h2⟩
  · rintro ⟨k, h1, h2, h3⟩
    by_cases hk : k = i
    · subst hk; rw [ifp h2]; exact List.mem_append_right _ (by rw [h3]; exact List.mem_singleton_self _)
    · have := ih.2 ⟨k, by omega, h2, h3⟩; split
      · exact List.mem_append_left _ this
      · exact this
structure StoW (s : Storage) : Prop where
 le : s.Bytes.size ≤ 1024
 quad : s.Bytes.size % 16 = 0
 tags : s.Tags.length = s.Bytes.size / 16
 err : zqn s = ((s.Tags.length : Int), 0)
 ptr : ∀ i, s.Tags[i]? = some true → (zk7 (zlg s i)).2 = 0
theorem z5t {s : Storage} (h : (zqn s).2 = 0) : StoW s := by
 have h0 := h
 unfold zqn at h0
 split at h0
 · cases h0
 split at h0
 · cases h0
 split at h0
 · cases h0
 rename_i a1 a2 a3
 have ht : s.Tags.length = s.Bytes.size / 16 := cbc a3
 cases hf : (List.range s.Tags.length).findSome? (gS s) with
 | some r =>
  rw [hf] at h0; obtain ⟨i, _, hi⟩ := eof hf; unfold gS at hi; cases hx : s.Tags[i]? with
  | none => rw [hx] at hi; cases hi
  | some b =>
   rw [hx] at hi; simp only [obs] at hi; split at hi
   · injection hi with hi; subst hi; cases h0
   · cases hi
 | none =>
  refine ⟨by omega, by omega, ht, ?_, fun i hi => ?_⟩
  · unfold zqn; rw [ifn a1, ifn a2, ifn a3, hf]
  · rw [List.findSome?_eq_none_iff] at hf; have hl := (gei hi).1; have := hf i (List.mem_range.2 hl); unfold gS at this; rw [hi] at this; simp only [obs] at this; split at this
    · cases this
    · rename_i h5; exact cbc fun h6 => h5 ⟨trivial, h6⟩
def z4c (s : Storage) (o : Int) : Bool := (zk7 (zlg s (o / 16).toNat)).1.Kind != 0 || (zk7 (zlg s (o / 16).toNat)).1.Address.zS != 1
theorem z6j (s : Storage) (k : Nat) : ((zk7 (zlg s k)).1.Kind != 0 || (zk7 (zlg s k)).1.Address.zS != 1) = z4c s ((k : Int) * 16) := by
 unfold z4c
 rw [show ((k : Int) * 16 / 16).toNat = k by omega]
theorem z91 (N : Nat) (s : Storage) (h : s.Tags.length ≤ 64) (hN : 2000 < N) : zcl N s = some (ze4 s.Tags s.Tags.length) := by
 unfold zcl
 have l1 := za1 (f := zcl.r0 N) (fun i => (ze4 s.Tags i, (i : Int), s)) s.Tags.length
  (fun i hi => by
   have hx := lge hi; have hg : s.Tags.getD i false = s.Tags[i] := by rw [gdd, hx]; rfl
   have := zwe s.Tags i; have rm : Nat.ble (((ze4 s.Tags i).length + ([(w6 ((i : Int) * 16))] : List Int).length) * 8) zbr = true := Nat.ble_eq_true_of_le (by unfold zbr; simp; omega); simp only [zcl.r0, zcl.b0, zai, hx, obs, dct (show (i : Int) < (s.Tags.length : Int) by omega), ctr, rm]; rw [w6e (n := (i : Int) + 1), w6e (n := (i : Int) * 16), ze4, hg]; cases s.Tags[i] <;> rfl)
  (by simp only [zcl.r0, zcl.b0, dcf (show ¬ (s.Tags.length : Int) < (s.Tags.length : Int) by omega), cfa]) (N := N) (by omega)
 simp only [nc0] at l1
 exact congrArg (fun z => z.bind fun y1 => some y1.1) l1
theorem z9x (N : Nat) (s : Storage) (h : StoW s) (hN : 2000 < N) : zbj N s = some (ze4 s.Tags s.Tags.length, 0) := by
 have hle := h.le
 have htg := h.tags
 unfold zbj
 rw [(zqm N hN s).1, h.err]
 simp only [obs, bsf, cfa]
 have l1 := za1 (f := zbj.r0 N) (fun i => (ze4 s.Tags i, s.Tags, (s.Tags.length : Int), (i : Int))) s.Tags.length
  (fun i hi => by
   have hx := lge hi; have hg : s.Tags.getD i false = s.Tags[i] := by rw [gdd, hx]; rfl
   have := zwe s.Tags i; have rm : Nat.ble (((ze4 s.Tags i).length + ([(w6 ((i : Int) * 16))] : List Int).length) * 8) zbr = true := Nat.ble_eq_true_of_le (by unfold zbr; simp; omega); simp only [zbj.r0, zbj.b0, zai, hx, obs, dct (show (i : Int) < (s.Tags.length : Int) by omega), ctr, rm]; rw [w6e (n := (i : Int) + 1), w6e (n := (i : Int) * 16), ze4, hg]; cases s.Tags[i] <;> rfl)
  (by simp only [zbj.r0, zbj.b0, dcf (show ¬ (s.Tags.length : Int) < (s.Tags.length : Int) by omega), cfa]) (N := N) (by omega)
 simp only [nc0] at l1
 exact congrArg (fun z => z.bind fun y1 => some (y1.1, (0 : Int))) l1
theorem zac3 (N : Nat) (hN : 2000 < N) {s : Storage} (h : StoW s) {k : Nat} (hk : s.Tags[k]? = some true) : zdh N s ((k : Int) * 16) = some (zk7 (zlg s k)) := by
 have hl := h.le
 have hq := h.quad
 have ht := h.tags
 have hi := (gei hk).1
 unfold zdh zir
 rw [(zqm N hN s).1, h.err]
 simp only [obs, bsf, cfa]
 rw [dcf (show ¬ (k : Int) * 16 < 0 by omega), dcf (show ¬ (k : Int) * 16 ≥ (s.Bytes.size : Int) by omega), tme, show ((k : Int) * 16) % 16 = 0 by omega]
 simp only [bsf, cfa, obs]
 rw [tde, show ((k : Int) * 16) / 16 = (k : Int) by omega, w6e (n := (k : Int)), zai, hk]
 simp only [obs, bnt, cfa]
 rw [w6e, ifp, ifp, show ((k : Int) * 16).toNat = 16 * k by omega, show ((k : Int) * 16 + 16).toNat = 16 * k + 16 by omega, z74 N (by omega) _ (by rw [zc2 _ _ _ (by omega) (by omega)]; omega), znd]
 rfl
theorem zadf (N : Nat) (hN : 2000 < N) {s : Storage} (h : StoW s) {k : Nat} (hk : s.Tags[k]? = some true) : zgq N s ((k : Int) * 16) = some ((zk7 (zlg s k)).1, 0) := by
 have hl := h.le
 have hq := h.quad
 have ht := h.tags
 have hi := (gei hk).1
 unfold zgq zku
 rw [zhk, w6e, tme, show ((k : Int) * 16) % 16 = 0 by omega, show inB ((k : Int) * 16) 0 ((s.Bytes.size : Int) - 16) = true by unfold inB; rw [dct (by omega), dct (by omega)]; rfl]
 simp only [obs, bst, ctr, bnt, cfa]
 rw [tde, show ((k : Int) * 16) / 16 = (k : Int) by omega, w6e (n := (k : Int)), zai, hk]
 simp only [obs, bnt, cfa]
 unfold zkc
 rw [w6e (n := (k : Int) * 16), w6e, ifp, ifp, show ((k : Int) * 16).toNat = 16 * k by omega, show ((k : Int) * 16 + 16).toNat = 16 * k + 16 by omega]
 simp only [obs]
 rw [z8f N (by omega) _ (by rw [zc2 _ _ _ (by omega) (by omega)]; omega), znd]
 rfl
theorem z8y {s : Storage} {i : Nat} (h : i < (ze4 s.Tags s.Tags.length).length) : ∃ k : Nat, s.Tags[k]? = some true ∧ (ze4 s.Tags s.Tags.length)[i] = (k : Int) * 16 := by
 obtain ⟨k, h1, h2, h3⟩ := (z31 s.Tags _ _).1 (List.getElem_mem h)
 refine ⟨k, ?_, h3⟩
 rw [gdd, lge h1] at h2
 rw [lge h1]
 exact congrArg some h2
def z9w (s : Storage) : Bool := (List.range (ze4 s.Tags s.Tags.length).length).any fun i => z4c s ((ze4 s.Tags s.Tags.length).getD i 0)
theorem zacj {α : Type} (d : α) {l : List α} {k : Int} (h : inB k 0 ((l.length : Int) - 1) = true) : idx l k = some (l.getD k.toNat d) := by
 unfold inB at h
 rw [Bool.and_eq_true, decide_eq_true_iff, decide_eq_true_iff] at h
 obtain ⟨j, rfl⟩ : ∃ j : Nat, k = (j : Int) := ⟨k.toNat, by omega⟩
 rw [zai, itn, gdd, lge (by omega)]
 rfl
def anyL (l : List ByteArray) : Bool := (List.range l.length).any fun i => decide (((l.getD i ⟨#[]⟩).size : Int) > 256)
theorem zrk {α : Type} (d : α) {l : List α} {i : Nat} (h : i < l.length) : l.getD i d = l[i] := by
 rw [gdd, lge h]; rfl
theorem zru (x : Int) (l : List Int) : zhe (x :: l) = if x = 0 then zhe l else x := rfl
theorem z7f : ∀ (l : List Int), zhe l = 0 ↔ ∀ x ∈ l, x = 0
 | [] => by simp [zhe]
 | x :: l => by
  rw [zru, List.forall_mem_cons, ← z7f l]
  by_cases h : x = 0
  · rw [ifp h]; exact ⟨fun h1 => ⟨h, h1⟩, fun h1 => h1.2⟩
  · rw [ifn h]; exact ⟨fun h1 => absurd h1 h, fun h1 => h1.1⟩
theorem z13 {p : Nat → Bool} {n : Nat} (h : (List.range n).any p = false) {i : Nat} (hi : i < n) : p i = false := by
 rw [List.any_eq_false] at h
 exact Bool.eq_false_iff.2 (h i (List.mem_range.2 hi))
theorem zaew {l : List UInt8} (h : (zk7 l).2 = 0) : zk7 l = (zwd l, 0) ∧ zqz (zwd l) = 0 := by
 unfold zk7 at h ⊢
 split at h
 · cases h
 · rename_i h1; rw [ifn h1]; split at h
   · rename_i h2; exact absurd h h2
   · rename_i h2; rw [ifn h2]; exact ⟨rfl, cbc h2⟩
theorem zad5 {p : Pointer} (h : zqz p = 0) (hk : p.Kind = 0) (hs : p.Address.zS = 1) : p = zji p.Address.Offset ∧ 0 ≤ p.Address.Offset ∧ p.Address.Offset ≤ 16777215 := by
 obtain ⟨k, ⟨g, o⟩, a⟩ := p
 subst hk hs
 unfold zqz at h
 simp only at h ⊢
 rw [show inB (0 : Int) 0 2 = true from rfl, show inB (1 : Int) 0 1099511627775 = true from rfl] at h
 simp only [bnt, cfa, Bool.false_or, Bool.and_true, show ((0 : Int) != 1) = true from rfl] at h
 cases h1 : inB o 0 16777215 with
 | false => rw [h1] at h; cases h
 | true =>
  rw [h1] at h; cases h2 : inB a 0 1023 with
  | false => rw [h2] at h; cases h
  | true =>
   rw [h2] at h
   by_cases h3 : a = 0
   · subst h3; rw [zbf] at h1; exact ⟨rfl, h1.1, h1.2⟩
   · rw [zd1, dct h3] at h; cases h
theorem zac4 {s : Storage} {k : Nat} (h : s.Tags[k]? = some true) : ∃ i, i < (ze4 s.Tags s.Tags.length).length ∧ (ze4 s.Tags s.Tags.length).getD i 0 = (k : Int) * 16 := by
 have hl := (gei h).1
 have hm : (k : Int) * 16 ∈ ze4 s.Tags s.Tags.length := (z31 _ _ _).2 ⟨k, hl, by rw [gdd, h]; rfl, rfl⟩
 obtain ⟨i, hi, he⟩ := List.getElem_of_mem hm
 exact ⟨i, hi, by rw [zrk _ hi, he]⟩
theorem cnd0 {b : Bool} {e : Int} (he : e ≠ 0) : cond b e 0 = 0 ↔ b = false := by
 cases b
 · simp
 · simp [he]
theorem zaa0 (N : Nat) (l : List Bool) (h : l.length < N) (hl : l.length < 1000000) : zep N l l = some true := by
 unfold zep
 simp only [bsf, cfa]
 have l1 := zbh (f := zep.r0 N) (fun i => (l, l, (i : Int))) (fun _ => none) l.length
  (fun i hi => by
   have hx := lge hi; simp only [zep.r0, zep.b0, zai, hx, obs, dct (show (i : Int) < (l.length : Int) by omega), ctr, bst, bnt, cfa]; rw [w6e]; rfl)
  (by simp only [zep.r0, zep.b0, dcf (show ¬ (l.length : Int) < (l.length : Int) by omega), cfa]) h
 simp only [nc0] at l1
 rw [l1]
 have : ∀ l : List Nat, l.findSome? (fun _ => (none : Option Bool)) = none := fun l => by rw [List.findSome?_eq_none_iff]; intros; rfl
 rw [this]
 rfl
theorem zac8 (N : Nat) (s : Storage) (h : s.Tags.length < N) (hl : s.Tags.length < 1000000) : zh7 N s s = some true := by
 unfold zh7
 rw [bst, ctr, zaa0 N _ h hl]
 rfl
section
variable {p : zB} {s : zC}
def z9f (s : zC) : Prop := s.Storage.Bytes.size ≤ 1048576 ∧ s.Storage.Tags.length ≤ 1048576 ∧ s.Stack.length ≤ 1048576 ∧ s.Lines.length ≤ 1048576
def zws (p : zB) (k : Int) : Bool := !inB k 0 ((p.zF.length : Int) - 1) || (p.zF.getD k.toNat ⟨0, []⟩).Op != 13
def anyM (p : zB) (l : List Int) : Bool := (List.range l.length).any fun i => zws p (l.getD i 0)
def zs3 (p : zB) (t : Storage) : Int := if (t.Bytes.size : Int) ≠ 16 * zla p.zA then 18 else if (zqn t).2 ≠ 0 then (zqn t).2 else cond (z9w t) 22 0
def lstM (p : zB) (s : zC) : List Int := [cond (!inB s.At 0 ((p.zF.length : Int) - 1)) 3 0,
 cond (decide ((s.Stack.length : Int) > 6) || decide ((s.Lines.length : Int) > 40)) 2 0, cond (anyM p s.Stack) 3 0, cond (anyL s.Lines) 18 0, cond (!inB s.Status 0 3) 4 0,
 cond (!(inB s.Exception 0 999 && inB s.Steps 0 300)) 3 0]
def zzw (p : zB) (s : zC) : Int := if (zo9 p).2 ≠ 0 then (zo9 p).2 else if zs3 p s.Storage ≠ 0 then zs3 p s.Storage else zhe (lstM p s)
theorem zabq {t : Storage} (h : zs3 p t = 0) : StoP p t := by
 unfold zs3 at h
 split at h
 · cases h
 rename_i h1
 split at h
 · rename_i h2; exact absurd h h2
 rename_i h2
 have hw := z5t (cbc h2)
 cases h3 : z9w t with
 | true => rw [h3] at h; cases h
 | false =>
  refine ⟨⟨hw.le, hw.quad, hw.tags, fun i hi => ?_⟩, by omega⟩; obtain ⟨j, j1, j2⟩ := zac4 hi; have hb := z13 h3 j1; rw [j2, ← z6j, Bool.or_eq_false_iff] at hb; obtain ⟨p1, p2⟩ := zaew (hw.ptr i hi); rw [p1, zd1, zd1, decide_eq_false_iff_not, decide_eq_false_iff_not] at hb; obtain ⟨c1, c2⟩ := zad5 p2 (cbc hb.1) (cbc hb.2); exact ⟨_, c2, by rw [p1, ← c1]⟩
theorem zad7 (p : zB) (k : Int) : zws p k = false ↔ (0 ≤ k ∧ k < (p.zF.length : Int)) ∧ ∃ x, p.zF[k.toNat]? = some x ∧ x.Op = 13 := by
 unfold zws
 rw [Bool.or_eq_false_iff, Bool.not_eq_false', zbf, zd1, decide_eq_false_iff_not, Classical.not_not]
 constructor
 · rintro ⟨h1, h2⟩
   have hl : k.toNat < p.zF.length := by omega
   rw [zrk _ hl] at h2; exact ⟨by omega, _, lge hl, h2⟩
 · rintro ⟨h1, x, h2, h3⟩
   refine ⟨by omega, ?_⟩; rw [gdd, h2]; exact h3
theorem zacm (h : zzw p s = 0) : (zo9 p).2 = 0 ∧ StI p s := by
 unfold zzw at h
 split at h
 · rename_i h1; exact absurd h h1
 rename_i h1
 split at h
 · rename_i h2; exact absurd h h2
 rename_i h2
 rw [z7f] at h
 simp only [lstM, List.forall_mem_cons, List.not_mem_nil, false_imp_iff, implies_true, and_true] at h
 obtain ⟨a3, a4, a5, a6, a7, a8⟩ := h
 rw [cnd0 (by decide)] at a3 a4 a5 a6 a7 a8
 rw [Bool.not_eq_false'] at a3 a7 a8
 rw [Bool.or_eq_false_iff, decide_eq_false_iff_not, decide_eq_false_iff_not] at a4
 rw [Bool.and_eq_true, zbf, zbf] at a8
 rw [zbf] at a3 a7
 refine ⟨cbc h1, {
  sto := zabq (cbc h2)
  at0 := a3.1
  at1 := by omega
  stk := by omega
  calls := fun k hk => by
   obtain ⟨i, hi, he⟩ := List.getElem_of_mem hk; have := z13 a5 hi; rw [zrk _ hi, he] at this; exact (zad7 p k).1 this
  lines := by omega
  long := fun l hl => by
   obtain ⟨i, hi, he⟩ := List.getElem_of_mem hl; have := z13 a6 hi; rw [zrk _ hi, he, decide_eq_false_iff_not] at this; omega
  st0 := a7.1
  st1 := a7.2
  ex0 := a8.1.1
  ex1 := a8.1.2
  sp0 := a8.2.1
  sp1 := a8.2.2 }⟩
theorem z45 (t : zC) : (zsn t).Storage = t.Storage ∧ (zsn t).Lines = t.Lines ∧ (zsn t).Exception = t.Exception := by
 unfold zsn
 split <;> exact ⟨rfl, rfl, rfl⟩
theorem z9y (N : Nat) (hN : 20000 < N) (h : ProgV p) (hs : StI p s) (hrun : s.Status = 0) (h3 : s.Steps < 300) (h0 : s.Exception = 0) :
 (zqc p s).Exception = 0 ∨ ((zqc p s).Storage = s.Storage ∧ (zqc p s).Lines = s.Lines) := by
 have a0 := hs.at0
 have a1 := hs.at1
 have p0 := hs.sp0
 have hx : p.zF[s.At.toNat]? = some (zzq p s) := by
  unfold zzq; rw [gdd, lge (by omega)]; rfl
 have hs1 : StI p (mP s (s.Steps + 1)) := hs.P (by omega) (by omega)
 have hb := z9s N hN h hs1 (x := zzq p s) hx
 unfold zqc
 rcases hb with ⟨e, nx, ny, t, g1, g2, g3, g4⟩ | ⟨n, k, t, g1, g3, g4, g5, g6, g7, g8, g9⟩
 · right; rw [g1]; have hse : StI p (mE (mP s (s.Steps + 1)) e) := hs1.E (by omega) (by omega); obtain ⟨k1, k2, k3, k4, k5, k6, k7, k8⟩ := zxr N hN h e (by omega) ⟨⟨⟨#[]⟩, []⟩, 0, [], [], 0, 0, 0⟩ (s.Stack.length + 1) _ hse (Nat.lt_succ_self _) N (by have := hs.stk; omega); obtain ⟨f1, f2, f3⟩ := z45 (zj8 p e (s.Stack.length + 1) (mE (mP s (s.Steps + 1)) e)); exact ⟨f1.trans k6, f2.trans k7⟩
 · left; rw [g1]; have g9' : t.Exception = 0 := g9.trans h0; show (if t.Status ≠ 0 then t else if n = (p.zF.length : Int) then mT t 1 else zsn (mA t n)).Exception = 0; split
   · exact g9'
   · split
     · exact g9'
     · exact (z45 _).2.2.trans g9'
end
section
variable {p : zB} {s : zC}
theorem z2m (b : Bool) (e : Int) : zcx b e = some (cond b e 0) := by cases b <;> rfl
theorem zae3 (N : Nat) (hN : 1100 < N) (p : zB) : zgu N p = some (zo9 p).2 := by
 unfold zgu
 rw [z8t N hN]
 rfl
theorem z33 (N : Nat) (l : List Int) (h : l.length < N) (hl : l.length < 1000000000) : zaz N l = some (zhe l) := by
 unfold zaz
 have := zbh (f := zaz.r0 N) (fun i => (l, (l.length : Int), (i : Int))) (fun i => (l[i]?).bind fun x => if x = 0 then none else some x) l.length
  (fun i hi => by
   have hx := lge hi; simp only [zaz.r0, zaz.b0, zai, hx, obs, dct (show (i : Int) < (l.length : Int) by omega), ctr]
   by_cases h0 : l[i] = 0
   · simp only [h0, bsf, cfa, if_true]; rw [w6e]; rfl
   · simp only [h0, if_false]; rw [show (l[i] != 0) = true by simpa using h0]; rfl)
  (by simp only [zaz.r0, zaz.b0, dcf (show ¬ (l.length : Int) < (l.length : Int) by omega), cfa]) h
 simp only [nc0] at this
 rw [this, zmh, ← zot]
 simp only [obs]
 cases l.findSome? (fun x => if x = 0 then none else some x) <;> rfl
end
section
variable {p : zB} {s : zC}
def z71 (s : zC) (i : Nat) : Option Bool := (s.Lines[i]?).bind fun l => if decide ((l.size : Int) > 300) = true then some false else none
def fewM (s : zC) : Bool := match (List.range (min s.Lines.length 44)).findSome? (z71 s) with
 | some r => r
 | none => (((decide ((s.Storage.Bytes.size : Int) ≤ 480) && decide ((s.Storage.Tags.length : Int) ≤ 30)) && decide ((s.Stack.length : Int) ≤ 9)) && decide ((s.Lines.length : Int) < 44))
theorem zahn (N : Nat) (hN : 1000 < N) (s : zC) : zf2 N s = some (fewM s) := by
 unfold zf2 fewM
 have l1 := zbh (f := zf2.r0 N) (fun i => ((i : Int), s)) (z71 s) (min s.Lines.length 44)
  (fun i hi => by
   have hlt : i < s.Lines.length := by omega
   have hx := lge hlt; simp only [zf2.r0, zf2.b0, zxs, obs, dct (show (i : Int) < (s.Lines.length : Int) by omega), dct (show (i : Int) < 44 by omega), Bool.and_self, ctr, zai, hx, z71]; rw [w6e (n := (i : Int) + 1)]; cases (decide ((s.Lines[i].size : Int) > 300)) <;> rfl)
  (by
   have e : (decide (((min s.Lines.length 44 : Nat) : Int) < (s.Lines.length : Int)) && decide (((min s.Lines.length 44 : Nat) : Int) < 44)) = false := by
    by_cases h : s.Lines.length < 44
    · rw [dcf (show ¬ ((min s.Lines.length 44 : Nat) : Int) < (s.Lines.length : Int) by omega)]; rfl
    · rw [dcf (show ¬ ((min s.Lines.length 44 : Nat) : Int) < 44 by omega)]; simp
   simp only [zf2.r0, zf2.b0, zxs, obs, e, cfa]) (N := N) (by omega)
 simp only [nc0] at l1
 rw [l1]
 cases (List.range (min s.Lines.length 44)).findSome? (z71 s) with
 | some r => rfl
 | none =>
  simp only [obs, zb5, zxs]
end
section
variable {p : zB} {s : zC}
theorem zabs {n : Nat} (h : Wft En n Ty.zC s) : s.Storage.Bytes.size ≤ n ∧ s.Storage.Tags.length ≤ n ∧ s.Stack.length ≤ n ∧ s.Lines.length ≤ n := by
 have h1 := h (.sc (.string s.Storage.Bytes)) (by show _ ∈ zmr s; simp [zmr])
 have h2 := h (.lst Ty.bool s.Storage.Tags) (by show _ ∈ zmr s; simp [zmr])
 have h4 := h (.lst (Ty.int .i64) s.Stack) (by show _ ∈ zmr s; simp [zmr])
 have h5 := h (.lst Ty.str s.Lines) (by show _ ∈ zmr s; simp [zmr])
 cases h1 with
 | str h1 =>
  cases h2 with
  | lst h2 _ =>
   cases h4 with
   | lst h4 _ =>
    cases h5 with
    | lst h5 _ => exact ⟨h1, h2, h4, h5⟩
theorem zae0 (hs : z9f s) : zkf s = some s := by
 obtain ⟨w1, w2, w4, w5⟩ := hs
 unfold zkf zhn zks zhv zjt
 rw [zqp (by omega), zqp (by omega), zqp (by omega)]
 rfl
theorem zady (p : zB) (hlen : p.zF.length < 1000000000) (k : Int) : zfa k (p.zF.length : Int) p = some (zws p k) := by
 unfold zfa zha zws
 rw [w6e, z2l]
 simp only [obs]
 cases h : inB k 0 ((p.zF.length : Int) - 1) with
 | false => rfl
 | true =>
  rw [zacj ⟨0, []⟩ h]; rfl
theorem zab5 (p : zB) (hlen : p.zF.length < 1000000000) (k : Int) : ((zf k 0 (w6 ((p.zF.length : Int) - 1))).bind fun r => (cond (!r) (some true) ((idx p.zF k).bind fun x => some (x.Op != 13)))) = some (zws p k) := by
 unfold zws
 rw [w6e, zhk]
 simp only [obs]
 cases h : inB k 0 ((p.zF.length : Int) - 1) with
 | false => rfl
 | true =>
  rw [zacj ⟨0, []⟩ h]; rfl
theorem zadx (N : Nat) (p : zB) (hlen : p.zF.length < 1000000000) (l : List Int) (h : l.length < N) (hl : l.length < 1000000000) : zds N l (p.zF.length : Int) p = some (anyM p l) := by
 unfold zds zaj
 have l1 := z9d (f := zaj.r0 N) (fun i => (l, (l.length : Int), (i : Int), (p.zF.length : Int), p)) (fun i => zws p (l.getD i 0)) l.length
  (fun i hi => by
   have hx := lge hi; simp only [zaj.r0, zaj.b0, zai, hx, obs, dct (show (i : Int) < (l.length : Int) by omega), ctr, zady p hlen, zrk 0 hi]; rw [w6e]; cases zws p l[i] <;> rfl)
  (by simp only [zaj.r0, zaj.b0, dcf (show ¬ (l.length : Int) < (l.length : Int) by omega), cfa]) (N := N) h
 simp only [nc0] at l1
 exact l1
theorem zadw (N : Nat) (l : List ByteArray) (h : l.length < N) (hl : l.length < 1000000000) : zc3 N l = some (anyL l) := by
 unfold zc3 zab
 have l1 := z9d (f := zab.r0 N) (fun i => (l, (l.length : Int), (i : Int))) (fun i => decide (((l.getD i ⟨#[]⟩).size : Int) > 256)) l.length
  (fun i hi => by
   have hx := lge hi; simp only [zab.r0, zab.b0, zai, hx, obs, dct (show (i : Int) < (l.length : Int) by omega), ctr, zg9, zrk _ hi]; rw [w6e]; cases decide ((l[i].size : Int) > 256) <;> rfl)
  (by simp only [zab.r0, zab.b0, dcf (show ¬ (l.length : Int) < (l.length : Int) by omega), cfa]) (N := N) h
 simp only [nc0] at l1
 exact l1
theorem zab4 (N : Nat) (p : zB) (hlen : p.zF.length < 1000000000) (s : zC) (h : s.Stack.length < N) (hl : s.Stack.length < 1000000000) (K : Int × zB × zC → Option Int) :
 ((zj (zav.r2 N) N (0, p, s)).bind fun z => zb5 z (fun z => some z) K) = if anyM p s.Stack = true then some 3 else K ((s.Stack.length : Int), p, s) := by
 have l1 := z8j (f := zav.r2 N) (fun i => ((i : Int), p, s)) (fun i => zws p (s.Stack.getD i 0)) 3 s.Stack.length
  (fun i hi => by
   have hx := lge hi; have hk := zab5 p hlen s.Stack[i]; simp only [zav.r2, zav.b2, zai, hx, obs, dct (show (i : Int) < (s.Stack.length : Int) by omega), ctr, zrk _ hi]; rw [w6e (n := (i : Int) + 1)]; rw [← Option.bind_assoc, hk]; simp only [obs]; cases zws p s.Stack[i] <;> rfl)
  (by simp only [zav.r2, zav.b2, dcf (show ¬ (s.Stack.length : Int) < (s.Stack.length : Int) by omega), cfa]) (N := N) h K
 simp only [nc0] at l1
 exact l1
theorem zabz (N : Nat) (s : zC) (h : s.Lines.length < N) (hl : s.Lines.length < 1000000000) (K : Int × zC → Option Int) :
 ((zj (zav.r4 N) N (0, s)).bind fun z => zb5 z (fun z => some z) K) = if anyL s.Lines = true then some 18 else K ((s.Lines.length : Int), s) := by
 have l1 := z8j (f := zav.r4 N) (fun i => ((i : Int), s)) (fun i => decide (((s.Lines.getD i ⟨#[]⟩).size : Int) > 256)) 18 s.Lines.length
  (fun i hi => by
   have hx := lge hi; simp only [zav.r4, zav.b4, zai, hx, obs, dct (show (i : Int) < (s.Lines.length : Int) by omega), ctr, zrk _ hi]; rw [w6e]; cases decide ((s.Lines[i].size : Int) > 256) <;> rfl)
  (by simp only [zav.r4, zav.b4, dcf (show ¬ (s.Lines.length : Int) < (s.Lines.length : Int) by omega), cfa]) (N := N) h K
 simp only [nc0] at l1
 exact l1
theorem zagh (N : Nat) (hN : 20000 < N) (h : ProgV p) (hc : (zo9 p).2 = 0) (t : Storage) : zgt N p t = some (zs3 p t) := by
 have f2 : ∀ a b : Int, zaz N [a, b] = some (zhe [a, b]) := fun a b => z33 N _ (by simp; omega) (by simp)
 have hl := z42 h
 unfold zgt zs3
 rw [z6u N hN h hc]
 simp only [obs, z2m, f2]
 rw [w6e, show zla p.zA * 16 = 16 * zla p.zA by omega]
 by_cases h1 : (t.Bytes.size : Int) = 16 * zla p.zA
 · rw [h1, ifn]; rw [show zhe [0, cond (16 * zla p.zA != 16 * zla p.zA) 18 0] = 0 by rw [bsf]; rfl]; simp only [bsf, cfa]; rw [(zqm N (by omega) t).1]; simp only [obs]
   by_cases h2 : (zqn t).2 = 0
   · have hw := z5t h2; have hle := hw.le; have htg := hw.tags; have hol := zwe t.Tags t.Tags.length; rw [h2, ifn]; simp only [bsf, cfa]; rw [z9x N t hw (by omega)]; simp only [obs]; unfold ze7 zah; have l1 := z9d (f := zah.r0 N) (fun i => (ze4 t.Tags t.Tags.length, ((ze4 t.Tags t.Tags.length).length : Int), (i : Int), t)) (fun i => z4c t ((ze4 t.Tags t.Tags.length).getD i 0)) (ze4 t.Tags t.Tags.length).length
      (fun i hi => by
       obtain ⟨k, k1, k2⟩ := z8y hi; have hx := lge hi; have hg : (ze4 t.Tags t.Tags.length).getD i 0 = (k : Int) * 16 := by rw [gdd, hx, k2]; rfl
       simp only [zah.r0, zah.b0, zai, hx, obs, dct (show (i : Int) < ((ze4 t.Tags t.Tags.length).length : Int) by omega), ctr, k2, hg, zg8]; rw [zac3 N (by omega) hw k1, w6e]; simp only [obs, orB]; rw [z6j]; cases z4c t ((k : Int) * 16) <;> rfl)
      (by simp only [zah.r0, zah.b0, dcf (show ¬ ((ze4 t.Tags t.Tags.length).length : Int) < ((ze4 t.Tags t.Tags.length).length : Int) by omega), cfa]) (N := N) (by omega)
     simp only [nc0] at l1; rw [l1]; simp only [obs, z2m]; rfl
   · rw [ifp h2, zd1, dct h2]; rfl
 · rw [ifp h1, show zhe [0, cond ((t.Bytes.size : Int) != 16 * zla p.zA) 18 0] = 18 by rw [zd1, dct h1]; rfl]; rfl
theorem zadd (N : Nat) (hN : 2000 < N) {R : Type} (p : zB) (s : zC) (hw : StoW s.Storage) (K : (List Int) × Int × zB × zC → Option Int) :
 ((zj (zav.r0 N) N (ze4 s.Storage.Tags s.Storage.Tags.length, 0, p, s)).bind fun z10 => zb5 z10 (fun z => some z) K) = if z9w s.Storage = true then some 22 else K (ze4 s.Storage.Tags s.Storage.Tags.length, ((ze4 s.Storage.Tags s.Storage.Tags.length).length : Int), p, s) := by
 have hle := hw.le
 have htg := hw.tags
 have hol := zwe s.Storage.Tags s.Storage.Tags.length
 have l1 := z8j (f := zav.r0 N) (fun i => (ze4 s.Storage.Tags s.Storage.Tags.length, (i : Int), p, s)) (fun i => z4c s.Storage ((ze4 s.Storage.Tags s.Storage.Tags.length).getD i 0)) 22 (ze4 s.Storage.Tags s.Storage.Tags.length).length
  (fun i hi => by
   obtain ⟨k, k1, k2⟩ := z8y hi; have hx := lge hi; have hg : (ze4 s.Storage.Tags s.Storage.Tags.length).getD i 0 = (k : Int) * 16 := by rw [gdd, hx, k2]; rfl
   simp only [zav.r0, zav.b0, zai, hx, obs, dct (show (i : Int) < ((ze4 s.Storage.Tags s.Storage.Tags.length).length : Int) by omega), ctr, k2, hg]; rw [zadf N hN hw k1, w6e]; simp only [obs, orB]; rw [z6j]; cases z4c s.Storage ((k : Int) * 16) <;> rfl)
  (by simp only [zav.r0, zav.b0, dcf (show ¬ ((ze4 s.Storage.Tags s.Storage.Tags.length).length : Int) < ((ze4 s.Storage.Tags s.Storage.Tags.length).length : Int) by omega), cfa]) (N := N) (by omega) K
 simp only [nc0] at l1
 exact l1
theorem zadv (N : Nat) (hN : 1048600 < N) (hs : z9f s) : zfb N p s = some (zzw p s) := by
 obtain ⟨w1, w2, w4, w5⟩ := hs
 have f6 : ∀ a b d e f g : Int, zaz N [a, b, d, e, f, g] = some (zhe [a, b, d, e, f, g]) := fun a b d e f g => z33 N _ (by simp; omega) (by simp)
 unfold zfb zzw
 rw [zae3 N (by omega)]
 simp only [obs]
 by_cases hc : (zo9 p).2 = 0
 · have h := z8r hc; have i40 := h.i40; rw [hc, ifn]; simp only [bsf, cfa]; rw [zagh N (by omega) h hc]; simp only [obs]
   by_cases h1 : zs3 p s.Storage = 0
   · rw [h1, ifn]; simp only [bsf, cfa]; rw [zadw N _ (by omega) (by omega), zadx N p (by omega) _ (by omega) (by omega)]; simp only [obs, z2l, z2m, orB, w6e (n := (p.zF.length : Int) - 1), f6, Bool.not_not]; unfold lstM; rw [show (!inB s.Exception 0 999 || !inB s.Steps 0 300) = !(inB s.Exception 0 999 && inB s.Steps 0 300) by cases inB s.Exception 0 999 <;> cases inB s.Steps 0 300 <;> rfl]
   · rw [ifp h1, zd1, dct h1]; rfl
 · rw [ifp hc, zd1, dct hc]; rfl
theorem zabv (N : Nat) (hN : 1048600 < N) (hs : z9f s) : zav N p s = some (zzw p s) := by
 obtain ⟨w1, w2, w4, w5⟩ := hs
 unfold zav zzw
 rw [zadi N (by omega)]
 simp only [obs]
 by_cases hc : (zo9 p).2 = 0
 case neg => rw [ifp hc, zd1, dct hc]; rfl
 have h := z8r hc
 have i40 := h.i40
 have hl := z42 h
 rw [hc, ifn]
 simp only [bsf, cfa]
 rw [zel N (by omega) h.ok]
 simp only [obs]
 rw [w6e, show zla p.zA * 16 = 16 * zla p.zA by omega]
 by_cases h2 : (s.Storage.Bytes.size : Int) = 16 * zla p.zA
 case neg =>
  rw [show zs3 p s.Storage = 18 by unfold zs3; rw [ifp h2], zd1, dct h2]; rfl
 rw [show ((s.Storage.Bytes.size : Int) != 16 * zla p.zA) = false by rw [h2]; exact bsf _]
 simp only [cfa]
 rw [show zq8 N s.Storage = some (zqn s.Storage).2 from (by unfold zq8; rw [(zqm N (by omega) s.Storage).2]; rfl)]
 simp only [obs]
 by_cases h3 : (zqn s.Storage).2 = 0
 case neg =>
  rw [show zs3 p s.Storage = (zqn s.Storage).2 by unfold zs3; rw [ifn (fun h => h h2), ifp h3], zd1, dct h3, ifp h3]; rfl
 have hw := z5t h3
 have hle := hw.le
 have htg := hw.tags
 rw [show zs3 p s.Storage = cond (z9w s.Storage) 22 0 by unfold zs3; rw [ifn (fun h => h h2), ifn (fun h => h h3)], h3]
 simp only [bsf, cfa]
 rw [z91 N s.Storage (by omega) (by omega)]
 simp only [obs]
 rw [zadd N (by omega) (R := Int) p s hw]
 cases z9w s.Storage with
 | true => rfl
 | false =>
  unfold lstM; simp only [Bool.false_eq_true, if_false, cfa, if_true, eq_self, ne_eq, not_true_eq_false, zhk, w6e (n := (p.zF.length : Int) - 1), obs]; rw [zru]; cases inB s.At 0 ((p.zF.length : Int) - 1) with
  | false => rfl
  | true =>
   simp only [bnt, cfa, if_true, eq_self, orB, obs]; rw [zru]; cases (decide ((s.Stack.length : Int) > 6) || decide ((s.Lines.length : Int) > 40)) with
   | true => rfl
   | false =>
    simp only [cfa, if_true, eq_self]; rw [zab4 N p (by omega) s (by omega) (by omega), zru]; cases anyM p s.Stack with
    | true => rfl
    | false =>
     simp only [Bool.false_eq_true, if_false, cfa, if_true, eq_self]; rw [zabz N s (by omega) (by omega), zru]; cases anyL s.Lines with
     | true => rfl
     | false =>
      simp only [Bool.false_eq_true, if_false, cfa, if_true, eq_self, zhk, obs]; rw [zru]; cases inB s.Status 0 3 with
      | false => rfl
      | true =>
       simp only [bnt, cfa, if_true, eq_self]; cases inB s.Exception 0 999 <;> cases inB s.Steps 0 300 <;> rfl
theorem zac5 (N : Nat) (hN : 20000 < N) (hp : ProgV p) (hc : (zo9 p).2 = 0) (hs : StI p s) (h : zfb N p s = some 0) (h1 : s.Status = 0) (h2 : s.Steps < 300) : zkm N p s = some (zqc p s, 0) := by
 have f2 : ∀ a b : Int, zaz N [a, b] = some (zhe [a, b]) := fun a b => z33 N _ (by simp; omega) (by simp)
 unfold zkm
 rw [h]
 simp only [obs, orB, z2m, f2]
 rw [show (s.Status != 0 || decide (s.Steps ≥ 300)) = false by rw [h1, dcf (by omega)]; rfl]
 rw [show zhe [0, cond false 26 0] = 0 from rfl, z6u N hN hp hc]
 simp only [obs, bsf, cfa]
 rw [(zabr N hN hp hs h1 h2).1]
 rfl
end
theorem plainInterpretUnchanged : zhd := by
 intro p s hp hs
 refine ⟨2000000, ?_⟩
 obtain ⟨b, hb⟩ := zaho 2000000 (by decide) hp
 have hN : 20000 < 2000000 := by decide
 have hf : z9f (mE s 0) := (zabs hs : z9f s)
 have k1 := zadv (p := p) 2000000 (by decide) hf
 unfold zet
 rw [zags]
 simp only [obs, bnt, cfa]
 rw [hb]
 cases b with
 | false => rfl
 | true =>
  simp only [obs, bnt, cfa]; rw [zahn _ (by decide)]; cases fewM s with
  | false => rfl
  | true =>
   simp only [obs, bnt, cfa, orB]; rw [show (⟨s.Storage, s.At, s.Stack, s.Lines, s.Status, 0, s.Steps⟩ : zC) = mE s 0 from rfl, zabv _ (by decide) hf]; simp only [obs]
   by_cases hq : zzw p (mE s 0) = 0 ∧ s.Status = 0 ∧ s.Steps ≠ 300
   case neg =>
    rw [show ((zzw p (mE s 0) != 0 || s.Status != 0) || s.Steps == 300) = true by
     cases h : ((zzw p (mE s 0) != 0 || s.Status != 0) || s.Steps == 300) with
     | true => rfl
     | false =>
      rw [Bool.or_eq_false_iff, Bool.or_eq_false_iff, zd1, zd1, zcn, decide_eq_false_iff_not, decide_eq_false_iff_not, decide_eq_false_iff_not, Classical.not_not, Classical.not_not] at h; exact absurd ⟨h.1.1, h.1.2, h.2⟩ hq]
    rfl
   obtain ⟨hE, hst, h30⟩ := hq; rw [hE] at k1 ⊢; obtain ⟨hc, hv⟩ := zacm hE; have h := z8r hc; have hsp : s.Steps ≤ 300 := hv.sp1; rw [hst, show (s.Steps == 300) = false by rw [zcn, dcf h30]]; simp only [bsf, Bool.or_self, cfa]; rw [zadn _ (by decide) hp, zae0 hf]; simp only [obs]; have h3 : (mE s 0).Steps < 300 := by show s.Steps < 300; omega
   rw [zac5 2000000 hN h hc hv k1 hst h3]; have hk := z9y 2000000 hN h hv hst h3 rfl; simp only [obs, bst, ctr]; generalize zqc p (mE s 0) = T at hk ⊢
   by_cases hx : T.Exception = 0
   · rw [hx]; rfl
   · rw [zcn, dcf hx, cfa]; rcases hk with hk | ⟨q2, q3⟩
     · exact absurd hk hx
     rw [q2, q3]; have a3 : s.Lines.length ≤ 40 := hv.lines; have a4 : s.Storage.Bytes.size ≤ 1024 := hv.sto.sto.le; have a5 : s.Storage.Tags.length = s.Storage.Bytes.size / 16 := hv.sto.sto.tags; have z1 : zh7 2000000 (mE s 0).Storage s.Storage = some true := zac8 2000000 s.Storage (by omega) (by omega); have z2 : zck 2000000 (mE s 0).Lines s.Lines = some true := z7x 2000000 s.Lines (by omega) (by omega); rw [z1]; simp only [obs, ctr]; rw [z2]; rfl
end
end Go.Proofs.YtmifhmfokbigiaaGreatDoor.M
namespace Go.Proofs.YtmifhmfokbigiaaGreatDoor
theorem interpretUnchanged_card : Rows.InterpretUnchangedUptoCardSaid := M.cardInterpretUnchanged M.plainInterpretUnchanged
#print axioms interpretUnchanged_card
end Go.Proofs.YtmifhmfokbigiaaGreatDoor
