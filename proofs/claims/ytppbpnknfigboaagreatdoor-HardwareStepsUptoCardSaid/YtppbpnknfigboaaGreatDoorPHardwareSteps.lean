/- HardwareSteps: the law answers true for every input of bulk at most 1048576, and its arguments read as they did; by the seat's second form, tied to the program's text. -/
import Derived.Test.YtppbpnknfigboaaGreatDoorPHardwareStepsx1
import Derived.Test.YtppbpnknfigboaaGreatDoorWHardwareSteps
namespace Go.Proofs.YtppbpnknfigboaaGreatDoor.M
open Go Go.Amx
set_option linter.unusedVariables false
set_option linter.unusedSimpArgs false
set_option maxRecDepth 100000
noncomputable section
theorem zxo {n : Nat} {s : zA} (h : Wft En n Ty.zA s) : s.Storage.Bytes.size ≤ n ∧ s.Storage.Tags.length ≤ n ∧ s.Registers.length ≤ n ∧ s.Stack.length ≤ n ∧ s.Lines.length ≤ n := by
 have h1 := h (.sc (.string s.Storage.Bytes)) (by show _ ∈ zis s; simp [zis])
 have h2 := h (.lst Ty.bool s.Storage.Tags) (by show _ ∈ zis s; simp [zis])
 have h3 := h (.lst Ty.Number s.Registers) (by show _ ∈ zis s; simp [zis])
 have h4 := h (.lst (Ty.int .i64) s.Stack) (by show _ ∈ zis s; simp [zis])
 have h5 := h (.lst Ty.str s.Lines) (by show _ ∈ zis s; simp [zis])
 cases h1 with
 | str h1 =>
  cases h2 with
  | lst h2 _ =>
   cases h3 with
   | lst h3 _ =>
    cases h4 with
    | lst h4 _ =>
     cases h5 with
     | lst h5 _ => exact ⟨h1, h2, h3, h4, h5⟩
def zrs (c : zG) (k : Int) : Bool := !inB k 0 ((c.zC.length : Int) - 1) || (c.zC.getD k.toNat ⟨0, 0, 0, 0, 0, ⟨false, 0, 0⟩, ⟨false, 0, 0⟩, ⟨0, 0, 0⟩, ⟨0, 0, 0⟩, false, false, ⟨0, 0⟩, ⟨#[]⟩, ⟨#[]⟩, 0, 0, 0, 0⟩).Op != 18
theorem z8n {α : Type} (d : α) {l : List α} {k : Int} (h : inB k 0 ((l.length : Int) - 1) = true) : idx l k = some (l.getD k.toNat d) := by
 unfold inB at h
 rw [Bool.and_eq_true, decide_eq_true_iff, decide_eq_true_iff] at h
 obtain ⟨j, rfl⟩ : ∃ j : Nat, k = (j : Int) := ⟨k.toNat, by omega⟩
 rw [zan, itn, gdd, lge (by omega)]
 rfl
theorem zaam (c : zG) (hlen : c.zC.length < 1000000000) (k : Int) : ze8 k (c.zC.length : Int) c = some (zrs c k) := by
 unfold ze8 zrs
 rw [w6e, zmn]
 simp only [obs]
 cases h : inB k 0 ((c.zC.length : Int) - 1) with
 | false => rfl
 | true =>
  rw [z8n ⟨0, 0, 0, 0, 0, ⟨false, 0, 0⟩, ⟨false, 0, 0⟩, ⟨0, 0, 0⟩, ⟨0, 0, 0⟩, false, false, ⟨0, 0⟩, ⟨#[]⟩, ⟨#[]⟩, 0, 0, 0, 0⟩ h]; rfl
theorem z96 (c : zG) (hlen : c.zC.length < 1000000000) (k : Int) : ((zf k 0 (w6 ((c.zC.length : Int) - 1))).bind fun r => (cond (!r) (some true) ((idx c.zC k).bind fun x => some (x.Op != 18)))) = some (zrs c k) := by
 unfold zrs
 rw [w6e, zgy]
 simp only [obs]
 cases h : inB k 0 ((c.zC.length : Int) - 1) with
 | false => rfl
 | true =>
  rw [z8n ⟨0, 0, 0, 0, 0, ⟨false, 0, 0⟩, ⟨false, 0, 0⟩, ⟨0, 0, 0⟩, ⟨0, 0, 0⟩, false, false, ⟨0, 0⟩, ⟨#[]⟩, ⟨#[]⟩, 0, 0, 0, 0⟩ h]; rfl
def z66 (c : zG) (l : List Int) : Bool := (List.range l.length).any fun i => zrs c (l.getD i 0)
def z65 (l : List ByteArray) : Bool := (List.range l.length).any fun i => decide (((l.getD i ⟨#[]⟩).size : Int) > 256)
def z4d (l : List Number) : Bool := (List.range l.length).any fun i => decide (zlp (l.getD i ⟨0, 0⟩) ≠ 0)
theorem zku {α : Type} (d : α) {l : List α} {i : Nat} (h : i < l.length) : l.getD i d = l[i] := by
 rw [gdd, lge h]; rfl
theorem zaal (N : Nat) (c : zG) (hlen : c.zC.length < 1000000000) (l : List Int) (h : l.length < N) (hl : l.length < 1000000000) : zdr N l (c.zC.length : Int) c = some (z66 c l) := by
 unfold zdr zam
 have l1 := z3j (f := zam.r0 N) (fun i => (l, (l.length : Int), (i : Int), (c.zC.length : Int), c)) (fun i => zrs c (l.getD i 0)) l.length
  (fun i hi => by
   have hx := lge hi; simp only [zam.r0, zam.b0, zan, hx, obs, dct (show (i : Int) < (l.length : Int) by omega), ctr, zaam c hlen, zku 0 hi]; rw [w6e]; cases zrs c l[i] <;> rfl)
  (by simp only [zam.r0, zam.b0, dcf (show ¬ (l.length : Int) < (l.length : Int) by omega), cfa]) (N := N) h
 simp only [nc0] at l1
 exact l1
theorem zaak (N : Nat) (l : List ByteArray) (h : l.length < N) (hl : l.length < 1000000000) : zcq N l = some (z65 l) := by
 unfold zcq z9
 have l1 := z3j (f := z9.r0 N) (fun i => (l, (l.length : Int), (i : Int))) (fun i => decide (((l.getD i ⟨#[]⟩).size : Int) > 256)) l.length
  (fun i hi => by
   have hx := lge hi; simp only [z9.r0, z9.b0, zan, hx, obs, dct (show (i : Int) < (l.length : Int) by omega), ctr, zgl, zku _ hi]; rw [w6e]; cases decide ((l[i].size : Int) > 256) <;> rfl)
  (by simp only [z9.r0, z9.b0, dcf (show ¬ (l.length : Int) < (l.length : Int) by omega), cfa]) (N := N) h
 simp only [nc0] at l1
 exact l1
theorem z95 (N : Nat) (c : zG) (hlen : c.zC.length < 1000000000) (s : zA) (h : s.Stack.length < N) (hl : s.Stack.length < 1000000000) (K : Int × zG × zA → Option Int) :
 ((zl (zw.r4 N) N (0, c, s)).bind fun z => zb9 z (fun z => some z) K) = if z66 c s.Stack = true then some 3 else K ((s.Stack.length : Int), c, s) := by
 have l1 := zvb (f := zw.r4 N) (fun i => ((i : Int), c, s)) (fun i => zrs c (s.Stack.getD i 0)) 3 s.Stack.length
  (fun i hi => by
   have hx := lge hi; have hk := z96 c hlen s.Stack[i]; simp only [zw.r4, zw.b4, zan, hx, obs, dct (show (i : Int) < (s.Stack.length : Int) by omega), ctr, zku _ hi]; rw [w6e (n := (i : Int) + 1)]; rw [← Option.bind_assoc, hk]; simp only [obs]; cases zrs c s.Stack[i] <;> rfl)
  (by simp only [zw.r4, zw.b4, dcf (show ¬ (s.Stack.length : Int) < (s.Stack.length : Int) by omega), cfa]) (N := N) h K
 simp only [nc0] at l1
 exact l1
theorem z91 (N : Nat) (s : zA) (h : s.Lines.length < N) (hl : s.Lines.length < 1000000000) (K : Int × zA → Option Int) :
 ((zl (zw.r6 N) N (0, s)).bind fun z => zb9 z (fun z => some z) K) = if z65 s.Lines = true then some 18 else K ((s.Lines.length : Int), s) := by
 have l1 := zvb (f := zw.r6 N) (fun i => ((i : Int), s)) (fun i => decide (((s.Lines.getD i ⟨#[]⟩).size : Int) > 256)) 18 s.Lines.length
  (fun i hi => by
   have hx := lge hi; simp only [zw.r6, zw.b6, zan, hx, obs, dct (show (i : Int) < (s.Lines.length : Int) by omega), ctr, zku _ hi]; rw [w6e]; cases decide ((s.Lines[i].size : Int) > 256) <;> rfl)
  (by simp only [zw.r6, zw.b6, dcf (show ¬ (s.Lines.length : Int) < (s.Lines.length : Int) by omega), cfa]) (N := N) h K
 simp only [nc0] at l1
 exact l1
theorem z22 (n : Number) : zlp n = 0 ∨ zlp n = 3 := by
 unfold zlp
 cases (inB n.N (-999999999999999) 999999999999999 && inB n.Scale 0 15) with
 | true => exact .inl rfl
 | false => exact .inr rfl
theorem zab7 (N : Nat) (c : zG) (s : zA) (h : s.Registers.length < N) (hl : s.Registers.length < 1000000000) (K : Int × zG × zA → Option Int) :
 ((zl (zw.r0 N) N (0, c, s)).bind fun z => zb9 z (fun z => some z) K) = if z4d s.Registers = true then some 3 else K ((s.Registers.length : Int), c, s) := by
 have l1 := zvb (f := zw.r0 N) (fun i => ((i : Int), c, s)) (fun i => decide (zlp (s.Registers.getD i ⟨0, 0⟩) ≠ 0)) 3 s.Registers.length
  (fun i hi => by
   have hx := lge hi; simp only [zw.r0, zw.b0, zan, hx, obs, dct (show (i : Int) < (s.Registers.length : Int) by omega), ctr, zku _ hi, zpw]; rw [w6e]; rcases z22 s.Registers[i] with e | e <;> rw [e] <;> rfl)
  (by simp only [zw.r0, zw.b0, dcf (show ¬ (s.Registers.length : Int) < (s.Registers.length : Int) by omega), cfa]) (N := N) h K
 simp only [nc0] at l1
 exact l1
theorem zacq (N : Nat) (c : zG) (s : zA) (h : s.Registers.length < N) (hl : s.Registers.length < 1000000000) (K : List Number × Int × Int × zG × zA → Option Int) :
 ((zl (zak.r0 N) N (s.Registers, (s.Registers.length : Int), 0, c, s)).bind fun z => zb9 z (fun z => some z) K) = if z4d s.Registers = true then some 3 else K (s.Registers, (s.Registers.length : Int), (s.Registers.length : Int), c, s) := by
 have l1 := zvb (f := zak.r0 N) (fun i => (s.Registers, (s.Registers.length : Int), (i : Int), c, s)) (fun i => decide (zlp (s.Registers.getD i ⟨0, 0⟩) ≠ 0)) 3 s.Registers.length
  (fun i hi => by
   have hx := lge hi; simp only [zak.r0, zak.b0, zan, hx, obs, dct (show (i : Int) < (s.Registers.length : Int) by omega), ctr, zku _ hi, zkz]; rw [w6e]; rcases z22 s.Registers[i] with e | e <;> rw [e] <;> rfl)
  (by simp only [zak.r0, zak.b0, dcf (show ¬ (s.Registers.length : Int) < (s.Registers.length : Int) by omega), cfa]) (N := N) h K
 simp only [nc0] at l1
 exact l1
def lenS (s : zA) : Prop := s.Storage.Bytes.size ≤ 1048576 ∧ s.Storage.Tags.length ≤ 1048576 ∧ s.Registers.length ≤ 1048576 ∧ s.Stack.length ≤ 1048576 ∧ s.Lines.length ≤ 1048576
def zwq (s : zA) : Bool := (((s.Condition == 0 || s.Condition == 1) || s.Condition == 2) || s.Condition == 4)
def lstS (c : zG) (s : zA) : List Int := [cond (!zwq s) 3 0, zq5 c s.Storage, cond (!inB s.At 0 ((c.zC.length : Int) - 1)) 3 0,
 cond (decide ((s.Stack.length : Int) > 6) || decide ((s.Lines.length : Int) > 40)) 2 0, cond (z66 c s.Stack) 3 0, cond (z65 s.Lines) 18 0, cond (!inB s.Status 0 3) 4 0,
 cond (!((inB s.Exception 0 999 && inB s.Marks 0 300) && inB s.Steps 0 3000)) 3 0]
def zvz (e0 : Int) (m : zJ) (c : zG) (s : zA) : Int := if e0 ≠ 0 then e0 else if (s.Registers.length : Int) ≠ m.Registers then 6 else if z4d s.Registers = true then 3 else zcy (lstS c s)
theorem zaah (N : Nat) (hN : 1048600 < N) {m : zJ} {c : zG} {s : zA} (hc : Wft En 1048576 Ty.zG c) (hs : lenS s) {e0 : Int} (k1 : zev N m c = some e0) :
 zak N m c s = some (zvz e0 m c s) := by
 obtain ⟨_, _, ci, _, _⟩ := znz hc
 obtain ⟨w1, w2, w3, w4, w5⟩ := hs
 have f2 : ∀ a b : Int, zr N [a, b] = some (zcy [a, b]) := fun a b => zl8 N _ (by simp; omega) (by simp)
 have f8 : ∀ a b d e f g h i : Int, zr N [a, b, d, e, f, g, h, i] = some (zcy [a, b, d, e, f, g, h, i]) := fun a b d e f g h i => zl8 N _ (by simp; omega) (by simp)
 unfold zak zvz
 rw [k1]
 simp only [obs, zlj, f2]
 by_cases h0 : e0 = 0
 · rw [h0, ifn]
   by_cases h1 : (s.Registers.length : Int) = m.Registers
   · rw [h1, ifn]; rw [show zcy [0, cond (m.Registers != m.Registers) 6 0] = 0 by rw [bsf]; rfl]; simp only [bsf, cfa]; rw [← h1, zacq N c s (by omega) (by omega)]; cases z4d s.Registers with
     | true => rfl
     | false =>
      simp only [Bool.false_eq_true, if_false, orB, obs]; rw [zaal N c (by omega) s.Stack (by omega) (by omega), zaak N s.Lines (by omega) (by omega), zaeq N (by omega)]; simp only [obs, zmn, zme, w6e (n := (c.zC.length : Int) - 1), f8, Bool.not_not]; rfl
   · rw [ifp h1, show zcy [0, cond ((s.Registers.length : Int) != m.Registers) 6 0] = 6 by rw [zb6, dct h1]; rfl]; rfl
 · rw [ifp h0, show zcy [e0, cond ((s.Registers.length : Int) != m.Registers) 6 0] = e0 by unfold zcy; rw [ifn h0]]; rw [zb6, dct h0]; rfl
theorem zj4 (x : Int) (l : List Int) : zcy (x :: l) = if x = 0 then zcy l else x := rfl
theorem z9y (N : Nat) (hN : 1048600 < N) {m : zJ} {c : zG} {s : zA} (hc : Wft En 1048576 Ty.zG c) (hs : lenS s) {e0 : Int} (k2 : zio N m c = some e0) :
 zw N m c s = some (zvz e0 m c s) := by
 obtain ⟨_, _, ci, _, _⟩ := znz hc
 obtain ⟨w1, w2, w3, w4, w5⟩ := hs
 unfold zw zvz
 rw [k2]
 simp only [obs]
 by_cases h0 : e0 = 0
 case neg => rw [ifp h0, zb6, dct h0]; rfl
 rw [h0, ifn]
 simp only [bsf, cfa]
 by_cases h1 : (s.Registers.length : Int) = m.Registers
 case neg => rw [ifp h1, zb6, dct h1]; rfl
 rw [h1, ifn]
 simp only [bsf, cfa]
 rw [zab7 N c s (by omega) (by omega)]
 cases z4d s.Registers with
 | true => rfl
 | false =>
  simp only [Bool.false_eq_true, if_false, zme, obs]; have hcb : ((((s.Condition != 0) && (s.Condition != 1)) && (s.Condition != 2)) && (s.Condition != 4)) = !zwq s := by
   unfold zwq bne; cases s.Condition == 0 <;> cases s.Condition == 1 <;> cases s.Condition == 2 <;> cases s.Condition == 4 <;> rfl
  rw [hcb]; unfold lstS; cases zwq s with
  | false => rfl
  | true =>
   simp only [bnt, cfa]; rw [zj4, ifp rfl, zj4]
   by_cases h2 : (s.Storage.Bytes.size : Int) = (c.Storage.Bytes.size : Int)
   case neg => rw [show zq5 c s.Storage = 18 by unfold zq5; rw [ifp h2], zb6, dct h2]; rfl
   rw [show ((s.Storage.Bytes.size : Int) != (c.Storage.Bytes.size : Int)) = false by rw [h2]; exact bsf _]; simp only [cfa]; rw [show zic N s.Storage = some (zjf s.Storage).2 by unfold zic; rw [show (⟨s.Storage.Bytes, s.Storage.Tags⟩ : Storage) = s.Storage from rfl, (zk3 N (by omega) s.Storage).2]; rfl]; simp only [obs]
   by_cases h3 : (zjf s.Storage).2 = 0
   case neg => rw [show zq5 c s.Storage = (zjf s.Storage).2 by unfold zq5; rw [ifn (fun h => h h2), ifp h3], zb6, dct h3, ifn h3]; rfl
   have hw := zz3 h3; have hle := hw.le; have htg := hw.tags; rw [show zq5 c s.Storage = cond (z4c s.Storage) 22 0 by unfold zq5; rw [ifn (fun h => h h2), ifn (fun h => h h3)], h3]; simp only [bsf, cfa]; rw [z4t N s.Storage (by omega) (by omega)]; simp only [obs]; rw [zab5 N (by omega) (R := Int) c s hw]; cases z4c s.Storage with
   | true => rfl
   | false =>
    simp only [Bool.false_eq_true, if_false, cfa, if_true, eq_self, zgy, w6e (n := (c.zC.length : Int) - 1), obs]; rw [zj4]; cases inB s.At 0 ((c.zC.length : Int) - 1) with
    | false => rfl
    | true =>
     simp only [bnt, cfa, if_true, eq_self, orB, obs]; rw [zj4]; cases (decide ((s.Stack.length : Int) > 6) || decide ((s.Lines.length : Int) > 40)) with
     | true => rfl
     | false =>
      simp only [cfa, if_true, eq_self]; rw [z95 N c (by omega) s (by omega) (by omega), zj4]; cases z66 c s.Stack with
      | true => rfl
      | false =>
       simp only [Bool.false_eq_true, if_false, cfa, if_true, eq_self]; rw [z91 N s (by omega) (by omega), zj4]; cases z65 s.Lines with
       | true => rfl
       | false =>
        simp only [Bool.false_eq_true, if_false, cfa, if_true, eq_self, zgy, obs]; rw [zj4]; cases inB s.Status 0 3 with
        | false => rfl
        | true =>
         simp only [bnt, cfa, if_true, eq_self]; cases inB s.Exception 0 999 <;> cases inB s.Marks 0 300 <;> cases inB s.Steps 0 3000 <;> rfl
theorem z07 : ∀ (l : List Int), zcy l = 0 ↔ ∀ x ∈ l, x = 0
 | [] => by simp [zcy]
 | x :: l => by
  rw [zj4, List.forall_mem_cons, ← z07 l]
  by_cases h : x = 0
  · rw [ifp h]; exact ⟨fun h1 => ⟨h, h1⟩, fun h1 => h1.2⟩
  · rw [ifn h]; exact ⟨fun h1 => absurd h1 h, fun h1 => h1.1⟩
theorem zsd {p : Nat → Bool} {n : Nat} (h : (List.range n).any p = false) {i : Nat} (hi : i < n) : p i = false := by
 rw [List.any_eq_false] at h
 exact Bool.eq_false_iff.2 (h i (List.mem_range.2 hi))
theorem zace {l : List UInt8} (h : (zjk l).2 = 0) : zjk l = (zrd l, 0) ∧ znm (zrd l) = 0 := by
 unfold zjk at h ⊢
 split at h
 · cases h
 · rename_i h1; rw [ifn h1]; split at h
   · rename_i h2; exact absurd h h2
   · rename_i h2; rw [ifn h2]; exact ⟨rfl, cbc h2⟩
theorem zaaw {p : Pointer} (h : znm p = 0) (hk : p.Kind = 0) (hs : p.Address.zY = 1) : p = zid p.Address.Offset ∧ 0 ≤ p.Address.Offset ∧ p.Address.Offset ≤ 16777215 := by
 obtain ⟨k, ⟨g, o⟩, a⟩ := p
 subst hk hs
 unfold znm at h
 simp only at h ⊢
 rw [show inB (0 : Int) 0 2 = true from rfl, show inB (1 : Int) 0 1099511627775 = true from rfl] at h
 simp only [bnt, cfa, Bool.false_or, Bool.and_true, show ((0 : Int) != 1) = true from rfl] at h
 cases h1 : inB o 0 16777215 with
 | false => rw [h1] at h; cases h
 | true =>
  rw [h1] at h; cases h2 : inB a 0 1023 with
  | false => rw [h2] at h; cases h
  | true =>
   rw [h2] at h
   by_cases h3 : a = 0
   · subst h3; rw [za6] at h1; exact ⟨rfl, h1.1, h1.2⟩
   · rw [zb6, dct h3] at h; cases h
theorem z9o {s : Storage} {k : Nat} (h : s.Tags[k]? = some true) : ∃ i, i < (zep s.Tags s.Tags.length).length ∧ (zep s.Tags s.Tags.length).getD i 0 = (k : Int) * 16 := by
 have hl := (gei h).1
 have hm : (k : Int) * 16 ∈ zep s.Tags s.Tags.length := (zyb _ _ _).2 ⟨k, hl, by rw [gdd, h]; rfl, rfl⟩
 obtain ⟨i, hi, he⟩ := List.getElem_of_mem hm
 exact ⟨i, hi, by rw [zku _ hi, he]⟩
theorem z7j {c : zG} {s : Storage} (h : zq5 c s = 0) : s.Bytes.size = c.Storage.Bytes.size ∧ ziu s := by
 unfold zq5 at h
 split at h
 · cases h
 rename_i h1
 split at h
 · rename_i h2; exact absurd h h2
 rename_i h2
 have hw := zz3 (cbc h2)
 cases h3 : z4c s with
 | true => rw [h3] at h; cases h
 | false =>
  refine ⟨by omega, hw.le, hw.quad, hw.tags, fun i hi => ?_⟩; obtain ⟨j, j1, j2⟩ := z9o hi; have hb := zsd h3 j1; rw [j2, ← z0j, Bool.or_eq_false_iff] at hb; obtain ⟨p1, p2⟩ := zace (hw.ptr i hi); rw [p1, zb6, zb6, decide_eq_false_iff_not, decide_eq_false_iff_not] at hb; obtain ⟨c1, c2⟩ := zaaw p2 (cbc hb.1) (cbc hb.2); exact ⟨_, c2, by rw [p1, ← c1]⟩
theorem z84 (s : zA) : zwq s = true ↔ (s.Condition = 0 ∨ s.Condition = 1 ∨ s.Condition = 2 ∨ s.Condition = 4) := by
 unfold zwq
 simp only [Bool.or_eq_true, beq_iff_eq, or_assoc]
theorem zaa0 (c : zG) (k : Int) : zrs c k = false ↔ (0 ≤ k ∧ k < (c.zC.length : Int)) ∧ ∃ x, c.zC[k.toNat]? = some x ∧ x.Op = 18 := by
 unfold zrs
 rw [Bool.or_eq_false_iff, Bool.not_eq_false', za6, zb6, decide_eq_false_iff_not, Classical.not_not]
 constructor
 · rintro ⟨h1, h2⟩
   have hl : k.toNat < c.zC.length := by omega
   rw [zku _ hl] at h2; exact ⟨by omega, _, lge hl, h2⟩
 · rintro ⟨h1, x, h2, h3⟩
   refine ⟨by omega, ?_⟩; rw [gdd, h2]; exact h3
theorem cnd0 {b : Bool} {e : Int} (he : e ≠ 0) : cond b e 0 = 0 ↔ b = false := by
 cases b
 · simp
 · simp [he]
theorem z8x {e0 : Int} {m : zJ} {c : zG} {s : zA} (h : zvz e0 m c s = 0) : e0 = 0 ∧ StV m c s := by
 unfold zvz at h
 split at h
 · rename_i h1; exact absurd h h1
 rename_i h1
 split at h
 · cases h
 rename_i h2
 split at h
 · cases h
 rename_i h3
 rw [Bool.not_eq_true] at h3
 rw [z07] at h
 simp only [lstS, List.forall_mem_cons, List.not_mem_nil, false_imp_iff, implies_true, and_true] at h
 obtain ⟨a1, a2, a3, a4, a5, a6, a7, a8⟩ := h
 rw [cnd0 (by decide)] at a1 a3 a4 a5 a6 a7 a8
 rw [Bool.not_eq_false'] at a1 a3 a7 a8
 rw [Bool.or_eq_false_iff, decide_eq_false_iff_not, decide_eq_false_iff_not] at a4
 rw [Bool.and_eq_true, Bool.and_eq_true, za6, za6, za6] at a8
 rw [za6] at a3 a7
 obtain ⟨s1, s2⟩ := z7j a2
 refine ⟨cbc h1, {
  regs := cbc h2
  nums := fun r hr => by
   obtain ⟨i, hi, he⟩ := List.getElem_of_mem hr; have := zsd h3 hi; rw [zku _ hi, he, decide_eq_false_iff_not, Classical.not_not] at this; exact zkt.1 this
  cnd := (z84 s).1 a1
  sto := s2
  size := s1
  at0 := a3.1
  at1 := by omega
  stk := by omega
  calls := fun k hk => by
   obtain ⟨i, hi, he⟩ := List.getElem_of_mem hk; have := zsd a5 hi; rw [zku _ hi, he] at this; exact (zaa0 c k).1 this
  lines := by omega
  long := fun l hl => by
   obtain ⟨i, hi, he⟩ := List.getElem_of_mem hl; have := zsd a6 hi; rw [zku _ hi, he, decide_eq_false_iff_not] at this; omega
  st0 := a7.1
  st1 := a7.2
  ex0 := a8.1.1.1
  ex1 := a8.1.1.2
  mk0 := a8.1.2.1
  mk1 := a8.1.2.2
  sp0 := a8.2.1
  sp1 := a8.2.2 }⟩
theorem eT (t : zA) : (⟨t.Registers, t.Condition, t.Storage, t.At, t.Stack, t.Lines, t.Status, t.Exception, t.Marks, t.Steps⟩ : zA) = t := rfl
theorem zaec {s : zA} (hs : Wft En 1048576 Ty.zA s) : zib s = some s := by
 obtain ⟨w1, w2, w3, w4, w5⟩ := zxo hs
 have r : ∀ n : Nat, n ≤ 20000000 → Nat.ble n zab = true := fun n h => Nat.ble_eq_true_of_le (by unfold zab; omega)
 unfold zib zdi zh3 zjv zh2
 rw [r _ (by omega), r _ (by omega), r _ (by omega), r _ (by omega)]
 rfl
def z6v (s : zA) (i : Nat) : Option Bool := (s.Lines[i]?).bind fun l => if decide ((l.size : Int) > 300) = true then some false else none
def fewB (s : zA) : Bool := match (List.range (min s.Lines.length 44)).findSome? (z6v s) with
 | some r => r
 | none => ((((decide ((s.Storage.Bytes.size : Int) ≤ 1072) && decide ((s.Storage.Tags.length : Int) ≤ 67)) && decide ((s.Registers.length : Int) ≤ 11)) && decide ((s.Stack.length : Int) ≤ 9)) && decide ((s.Lines.length : Int) < 44))
theorem z8t (N : Nat) (hN : 1000 < N) (s : zA) : zcd N s = some (fewB s) := by
 unfold zcd fewB
 have l1 := zb1 (f := zcd.r0 N) (fun i => ((i : Int), s)) (z6v s) (min s.Lines.length 44)
  (fun i hi => by
   have hlt : i < s.Lines.length := by omega
   have hx := lge hlt; simp only [zcd.r0, zcd.b0, zme, obs, dct (show (i : Int) < (s.Lines.length : Int) by omega), dct (show (i : Int) < 44 by omega), Bool.and_self, ctr, zan, hx, z6v]; rw [w6e (n := (i : Int) + 1)]; cases (decide ((s.Lines[i].size : Int) > 300)) <;> rfl)
  (by
   have e : (decide (((min s.Lines.length 44 : Nat) : Int) < (s.Lines.length : Int)) && decide (((min s.Lines.length 44 : Nat) : Int) < 44)) = false := by
    by_cases h : s.Lines.length < 44
    · rw [dcf (show ¬ ((min s.Lines.length 44 : Nat) : Int) < (s.Lines.length : Int) by omega)]; rfl
    · rw [dcf (show ¬ ((min s.Lines.length 44 : Nat) : Int) < 44 by omega)]; simp
   simp only [zcd.r0, zcd.b0, zme, obs, e, cfa]) (N := N) (by omega)
 simp only [nc0] at l1
 rw [l1]
 cases (List.range (min s.Lines.length 44)).findSome? (z6v s) with
 | some r => rfl
 | none =>
  simp only [obs, zb9, zeu, zme]
theorem z7p (N : Nat) (l : List Int) (h : l.length < N) (hl : l.length < 1000000000) : zfb N l l = some true := by
 unfold zfb
 simp only [bsf, cfa]
 have l1 := zb1 (f := zfb.r0 N) (fun i => (l, l, (i : Int))) (fun _ => none) l.length
  (fun i hi => by
   have hx := lge hi; simp only [zfb.r0, zfb.b0, zan, hx, obs, dct (show (i : Int) < (l.length : Int) by omega), ctr, bsf, cfa]; rw [w6e]; rfl)
  (by simp only [zfb.r0, zfb.b0, dcf (show ¬ (l.length : Int) < (l.length : Int) by omega), cfa]) h
 simp only [nc0] at l1
 rw [l1]
 have : ∀ l : List Nat, l.findSome? (fun _ => (none : Option Bool)) = none := fun l => by rw [List.findSome?_eq_none_iff]; intros; rfl
 rw [this]
 rfl
theorem zaey (x : Number) : zf3 [(x.N == x.N), (x.Scale == x.Scale)] = true := by
 rw [bst, bst]; rfl
theorem zy0 (N : Nat) (s : zA) (h1 : s.Registers.length < 100000) (h2 : s.Stack.length < 100000) (h3 : s.Lines.length < 100000) (h4 : s.Storage.Tags.length < 100000) (hN : 100000 < N) : zc4 N s s = some true := by
 unfold zc4
 simp only [bsf, cfa]
 have l1 := zb1 (f := zc4.r0 N) (fun i => ((i : Int), s, s)) (fun _ => none) s.Registers.length
  (fun i hi => by
   have hx := lge hi; simp only [zc4.r0, zc4.b0, zan, hx, obs, dct (show (i : Int) < (s.Registers.length : Int) by omega), ctr, zaey, bnt, cfa]; rw [w6e]; rfl)
  (by simp only [zc4.r0, zc4.b0, dcf (show ¬ (s.Registers.length : Int) < (s.Registers.length : Int) by omega), cfa]) (N := N) (by omega)
 simp only [nc0] at l1
 rw [l1]
 have : ∀ l : List Nat, l.findSome? (fun _ => (none : Option Bool)) = none := fun l => by rw [List.findSome?_eq_none_iff]; intros; rfl
 rw [this]
 simp only [obs, zb9, bst, ctr]
 rw [show (⟨s.Storage.Bytes, s.Storage.Tags⟩ : Storage) = s.Storage from rfl, z9s N _ (by omega) (by omega)]
 simp only [obs, ctr]
 rw [z7p N _ (by omega) (by omega)]
 simp only [obs, ctr]
 rw [z2c N _ (by omega) (by omega)]
 rfl
def zki : zA := ⟨[], 0, ⟨⟨#[]⟩, []⟩, 0, [], [], 0, 0, 0, 0⟩
theorem z03 (N : Nat) (hN : 100000 < N) : zk9 N zki = some true := by
 unfold zk9
 rw [show (⟨zki.Registers, zki.Condition, (⟨zki.Storage.Bytes, zki.Storage.Tags⟩ : Storage), zki.At, zki.Stack, zki.Lines, zki.Status, zki.Exception, zki.Marks, zki.Steps⟩ : zA) = zki from rfl]
 exact congrArg (fun z => z.bind fun r1 => some r1) (zy0 N zki (by decide) (by decide) (by decide) (by decide) hN)
theorem z9r (N : Nat) (hN : 100000 < N) {m : zJ} {c : zG} {s : zA} (hc : CodeV m c) (h : StV m c s) : zc4 N s s = some true := by
 have a1 := h.regs
 have a2 := h.stk
 have a3 := h.lines
 have a4 := h.sto.le
 have a5 := h.sto.tags
 have a6 := hc.m2
 exact zy0 N s (by omega) (by omega) (by omega) (by omega) hN
theorem zafe : zm1 2000000 = some true := by kernel_rfl
theorem z1l (N : Nat) {m : zJ} {c : zG} {r : Int × Int} (h : zn N m c = some r) : zev N m c = some r.2 := by
 unfold zev
 simp only [eM, eS, eC]
 rw [h]
 rfl
theorem z1i (N : Nat) {m : zJ} {c : zG} {r : Int × Int} (h : zt N m c = some r) : zio N m c = some r.2 := by
 unfold zio
 simp only [eM, eS, eC]
 rw [h]
 rfl
theorem z9p (N : Nat) (hN : 1000 < N) {m : zJ} {c : zG} {s : zA} {e : Int} (h : zak N m c s = some e) (he : e ≠ 0) : zfv N m c s = some (zki, e) := by
 have f2 : ∀ a b : Int, zr N [a, b] = some (zcy [a, b]) := fun a b => zl8 N _ (by simp; omega) (by simp)
 unfold zfv
 rw [h]
 simp only [obs, orB, zlj, f2]
 rw [zj4, ifn he, zb6, dct he]
 rfl
theorem z7k (N : Nat) (hN : 1000 < N) {m : zJ} {c : zG} {s : zA} (h : zak N m c s = some 0) (he : s.Status ≠ 0 ∨ s.Steps ≥ 3000) : zfv N m c s = some (zki, 26) := by
 have f2 : ∀ a b : Int, zr N [a, b] = some (zcy [a, b]) := fun a b => zl8 N _ (by simp; omega) (by simp)
 unfold zfv
 rw [h]
 simp only [obs, orB, zlj, f2]
 rw [show (s.Status != 0 || decide (s.Steps ≥ 3000)) = true by
  rcases he with he | he
  · rw [zb6, dct he]; rfl
  · rw [dct he, Bool.or_true]]
 rfl
theorem zabt (N : Nat) (hN : 1000 < N) {m : zJ} {c : zG} {s t : zA} (h : zak N m c s = some 0) (h1 : s.Status = 0) (h2 : s.Steps < 3000) (ht : zgp N c s = some t) : zfv N m c s = some (t, 0) := by
 have f2 : ∀ a b : Int, zr N [a, b] = some (zcy [a, b]) := fun a b => zl8 N _ (by simp; omega) (by simp)
 unfold zfv
 rw [h]
 simp only [obs, orB, zlj, f2]
 rw [show (s.Status != 0 || decide (s.Steps ≥ 3000)) = false by rw [h1, dcf (by omega)]; rfl]
 rw [ht]
 rfl
theorem plainHardwareSteps : zil := by
 intro m c s hm hc hs
 refine ⟨2000000, ?_⟩
 obtain ⟨b, hb⟩ := z8s 2000000 (by decide) hc
 obtain ⟨⟨n, e0⟩, hr1, hr2⟩ := z85 2000000 (by decide) m hc
 have k1 := zaah 2000000 (by decide) hc (zxo hs) (z1l _ hr1)
 have k2 := z9y 2000000 (by decide) hc (zxo hs) (z1i _ hr2)
 unfold zf5
 rw [zafe]
 simp only [obs, bnt, cfa, eS, eM, eC, eT]
 rw [hb]
 cases b with
 | false => rfl
 | true =>
  simp only [obs, bnt, cfa]; rw [z8t _ (by decide)]; cases fewB s with
  | false => rfl
  | true =>
   simp only [obs, bnt, cfa]; rw [zaac hc, zaec hs, k2]; simp only [obs]
   by_cases hE : zvz e0 m c s = 0
   · rw [hE] at k1 ⊢; obtain ⟨h0, hv⟩ := z8x hE; subst h0; obtain ⟨cv, _⟩ := zae2 2000000 (by decide) hc hr2; simp only [bsf, cfa, bst, ctr, orB, obs]
     by_cases hr : s.Status = 0 ∧ s.Steps < 3000
     · obtain ⟨g1, g2, g3, _, _⟩ := z7l 2000000 (by decide) cv hv hr.1 hr.2; rw [zabt 2000000 (by decide) k1 hr.1 hr.2 g1, g2]; rw [show (s.Status != 0 || s.Steps == 3000) = false by rw [zb6, zar, dcf (fun h => h hr.1), dcf (by omega)]; rfl]; simp only [obs, cfa, bst, ctr]; rw [z9r 2000000 (by decide) cv g3]; rfl
     · have hsp := hv.sp1; have hst : s.Status ≠ 0 ∨ s.Steps ≥ 3000 := by omega
       rw [z7k 2000000 (by decide) k1 hst]; rw [show (s.Status != 0 || s.Steps == 3000) = true by
        rcases hst with h | h
        · rw [zb6, dct h]; rfl
        · rw [zar, dct (show s.Steps = 3000 by omega), Bool.or_true]]
       simp only [obs, ctr]; rw [show ((26 : Int) == 26) = true from rfl]; simp only [ctr]; rw [z03 2000000 (by decide)]; rfl
   · rw [z9p 2000000 (by decide) k1 hE]; simp only [obs]; rw [zar, dcf hE, show (zvz e0 m c s != 0) = true by rw [zb6]; exact dct hE]; simp only [obs, ctr, cfa, bst]; rw [z03 2000000 (by decide)]; rfl
end
end Go.Proofs.YtppbpnknfigboaaGreatDoor.M
namespace Go.Proofs.YtppbpnknfigboaaGreatDoor
theorem hardwareSteps_card : Rows.HardwareStepsUptoCardSaid := M.cardHardwareSteps M.plainHardwareSteps
#print axioms hardwareSteps_card
end Go.Proofs.YtppbpnknfigboaaGreatDoor
