/- HardwareRuns: the law answers true for every input of bulk at most 1048576, and its arguments read as they did; by the seat's second form, tied to the program's text. -/
import Derived.Test.YtppbpnknfigboaaGreatDoorPHardwareRunsx1
import Derived.Test.YtppbpnknfigboaaGreatDoorWHardwareRuns
namespace Go.Proofs.YtppbpnknfigboaaGreatDoor.M
open Go Go.Amx
set_option linter.unusedVariables false
set_option linter.unusedSimpArgs false
set_option maxRecDepth 100000
noncomputable section
section
variable {m : HwModel} {c : HwCode} {s : HwState}
def zkw (t : HwTrap) (a e : Int) : Bool := inB a t.From (t.To - 1) && (decide (t.Exception = 0) || decide (t.Exception = e))
def zym (c : HwCode) (a e : Int) : Option Nat := (List.range c.Traps.length).findSome? fun i => (c.Traps[i]?).bind fun t => if zkw t a e = true then some i else none
def zgb (c : HwCode) (a e : Int) : Int := match zym c a e with | some i => (c.Traps.getD i ⟨0, 0, 0, 0⟩).Handler | none => -1
theorem z08 {a e : Int} {i : Nat} (h : zym c a e = some i) : ∃ t, c.Traps[i]? = some t ∧ zkw t a e = true := by
 obtain ⟨j, _, hj⟩ := List.exists_of_findSome?_eq_some h
 rw [Option.bind_eq_some_iff] at hj
 obtain ⟨t, ht, hj⟩ := hj
 split at hj
 · rename_i hh; cases hj; exact ⟨t, ht, hh⟩
 · cases hj
theorem zyy (hc : CodeV m c) {t : HwTrap} (ht : t ∈ c.Traps) : 0 ≤ t.From ∧ t.From ≤ t.To ∧ t.To ≤ (c.Instructions.length : Int) ∧ 0 ≤ t.Handler ∧ t.Handler < (c.Instructions.length : Int) := by
 have := hc.trap t ht
 unfold zpt at this
 simp only [Bool.and_eq_true, decide_eq_true_eq] at this
 obtain ⟨h1, h2, h3, h4⟩ := this
 have := zbc.1 h1
 have := zbc.1 h4
 omega
theorem z0l (hc : CodeV m c) (a e : Int) : zgb c a e = -1 ∨ (0 ≤ zgb c a e ∧ zgb c a e < (c.Instructions.length : Int)) := by
 unfold zgb
 cases h : zym c a e with
 | none => exact .inl rfl
 | some i =>
  obtain ⟨t, ht, _⟩ := z08 h; right; simp only []; rw [List.getD_eq_getElem?_getD, ht]; have := zyy hc (lmg ht); exact this.2.2.2
theorem z6k (N : Nat) (hN : 20000 < N) (hc : CodeV m c) (a e : Int) : zhc N c a e = some (zgb c a e) := by
 have n40 := hc.traps
 have n240 := hc.len
 unfold zhc zo
 have l1 := zc2 (f := zo.r0 N) (fun i => (c.Traps, (c.Traps.length : Int), (i : Int), a, e)) (fun i => ((c.Traps[i]?).bind fun t => if zkw t a e = true then some i else none).map fun i : Nat => (i : Int)) c.Traps.length
  (fun i hi => by
   have hx := lge hi; have hf := zyy hc (List.getElem_mem hi); simp only [zo.r0, zo.b0, zbg, hx, obs, dct (show (i : Int) < (c.Traps.length : Int) by omega), ctr]; have e1 : zfq c.Traps[i] a e = some (zkw c.Traps[i] a e) := by
    unfold zfq zkw; rw [w6e (by omega) (by omega), zni, zam, zam]; simp only [obs]; cases inB a c.Traps[i].From (c.Traps[i].To - 1) <;> cases decide (c.Traps[i].Exception = 0) <;> cases decide (c.Traps[i].Exception = e) <;> rfl
   rw [e1, w6e (by omega) (by omega)]; cases zkw c.Traps[i] a e <;> rfl)
  (by simp only [zo.r0, zo.b0, dcf (show ¬ (c.Traps.length : Int) < (c.Traps.length : Int) by omega), cfa]) (N := N) (by omega)
 simp only [Int.natCast_zero] at l1
 rw [l1]
 have e2 : ∀ l : List Nat, l.findSome? (fun i => ((c.Traps[i]?).bind fun t => if zkw t a e = true then some i else none).map fun i : Nat => (i : Int)) = (l.findSome? (fun i => (c.Traps[i]?).bind fun t => if zkw t a e = true then some i else none)).map fun i : Nat => (i : Int) := by
  intro l
  induction l with
  | nil => rfl
  | cons i l ih =>
   rw [List.findSome?_cons, List.findSome?_cons]; cases (c.Traps[i]?).bind fun t => if zkw t a e = true then some i else none with
   | none => exact ih
   | some j => rfl
 rw [e2]
 have e3 : (List.range c.Traps.length).findSome? (fun i => (c.Traps[i]?).bind fun t => if zkw t a e = true then some i else none) = zym c a e := rfl
 rw [e3]
 unfold zgb
 cases h : zym c a e with
 | none => rfl
 | some i =>
  obtain ⟨t, ht, _⟩ := z08 h; simp only [Option.map_some, zd5, obs]; rw [dcf (show ¬ ((i : Nat) : Int) < 0 by omega), cfa, zbg, ht, List.getD_eq_getElem?_getD, ht]; rfl
theorem z54 (N : Nat) (hN : 20000 < N) (hc : CodeV m c) (a e : Int) : zcc N c a e = some (zgb c a e) := by
 have n40 := hc.traps
 unfold zcc
 have l1 := zc2 (f := zcc.r0 N) (fun i => (a, e, (i : Int), c)) (fun i => ((c.Traps[i]?).bind fun t => if zkw t a e = true then some i else none).map fun i : Nat => (c.Traps.getD i ⟨0, 0, 0, 0⟩).Handler) c.Traps.length
  (fun i hi => by
   have hx := lge hi; simp only [zcc.r0, zcc.b0, zbg, hx, obs, dct (show (i : Int) < (c.Traps.length : Int) by omega), ctr]; have e1 : ((cond (decide (c.Traps[i].From ≤ a)) (some (decide (a < c.Traps[i].To))) (some false)).bind fun g1002 => (cond g1002 ((cond (c.Traps[i].Exception == 0) (some true) (some (c.Traps[i].Exception == e))).bind fun g1003 => some g1003) (some false))) = some (zkw c.Traps[i] a e) := by
    unfold zkw inB; rw [zam, zam, show decide (a ≤ c.Traps[i].To - 1) = decide (a < c.Traps[i].To) by rw [decide_eq_decide]; omega]; cases decide (c.Traps[i].From ≤ a) <;> cases decide (a < c.Traps[i].To) <;> cases decide (c.Traps[i].Exception = 0) <;> cases decide (c.Traps[i].Exception = e) <;> rfl
   rw [← Option.bind_assoc, e1, w6e (by omega) (by omega)]; simp only [obs]; cases zkw c.Traps[i] a e with
   | false => rfl
   | true =>
    simp only [ctr, if_true, Option.map_some]; rw [List.getD_eq_getElem?_getD, hx]; rfl)
  (by simp only [zcc.r0, zcc.b0, dcf (show ¬ (c.Traps.length : Int) < (c.Traps.length : Int) by omega), cfa]) (N := N) (by omega)
 simp only [Int.natCast_zero] at l1
 rw [l1]
 have e2 : ∀ l : List Nat, l.findSome? (fun i => ((c.Traps[i]?).bind fun t => if zkw t a e = true then some i else none).map fun i : Nat => (c.Traps.getD i ⟨0, 0, 0, 0⟩).Handler) = (l.findSome? (fun i => (c.Traps[i]?).bind fun t => if zkw t a e = true then some i else none)).map fun i : Nat => (c.Traps.getD i ⟨0, 0, 0, 0⟩).Handler := by
  intro l
  induction l with
  | nil => rfl
  | cons i l ih =>
   rw [List.findSome?_cons, List.findSome?_cons]; cases (c.Traps[i]?).bind fun t => if zkw t a e = true then some i else none with
   | none => exact ih
   | some j => rfl
 rw [e2]
 unfold zgb
 have : (List.range c.Traps.length).findSome? (fun i => (c.Traps[i]?).bind fun t => if zkw t a e = true then some i else none) = zym c a e := rfl
 rw [this]
 cases zym c a e <;> rfl
def updA (s : HwState) (k : Int) : HwState := ⟨s.Registers, s.Condition, s.Storage, k, s.Stack, s.Lines, s.Status, s.Exception, s.Marks, s.Steps⟩
def updE (s : HwState) (k : Int) : HwState := ⟨s.Registers, s.Condition, s.Storage, s.At, s.Stack, s.Lines, s.Status, k, s.Marks, s.Steps⟩
def updP (s : HwState) (k : Int) : HwState := ⟨s.Registers, s.Condition, s.Storage, s.At, s.Stack, s.Lines, s.Status, s.Exception, s.Marks, k⟩
theorem StV.updA (h : StV m c s) {k : Int} (h1 : 0 ≤ k) (h2 : k < (c.Instructions.length : Int)) : StV m c (updA s k) := {
 regs := h.regs, nums := h.nums, cnd := h.cnd, sto := h.sto, size := h.size, at0 := h1, at1 := h2, stk := h.stk, calls := h.calls, lines := h.lines, long := h.long, st0 := h.st0, st1 := h.st1, ex0 := h.ex0, ex1 := h.ex1, mk0 := h.mk0, mk1 := h.mk1, sp0 := h.sp0, sp1 := h.sp1 }
theorem StV.updE (h : StV m c s) {k : Int} (h1 : 0 ≤ k) (h2 : k ≤ 999) : StV m c (updE s k) := {
 regs := h.regs, nums := h.nums, cnd := h.cnd, sto := h.sto, size := h.size, at0 := h.at0, at1 := h.at1, stk := h.stk, calls := h.calls, lines := h.lines, long := h.long, st0 := h.st0, st1 := h.st1, ex0 := h1, ex1 := h2, mk0 := h.mk0, mk1 := h.mk1, sp0 := h.sp0, sp1 := h.sp1 }
theorem StV.updP (h : StV m c s) {k : Int} (h1 : 0 ≤ k) (h2 : k ≤ 3000) : StV m c (updP s k) := {
 regs := h.regs, nums := h.nums, cnd := h.cnd, sto := h.sto, size := h.size, at0 := h.at0, at1 := h.at1, stk := h.stk, calls := h.calls, lines := h.lines, long := h.long, st0 := h.st0, st1 := h.st1, ex0 := h.ex0, ex1 := h.ex1, mk0 := h.mk0, mk1 := h.mk1, sp0 := h1, sp1 := h2 }
def zhe (c : HwCode) (e : Int) : Nat → HwState → HwState
 | 0, s => s
 | k + 1, s => if 0 ≤ zgb c s.At e then updA s (zgb c s.At e) else if s.Stack.length = 0 then updT s 2
  else zhe c e k (updK (updA s (s.Stack.getD (s.Stack.length - 1) 0)) (s.Stack.take (s.Stack.length - 1)))
theorem zxf (N : Nat) (hN : 20000 < N) (hc : CodeV m c) (e : Int) (he : e ≠ 0) (z : HwState) : ∀ (k : Nat) (s : HwState), StV m c s → s.Stack.length < k → ∀ K : Nat, k ≤ K →
 z5 (zal.r0 N) K ⟨s, c, e⟩ = some (.inl ⟨zhe c e k s, c, e⟩) ∧ z5 (zdo.r0 N) K (e, c, s, z) = some (.inl (zhe c e k s)) ∧ StV m c (zhe c e k s) ∧ (zhe c e k s).Steps = s.Steps ∧ (zhe c e k s).Exception = s.Exception ∧
 (zhe c e k s).Registers = s.Registers ∧ (zhe c e k s).Storage = s.Storage ∧ (zhe c e k s).Lines = s.Lines ∧ (zhe c e k s).Condition = s.Condition ∧ (s.Status = 0 → (zhe c e k s).Status = 0 ∨ (zhe c e k s).Status = 2)
 | 0, s, _, h, _, _ => by omega
 | k + 1, s, hs, h, K, hK => by
  obtain ⟨K, rfl⟩ : ∃ J, K = J + 1 := ⟨K - 1, by omega⟩; have hh := z6k N hN hc s.At e; have hr := z54 N hN hc s.At e; have rg := z0l hc s.At e; have h6 := hs.stk; have n240 := hc.len; simp only [z5, zal.r0, zal.b0, zdo.r0, zdo.b0]; rw [hh, hr]; simp only [obs]; unfold zhe
  by_cases h0 : 0 ≤ zgb c s.At e
  · rw [ifp h0, dct (show zgb c s.At e ≥ 0 by omega), zcx, dct (show zgb c s.At e ≠ -1 by omega)]; exact ⟨rfl, rfl, hs.updA h0 (by omega), rfl, rfl, rfl, rfl, rfl, rfl, fun h => .inl h⟩
  · rw [ifn h0, dcf (show ¬ zgb c s.At e ≥ 0 by omega), zcx, dcf (show ¬ zgb c s.At e ≠ -1 by omega), zam, w6e (n := (s.Stack.length : Int) - 1) (by omega) (by omega)]
    by_cases hz : s.Stack.length = 0
    · rw [ifp hz, dct (show (s.Stack.length : Int) - 1 < 0 by omega), dct (show (s.Stack.length : Int) = 0 by omega)]; exact ⟨rfl, rfl, hs.updT (by omega) (by omega), rfl, rfl, rfl, rfl, rfl, rfl, fun _ => .inr rfl⟩
    · have hl : (s.Stack.length : Int) - 1 = ((s.Stack.length - 1 : Nat) : Int) := by omega
      have hx1 : s.Stack[s.Stack.length - 1]? = some (s.Stack.getD (s.Stack.length - 1) 0) := by rw [List.getD_eq_getElem?_getD, lge (by omega)]; rfl
      obtain ⟨hrr, _⟩ := hs.calls _ (lmg hx1); have hcl : ∀ l : List Int, l.length ≤ 6 → zdh 8 l = some l := fun l hl => by unfold zdh; rw [zae (by omega)]; rfl
      rw [ifn hz, dcf (show ¬ (s.Stack.length : Int) - 1 < 0 by omega), dcf (show ¬ (s.Stack.length : Int) = 0 by omega), hl, zbg, hx1]; simp only [cfa, obs]; rw [ifp (by omega), ifp (by omega), ifp (by omega), ifp (by omega), itn, show (0 : Int).toNat = 0 from rfl, List.drop_zero, hcl _ (by rw [List.length_take]; omega)]; simp only [obs]; have hs2 : StV m c (updK (updA s (s.Stack.getD (s.Stack.length - 1) 0)) (s.Stack.take (s.Stack.length - 1))) := (hs.updA hrr.1 hrr.2).updK (by rw [List.length_take]; omega) fun i hi2 => hs.calls i (List.mem_of_mem_take hi2); exact zxf N hN hc e he z k _ hs2 (by show (s.Stack.take (s.Stack.length - 1)).length < k; rw [List.length_take]; omega) K (by omega)
def zvf (s : HwState) : HwState := if s.Status = 0 ∧ s.Steps = 3000 then updT s 3 else s
def zwh (c : HwCode) (s : HwState) : HwInstruction := c.Instructions.getD s.At.toNat ⟨0, 0, 0, 0, 0, ⟨false, 0, 0⟩, ⟨false, 0, 0⟩, ⟨0, 0, 0⟩, ⟨0, 0, 0⟩, false, false, ⟨0, 0⟩, ⟨#[]⟩, ⟨#[]⟩, 0, 0, 0, 0⟩
def zsu (c : HwCode) (s : HwState) : HwState :=
 match zeo (updP s (s.Steps + 1)) (zwh c s) with
 | .error e => zvf (zhe c e (s.Stack.length + 1) (updE (updP s (s.Steps + 1)) e))
 | .ok (n, t) => if t.Status ≠ 0 then t else if n = (c.Instructions.length : Int) then updT t 1 else zvf (updA t n)
theorem z3k (t : HwState) : ((cond (t.Status == 0) (some (t.Steps == 3000)) (some false)).bind fun g => cond g (some (⟨t.Registers, t.Condition, t.Storage, t.At, t.Stack, t.Lines, 3, t.Exception, t.Marks, t.Steps⟩ : HwState)) (some t)) = some (zvf t) := by
 unfold zvf
 rw [zam, zam]
 by_cases h1 : t.Status = 0
 · rw [dct h1]
   by_cases h2 : t.Steps = 3000
   · rw [dct h2, ifp ⟨h1, h2⟩]; rfl
   · rw [dcf h2, ifn (fun h => h2 h.2)]; rfl
 · rw [dcf h1, ifn (fun h => h1 h.1)]; rfl
theorem z8g {t : HwState} (h : StV m c t) : StV m c (zvf t) ∧ (zvf t).Steps = t.Steps ∧ ((zvf t).Status = 0 → t.Steps ≠ 3000) := by
 unfold zvf
 split
 · exact ⟨h.updT (by omega) (by omega), rfl, fun h => by have h' : (3 : Int) = 0 := h; omega⟩
 · rename_i hn; exact ⟨h, rfl, fun h1 h2 => hn ⟨h1, h2⟩⟩
theorem z7w (hc : CodeV m c) (h : StV m c s) : zk7 s = some s := by
 have h1 := h.regs
 have h2 := h.stk
 have h3 := h.lines
 have h4 := h.sto.le
 have h5 := h.sto.tags
 have h6 := hc.m2
 unfold zk7 zkj zix
 rw [zae (by omega), ctr, z0g (by omega), obs, zae (by omega), ctr, obs, zae (by omega)]
 rfl
theorem z7b (N : Nat) (hN : 20000 < N) (hc : CodeV m c) (hs : StV m c s) (hrun : s.Status = 0) (h3 : s.Steps < 3000) :
 zi7 N c s = some (zsu c s) ∧ zlp N c s = some (zsu c s) ∧ StV m c (zsu c s) ∧ (zsu c s).Steps = s.Steps + 1 ∧ ((zsu c s).Status = 0 → s.Steps + 1 < 3000) := by
 have a0 := hs.at0
 have a1 := hs.at1
 have p0 := hs.sp0
 have hx : c.Instructions[s.At.toNat]? = some (zwh c s) := by
  unfold zwh; rw [List.getD_eq_getElem?_getD, lge (by omega)]; rfl
 have hi : idx c.Instructions s.At = some (zwh c s) := by unfold idx; rw [ifp a0, hx]
 have hs1 : StV m c (updP s (s.Steps + 1)) := hs.updP (by omega) (by omega)
 have hb := z8j N hN hc hs1 (x := zwh c s) hx
 unfold zi7 zlp
 rw [hi, z7w hc hs]
 simp only [obs, eS, eC]
 rw [w6e (n := s.Steps + 1) (by omega) (by omega)]
 show ((ze N ⟨updP s (s.Steps + 1), c, 0⟩ (zwh c s)).bind _) = _ ∧ ((zd N c (updP s (s.Steps + 1))).bind _) = _ ∧ _
 unfold zsu
 rcases hb with ⟨e, nx, ny, t, g1, g2, g3, g4⟩ | ⟨n, k, t, g1, g3, g4, g5, g6, g7, g8, g9⟩
 · rw [g1, g3, g4]; simp only [obs]; have hse : StV m c (updE (updP s (s.Steps + 1)) e) := hs1.updE (by omega) (by omega); obtain ⟨k1, k2, k3, k4, k5, k6, k7, k8, k9, k10⟩ := zxf N hN hc e (by omega) ⟨[], 0, ⟨⟨#[]⟩, []⟩, 0, [], [], 0, 0, 0, 0⟩ (s.Stack.length + 1) _ hse (Nat.lt_succ_self _) N (by have := hs.stk; omega); rw [zcx, dct (show e ≠ 0 by omega)]; simp only [ctr]; have hf := z8g k3; have k4' : (zhe c e (s.Stack.length + 1) (updE (updP s (s.Steps + 1)) e)).Steps = s.Steps + 1 := k4; refine ⟨?_, ?_, hf.1, hf.2.1.trans k4, fun h => ?_⟩
   · unfold zal; show ((((z5 (zal.r0 N) N ⟨updE (updP s (s.Steps + 1)) e, c, e⟩).bind _)).bind _) = _; rw [k1]; exact z3k _
   · unfold zdo; show ((((z5 (zdo.r0 N) N (e, c, updE (updP s (s.Steps + 1)) e, _)).bind _)).bind _) = _; rw [k2]; exact z3k _
   · have := hf.2.2 h; omega
 · rw [g1, g3, g4]; simp only [obs, bsf, cfa]; have g8' : t.Steps = s.Steps + 1 := g8; have e0 : (t.Status != 0) = decide (t.Status ≠ 0) := zcx _ _; have e1 : (t.Status == 0) = decide (t.Status = 0) := zam _ _; rw [e0, e1]
   by_cases hst : t.Status = 0
   · obtain ⟨j1, j2, j3⟩ := g5 hst; subst j1; rw [dct hst, dcf (show ¬ t.Status ≠ 0 by omega), ifn (show ¬ t.Status ≠ 0 by omega)]; simp only [ctr, cfa, zam]
     by_cases hl : k = (c.Instructions.length : Int)
     · rw [dct hl, ifp hl]; exact ⟨rfl, rfl, g6.updT (by omega) (by omega), g8', fun h => by have h' : (1 : Int) = 0 := h; omega⟩
     · rw [dcf hl, ifn hl]; have hta : StV m c (updA t k) := g6.updA (by omega) (by omega); have hf := z8g hta; have f1 := z3k (updA t k); rw [zam, zam] at f1; have e2 : (updA t k).Status = t.Status := rfl; rw [e2, dct hst] at f1; refine ⟨f1, f1, hf.1, hf.2.1.trans g8', fun h => ?_⟩; have := hf.2.2 h; have e3 : (updA t k).Steps = t.Steps := rfl; have := g6.sp1; omega
   · rw [dcf hst, dct (show t.Status ≠ 0 from hst), ifp (show t.Status ≠ 0 from hst)]; exact ⟨rfl, rfl, g6, g8', fun h => absurd h hst⟩
end
theorem zac7 {m : HwModel} {c : HwCode} {n : Int} (h : zs2 m c = (n, 0)) : (∀ x ∈ c.Instructions, zof m c x = 0) ∧ (∀ t ∈ c.Traps, zpt c t = true) ∧ n = (c.Instructions.length : Int) := by
 unfold zs2 at h
 cases hf : (List.range c.Instructions.length).findSome? (gI m c) with
 | some r =>
  rw [hf] at h; simp only at h; subst h; obtain ⟨j, _, hj⟩ := List.exists_of_findSome?_eq_some hf; unfold gI at hj; rw [Option.bind_eq_some_iff] at hj; obtain ⟨y, _, hy⟩ := hj
  by_cases h1 : zof m c y = 0
  · simp [h1] at hy
  · rw [ifn h1] at hy; simp only [Option.some.injEq, Prod.mk.injEq] at hy; exact absurd hy.2 h1
 | none =>
  rw [hf] at h; simp only at h; have hI : ∀ x ∈ c.Instructions, zof m c x = 0 := fun x hx => by
   refine Classical.byContradiction fun h0 => ?_; obtain ⟨i, hi⟩ := List.getElem?_of_mem hx; rw [List.findSome?_eq_none_iff] at hf; have := hf i (List.mem_range.2 (List.getElem?_eq_some_iff.1 hi).1); unfold gI at this; rw [hi, obs, ifn h0] at this; cases this
  cases hg : (List.range c.Traps.length).findSome? (gT c) with
  | some r =>
   rw [hg] at h; simp only at h; subst h; obtain ⟨j, _, hj⟩ := List.exists_of_findSome?_eq_some hg; unfold gT at hj; rw [Option.bind_eq_some_iff] at hj; obtain ⟨y, _, hy⟩ := hj; split at hy
   · cases hy
   · simp only [Option.some.injEq, Prod.mk.injEq] at hy; cases hy.2
  | none =>
   rw [hg] at h; simp only [Prod.mk.injEq] at h; refine ⟨hI, fun t ht => ?_, h.1.symm⟩; refine Classical.byContradiction fun h0 => ?_; obtain ⟨i, hi⟩ := List.getElem?_of_mem ht; rw [List.findSome?_eq_none_iff] at hg; have := hg i (List.mem_range.2 (List.getElem?_eq_some_iff.1 hi).1); unfold gT at this; rw [hi, obs, ifn h0] at this; cases this
theorem zacy {s : Storage} {i : Int} (h : zst s = (i, 0)) (hn : ¬ true ∈ s.Tags) : zh9 s := by
 unfold zst at h
 split at h
 · cases h
 · split at h
   · cases h
   · split at h
     · cases h
     · rename_i h1 h2 h3; refine ⟨by omega, by omega, by omega, fun k hk => absurd (lmg hk) hn⟩
theorem zad2 (N : Nat) (hN : 1048600 < N) {m : HwModel} {c : HwCode} (hc : Wft En 1048576 Ty.HwCode c) {n : Int} (h : zq N m c = some (n, 0)) : CodeV m c ∧ n = (c.Instructions.length : Int) := by
 obtain ⟨e, _, he2, he3⟩ := zzn m
 obtain ⟨i1, e1, e2, _, hs2, hs⟩ := z11 N (by omega) c.Storage
 have hsp := (zss N (by omega) c.Storage).2
 obtain ⟨w1, w2, w3, w4, w5⟩ := zqd hc
 unfold zq at h
 simp only [eS, eM, eC] at h
 rw [he2, hs2] at h
 simp only [obs] at h
 by_cases h0 : e = 0
 · subst h0; have hm := he3 rfl; simp only [bsf, cfa] at h
   by_cases h2 : e2 = 0
   · rcases hs with ⟨rfl, hs⟩ | ⟨ok, htl, _, _⟩
     · exact absurd h2 hs
     · subst h2; obtain ⟨l, hl1, hl2⟩ := z42 N c.Storage htl (by omega); rw [hl1] at h; simp only [bsf, cfa, obs, orB] at h; cases hd : decide ((l.length : Int) > 0) with
       | true => rw [hd] at h; cases h
       | false =>
        rw [hd] at h hl2; simp only [cfa] at h
        by_cases hz : (c.Instructions.length : Int) = 0
        · rw [hz] at h; cases h
        · rw [zam, dcf hz] at h; simp only [cfa] at h; cases hb : (decide ((c.Instructions.length : Int) > 240) || decide ((c.Traps.length : Int) > 40)) with
          | true => rw [hb] at h; cases h
          | false =>
           rw [hb] at h; simp only [cfa] at h; have := z2j N hN hm ok hc; rw [this] at h; simp only [Bool.or_eq_false_iff, decide_eq_false_iff_not] at hb; obtain ⟨r1, r2, r3⟩ := zac7 (Option.some.inj h); have hn : ¬ true ∈ c.Storage.Tags := fun hh => by
            have := List.contains_iff_mem.2 hh; rw [← hl2] at this; cases this
           have hst : ∃ i, zst c.Storage = (i, 0) := by
            unfold zk8 at hs2; simp only [eS] at hs2; rw [hsp, obs] at hs2; exact ⟨(zst c.Storage).1, by rw [← Option.some.inj hs2]⟩
           obtain ⟨i, hi⟩ := hst; exact ⟨{ m1 := hm.1, m2 := hm.2, sto := zacy hi hn, len := by omega, pos := by omega, traps := by omega, ins := r1, trap := r2 }, r3⟩
   · rw [zcx, dct h2] at h; simp only [ctr, Option.some.injEq, Prod.mk.injEq] at h; exact absurd h.2 h2
 · rw [zcx, dct h0] at h; simp only [ctr, Option.some.injEq, Prod.mk.injEq] at h; exact absurd h.2 h0
def zuf (m : HwModel) (c : HwCode) : HwState := ⟨List.replicate m.Registers.toNat ⟨0, 0⟩, 0, c.Storage, 0, [], [], 0, 0, 0, 0⟩
theorem zxr {m : HwModel} {c : HwCode} (hc : CodeV m c) : StV m c (zuf m c) := by
 have := hc.m1
 have := hc.pos
 exact {
  regs := by show ((List.replicate m.Registers.toNat (⟨0, 0⟩ : Number)).length : Int) = _; rw [List.length_replicate]; omega
  nums := fun r hr => by rw [(List.mem_replicate.1 hr).2]; exact ⟨⟨by decide, by decide⟩, by decide, by decide⟩
  cnd := .inl rfl, sto := hc.sto, size := rfl, at0 := by show (0 : Int) ≤ 0; omega, at1 := by show (0 : Int) < _; omega, stk := by show 0 ≤ 6; omega
  calls := fun i hi => (List.not_mem_nil hi).elim
  lines := by show 0 ≤ 40; omega
  long := fun i hi => (List.not_mem_nil hi).elim
  st0 := by show (0 : Int) ≤ 0; omega, st1 := by show (0 : Int) ≤ 3; omega, ex0 := by show (0 : Int) ≤ 0; omega, ex1 := by show (0 : Int) ≤ 999; omega, mk0 := by show (0 : Int) ≤ 0; omega, mk1 := by show (0 : Int) ≤ 300; omega, sp0 := by show (0 : Int) ≤ 0; omega, sp1 := by show (0 : Int) ≤ 3000; omega }
theorem z9h {m : HwModel} {c : HwCode} (hc : CodeV m c) : zkn m c = some (zuf m c) := by
 have := hc.m1
 have := hc.m2
 have := hc.sto.le
 have := hc.sto.tags
 unfold zkn
 rw [ifp (by omega), ifp (by omega), zae (by omega), ctr, z0g (by omega)]
 rfl
theorem z9x (N : Nat) {m : HwModel} {c : HwCode} (hc : CodeV m c) (hk : zeg N m c = some 0) : zhd N m c = some (zuf m c, 0) := by
 have := hc.m1
 have := hc.m2
 have := hc.sto.le
 have := hc.sto.tags
 unfold zhd
 simp only [eM, eS, eC]
 rw [hk]
 simp only [obs, bsf, cfa]
 have hcl : zdh 1 c.Storage.Tags = some c.Storage.Tags := by unfold zdh; rw [zae (by omega)]; rfl
 rw [hcl, obs, ifp (by omega), ifp (by omega), zae (by omega)]
 rfl
def zun (c : HwCode) : Nat → HwState → HwState
 | 0, s => s
 | k + 1, s => if s.Status = 0 then zun c k (zsu c s) else s
theorem zs0 (N : Nat) (hN : 20000 < N) {m : HwModel} {c : HwCode} (hc : CodeV m c) (z z' : HwResult) : ∀ (k : Nat) (s : HwState), StV m c s → (s.Status = 0 → s.Steps < 3000) → (3000 - s.Steps < (k : Int)) → ∀ K : Nat, k ≤ K →
 zl (zb5.r0 N) K (c, z, s) = some (c, z, zun c k s) ∧ zl (zfm.r0 N) K (c, z', s) = some (c, z', zun c k s) ∧ StV m c (zun c k s) ∧ (zun c k s).Status ≠ 0
 | 0, s, hs, h1, h2, K, hK => by
  have := hs.sp1; omega
 | k + 1, s, hs, h1, h2, K, hK => by
  obtain ⟨K, rfl⟩ : ∃ J, K = J + 1 := ⟨K - 1, by omega⟩; simp only [zl, zb5.r0, zb5.b0, zfm.r0, zfm.b0, eS, eC]; have eR : ∀ r : HwResult, (⟨r.Lines, r.Status, r.Exception, r.Marks, r.Steps, r.Storage⟩ : HwResult) = r := fun _ => rfl; simp only [eR, zam]; unfold zun
  by_cases hst : s.Status = 0
  · obtain ⟨g1, g2, g3, g4, g5⟩ := z7b N hN hc hs hst (h1 hst); rw [dct hst, ifp hst, g1, g2]; simp only [ctr, obs]; exact zs0 N hN hc z z' k _ g3 (fun h => by rw [g4]; exact g5 h) (by rw [g4]; omega) K (by omega)
  · rw [dcf hst, ifn hst]; simp only [cfa, obs]; exact ⟨trivial, trivial, hs, hst⟩
theorem z2b (N : Nat) (l : List ByteArray) (h : l.length < N) (hl : l.length < 1000000) : zb6 N l l = some true := by
 unfold zb6
 simp only [bsf, cfa]
 have l1 := zc2 (f := zb6.r0 N) (fun i => (l, l, (i : Int))) (fun _ => none) l.length
  (fun i hi => by
   have hx := lge hi; simp only [zb6.r0, zb6.b0, zbg, hx, obs, dct (show (i : Int) < (l.length : Int) by omega), ctr, beq_self_eq_true, Bool.not_true, cfa]; rw [w6e (by omega) (by omega)]; rfl)
  (by simp only [zb6.r0, zb6.b0, dcf (show ¬ (l.length : Int) < (l.length : Int) by omega), cfa]) h
 simp only [Int.natCast_zero] at l1
 rw [l1]
 have : ∀ l : List Nat, l.findSome? (fun _ => (none : Option Bool)) = none := fun l => by rw [List.findSome?_eq_none_iff]; intros; rfl
 rw [this]
 rfl
theorem z5x (N : Nat) (l : List Bool) (h : l.length < N) (hl : l.length < 1000000) : zd4 N l l = some true := by
 unfold zd4
 simp only [bsf, cfa]
 have l1 := zc2 (f := zd4.r0 N) (fun i => (l, l, (i : Int))) (fun _ => none) l.length
  (fun i hi => by
   have hx := lge hi; simp only [zd4.r0, zd4.b0, zbg, hx, obs, dct (show (i : Int) < (l.length : Int) by omega), ctr, beq_self_eq_true, Bool.not_true, cfa]; rw [w6e (by omega) (by omega)]; rfl)
  (by simp only [zd4.r0, zd4.b0, dcf (show ¬ (l.length : Int) < (l.length : Int) by omega), cfa]) h
 simp only [Int.natCast_zero] at l1
 rw [l1]
 have : ∀ l : List Nat, l.findSome? (fun _ => (none : Option Bool)) = none := fun l => by rw [List.findSome?_eq_none_iff]; intros; rfl
 rw [this]
 rfl
theorem z9a (N : Nat) (s : Storage) (h : s.Tags.length < N) (hl : s.Tags.length < 1000000) : zhh N s s = some true := by
 unfold zhh
 rw [beq_self_eq_true, ctr, z5x N _ h hl]
 rfl
theorem zw6 (N : Nat) (r : HwResult) (h1 : r.Lines.length < N) (h2 : r.Lines.length < 1000000) (h3 : r.Storage.Tags.length < N) (h4 : r.Storage.Tags.length < 1000000) : ze5 N r r = some true := by
 unfold ze5
 simp only [eS]
 rw [z2b N _ h1 h2, z9a N _ h3 h4]
 simp only [obs, beq_self_eq_true, ctr]
def z57 (t : HwState) : HwResult := ⟨t.Lines, t.Status, t.Exception, t.Marks, t.Steps, t.Storage⟩
theorem zadr (N : Nat) (hN : 20000 < N) {m : HwModel} {c : HwCode} (hc : CodeV m c) (hk : zeg N m c = some 0) : zb5 N m c = some (z57 (zun c 3001 (zuf m c)), 0) := by
 unfold zb5
 simp only [eM, eS, eC]
 rw [z9x N hc hk]
 simp only [obs, bsf, cfa]
 rw [(zs0 N hN hc ⟨[], 0, 0, 0, 0, ⟨⟨#[]⟩, []⟩⟩ ⟨[], 0, 0, 0, 0, ⟨⟨#[]⟩, []⟩⟩ 3001 _ (zxr hc) (fun _ => by show (0 : Int) < 3000; omega) (by show (3000 : Int) - 0 < 3001; omega) N (by omega)).1]
 rfl
theorem zac4 (N : Nat) (hN : 20000 < N) {m : HwModel} {c : HwCode} (hc : CodeV m c) : zfm N m c = some (z57 (zun c 3001 (zuf m c))) := by
 unfold zfm
 rw [z9h hc]
 simp only [obs]
 rw [(zs0 N hN hc ⟨[], 0, 0, 0, 0, ⟨⟨#[]⟩, []⟩⟩ ⟨[], 0, 0, 0, 0, ⟨⟨#[]⟩, []⟩⟩ 3001 _ (zxr hc) (fun _ => by show (0 : Int) < 3000; omega) (by show (3000 : Int) - 0 < 3001; omega) N (by omega)).2.1]
 rfl
theorem z9b (N : Nat) (hN : 20000 < N) {m : HwModel} {c : HwCode} {t : HwState} (ht : StV m c t) : ze5 N (z57 t) (z57 t) = some true := by
 have h1 := ht.lines
 have h2 := ht.sto.tags
 have h3 := ht.sto.le
 exact zw6 N _ (by show t.Lines.length < N; omega) (by show t.Lines.length < _; omega) (by show t.Storage.Tags.length < N; omega) (by show t.Storage.Tags.length < _; omega)
theorem zaee : zl5 2000000 = some true := by kernel_rfl
theorem z1o (N : Nat) {m : HwModel} {c : HwCode} {r : Int × Int} (h : zn N m c = some r) : zeg N m c = some r.2 := by
 unfold zeg
 simp only [eM, eS, eC]
 rw [h]
 rfl
theorem z1l (N : Nat) {m : HwModel} {c : HwCode} {r : Int × Int} (h : zq N m c = some r) : zi5 N m c = some r.2 := by
 unfold zi5
 simp only [eM, eS, eC]
 rw [h]
 rfl
theorem z6j (N : Nat) {m : HwModel} {c : HwCode} {e : Int} (he : e ≠ 0) (hk : zeg N m c = some e) : zb5 N m c = some (⟨[], 0, 0, 0, 0, ⟨⟨#[]⟩, []⟩⟩, e) := by
 unfold zb5 zhd
 simp only [eM, eS, eC]
 rw [hk]
 simp only [obs]
 rw [zcx, dct he]
 simp only [ctr, obs]
 rw [zcx, dct he]
 rfl
theorem plainHardwareRuns : zh3 := by
 intro m c hm hc
 refine ⟨2000000, ?_⟩
 obtain ⟨b, hb⟩ := z8h 2000000 (by decide) hc
 obtain ⟨r, hr1, hr2⟩ := z8q 2000000 (by decide) m hc
 have k1 := z1o _ hr1
 have k2 := z1l _ hr2
 unfold zgg
 rw [zaee]
 simp only [obs, Bool.not_true, cfa, eS, eM, eC]
 rw [hb]
 cases b with
 | false => rfl
 | true =>
  simp only [obs, Bool.not_true, cfa]; rw [z9t hc]; simp only [obs]; obtain ⟨n, d⟩ := r
  by_cases hd : d = 0
  · subst hd; obtain ⟨cv, _⟩ := zad2 2000000 (by decide) hc hr2; rw [zadr 2000000 (by decide) cv k1, k2, zac4 2000000 (by decide) cv]; simp only [obs, bsf, cfa, beq_self_eq_true, ctr]; have ht := (zs0 2000000 (by decide) cv ⟨[], 0, 0, 0, 0, ⟨⟨#[]⟩, []⟩⟩ ⟨[], 0, 0, 0, 0, ⟨⟨#[]⟩, []⟩⟩ 3001 _ (zxr cv) (fun _ => by show (0 : Int) < 3000; omega) (by show (3000 : Int) - 0 < 3001; omega) 2000000 (by decide)).2.2.1; have hsame := z9b 2000000 (by decide) ht; have eR : ∀ r : HwResult, (⟨r.Lines, r.Status, r.Exception, r.Marks, r.Steps, r.Storage⟩ : HwResult) = r := fun _ => rfl; rw [eR, hsame]; rfl
  · rw [z6j _ hd k1, k2]; simp only [obs]; rw [zcx, dct hd]; simp only [beq_self_eq_true, ctr]; rw [zw6 2000000 ⟨[], 0, 0, 0, 0, ⟨⟨#[]⟩, []⟩⟩ (by decide) (by decide) (by decide) (by decide)]; rfl
end
end Go.Proofs.YtppbpnknfigboaaGreatDoor.M
namespace Go.Proofs.YtppbpnknfigboaaGreatDoor
theorem hardwareRuns_card : Rows.HardwareRunsUptoCardSaid := M.cardHardwareRuns M.plainHardwareRuns
#print axioms hardwareRuns_card
end Go.Proofs.YtppbpnknfigboaaGreatDoor
