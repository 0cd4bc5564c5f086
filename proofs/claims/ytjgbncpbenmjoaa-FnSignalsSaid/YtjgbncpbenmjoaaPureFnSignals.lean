/- The law FnSignals as a statement over numbers and lists, proved; no condition but the sizes and ranges that every input has. -/
import Derived.Test.YtjgbncpbenmjoaaF26
import Derived.Test.YtjgbncpbenmjoaaEv
namespace Go.Proofs.Ytjgbncpbenmjoaa.Pure
open Go.RowKit Go.Proofs.Ytjgbncpbenmjoaa.Pall Go.Proofs.YtjgbncpbenmjoaaW.PrintWords
set_option linter.unusedSimpArgs false
set_option linter.unusedVariables false
/-- Is the signal with the index j right, beside the one before it? -/
def sgB (l : List S33) (j : Nat) : Bool :=
  decide (0 ≤ (rd_T33 l (j : Int)).f0) && decide ((rd_T33 l (j : Int)).f0 ≤ 100000) && decide (0 ≤ (rd_T33 l (j : Int)).f1) && decide ((rd_T33 l (j : Int)).f1 ≤ 9) && !decide ((rd_T33 l (j : Int)).f1 = 8) && (decide (j = 0) || decide ((rd_T33 l ((j - 1 : Nat) : Int)).f0 ≤ (rd_T33 l (j : Int)).f0))
def areSig (l : List S33) : Bool := allD (sgB l) 0 l.length && decide (l.length ≤ 40)
theorem spec_AreSignals_ev (l : List S33) (hn : l.length ≤ 9223372036854775807) : Ev (fun k => spec_AreSignals.f k l) (areSig l) := by
  have h := Ev.allLoop (l := fun k i => spec_AreSignals.l0 k l i) (n := l.length) (sgB l) false (decide (l.length ≤ 40))
    (fun i hi => Evt.all fun k => by
      simp only [spec_AreSignals.l0, spec_l01In.f]
      rw [if_pos (by omega), if_pos (by omega), wrap_succ hi hn]
      generalize spec_AreSignals.l0 k l ((i + 1 : Nat) : Int) = R
      by_cases h0 : i = 0
      · have hz : (i = 0) = True := eq_true h0
        have hp : ¬ 0 < i := by omega
        clear h0
        by_cases h1 : 0 ≤ (rd_T33 l (i : Int)).f0 <;> by_cases h2 : (rd_T33 l (i : Int)).f0 ≤ 100000 <;> by_cases h3 : 0 ≤ (rd_T33 l (i : Int)).f1 <;> by_cases h4 : (rd_T33 l (i : Int)).f1 ≤ 9 <;> by_cases h5 : (rd_T33 l (i : Int)).f1 = 8 <;> simp [sgB, hz, hp, h1, h2, h3, h4, h5]
      · have hp : (i : Int) > 0 := by omega
        rw [wrap_pred hi (by omega) hn]
        have q1 : (0 : Int) ≤ ((i - 1 : Nat) : Int) := by omega
        have q2 : ((i - 1 : Nat) : Int) < (l.length : Int) := by omega
        by_cases h1 : 0 ≤ (rd_T33 l (i : Int)).f0 <;> by_cases h2 : (rd_T33 l (i : Int)).f0 ≤ 100000 <;> by_cases h3 : 0 ≤ (rd_T33 l (i : Int)).f1 <;> by_cases h4 : (rd_T33 l (i : Int)).f1 ≤ 9 <;> by_cases h5 : (rd_T33 l (i : Int)).f1 = 8 <;> by_cases h6 : (rd_T33 l ((i - 1 : Nat) : Int)).f0 ≤ (rd_T33 l (i : Int)).f0 <;> simp [sgB, h0, q1, q2, h1, h2, h3, h4, h5, h6, Int.not_lt.2, Int.not_le.1] <;> (try omega))
    (Evt.all fun k => by
      simp only [spec_AreSignals.l0]
      rw [if_neg (by omega)]
      congr 1
      exact decide_eq_decide.2 (by omega)) l.length 0 (by omega)
  refine (congrArg (Ev _) ?_).mp h
  unfold areSig
  cases allD (sgB l) 0 l.length <;> simp
theorem impl_AreSignals_ev (l : List S33) (hn : l.length ≤ 9223372036854775807) : Ev (fun k => impl_AreSignals.f k l) (areSig l) := by
  unfold impl_AreSignals.f
  by_cases hl : (l.length : Int) > 40
  · simp only [if_pos hl]
    have : areSig l = false := by
      unfold areSig
      rw [decide_eq_false (by omega), Bool.and_false]
    rw [this]
    exact Ev.now _
  simp only [if_neg hl]
  have h := Ev.allLoop (l := fun k i => impl_AreSignals.l0 k l l (l.length : Int) i) (n := l.length) (sgB l) false true
    (fun i hi => Evt.all fun k => by
      simp only [impl_AreSignals.l0, impl_isTick.f, impl_within.f]
      rw [if_pos (by omega), if_pos (by omega), if_pos (by omega), wrap_succ hi hn]
      generalize impl_AreSignals.l0 k l l (l.length : Int) ((i + 1 : Nat) : Int) = R
      by_cases h0 : i = 0
      · have hz : (i = 0) = True := eq_true h0
        have hp : ¬ 0 < i := by omega
        clear h0
        by_cases h1 : 0 ≤ (rd_T33 l (i : Int)).f0 <;> by_cases h2 : (rd_T33 l (i : Int)).f0 ≤ 100000 <;> by_cases h3 : 0 ≤ (rd_T33 l (i : Int)).f1 <;> by_cases h4 : (rd_T33 l (i : Int)).f1 ≤ 9 <;> by_cases h5 : (rd_T33 l (i : Int)).f1 = 8 <;> simp [sgB, hz, hp, h1, h2, h3, h4, h5]
      · have hp : (i : Int) > 0 := by omega
        rw [wrap_pred hi (by omega) hn]
        have q1 : (0 : Int) ≤ ((i - 1 : Nat) : Int) := by omega
        have q2 : ((i - 1 : Nat) : Int) < (l.length : Int) := by omega
        by_cases h1 : 0 ≤ (rd_T33 l (i : Int)).f0 <;> by_cases h2 : (rd_T33 l (i : Int)).f0 ≤ 100000 <;> by_cases h3 : 0 ≤ (rd_T33 l (i : Int)).f1 <;> by_cases h4 : (rd_T33 l (i : Int)).f1 ≤ 9 <;> by_cases h5 : (rd_T33 l (i : Int)).f1 = 8 <;> by_cases h6 : (rd_T33 l ((i - 1 : Nat) : Int)).f0 ≤ (rd_T33 l (i : Int)).f0 <;> simp [sgB, h0, q1, q2, h1, h2, h3, h4, h5, h6, Int.not_lt.2, Int.not_le.1] <;> (try omega))
    (Evt.all fun k => by
      simp only [impl_AreSignals.l0]
      rw [if_neg (by omega)]) l.length 0 (by omega)
  refine (congrArg (Ev _) ?_).mp h
  unfold areSig
  rw [decide_eq_true (by omega : l.length ≤ 40), Bool.and_true]
  cases allD (sgB l) 0 l.length <;> simp
theorem rd_T33_nat {l : List S33} {i : Nat} (h : i < l.length) : rd_T33 l (i : Int) = l[i] := by simp [rd_T33, h]
/-- x put in at place k. -/
def ins (l : List S33) (x : S33) (k : Nat) : List S33 := l.take k ++ x :: l.drop k
theorem ins_len (l : List S33) (x : S33) (k : Nat) (h : k ≤ l.length) : (ins l x k).length = l.length + 1 := by
  simp [ins]; omega
theorem ins_at (l : List S33) (x : S33) (k : Nat) (h : k < l.length) : ins l x k = l.take k ++ x :: l[k] :: l.drop (k + 1) := by
  rw [ins, List.drop_eq_getElem_cons h]
theorem ins_succ (l : List S33) (x : S33) (k : Nat) (h : k < l.length) : ins l x (k + 1) = l.take k ++ l[k] :: x :: l.drop (k + 1) := by
  rw [ins, List.take_succ_eq_append_getElem h, List.append_assoc]
  rfl
theorem ins_rd0 (l : List S33) (x : S33) (k : Nat) (h : k < l.length) : rd_T33 (ins l x (k + 1)) (k : Int) = l[k] := by
  rw [rd_T33_nat (by rw [ins_len _ _ _ (by omega)]; omega)]
  have hk : (l.take k).length = k := by simp; omega
  simp only [ins_succ l x k h]
  rw [List.getElem_append_right (by omega)]
  simp [hk]
theorem ins_rd1 (l : List S33) (x : S33) (k : Nat) (h : k < l.length) : rd_T33 (ins l x (k + 1)) ((k + 1 : Nat) : Int) = x := by
  rw [rd_T33_nat (by rw [ins_len _ _ _ (by omega)]; omega)]
  have hk : (l.take k).length = k := by simp; omega
  simp only [ins_succ l x k h]
  rw [List.getElem_append_right (by omega)]
  simp [hk]
theorem ins_swap (l : List S33) (x : S33) (k : Nat) (h : k < l.length) : ((ins l x (k + 1)).set k x).set (k + 1) l[k] = ins l x k := by
  have hk : (l.take k).length = k := by simp; omega
  rw [ins_succ l x k h, ins_at l x k h, List.set_append_right _ _ (by omega), hk, Nat.sub_self, List.set_cons_zero, List.set_append_right _ _ (by omega), hk, show k + 1 - k = 1 by omega, List.set_cons_succ, List.set_cons_zero]
/-- Where x comes to, from k down. -/
def pl (l : List S33) (x : S33) : Nat → Nat
  | 0 => 0
  | k + 1 => if (rd_T33 l (k : Int)).f0 > x.f0 then pl l x k else k + 1
theorem pl_le (l : List S33) (x : S33) : ∀ k, pl l x k ≤ k
  | 0 => Nat.le_refl _
  | k + 1 => by
    have := pl_le l x k
    simp only [pl]
    split <;> omega
def fin5 (y : List S33) : List S33 × Int := if areSig y = true then (y, 0) else ([], 5)
theorem spec_ins (l : List S33) (a b : Int) (hn : l.length ≤ 1000000) : ∀ k, k ≤ l.length → Ev (fun n => spec_AddSignal.l0 n l (k : Int) a b) (fin5 (ins l ⟨a, b⟩ (pl l ⟨a, b⟩ k))) := by
  have stop : ∀ k, k ≤ l.length → ∀ n, ((some (([] : List (S33)) : List (S33))).bind fun y165 => (if 0 ≤ (k : Int) then (if (k : Int) ≤ (l.length : Int) then ((some (l.take ((k : Int) : Int).toNat : List (S33))).bind fun y168 => (if y165.length + y168.length < 8796093022208 then ((some (y165 ++ y168 : List (S33))).bind fun y172 => ((some (([(⟨a, b⟩ : S33)] : List (S33)) : List (S33))).bind fun y175 => (if y172.length + y175.length < 8796093022208 then ((some (y172 ++ y175 : List (S33))).bind fun y178 => ((some (l.drop ((k : Int) : Int).toNat : List (S33))).bind fun y181 => (if y178.length + y181.length < 8796093022208 then ((some (y178 ++ y181 : List (S33))).bind fun y185 => ((spec_AreSignals.f n y185).bind fun t188 => (if t188 = true then (some (y185, (0 : Int))) else (some (([] : List (S33)), (5 : Int)))))) else (none)))) else (none)))) else (none))) else (none)) else (none))) = (spec_AreSignals.f n (ins l ⟨a, b⟩ k)).bind fun t => if t = true then some (ins l ⟨a, b⟩ k, (0 : Int)) else some (([] : List (S33)), (5 : Int)) := by
    intro k hk n
    rw [Option.bind_some, if_pos (show (0 : Int) ≤ (k : Int) by omega), if_pos (show (k : Int) ≤ (l.length : Int) by omega), Option.bind_some, Int.toNat_natCast, if_pos (by simp; omega), Option.bind_some, Option.bind_some, if_pos (by simp; omega), Option.bind_some, Option.bind_some, if_pos (by simp; omega), Option.bind_some]
    have e : [] ++ List.take k l ++ [(⟨a, b⟩ : S33)] ++ List.drop k l = ins l ⟨a, b⟩ k := by simp [ins]
    rw [e]
  have fin : ∀ k, k ≤ l.length → Ev (fun n => (spec_AreSignals.f n (ins l ⟨a, b⟩ k)).bind fun t => if t = true then some (ins l ⟨a, b⟩ k, (0 : Int)) else some (([] : List (S33)), (5 : Int))) (fin5 (ins l ⟨a, b⟩ k)) := by
    intro k hk
    refine Ev.bind (spec_AreSignals_ev _ (by rw [ins_len _ _ _ hk]; omega)) ?_
    unfold fin5
    cases areSig (ins l ⟨a, b⟩ k) <;> exact Ev.now _
  intro k
  induction k with
  | zero =>
    intro hk
    refine Ev.dn (Ev.eq' (fin 0 hk) (fun n => ?_))
    rw [← stop 0 hk n]
    simp only [spec_AddSignal.l0]
    rw [if_neg (show ¬ ((0 : Nat) : Int) > 0 by decide)]
  | succ k ih =>
    intro hk
    have hw : wrap64 (((k + 1 : Nat) : Int) - 1) = (k : Int) := by rw [wrap_id (by omega) (by omega)]; omega
    by_cases c : (rd_T33 l (k : Int)).f0 > a
    · have e : pl l ⟨a, b⟩ (k + 1) = pl l ⟨a, b⟩ k := if_pos c
      rw [e]
      refine Ev.dn (Ev.eq' (ih (by omega)) (fun n => ?_))
      simp only [spec_AddSignal.l0]
      rw [if_pos (show ((k + 1 : Nat) : Int) > 0 by omega), hw, if_pos (show (0 : Int) ≤ (k : Int) by omega), if_pos (show (k : Int) < (l.length : Int) by omega), if_pos c]
    · have e : pl l ⟨a, b⟩ (k + 1) = k + 1 := if_neg c
      rw [e]
      refine Ev.dn (Ev.eq' (fin (k + 1) hk) (fun n => ?_))
      rw [← stop (k + 1) hk n]
      simp only [spec_AddSignal.l0]
      rw [if_pos (show ((k + 1 : Nat) : Int) > 0 by omega), hw, if_pos (show (0 : Int) ≤ (k : Int) by omega), if_pos (show (k : Int) < (l.length : Int) by omega), if_neg c]
theorem impl_ins (l : List S33) (x : S33) (hn : l.length ≤ 1000000) : ∀ k, k ≤ l.length → Ev (fun n => impl_AddSignal.l0 n (ins l x k) (k : Int)) (fin5 (ins l x (pl l x k))) := by
  have fin : ∀ k, k ≤ l.length → Ev (fun n => (impl_AreSignals.f n (ins l x k)).bind fun t => if t = true then some (ins l x k, (0 : Int)) else some (([] : List (S33)), (5 : Int))) (fin5 (ins l x k)) := by
    intro k hk
    refine Ev.bind (impl_AreSignals_ev _ (by rw [ins_len _ _ _ hk]; omega)) ?_
    unfold fin5
    cases areSig (ins l x k) <;> exact Ev.now _
  intro k
  induction k with
  | zero =>
    intro hk
    refine Ev.dn (Ev.eq' (fin 0 hk) (fun n => ?_))
    simp only [impl_AddSignal.l0]
    rw [if_neg (show ¬ ((0 : Nat) : Int) > 0 by decide)]
  | succ k ih =>
    intro hk
    have hw : wrap64 (((k + 1 : Nat) : Int) - 1) = (k : Int) := by rw [wrap_id (by omega) (by omega)]; omega
    have hl := ins_len l x (k + 1) hk
    have hlk : rd_T33 l (k : Int) = l[k] := rd_T33_nat (by omega)
    by_cases c : (rd_T33 l (k : Int)).f0 > x.f0
    · have e : pl l x (k + 1) = pl l x k := if_pos c
      rw [e]
      refine Ev.dn (Ev.eq' (ih (by omega)) (fun n => ?_))
      simp only [impl_AddSignal.l0]
      rw [if_pos (show ((k + 1 : Nat) : Int) > 0 by omega), hw, if_pos (show (0 : Int) ≤ (k : Int) by omega), if_pos (show (k : Int) < ((ins l x (k + 1)).length : Int) by omega), if_pos (show (0 : Int) ≤ ((k + 1 : Nat) : Int) by omega), if_pos (show ((k + 1 : Nat) : Int) < ((ins l x (k + 1)).length : Int) by omega), ins_rd0 l x k (by omega), ins_rd1 l x k (by omega), if_pos (by rw [← hlk]; exact c), Int.toNat_natCast, Int.toNat_natCast]
      congr 1
      exact ins_swap l x k (by omega)
    · have e : pl l x (k + 1) = k + 1 := if_neg c
      rw [e]
      refine Ev.dn (Ev.eq' (fin (k + 1) hk) (fun n => ?_))
      simp only [impl_AddSignal.l0]
      rw [if_pos (show ((k + 1 : Nat) : Int) > 0 by omega), hw, if_pos (show (0 : Int) ≤ (k : Int) by omega), if_pos (show (k : Int) < ((ins l x (k + 1)).length : Int) by omega), if_pos (show (0 : Int) ≤ ((k + 1 : Nat) : Int) by omega), if_pos (show ((k + 1 : Nat) : Int) < ((ins l x (k + 1)).length : Int) by omega), ins_rd0 l x k (by omega), ins_rd1 l x k (by omega), if_neg (by rw [← hlk]; exact c)]
def addR (l : List S33) (x : S33) : List S33 × Int := if areSig l = true then (if l.length = 40 then ([], 3) else fin5 (ins l x (pl l x l.length))) else ([], 1)
theorem AddSignal_both (l : List S33) (a b : Int) (hn : l.length ≤ 1000000) : Ev (fun k => spec_AddSignal.f k l a b) (addR l ⟨a, b⟩) ∧ Ev (fun k => impl_AddSignal.f k l a b) (addR l ⟨a, b⟩) ∧ (addR l ⟨a, b⟩).1.length ≤ 1000001 := by
  unfold spec_AddSignal.f impl_AddSignal.f addR
  refine ⟨Ev.bind (spec_AreSignals_ev l (by omega)) ?_, Ev.bind (impl_AreSignals_ev l (by omega)) ?_, ?_⟩
  · cases areSig l with
    | false => simp only [Bool.false_eq_true, if_false]; exact Ev.now _
    | true =>
      simp only [if_true]
      by_cases c : l.length = 40
      · simp only [if_pos c, if_pos (show (l.length : Int) = 40 by omega)]; exact Ev.now _
      · simp only [if_neg c, if_neg (show ¬ (l.length : Int) = 40 by omega)]
        exact spec_ins l a b hn l.length (Nat.le_refl _)
  · cases areSig l with
    | false => simp only [Bool.false_eq_true, if_false]; exact Ev.now _
    | true =>
      simp only [if_true]
      by_cases c : l.length = 40
      · simp only [if_pos c, if_pos (show (l.length : Int) = 40 by omega)]; exact Ev.now _
      · simp only [if_neg c, if_neg (show ¬ (l.length : Int) = 40 by omega)]
        refine Ev.eq' (impl_ins l ⟨a, b⟩ hn l.length (Nat.le_refl _)) (fun n => ?_)
        have e : ins l ⟨a, b⟩ l.length = [] ++ l ++ [(⟨a, b⟩ : S33)] := by simp [ins]
        rw [Option.bind_some, if_pos (by simp; omega), Option.bind_some, Option.bind_some, if_pos (by simp; omega), Option.bind_some, ← e, ins_len _ _ _ (Nat.le_refl _), wrap_id (by omega) (by omega)]
        congr 1
        omega
  · have hp := pl_le l ⟨a, b⟩ l.length
    have hi := ins_len l ⟨a, b⟩ _ hp
    cases areSig l with
    | false => simp
    | true =>
      simp only [if_true]
      split
      · simp
      · unfold fin5
        split
        · simp only [hi]; omega
        · simp
abbrev Ct := Bool × Bool × Bool × Bool × Bool × Int
/-- The controller after an input, if it is allowed. -/
def gv (a b c d e : Bool) (n x : Int) : Option Ct :=
  if x = 0 then some (!a, b, c && !a, d && !a, e, n)
  else if x = 1 then some (a, !b, c && !b, d && !b, e, n)
  else if x = 2 then (if (a && b && !e) = true then some (a, b, true, false, e, 0) else none)
  else if x = 3 then some (a, b, false, false, e, n)
  else if x = 4 then (if (c && !d) = true then some (a, b, c, true, e, n) else none)
  else if x = 5 then (if d = true then some (a, b, c, false, e, n) else none)
  else if x = 6 then some (a, b, false, false, true, n)
  else if x = 7 then some (a, b, c, d, e, 0)
  else if x = 8 then some (a, b, c && !decide (mn 4 (wrap64 (n + 1)) > 3), d && !decide (mn 4 (wrap64 (n + 1)) > 3), e, mn 4 (wrap64 (n + 1)))
  else (if (e && !a && !b) = true then some (a, b, c, d, false, n) else none)
theorem mn_comm (x y : Int) : mn x y = mn y x := by unfold mn; (repeat' split) <;> omega
def give7 (s : Ct) (o : Option Ct) : Bool × Bool × Bool × Bool × Bool × Int × Bool :=
  match o with
  | some t => (t.1, t.2.1, t.2.2.1, t.2.2.2.1, t.2.2.2.2.1, t.2.2.2.2.2, true)
  | none => (s.1, s.2.1, s.2.2.1, s.2.2.2.1, s.2.2.2.2.1, s.2.2.2.2.2, false)
theorem spec_gv (a b c d e : Bool) (n x : Int) : spec_l21Give.f a b c d e n x = some (give7 (a, b, c, d, e, n) (gv a b c d e n x)) := by
  unfold spec_l21Give.f gv
  simp only [spec_l21Off.f, Option.bind_some]
  by_cases h0 : x = 0
  · simp only [if_pos h0]; cases a <;> simp [give7]
  simp only [if_neg h0]
  by_cases h1 : x = 1
  · simp only [if_pos h1]; cases b <;> simp [give7]
  simp only [if_neg h1]
  by_cases h2 : x = 2
  · simp only [if_pos h2]; cases a <;> cases b <;> cases e <;> simp [give7]
  simp only [if_neg h2]
  by_cases h3 : x = 3
  · simp only [if_pos h3]; simp [give7]
  simp only [if_neg h3]
  by_cases h4 : x = 4
  · simp only [if_pos h4]; cases c <;> cases d <;> simp [give7]
  simp only [if_neg h4]
  by_cases h5 : x = 5
  · simp only [if_pos h5]; cases d <;> simp [give7]
  simp only [if_neg h5]
  by_cases h6 : x = 6
  · simp only [if_pos h6]; simp [give7]
  simp only [if_neg h6]
  by_cases h7 : x = 7
  · simp only [if_pos h7]; simp [give7]
  simp only [if_neg h7]
  by_cases h8 : x = 8
  · simp only [if_pos h8]
    by_cases hm : mn 4 (wrap64 (n + 1)) > 3
    · simp [give7, hm]
    · simp [give7, hm]
  simp only [if_neg h8]
  cases a <;> cases b <;> cases e <;> simp [give7]
def inp (s : Ct) (x : Int) : Ct × Int :=
  if 0 ≤ x ∧ x ≤ 9 then (match gv s.1 s.2.1 s.2.2.1 s.2.2.2.1 s.2.2.2.2.1 s.2.2.2.2.2 x with
    | some t => (t, 0)
    | none => (s, 5)) else (s, 2)
def fl7 (s : Ct) (y : Int) : Bool × Bool × Bool × Bool × Bool × Int × Int := (s.1, s.2.1, s.2.2.1, s.2.2.2.1, s.2.2.2.2.1, s.2.2.2.2.2, y)
def inpF (s : Ct) (x : Int) : Bool × Bool × Bool × Bool × Bool × Int × Int := if (inp s x).2 = 0 then fl7 (inp s x).1 0 else (false, false, false, false, false, 0, (inp s x).2)
theorem impl_inp (a b c d e : Bool) (n x : Int) : impl_giveInput.f a b c d e n x = some (inpF (a, b, c, d, e, n) x) := by
  unfold impl_giveInput.f inpF inp gv
  simp only [impl_safe.f, Option.bind_some, mn_comm (wrap64 (n + 1)) 4]
  by_cases h0 : x = 0
  · subst h0; cases a <;> simp [fl7]
  simp only [if_neg h0]
  by_cases h1 : x = 1
  · subst h1; cases b <;> simp [fl7]
  simp only [if_neg h1]
  by_cases h2 : x = 2
  · subst h2; cases a <;> cases b <;> cases e <;> simp [fl7]
  simp only [if_neg h2]
  by_cases h3 : x = 3
  · subst h3; simp [fl7]
  simp only [if_neg h3]
  by_cases h4 : x = 4
  · subst h4; cases c <;> cases d <;> simp [fl7]
  simp only [if_neg h4]
  by_cases h5 : x = 5
  · subst h5; cases d <;> simp [fl7]
  simp only [if_neg h5]
  by_cases h6 : x = 6
  · subst h6; simp [fl7]
  simp only [if_neg h6]
  by_cases h7 : x = 7
  · subst h7; simp [fl7]
  simp only [if_neg h7]
  by_cases h8 : x = 8
  · subst h8
    by_cases hm : mn 4 (wrap64 (n + 1)) > 3
    · simp [fl7, hm]
    · simp [fl7, hm]
  simp only [if_neg h8]
  by_cases h9 : x = 9
  · subst h9; cases a <;> cases b <;> cases e <;> simp [fl7]
  simp only [if_neg h9, if_neg (show ¬ (0 ≤ x ∧ x ≤ 9) by omega)]
  simp
/-- Is the controller sound? -/
def snd (a b c d e : Bool) (n : Int) : Bool := decide (0 ≤ n) && decide (n ≤ 4) && (!c || (a && b && !e && decide (n ≤ 3))) && (c || !d)
theorem impl_snd (a b c d e : Bool) (n : Int) : impl_IsSound.f a b c d e n = some (snd a b c d e n) := by
  unfold impl_IsSound.f impl_within.f snd
  by_cases h0 : 0 ≤ n <;> by_cases h4 : n ≤ 4 <;> by_cases h3 : n ≤ 3 <;> cases a <;> cases b <;> cases c <;> cases d <;> cases e <;> simp [h0, h4, h3]
theorem snd_inp (a b c d e : Bool) (n x : Int) (h : snd a b c d e n = true) (h2 : (inp (a, b, c, d, e, n) x).2 = 0) :
    snd (inp (a, b, c, d, e, n) x).1.1 (inp (a, b, c, d, e, n) x).1.2.1 (inp (a, b, c, d, e, n) x).1.2.2.1 (inp (a, b, c, d, e, n) x).1.2.2.2.1 (inp (a, b, c, d, e, n) x).1.2.2.2.2.1 (inp (a, b, c, d, e, n) x).1.2.2.2.2.2 = true := by
  have hn : 0 ≤ n ∧ n ≤ 4 := by
    simp only [snd, Bool.and_eq_true, decide_eq_true_eq] at h
    exact ⟨h.1.1.1, h.1.1.2⟩
  have hm : wrap64 (n + 1) = n + 1 := wrap_id (by omega) (by omega)
  obtain ⟨m0, m1⟩ : 0 ≤ mn 4 (n + 1) ∧ mn 4 (n + 1) ≤ 4 := by clear hm; unfold mn; split <;> omega
  unfold inp at h2 ⊢
  split at h2
  · rename_i hx
    rw [if_pos hx]
    simp only [gv, hm] at h2 ⊢
    generalize mn 4 (n + 1) = m at m0 m1 h2 ⊢
    by_cases x0 : x = 0
    · simp only [if_pos x0]; revert h; clear h2 hm; cases a <;> cases b <;> cases c <;> cases d <;> cases e <;> simp [snd] <;> omega
    by_cases x1 : x = 1
    · simp only [if_neg x0, if_pos x1]; revert h; clear h2 hm; cases a <;> cases b <;> cases c <;> cases d <;> cases e <;> simp [snd] <;> omega
    by_cases x2 : x = 2
    · simp only [if_neg x0, if_neg x1, if_pos x2] at h2 ⊢; clear hm; revert h h2; cases a <;> cases b <;> cases c <;> cases d <;> cases e <;> simp [snd] <;> omega
    by_cases x3 : x = 3
    · simp only [if_neg x0, if_neg x1, if_neg x2, if_pos x3]; revert h; clear h2 hm; cases a <;> cases b <;> cases c <;> cases d <;> cases e <;> simp [snd] <;> omega
    by_cases x4 : x = 4
    · simp only [if_neg x0, if_neg x1, if_neg x2, if_neg x3, if_pos x4] at h2 ⊢; clear hm; revert h h2; cases a <;> cases b <;> cases c <;> cases d <;> cases e <;> simp [snd] <;> omega
    by_cases x5 : x = 5
    · simp only [if_neg x0, if_neg x1, if_neg x2, if_neg x3, if_neg x4, if_pos x5] at h2 ⊢; clear hm; revert h h2; cases a <;> cases b <;> cases c <;> cases d <;> cases e <;> simp [snd] <;> omega
    by_cases x6 : x = 6
    · simp only [if_neg x0, if_neg x1, if_neg x2, if_neg x3, if_neg x4, if_neg x5, if_pos x6]; revert h; clear h2 hm; cases a <;> cases b <;> cases c <;> cases d <;> cases e <;> simp [snd] <;> omega
    by_cases x7 : x = 7
    · simp only [if_neg x0, if_neg x1, if_neg x2, if_neg x3, if_neg x4, if_neg x5, if_neg x6, if_pos x7]; revert h; clear h2 hm; cases a <;> cases b <;> cases c <;> cases d <;> cases e <;> simp [snd] <;> omega
    by_cases x8 : x = 8
    · simp only [if_neg x0, if_neg x1, if_neg x2, if_neg x3, if_neg x4, if_neg x5, if_neg x6, if_neg x7, if_pos x8]
      by_cases c3 : m > 3
      · rw [decide_eq_true c3]
        simp only [snd, Bool.not_true, Bool.and_false, Bool.not_false, Bool.true_or, Bool.or_true, Bool.and_true, Bool.and_eq_true, decide_eq_true_eq]
        exact ⟨m0, m1⟩
      · rw [decide_eq_false c3]
        revert h; clear h2 hm
        cases a <;> cases b <;> cases c <;> cases d <;> cases e <;> simp [snd] <;> omega
    · simp only [if_neg x0, if_neg x1, if_neg x2, if_neg x3, if_neg x4, if_neg x5, if_neg x6, if_neg x7, if_neg x8] at h2 ⊢; clear hm; revert h h2; cases a <;> cases b <;> cases c <;> cases d <;> cases e <;> simp [snd] <;> omega
  · exact absurd h2 (show ¬ (2 : Int) = 0 by decide)
/-- The controller after a tick. -/
def tk (s : Ct) : Ct := (s.1, s.2.1, s.2.2.1 && !decide (mn 4 (wrap64 (s.2.2.2.2.2 + 1)) > 3), s.2.2.2.1 && !decide (mn 4 (wrap64 (s.2.2.2.2.2 + 1)) > 3), s.2.2.2.2.1, mn 4 (wrap64 (s.2.2.2.2.2 + 1)))
def okc (s : Ct) : Prop := 0 ≤ s.2.2.2.2.2 ∧ s.2.2.2.2.2 ≤ 4
theorem gv_tick (s : Ct) : gv s.1 s.2.1 s.2.2.1 s.2.2.2.1 s.2.2.2.2.1 s.2.2.2.2.2 8 = some (tk s) := by
  unfold gv tk
  rw [if_neg (by decide), if_neg (by decide), if_neg (by decide), if_neg (by decide), if_neg (by decide), if_neg (by decide), if_neg (by decide), if_neg (by decide), if_pos rfl]
def fl6 (s : Ct) : Bool × Bool × Bool × Bool × Bool × Int := s
theorem impl_tick (a b c d e : Bool) (n : Int) : impl_giveInput.f a b c d e n 8 = some (fl7 (tk (a, b, c, d, e, n)) 0) := by
  have h := gv_tick (a, b, c, d, e, n)
  dsimp only at h
  rw [impl_inp]
  unfold inpF inp
  simp only [if_pos (show (0 : Int) ≤ 8 ∧ (8 : Int) ≤ 9 by decide), h, if_pos]
theorem spec_tick (a b c d e : Bool) (n : Int) : spec_l21Give.f a b c d e n 8 = some (give7 (a, b, c, d, e, n) (some (tk (a, b, c, d, e, n)))) := by
  have h := gv_tick (a, b, c, d, e, n)
  dsimp only at h
  rw [spec_gv, h]
theorem mn4 {n : Int} (h0 : 0 ≤ n) (h4 : n ≤ 4) : mn 4 (wrap64 (n + 1)) = if n = 4 then 4 else n + 1 := by
  have hw : wrap64 (n + 1) = n + 1 := wrap_id (by omega) (by omega)
  rw [hw]
  unfold mn
  split <;> split <;> omega
theorem okc_tk {s : Ct} (h : okc s) : okc (tk s) := by
  obtain ⟨h0, h4⟩ := h
  unfold okc tk
  dsimp only
  rw [mn4 h0 h4]
  split <;> omega
theorem okc_gv {s t : Ct} {x : Int} (h : okc s) (hg : gv s.1 s.2.1 s.2.2.1 s.2.2.2.1 s.2.2.2.2.1 s.2.2.2.2.2 x = some t) : okc t := by
  have ht := okc_tk h
  obtain ⟨a, b, c, d, e, n⟩ := s
  obtain ⟨h0, h4⟩ := h
  dsimp only at h0 h4 hg
  unfold okc
  unfold gv at hg
  by_cases x0 : x = 0
  · rw [if_pos x0] at hg; cases hg; exact ⟨h0, h4⟩
  rw [if_neg x0] at hg
  by_cases x1 : x = 1
  · rw [if_pos x1] at hg; cases hg; exact ⟨h0, h4⟩
  rw [if_neg x1] at hg
  by_cases x2 : x = 2
  · rw [if_pos x2] at hg
    split at hg
    · cases hg; exact ⟨Int.le_refl _, by show (0 : Int) ≤ 4; decide⟩
    · cases hg
  rw [if_neg x2] at hg
  by_cases x3 : x = 3
  · rw [if_pos x3] at hg; cases hg; exact ⟨h0, h4⟩
  rw [if_neg x3] at hg
  by_cases x4 : x = 4
  · rw [if_pos x4] at hg
    split at hg
    · cases hg; exact ⟨h0, h4⟩
    · cases hg
  rw [if_neg x4] at hg
  by_cases x5 : x = 5
  · rw [if_pos x5] at hg
    split at hg
    · cases hg; exact ⟨h0, h4⟩
    · cases hg
  rw [if_neg x5] at hg
  by_cases x6 : x = 6
  · rw [if_pos x6] at hg; cases hg; exact ⟨h0, h4⟩
  rw [if_neg x6] at hg
  by_cases x7 : x = 7
  · rw [if_pos x7] at hg; cases hg; exact ⟨Int.le_refl _, by show (0 : Int) ≤ 4; decide⟩
  rw [if_neg x7] at hg
  by_cases x8 : x = 8
  · rw [if_pos x8] at hg; cases hg; exact ht
  rw [if_neg x8] at hg
  split at hg
  · cases hg; exact ⟨h0, h4⟩
  · cases hg
theorem tk_low (a b c d e : Bool) {n : Int} (h0 : 0 ≤ n) (h : n ≤ 2) : tk (a, b, c, d, e, n) = (a, b, c, d, e, n + 1) := by
  unfold tk
  dsimp only
  rw [mn4 h0 (by omega), if_neg (by omega), decide_eq_false (show ¬ n + 1 > 3 by omega)]
  simp
theorem tk_high (a b c d e : Bool) {n : Int} (h0 : 3 ≤ n) (h : n ≤ 4) : tk (a, b, c, d, e, n) = (a, b, false, false, e, 4) := by
  unfold tk
  dsimp only
  rw [mn4 (by omega) h]
  by_cases h4 : n = 4
  · rw [if_pos h4, decide_eq_true (show (4 : Int) > 3 by decide)]; simp
  · obtain rfl : n = 3 := by omega
    rw [if_neg h4, decide_eq_true (show (3 : Int) + 1 > 3 by decide)]; simp
/-- Some ticks. -/
def tks : Nat → Ct → Ct
  | 0, s => s
  | n + 1, s => tks n (tk s)
theorem tks_snoc (n : Nat) : ∀ s, tks (n + 1) s = tk (tks n s) := by
  induction n with
  | zero => intro s; rfl
  | succ n ih => intro s; exact ih (tk s)
theorem okc_tks (n : Nat) : ∀ {s : Ct}, okc s → okc (tks n s) := by
  induction n with
  | zero => exact fun h => h
  | succ n ih => exact fun h => ih (okc_tk h)
/-- Behind five ticks a sixth changes nothing. -/
theorem tks_five {s : Ct} (h : okc s) : tks 6 s = tks 5 s := by
  obtain ⟨a, b, c, d, e, n⟩ := s
  obtain ⟨h0, h4⟩ := h
  dsimp only at h0 h4
  obtain rfl | rfl | rfl | rfl | rfl : n = 0 ∨ n = 1 ∨ n = 2 ∨ n = 3 ∨ n = 4 := by omega
  · simp only [tks, tk_low a b c d e (show (0 : Int) ≤ 0 by decide) (by decide), tk_low a b c d e (show (0 : Int) ≤ 0 + 1 by decide) (by decide), tk_low a b c d e (show (0 : Int) ≤ 0 + 1 + 1 by decide) (by decide), tk_high _ _ _ _ _ (show (3 : Int) ≤ 0 + 1 + 1 + 1 by decide) (by decide), tk_high _ _ _ _ _ (show (3 : Int) ≤ 4 by decide) (by decide)]
  · simp only [tks, tk_low a b c d e (show (0 : Int) ≤ 1 by decide) (by decide), tk_low a b c d e (show (0 : Int) ≤ 1 + 1 by decide) (by decide), tk_high _ _ _ _ _ (show (3 : Int) ≤ 1 + 1 + 1 by decide) (by decide), tk_high _ _ _ _ _ (show (3 : Int) ≤ 4 by decide) (by decide)]
  · simp only [tks, tk_low a b c d e (show (0 : Int) ≤ 2 by decide) (by decide), tk_high _ _ _ _ _ (show (3 : Int) ≤ 2 + 1 by decide) (by decide), tk_high _ _ _ _ _ (show (3 : Int) ≤ 4 by decide) (by decide)]
  · simp only [tks, tk_high _ _ _ _ _ (show (3 : Int) ≤ 3 by decide) (by decide), tk_high _ _ _ _ _ (show (3 : Int) ≤ 4 by decide) (by decide)]
  · simp only [tks, tk_high _ _ _ _ _ (show (3 : Int) ≤ 4 by decide) (by decide)]
def tksI (n : Int) (s : Ct) : Ct := tks (min n.toNat 5) s
theorem tksI_zero (s : Ct) : tksI 0 s = s := rfl
theorem tksI_succ {n : Int} (hn : 1 ≤ n) {s : Ct} (h : okc s) : tksI n s = tksI (n - 1) (tk s) := by
  unfold tksI
  by_cases c : n ≤ 5
  · obtain ⟨m, rfl⟩ : ∃ m : Nat, n = (m : Int) + 1 := ⟨(n - 1).toNat, by omega⟩
    have e1 : min ((m : Int) + 1).toNat 5 = m + 1 := by omega
    have e2 : min ((m : Int) + 1 - 1).toNat 5 = m := by omega
    rw [e1, e2]
    rfl
  · have e1 : min n.toNat 5 = 5 := by omega
    have e2 : min (n - 1).toNat 5 = 5 := by omega
    rw [e1, e2]
    exact (tks_five h).symm
theorem okc_tksI (n : Int) {s : Ct} (h : okc s) : okc (tksI n s) := okc_tks _ h
theorem spec_ticks_ev (n : Nat) : ∀ (a b c d e : Bool) (m : Int), n ≤ 5 → Ev (fun k => spec_l22Ticks.l0 k (n : Int) a b c d e m) (fl6 (tks n (a, b, c, d, e, m))) := by
  induction n with
  | zero =>
    intro a b c d e m _
    refine Ev.dn ?_
    simp only [spec_l22Ticks.l0]
    simp only [if_neg (show ¬ ((0 : Nat) : Int) > 0 by omega)]
    exact Ev.now _
  | succ n ih =>
    intro a b c d e m hn
    have h := ih (tk (a, b, c, d, e, m)).1 (tk (a, b, c, d, e, m)).2.1 (tk (a, b, c, d, e, m)).2.2.1 (tk (a, b, c, d, e, m)).2.2.2.1 (tk (a, b, c, d, e, m)).2.2.2.2.1 (tk (a, b, c, d, e, m)).2.2.2.2.2 (by omega)
    refine Ev.dn (Ev.eq' h (fun k => ?_))
    have hw : wrap64 (((n + 1 : Nat) : Int) - 1) = (n : Int) := by rw [show ((n + 1 : Nat) : Int) - 1 = (n : Int) by omega]; exact wrap_id (by omega) (by omega)
    simp only [spec_l22Ticks.l0, spec_tick, Option.bind_some, give7]
    rw [if_pos (by omega), hw]
theorem spec_l22Ticks_ev (a b c d e : Bool) (m n : Int) (hn : 0 ≤ n) : Ev (fun k => spec_l22Ticks.f k a b c d e m n) (fl6 (tksI n (a, b, c, d, e, m))) := by
  have e : mn n 5 = ((min n.toNat 5 : Nat) : Int) := by unfold mn; split <;> omega
  unfold spec_l22Ticks.f
  rw [e]
  exact spec_ticks_ev _ _ _ _ _ _ _ (by omega)
def sg (l : List S33) (i : Nat) : S33 := rd_T33 l (i : Int)
/-- A signal is given, or refused. -/
def app (s : Ct) (r : List Int) (i : Nat) (x : Int) : Ct × List Int := match gv s.1 s.2.1 s.2.2.1 s.2.2.2.1 s.2.2.2.2.1 s.2.2.2.2.2 x with
  | some t => (t, r)
  | none => (s, r ++ [(i : Int)])
theorem okc_app {s : Ct} (h : okc s) (r : List Int) (i : Nat) (x : Int) : okc (app s r i x).1 := by
  unfold app
  cases hg : gv s.1 s.2.1 s.2.2.1 s.2.2.2.1 s.2.2.2.2.1 s.2.2.2.2.2 x with
  | some t => exact okc_gv h hg
  | none => exact h
theorem app_len (s : Ct) (r : List Int) (i : Nat) (x : Int) : (app s r i x).2.length ≤ r.length + 1 := by
  unfold app
  split
  · exact Nat.le_succ _
  · simp
/-- From signal i on, at the time now: the controller in tick T, and what is refused. -/
def sp (l : List S33) (T : Int) : Nat → Nat → Int → Ct → List Int → Ct × List Int
  | 0, _, now, s, r => (tksI (T - now) s, r)
  | d + 1, i, now, s, r => if (sg l i).f0 ≤ T then sp l T d (i + 1) (sg l i).f0 (app (tksI ((sg l i).f0 - now) s) r i (sg l i).f1).1 (app (tksI ((sg l i).f0 - now) s) r i (sg l i).f1).2 else (tksI (T - now) s, r)
/-- The signals of a tick. -/
def bg (l : List S33) (t : Int) : Nat → Nat → Ct → List Int → Nat × Ct × List Int
  | 0, i, s, r => (i, s, r)
  | d + 1, i, s, r => if (sg l i).f0 = t then bg l t d (i + 1) (app s r i (sg l i).f1).1 (app s r i (sg l i).f1).2 else (i, s, r)
theorem bg_sp (l : List S33) {t T : Int} (hT : t ≤ T) : ∀ d i s r, i + d = l.length →
    i ≤ (bg l t d i s r).1 ∧ (bg l t d i s r).1 ≤ l.length ∧ ((bg l t d i s r).1 = l.length ∨ (sg l (bg l t d i s r).1).f0 ≠ t) ∧
      sp l T (l.length - (bg l t d i s r).1) (bg l t d i s r).1 t (bg l t d i s r).2.1 (bg l t d i s r).2.2 = sp l T d i t s r := by
  intro d
  induction d with
  | zero =>
    intro i s r hi
    simp only [bg]
    obtain rfl : i = l.length := by omega
    exact ⟨Nat.le_refl _, Nat.le_refl _, .inl rfl, by rw [Nat.sub_self]⟩
  | succ d ih =>
    intro i s r hi
    simp only [bg]
    by_cases c : (sg l i).f0 = t
    · rw [if_pos c]
      obtain ⟨h1, h2, h3, h4⟩ := ih (i + 1) (app s r i (sg l i).f1).1 (app s r i (sg l i).f1).2 (by omega)
      refine ⟨by omega, h2, h3, h4.trans ?_⟩
      simp only [sp]
      rw [if_pos (by omega), c, Int.sub_self, tksI_zero]
    · rw [if_neg c]
      exact ⟨Nat.le_refl _, by dsimp only; omega, .inr c, by dsimp only; rw [show l.length - i = d + 1 by omega]⟩
theorem bg_okc (l : List S33) (t : Int) : ∀ d i s r, okc s → okc (bg l t d i s r).2.1 := by
  intro d
  induction d with
  | zero => exact fun _ _ _ h => h
  | succ d ih =>
    intro i s r h
    simp only [bg]
    split
    · exact ih _ _ _ (okc_app h _ _ _)
    · exact h
theorem bg_len (l : List S33) (t : Int) : ∀ d i s r, r.length ≤ i → (bg l t d i s r).2.2.length ≤ (bg l t d i s r).1 := by
  intro d
  induction d with
  | zero => exact fun _ _ _ h => h
  | succ d ih =>
    intro i s r h
    simp only [bg]
    split
    · refine ih _ _ _ ?_
      have := app_len s r i (sg l i).f1
      omega
    · exact h
theorem tick_sp (l : List S33) {t T : Int} (hT : t < T) {i : Nat} {s : Ct} (hs : okc s) (r : List Int) (hi : i ≤ l.length) (h : i < l.length → t < (sg l i).f0) :
    sp l T (l.length - i) i t s r = sp l T (l.length - i) i (t + 1) (tk s) r := by
  have e : ∀ u : Int, t < u → tksI (u - t) s = tksI (u - (t + 1)) (tk s) := fun u hu => by
    rw [tksI_succ (show 1 ≤ u - t by omega) hs, show u - t - 1 = u - (t + 1) by omega]
  cases hd : l.length - i with
  | zero => simp only [sp]; rw [e T hT]
  | succ d =>
    have hf := h (by omega)
    simp only [sp]
    rw [e _ hf, e T hT]
theorem end_sp (l : List S33) (T : Int) {i : Nat} (s : Ct) (r : List Int) (h : i < l.length → T < (sg l i).f0) : sp l T (l.length - i) i T s r = (s, r) := by
  cases hd : l.length - i with
  | zero => simp only [sp]; rw [Int.sub_self, tksI_zero]
  | succ d =>
    have hf := h (by omega)
    simp only [sp]
    rw [if_neg (by omega), Int.sub_self, tksI_zero]
def z6 : Ct := (false, false, false, false, false, 0)
/-- The controller in tick T, and the signals that are refused. -/
def atT (l : List S33) (T : Int) : Ct × List Int := sp l T l.length 0 0 z6 []
theorem okc_z6 : okc z6 := ⟨Int.le_refl _, by decide⟩
theorem sig_of (l : List S33) (h : areSig l = true) : l.length ≤ 40 ∧ (∀ j, j < l.length → 0 ≤ (sg l j).f0 ∧ (sg l j).f0 ≤ 100000 ∧ 0 ≤ (sg l j).f1 ∧ (sg l j).f1 ≤ 9) ∧ ∀ i j, i ≤ j → j < l.length → (sg l i).f0 ≤ (sg l j).f0 := by
  unfold areSig at h
  simp only [Bool.and_eq_true, decide_eq_true_eq] at h
  obtain ⟨h1, h2⟩ := h
  have h3 := (allD_iff _ _ _).1 h1
  have h4 : ∀ j, j < l.length → 0 ≤ (sg l j).f0 ∧ (sg l j).f0 ≤ 100000 ∧ 0 ≤ (sg l j).f1 ∧ (sg l j).f1 ≤ 9 ∧ (j = 0 ∨ (sg l (j - 1)).f0 ≤ (sg l j).f0) := fun j hj => by
    have := h3 j (Nat.zero_le _) (by omega)
    unfold sgB at this
    simp only [Bool.and_eq_true, Bool.or_eq_true, decide_eq_true_eq] at this
    exact ⟨this.1.1.1.1.1, this.1.1.1.1.2, this.1.1.1.2, this.1.1.2, this.2⟩
  refine ⟨h2, fun j hj => ⟨(h4 j hj).1, (h4 j hj).2.1, (h4 j hj).2.2.1, (h4 j hj).2.2.2.1⟩, ?_⟩
  intro i j
  induction j with
  | zero => intro hij _; obtain rfl : i = 0 := (by omega); exact Int.le_refl _
  | succ j ih =>
    intro hij hj
    by_cases e : i = j + 1
    · rw [e]; exact Int.le_refl _
    · have h5 := ih (by omega) (by omega)
      rcases (h4 (j + 1) hj).2.2.2.2 with h6 | h6
      · omega
      · exact Int.le_trans h5 h6
def flB (p : Nat × Ct × List Int) : Int × Bool × Bool × Bool × Bool × Bool × Int × List Int := ((p.1 : Int), p.2.1.1, p.2.1.2.1, p.2.1.2.2.1, p.2.1.2.2.2.1, p.2.1.2.2.2.2.1, p.2.1.2.2.2.2.2, p.2.2)
theorem impl_app (s : Ct) (r : List Int) (i : Nat) (x : Int) (h0 : 0 ≤ x) (h9 : x ≤ 9) :
    (gv s.1 s.2.1 s.2.2.1 s.2.2.2.1 s.2.2.2.2.1 s.2.2.2.2.2 x = none ∧ app s r i x = (s, r ++ [(i : Int)]) ∧ impl_giveInput.f s.1 s.2.1 s.2.2.1 s.2.2.2.1 s.2.2.2.2.1 s.2.2.2.2.2 x = some (false, false, false, false, false, 0, 5)) ∨
    ∃ t, gv s.1 s.2.1 s.2.2.1 s.2.2.2.1 s.2.2.2.2.1 s.2.2.2.2.2 x = some t ∧ app s r i x = (t, r) ∧ impl_giveInput.f s.1 s.2.1 s.2.2.1 s.2.2.2.1 s.2.2.2.2.1 s.2.2.2.2.2 x = some (fl7 t 0) := by
  rw [impl_inp]
  unfold inpF inp app
  simp only [if_pos (And.intro h0 h9)]
  cases gv s.1 s.2.1 s.2.2.1 s.2.2.2.1 s.2.2.2.2.1 s.2.2.2.2.2 x with
  | none => exact .inl ⟨rfl, rfl, rfl⟩
  | some t => exact .inr ⟨t, rfl, rfl, rfl⟩
theorem impl_begin_ev (l : List S33) (hl : areSig l = true) (t : Int) : ∀ d i (s : Ct) r, i + d = l.length → r.length ≤ i →
    Ev (fun k => impl_desk_begin.l0 k l (i : Int) t s.1 s.2.1 s.2.2.1 s.2.2.2.1 s.2.2.2.2.1 s.2.2.2.2.2 r) (flB (bg l t d i s r)) := by
  obtain ⟨hn, hv, hs⟩ := sig_of l hl
  intro d
  induction d with
  | zero =>
    intro i s r hi hr
    refine Ev.dn ?_
    simp only [impl_desk_begin.l0, bg]
    simp only [if_neg (show ¬ (i : Int) < (l.length : Int) by omega)]
    exact Ev.now _
  | succ d ih =>
    intro i s r hi hr
    refine Ev.dn ?_
    simp only [impl_desk_begin.l0, bg]
    simp only [if_pos (show (i : Int) < (l.length : Int) by omega), if_pos (show (0 : Int) ≤ (i : Int) by omega)]
    have hx := hv i (by omega)
    have hw : wrap64 ((i : Int) + 1) = ((i + 1 : Nat) : Int) := wrap_succ (show i < l.length by omega) (by omega)
    by_cases c : (sg l i).f0 = t
    · rw [if_pos c]
      have c' : (rd_T33 l (i : Int)).f0 = t := c
      simp only [if_pos c']
      rcases impl_app s r i (sg l i).f1 hx.2.2.1 hx.2.2.2 with ⟨_, h2, h3⟩ | ⟨u, _, h2, h3⟩
      · rw [h2]
        have h := ih (i + 1) s (r ++ [(i : Int)]) (by omega) (by simp; omega)
        refine Ev.eq' h (fun k => ?_)
        have h3' : impl_giveInput.f s.1 s.2.1 s.2.2.1 s.2.2.2.1 s.2.2.2.2.1 s.2.2.2.2.2 (rd_T33 l (i : Int)).f1 = some (false, false, false, false, false, 0, 5) := h3
        rw [h3', Option.bind_some, hw]
        dsimp only
        rw [if_neg (by decide), if_pos (by omega)]
      · rw [h2]
        have h := ih (i + 1) u r (by omega) (by omega)
        refine Ev.eq' h (fun k => ?_)
        have h3' : impl_giveInput.f s.1 s.2.1 s.2.2.1 s.2.2.2.1 s.2.2.2.2.1 s.2.2.2.2.2 (rd_T33 l (i : Int)).f1 = some (fl7 u 0) := h3
        rw [h3', Option.bind_some, hw]
        unfold fl7
        dsimp only
        rw [if_pos rfl]
    · rw [if_neg c]
      have c' : ¬ (rd_T33 l (i : Int)).f0 = t := c
      simp only [if_neg c']
      exact Ev.now _
/-- What holds ahead of a tick's signals. -/
def Dsk (l : List S33) (t : Int) (i : Nat) (s : Ct) (r : List Int) : Prop :=
  i ≤ l.length ∧ okc s ∧ r.length ≤ i ∧ (∀ j, i ≤ j → j < l.length → t ≤ (sg l j).f0) ∧ ∀ T, t ≤ T → sp l T (l.length - i) i t s r = atT l T
theorem Dsk.start (l : List S33) (hl : areSig l = true) : Dsk l 0 0 z6 [] :=
  ⟨Nat.zero_le _, okc_z6, Nat.le_refl _, fun j _ hj => ((sig_of l hl).2.1 j hj).1, fun T _ => rfl⟩
/-- Behind a tick's signals: the controller of that tick; and on to the next. -/
theorem Dsk.step {l : List S33} (hl : areSig l = true) {t : Int} {i : Nat} {s : Ct} {r : List Int} (h : Dsk l t i s r) :
    (bg l t (l.length - i) i s r).2 = atT l t ∧ ((bg l t (l.length - i) i s r).1 < l.length → t < (sg l (bg l t (l.length - i) i s r).1).f0) ∧ Dsk l (t + 1) (bg l t (l.length - i) i s r).1 (tk (bg l t (l.length - i) i s r).2.1) (bg l t (l.length - i) i s r).2.2 := by
  obtain ⟨h1, h2, h3, h4, h5⟩ := h
  obtain ⟨hn, hv, hs⟩ := sig_of l hl
  have hk := bg_okc l t (l.length - i) i s r h2
  have hr := bg_len l t (l.length - i) i s r h3
  obtain ⟨b1, b2, b3, b4⟩ := bg_sp l (Int.le_refl t) (l.length - i) i s r (by omega)
  have b5 : ∀ T, t ≤ T → sp l T (l.length - (bg l t (l.length - i) i s r).1) (bg l t (l.length - i) i s r).1 t (bg l t (l.length - i) i s r).2.1 (bg l t (l.length - i) i s r).2.2 = atT l T := fun T hT => (bg_sp l hT (l.length - i) i s r (by omega)).2.2.2.trans (h5 T hT)
  generalize bg l t (l.length - i) i s r = p at hk hr b1 b2 b3 b4 b5 ⊢
  obtain ⟨i', s', r'⟩ := p
  dsimp only at hk hr b1 b2 b3 b4 b5 ⊢
  have hgt : i' < l.length → t < (sg l i').f0 := fun hi => by
    have := h4 i' b1 hi
    rcases b3 with b3 | b3
    · omega
    · omega
  have e := b5 t (Int.le_refl _)
  rw [end_sp l t s' r' hgt] at e
  refine ⟨e, hgt, b2, okc_tk hk, hr, fun j hj hjl => ?_, fun T hT => ?_⟩
  · have := hgt (by omega)
    have := hs i' j hj hjl
    omega
  · rw [← b5 T (by omega)]
    exact (tick_sp l (by omega) hk r' b2 hgt).symm
theorem spec_app (s : Ct) (r : List Int) (i : Nat) (x : Int) :
    (app s r i x = (s, r ++ [(i : Int)]) ∧ spec_l21Give.f s.1 s.2.1 s.2.2.1 s.2.2.2.1 s.2.2.2.2.1 s.2.2.2.2.2 x = some (s.1, s.2.1, s.2.2.1, s.2.2.2.1, s.2.2.2.2.1, s.2.2.2.2.2, false)) ∨
    ∃ t : Ct, app s r i x = (t, r) ∧ spec_l21Give.f s.1 s.2.1 s.2.2.1 s.2.2.2.1 s.2.2.2.2.1 s.2.2.2.2.2 x = some (t.1, t.2.1, t.2.2.1, t.2.2.2.1, t.2.2.2.2.1, t.2.2.2.2.2, true) := by
  rw [spec_gv]
  unfold app give7
  cases gv s.1 s.2.1 s.2.2.1 s.2.2.2.1 s.2.2.2.2.1 s.2.2.2.2.2 x with
  | none => exact .inl ⟨rfl, rfl⟩
  | some t => exact .inr ⟨t, rfl, rfl⟩
def flA (p : Ct × List Int) : Bool × Bool × Bool × Bool × Bool × Int × List Int := (p.1.1, p.1.2.1, p.1.2.2.1, p.1.2.2.2.1, p.1.2.2.2.2.1, p.1.2.2.2.2.2, p.2)
theorem spec_at_ev (l : List S33) (hl : areSig l = true) (T : Int) (hT : T ≤ 100000) : ∀ d i (now : Int) (s : Ct) r, i + d = l.length → r.length ≤ i → 0 ≤ now → now ≤ T → (∀ j, i ≤ j → j < l.length → now ≤ (sg l j).f0) →
    Ev (fun k => spec_l22At.l0 k l T now r (i : Int) s.1 s.2.1 s.2.2.1 s.2.2.2.1 s.2.2.2.2.1 s.2.2.2.2.2) (flA (sp l T d i now s r)) := by
  obtain ⟨hn, hv, hs⟩ := sig_of l hl
  have fin : ∀ i (now : Int) (s : Ct) r, 0 ≤ now → now ≤ T → Ev (fun k => spec_l22At.j1 k l T now r (i : Int) false s.1 s.2.1 s.2.2.1 s.2.2.2.1 s.2.2.2.2.1 s.2.2.2.2.2) (flA (tksI (T - now) s, r)) := by
    intro i now s r h0 h1
    refine Ev.dn ?_
    simp only [spec_l22At.j1, Bool.false_eq_true, if_false]
    have hw : wrap64 (T - now) = T - now := wrap_id (by omega) (by omega)
    simp only [hw]
    exact Ev.bind (spec_l22Ticks_ev _ _ _ _ _ _ _ (by omega)) (Ev.now _)
  intro d
  induction d with
  | zero =>
    intro i now s r hi hr h0 h1 hnow
    refine Ev.dn ?_
    simp only [spec_l22At.l0, sp]
    simp only [if_neg (show ¬ (i : Int) < (l.length : Int) by omega)]
    exact fin i now s r h0 h1
  | succ d ih =>
    intro i now s r hi hr h0 h1 hnow
    have hx := hv i (by omega)
    have hm := hnow i (Nat.le_refl _) (by omega)
    have hw : wrap64 ((i : Int) + 1) = ((i + 1 : Nat) : Int) := wrap_succ (show i < l.length by omega) (by omega)
    refine Ev.dn ?_
    simp only [spec_l22At.l0, sp]
    simp only [if_pos (show (i : Int) < (l.length : Int) by omega), if_pos (show (0 : Int) ≤ (i : Int) by omega)]
    by_cases c : (sg l i).f0 ≤ T
    · rw [if_pos c]
      have c' : (rd_T33 l (i : Int)).f0 ≤ T := c
      simp only [decide_eq_true c']
      refine Ev.dn ?_
      simp only [spec_l22At.j1, if_true]
      simp only [if_pos (show (0 : Int) ≤ (i : Int) by omega), if_pos (show (i : Int) < (l.length : Int) by omega)]
      have hw2 : wrap64 ((rd_T33 l (i : Int)).f0 - now) = (sg l i).f0 - now := wrap_id (show _ ≤ (sg l i).f0 - now by omega) (show (sg l i).f0 - now ≤ _ by omega)
      simp only [hw2]
      refine Ev.bind (spec_l22Ticks_ev _ _ _ _ _ _ _ (by omega)) ?_
      have hnext : ∀ j, i + 1 ≤ j → j < l.length → (sg l i).f0 ≤ (sg l j).f0 := fun j hj hjl => hs i j (by omega) hjl
      generalize hu : tksI ((sg l i).f0 - now) (s.1, s.2.1, s.2.2.1, s.2.2.2.1, s.2.2.2.2.1, s.2.2.2.2.2) = u
      rcases spec_app u r i (sg l i).f1 with ⟨h2, h3⟩ | ⟨v, h2, h3⟩
      · rw [h2]
        have h := ih (i + 1) (sg l i).f0 u (r ++ [(i : Int)]) (by omega) (by simp; omega) (by omega) c hnext
        refine Ev.eq' h (fun k => ?_)
        have h3' : spec_l21Give.f (fl6 u).1 (fl6 u).2.1 (fl6 u).2.2.1 (fl6 u).2.2.2.1 (fl6 u).2.2.2.2.1 (fl6 u).2.2.2.2.2 (rd_T33 l (i : Int)).f1 = some (u.1, u.2.1, u.2.2.1, u.2.2.2.1, u.2.2.2.2.1, u.2.2.2.2.2, false) := h3
        rw [h3', Option.bind_some, hw]
        simp only [Bool.false_eq_true, if_false]
        rw [if_pos (by omega)]
        rfl
      · rw [h2]
        have h := ih (i + 1) (sg l i).f0 v r (by omega) (by omega) (by omega) c hnext
        refine Ev.eq' h (fun k => ?_)
        have h3' : spec_l21Give.f (fl6 u).1 (fl6 u).2.1 (fl6 u).2.2.1 (fl6 u).2.2.2.1 (fl6 u).2.2.2.2.1 (fl6 u).2.2.2.2.2 (rd_T33 l (i : Int)).f1 = some (v.1, v.2.1, v.2.2.1, v.2.2.2.1, v.2.2.2.2.1, v.2.2.2.2.2, true) := h3
        rw [h3', Option.bind_some, hw]
        simp only [if_true]
        rfl
    · rw [if_neg c]
      have c' : ¬ (rd_T33 l (i : Int)).f0 ≤ T := c
      simp only [decide_eq_false c']
      exact fin i now s r h0 h1
theorem spec_l22At_ev (l : List S33) (hl : areSig l = true) (T : Int) (h0 : 0 ≤ T) (hT : T ≤ 100000) : Ev (fun k => spec_l22At.f k l T) (flA (atT l T)) := by
  unfold spec_l22At.f
  exact spec_at_ev l hl T hT l.length 0 0 z6 [] (by omega) (Nat.le_refl _) (Int.le_refl _) h0 (fun j _ hj => ((sig_of l hl).2.1 j hj).1)
theorem spec_l22Code_ev (l : List S33) (hn : l.length ≤ 9223372036854775807) (t : Int) : Ev (fun k => spec_l22Code.f k l t) (if areSig l = true then (if 0 ≤ t ∧ t ≤ 100000 then 0 else 2) else 1) := by
  unfold spec_l22Code.f
  refine Ev.bind (spec_AreSignals_ev l hn) ?_
  cases areSig l with
  | false => simp only [Bool.false_eq_true, if_false]; exact Ev.now _
  | true =>
    simp only [if_true, spec_l01In.f]
    by_cases h0 : 0 ≤ t
    · by_cases h1 : t ≤ 100000
      · simp [h0, h1]; exact Ev.now _
      · simp [h0, h1]; exact Ev.now _
    · simp [h0]; exact Ev.now _
def flC (s : Ct) (e : Int) : Bool × Bool × Bool × Bool × Bool × Int × Int := (s.1, s.2.1, s.2.2.1, s.2.2.2.1, s.2.2.2.2.1, s.2.2.2.2.2, e)
theorem impl_ctl_loop (l : List S33) (hl : areSig l = true) (T : Int) (hT : T ≤ 100000) : ∀ (d : Nat) (t : Int) (i : Nat) (s : Ct) (r : List Int), 0 ≤ t → t + d = T → Dsk l t i s r →
    Ev (fun k => impl_ControllerAt.l0 k l T ((bg l t (l.length - i) i s r).1 : Int) t (bg l t (l.length - i) i s r).2.1.1 (bg l t (l.length - i) i s r).2.1.2.1 (bg l t (l.length - i) i s r).2.1.2.2.1 (bg l t (l.length - i) i s r).2.1.2.2.2.1 (bg l t (l.length - i) i s r).2.1.2.2.2.2.1 (bg l t (l.length - i) i s r).2.1.2.2.2.2.2 (bg l t (l.length - i) i s r).2.2) (flC (atT l T).1 0) := by
  intro d
  induction d with
  | zero =>
    intro t i s r h0 ht h
    obtain ⟨e, _, _⟩ := Dsk.step hl h
    refine Ev.dn ?_
    simp only [impl_ControllerAt.l0, if_neg (show ¬ t < T by omega)]
    rw [e, show t = T by omega]
    exact Ev.now _
  | succ d ih =>
    intro t i s r h0 ht h
    obtain ⟨_, _, h2⟩ := Dsk.step hl h
    have hw : wrap64 (t + 1) = t + 1 := wrap_id (by omega) (by omega)
    have h3 := ih (t + 1) _ _ _ (by omega) (by omega) h2
    refine Ev.dn ?_
    simp only [impl_ControllerAt.l0, if_pos (show t < T by omega), impl_tick, Option.bind_some, hw, fl7]
    generalize bg l t (l.length - i) i s r = p at h2 h3 ⊢
    exact Ev.bind (impl_begin_ev l hl (t + 1) (l.length - p.1) p.1 (tk p.2.1) p.2.2 (by have := h2.1; omega) h2.2.2.1) h3
def ctlR (l : List S33) (T : Int) : Bool × Bool × Bool × Bool × Bool × Int × Int := if areSig l = true then (if 0 ≤ T ∧ T ≤ 100000 then flC (atT l T).1 0 else flC z6 2) else flC z6 1
theorem isTick_f (T : Int) : impl_isTick.f T = some (decide (0 ≤ T ∧ T ≤ 100000)) := by
  unfold impl_isTick.f impl_within.f
  by_cases h0 : 0 ≤ T
  · by_cases h1 : T ≤ 100000 <;> simp [h0, h1]
  · simp [h0]
theorem impl_ctl_ev (l : List S33) (hn : l.length ≤ 9223372036854775807) (T : Int) : Ev (fun k => impl_ControllerAt.f k l T) (ctlR l T) := by
  unfold impl_ControllerAt.f ctlR
  refine Ev.bind (impl_AreSignals_ev l hn) ?_
  cases hl : areSig l with
  | false => simp only [Bool.false_eq_true, if_false]; exact Ev.now _
  | true =>
    simp only [if_true, isTick_f, Option.bind_some, decide_eq_true_eq]
    by_cases c : 0 ≤ T ∧ T ≤ 100000
    · simp only [if_pos c]
      have h := Dsk.start l hl
      refine Ev.bind (impl_begin_ev l hl 0 l.length 0 z6 [] (by omega) (Nat.le_refl _)) ?_
      have h2 := impl_ctl_loop l hl T c.2 T.toNat 0 0 z6 [] (Int.le_refl _) (by omega) h
      simp only [Nat.sub_zero] at h2
      exact h2
    · simp only [if_neg c]
      exact Ev.now _
theorem spec_ctl_ev (l : List S33) (hn : l.length ≤ 9223372036854775807) (T : Int) : Ev (fun k => spec_ControllerAt.f k l T) (ctlR l T) := by
  unfold spec_ControllerAt.f ctlR
  refine Ev.bind (spec_l22Code_ev l hn T) ?_
  by_cases hl : areSig l = true
  · simp only [if_pos hl]
    by_cases c : 0 ≤ T ∧ T ≤ 100000
    · simp only [if_pos c, if_true]
      exact Ev.bind (spec_l22At_ev l hl T c.1 c.2) (Ev.now _)
    · simp only [if_neg c, if_neg (show ¬ (2 : Int) = 0 by decide)]
      exact Ev.now _
  · simp only [if_neg hl, if_neg (show ¬ (1 : Int) = 0 by decide)]
    exact Ev.now _
theorem impl_rfs_loop (l : List S33) (hl : areSig l = true) : ∀ (d : Nat) (t : Int) (i : Nat) (s : Ct) (r : List Int), 0 ≤ t → t + d = 100000 → Dsk l t i s r →
    Ev (fun k => impl_RefusedSignals.l0 k l ((bg l t (l.length - i) i s r).1 : Int) t (bg l t (l.length - i) i s r).2.1.1 (bg l t (l.length - i) i s r).2.1.2.1 (bg l t (l.length - i) i s r).2.1.2.2.1 (bg l t (l.length - i) i s r).2.1.2.2.2.1 (bg l t (l.length - i) i s r).2.1.2.2.2.2.1 (bg l t (l.length - i) i s r).2.1.2.2.2.2.2 (bg l t (l.length - i) i s r).2.2) ((atT l 100000).2, 0) := by
  have stop : ∀ (t : Int) (i : Nat) (s : Ct) (r : List Int), t ≤ 100000 → Dsk l t i s r → (bg l t (l.length - i) i s r).1 = l.length → (bg l t (l.length - i) i s r).2.2 = (atT l 100000).2 := by
    intro t i s r ht h e
    have h2 := (bg_sp l ht (l.length - i) i s r (by have := h.1; omega)).2.2.2.trans (h.2.2.2.2 100000 ht)
    rw [e, Nat.sub_self] at h2
    simp only [sp] at h2
    rw [← h2]
  intro d
  induction d with
  | zero =>
    intro t i s r h0 ht h
    obtain ⟨_, e, h2⟩ := Dsk.step hl h
    have hb : (bg l t (l.length - i) i s r).1 = l.length := by
      have h3 := h2.1
      by_cases c : (bg l t (l.length - i) i s r).1 < l.length
      · have := e c
        have := ((sig_of l hl).2.1 _ c).2.1
        omega
      · omega
    have h4 := stop t i s r (by omega) h hb
    refine Ev.dn ?_
    simp only [impl_RefusedSignals.l0]
    rw [h4, hb]
    simp only [if_neg (show ¬ (l.length : Int) < (l.length : Int) by omega)]
    exact Ev.now _
  | succ d ih =>
    intro t i s r h0 ht h
    obtain ⟨_, _, h2⟩ := Dsk.step hl h
    by_cases c : (bg l t (l.length - i) i s r).1 < l.length
    · have hw : wrap64 (t + 1) = t + 1 := wrap_id (by omega) (by omega)
      have h3 := ih (t + 1) _ _ _ (by omega) (by omega) h2
      refine Ev.dn ?_
      simp only [impl_RefusedSignals.l0, if_pos (show ((bg l t (l.length - i) i s r).1 : Int) < (l.length : Int) by omega), impl_tick, Option.bind_some, hw, fl7]
      generalize bg l t (l.length - i) i s r = p at h2 h3 ⊢
      exact Ev.bind (impl_begin_ev l hl (t + 1) (l.length - p.1) p.1 (tk p.2.1) p.2.2 (by have := h2.1; omega) h2.2.2.1) h3
    · have hb : (bg l t (l.length - i) i s r).1 = l.length := by have h3 := h2.1; omega
      have h4 := stop t i s r (by omega) h hb
      refine Ev.dn ?_
      simp only [impl_RefusedSignals.l0]
      rw [h4, hb]
      simp only [if_neg (show ¬ (l.length : Int) < (l.length : Int) by omega)]
      exact Ev.now _
def rfsR (l : List S33) : List Int × Int := if areSig l = true then ((atT l 100000).2, 0) else ([], 1)
theorem impl_rfs_ev (l : List S33) (hn : l.length ≤ 9223372036854775807) : Ev (fun k => impl_RefusedSignals.f k l) (rfsR l) := by
  unfold impl_RefusedSignals.f rfsR
  refine Ev.bind (impl_AreSignals_ev l hn) ?_
  cases hl : areSig l with
  | false => simp only [Bool.false_eq_true, if_false]; exact Ev.now _
  | true =>
    simp only [if_true]
    have h := Dsk.start l hl
    refine Ev.bind (impl_begin_ev l hl 0 l.length 0 z6 [] (by omega) (Nat.le_refl _)) ?_
    have h2 := impl_rfs_loop l hl 100000 0 0 z6 [] (Int.le_refl _) (by decide) h
    simp only [Nat.sub_zero] at h2
    exact h2
theorem spec_rfs_ev (l : List S33) (hn : l.length ≤ 9223372036854775807) : Ev (fun k => spec_RefusedSignals.f k l) (rfsR l) := by
  unfold spec_RefusedSignals.f rfsR
  refine Ev.bind (spec_l22Code_ev l hn 0) ?_
  by_cases hl : areSig l = true
  · simp only [if_pos hl, if_pos (show (0 : Int) ≤ 0 ∧ (0 : Int) ≤ 100000 by decide), if_true]
    exact Ev.bind (spec_l22At_ev l hl 100000 (by decide) (Int.le_refl _)) (Ev.now _)
  · simp only [if_neg hl, if_neg (show ¬ (1 : Int) = 0 by decide)]
    exact Ev.now _
theorem sp_len (l : List S33) (T : Int) : ∀ d i now s r, (sp l T d i now s r).2.length ≤ r.length + d := by
  intro d
  induction d with
  | zero => intro i now s r; exact Nat.le_refl _
  | succ d ih =>
    intro i now s r
    simp only [sp]
    split
    · have := ih (i + 1) (sg l i).f0 (app (tksI ((sg l i).f0 - now) s) r i (sg l i).f1).1 (app (tksI ((sg l i).f0 - now) s) r i (sg l i).f1).2
      have := app_len (tksI ((sg l i).f0 - now) s) r i (sg l i).f1
      omega
    · dsimp only; omega
theorem rfsR_len (l : List S33) : (rfsR l).1.length ≤ l.length := by
  unfold rfsR
  split
  · have := sp_len l 100000 l.length 0 0 z6 []
    simp at this
    exact this
  · exact Nat.zero_le _
/-- May the controller fire in this tick? -/
def fire (l : List S33) (t : Int) : Bool := (atT l t).1.2.2.1 && !(atT l t).1.2.2.2.1
/-- In how many of d ticks from t on, those from a on alone. -/
def fc (l : List S33) (a : Int) : Nat → Int → Int → Int
  | 0, _, m => m
  | d + 1, t, m => fc l a d (t + 1) (if t ≥ a ∧ fire l t = true then m + 1 else m)
theorem fc_skip (l : List S33) (a : Int) (m : Int) (d : Nat) : ∀ (e : Nat) (t : Int), t + e = a → fc l a (e + d) t m = fc l a d a m := by
  intro e
  induction e with
  | zero => intro t ht; rw [Nat.zero_add, show t = a by omega]
  | succ e ih =>
    intro t ht
    rw [show e + 1 + d = (e + d) + 1 by omega]
    simp only [fc]
    rw [if_neg (by omega)]
    exact ih (t + 1) (by omega)
theorem mayf (a b c d e : Bool) (n : Int) : impl_mayFire.f a b c d e n = some (c && !d) := by
  unfold impl_mayFire.f
  cases c <;> simp
theorem impl_frt_loop (l : List S33) (hl : areSig l = true) (a b : Int) (hb : b ≤ 100000) : ∀ (d : Nat) (t : Int) (i : Nat) (s : Ct) (r : List Int) (m : Int), 0 ≤ t → t + d = b + 1 → 0 ≤ m → m ≤ t → Dsk l t i s r →
    Ev (fun k => impl_FiringTicks.l0 k l a b m (i : Int) t s.1 s.2.1 s.2.2.1 s.2.2.2.1 s.2.2.2.2.1 s.2.2.2.2.2 r) (fc l a d t m, 0) := by
  intro d
  induction d with
  | zero =>
    intro t i s r m h0 ht _ _ h
    refine Ev.dn ?_
    simp only [impl_FiringTicks.l0, fc, if_neg (show ¬ t ≤ b by omega)]
    exact Ev.now _
  | succ d ih =>
    intro t i s r m h0 ht m0 m1 h
    obtain ⟨e, _, h2⟩ := Dsk.step hl h
    have hw : wrap64 (t + 1) = t + 1 := wrap_id (by omega) (by omega)
    have hm : wrap64 (m + 1) = m + 1 := wrap_id (by omega) (by omega)
    have h3 := ih (t + 1) _ _ _ (if t ≥ a ∧ fire l t = true then m + 1 else m) (by omega) (by omega) (by split <;> omega) (by split <;> omega) h2
    have hf : ((bg l t (l.length - i) i s r).2.1.2.2.1 && !(bg l t (l.length - i) i s r).2.1.2.2.2.1) = fire l t := by unfold fire; rw [e]
    refine Ev.dn ?_
    simp only [impl_FiringTicks.l0, fc, if_pos (show t ≤ b by omega)]
    refine Ev.bind (impl_begin_ev l hl t (l.length - i) i s r (by have := h.1; omega) h.2.2.1) ?_
    simp only [flB, mayf, impl_tick, Option.bind_some, hw, hm, fl7, hf]
    generalize bg l t (l.length - i) i s r = p at h2 h3 hf ⊢
    by_cases c : t ≥ a
    · simp only [if_pos c, Option.bind_some]
      cases hc : fire l t with
      | true =>
        rw [hc] at h3
        simp only [if_pos (And.intro c trivial), c, and_self, if_true] at h3 ⊢
        exact h3
      | false =>
        rw [hc] at h3
        simp only [Bool.false_eq_true, and_false, if_false] at h3 ⊢
        exact h3
    · simp only [if_neg c, Option.bind_some, Bool.false_eq_true, if_false]
      rw [if_neg (show ¬ (t ≥ a ∧ fire l t = true) from fun hh => c hh.1)] at h3 ⊢
      exact h3
theorem spec_frt_loop (l : List S33) (hl : areSig l = true) (a b : Int) (ha : 0 ≤ a) (hb : b ≤ 100000) : ∀ (d : Nat) (t : Int) (m : Int), a ≤ t → t + d = b + 1 → 0 ≤ m → m ≤ t →
    Ev (fun k => spec_FiringTicks.l0 k l b m t) (fc l a d t m, 0) := by
  intro d
  induction d with
  | zero =>
    intro t m h0 ht _ _
    refine Ev.dn ?_
    simp only [spec_FiringTicks.l0, fc, if_neg (show ¬ t ≤ b by omega)]
    exact Ev.now _
  | succ d ih =>
    intro t m h0 ht m0 m1
    have hw : wrap64 (t + 1) = t + 1 := wrap_id (by omega) (by omega)
    have hm : wrap64 (m + 1) = m + 1 := wrap_id (by omega) (by omega)
    have h3 := ih (t + 1) (if t ≥ a ∧ fire l t = true then m + 1 else m) (by omega) (by omega) (by split <;> omega) (by split <;> omega)
    refine Ev.dn ?_
    simp only [spec_FiringTicks.l0, fc, if_pos (show t ≤ b by omega)]
    refine Ev.bind (spec_l22At_ev l hl t (by omega) (by omega)) ?_
    simp only [flA, hw, hm]
    have hf : fire l t = ((atT l t).1.2.2.1 && !(atT l t).1.2.2.2.1) := rfl
    rw [hf] at h3 ⊢
    simp only [show t ≥ a from h0, true_and] at h3 ⊢
    cases c1 : (atT l t).1.2.2.1 <;> cases c2 : (atT l t).1.2.2.2.1 <;> simp only [c1, c2, Bool.and_true, Bool.and_false, Bool.not_true, Bool.not_false, Bool.false_eq_true, if_true, if_false] at h3 ⊢ <;> exact h3
def frR (l : List S33) (a b : Int) : Int × Int := if areSig l = true then (if (0 ≤ a ∧ a ≤ 100000) ∧ (a ≤ b ∧ b ≤ 100000 ∧ b ≤ a + 1000) then (fc l a (b + 1 - a).toNat a 0, 0) else (0, 2)) else (0, 1)
theorem isTick_g (T : Int) : impl_isTick.f T = some (decide (0 ≤ T ∧ T ≤ 100000)) := by
  unfold impl_isTick.f impl_within.f
  by_cases h0 : 0 ≤ T
  · by_cases h1 : T ≤ 100000 <;> simp [h0, h1]
  · simp [h0]
theorem within_f (x a b : Int) : impl_within.f x a b = some (decide (a ≤ x ∧ x ≤ b)) := by
  unfold impl_within.f
  by_cases h0 : a ≤ x
  · by_cases h1 : x ≤ b <;> simp [h0, h1]
  · simp [h0]
theorem impl_frt_ev (l : List S33) (hn : l.length ≤ 9223372036854775807) (a b : Int) : Ev (fun k => impl_FiringTicks.f k l a b) (frR l a b) := by
  unfold impl_FiringTicks.f frR
  refine Ev.bind (impl_AreSignals_ev l hn) ?_
  cases hl : areSig l with
  | false => simp only [Bool.false_eq_true, if_false]; exact Ev.now _
  | true =>
    simp only [if_true, isTick_g, within_f, Option.bind_some, decide_eq_true_eq]
    by_cases ca : 0 ≤ a ∧ a ≤ 100000
    · by_cases cb : 0 ≤ b ∧ b ≤ 100000
      · have hw : wrap64 (b - a) = b - a := wrap_id (by omega) (by omega)
        rw [hw]
        by_cases cc : 0 ≤ b - a ∧ b - a ≤ 1000
        · simp only [if_pos ca, if_pos cb, if_pos cc]
          rw [if_pos ⟨ca, by omega, by omega, by omega⟩]
          have h := impl_frt_loop l hl a b cb.2 (b + 1).toNat 0 0 z6 [] 0 (Int.le_refl _) (by omega) (Int.le_refl _) (Int.le_refl _) (Dsk.start l hl)
          rw [show (b + 1).toNat = a.toNat + (b + 1 - a).toNat by omega, fc_skip l a 0 _ a.toNat 0 (by omega)] at h
          exact h
        · simp only [if_pos ca, if_pos cb, if_neg cc]
          rw [if_neg (by omega)]
          exact Ev.now _
      · simp only [if_pos ca, if_neg cb]
        rw [if_neg (by omega)]
        exact Ev.now _
    · simp only [if_neg ca]
      rw [if_neg (fun h => ca h.1)]
      exact Ev.now _
theorem spec_frt_ev (l : List S33) (hn : l.length ≤ 9223372036854775807) (a b : Int) (h0 : -9223372036854775808 ≤ a) (h1 : a ≤ 9223372036854775807) : Ev (fun k => spec_FiringTicks.f k l a b) (frR l a b) := by
  unfold spec_FiringTicks.f frR
  refine Ev.bind (spec_l22Code_ev l hn a) ?_
  by_cases hl : areSig l = true
  · simp only [if_pos hl]
    by_cases c : 0 ≤ a ∧ a ≤ 100000
    · have hw : wrap64 (a + 1000) = a + 1000 := wrap_id (by omega) (by omega)
      have hi : spec_l01In.f b a (mn 100000 (a + 1000)) = some (decide (a ≤ b ∧ b ≤ 100000 ∧ b ≤ a + 1000)) := by
        have hmn : b ≤ mn 100000 (a + 1000) ↔ b ≤ 100000 ∧ b ≤ a + 1000 := by
          unfold mn
          split <;> omega
        unfold spec_l01In.f
        by_cases c1 : b ≥ a
        · rw [if_pos c1]
          congr 1
          exact decide_eq_decide.2 (by rw [hmn]; exact ⟨fun h => ⟨c1, h⟩, fun h => h.2⟩)
        · rw [if_neg c1, decide_eq_false (by omega)]
      simp only [if_pos c, if_true, hw, hi, Option.bind_some]
      refine Ev.dn ?_
      by_cases c2 : a ≤ b ∧ b ≤ 100000 ∧ b ≤ a + 1000
      · simp only [spec_FiringTicks.j0, decide_eq_true c2, Bool.not_true, Bool.false_eq_true, if_false]
        refine Ev.dn ?_
        simp only [spec_FiringTicks.j1, if_true]
        rw [if_pos ⟨c, c2⟩]
        exact spec_frt_loop l hl a b c.1 c2.2.1 (b + 1 - a).toNat a 0 (Int.le_refl _) (by omega) (Int.le_refl _) c.1
      · simp only [spec_FiringTicks.j0, decide_eq_false c2, Bool.not_false, if_true]
        refine Ev.dn ?_
        simp only [spec_FiringTicks.j1, if_neg (show ¬ (2 : Int) = 0 by decide)]
        rw [if_neg (fun h => c2 h.2)]
        exact Ev.now _
    · simp only [if_neg c, if_neg (show ¬ (2 : Int) = 0 by decide)]
      rw [if_neg (fun h => c h.1)]
      refine Ev.dn ?_
      simp only [spec_FiringTicks.j0, Bool.false_eq_true, if_false]
      refine Ev.dn ?_
      simp only [spec_FiringTicks.j1, if_neg (show ¬ (2 : Int) = 0 by decide)]
      exact Ev.now _
  · simp only [if_neg hl, if_neg (show ¬ (1 : Int) = 0 by decide)]
    refine Ev.dn ?_
    simp only [spec_FiringTicks.j0, Bool.false_eq_true, if_false]
    refine Ev.dn ?_
    simp only [spec_FiringTicks.j1, if_neg (show ¬ (1 : Int) = 0 by decide)]
    exact Ev.now _
theorem tks_add (m : Nat) : ∀ (n : Nat) (s : Ct), tks (m + n) s = tks n (tks m s) := by
  induction m with
  | zero => intro n s; rw [Nat.zero_add]; rfl
  | succ m ih => intro n s; rw [show m + 1 + n = (m + n) + 1 by omega]; exact ih n (tk s)
theorem tks_more {s : Ct} (h : okc s) : ∀ n, tks (5 + n) s = tks 5 s := by
  intro n
  induction n with
  | zero => rfl
  | succ n ih =>
    rw [show 5 + (n + 1) = (5 + n) + 1 by omega, tks_snoc, ih, ← tks_snoc]
    exact tks_five h
theorem tksI_nat {n : Int} (hn : 0 ≤ n) {s : Ct} (h : okc s) : tksI n s = tks n.toNat s := by
  unfold tksI
  by_cases c : n.toNat ≤ 5
  · rw [Nat.min_eq_left c]
  · rw [Nat.min_eq_right (by omega), show n.toNat = 5 + (n.toNat - 5) by omega]
    exact (tks_more h _).symm
theorem tksI_add {a b : Int} (ha : 0 ≤ a) (hb : 0 ≤ b) {s : Ct} (h : okc s) : tksI b (tksI a s) = tksI (a + b) s := by
  rw [tksI_nat ha h, tksI_nat hb (okc_tks _ h), tksI_nat (by omega) h, ← tks_add, show a.toNat + b.toNat = (a + b).toNat by omega]
/-- Is the input taken; the controller behind it. -/
def gs (s : Ct) (x : Int) : Ct × Bool := match gv s.1 s.2.1 s.2.2.1 s.2.2.2.1 s.2.2.2.2.1 s.2.2.2.2.2 x with
  | some t => (t, true)
  | none => (s, false)
theorem gs_app (s : Ct) (r : List Int) (i : Nat) (x : Int) : app s r i x = ((gs s x).1, if (gs s x).2 = true then r else r ++ [(i : Int)]) := by
  unfold app gs
  cases gv s.1 s.2.1 s.2.2.1 s.2.2.2.1 s.2.2.2.2.1 s.2.2.2.2.2 x with
  | some t => rfl
  | none => rfl
theorem okc_gs {s : Ct} (h : okc s) (x : Int) : okc (gs s x).1 := by
  have := okc_app h [] 0 x
  rw [gs_app] at this
  exact this
theorem gs_no {s : Ct} {x : Int} (h : ¬ (gs s x).2 = true) : (gs s x).1 = s := by
  unfold gs at h ⊢
  cases hg : gv s.1 s.2.1 s.2.2.1 s.2.2.2.1 s.2.2.2.2.1 s.2.2.2.2.2 x with
  | some t => rw [hg] at h; exact absurd rfl h
  | none => rfl
/-- The signals that are taken, from i on. -/
def kp (l : List S33) : Nat → Nat → Int → Ct → List S33
  | 0, _, _, _ => []
  | d + 1, i, now, s => if (gs (tksI ((sg l i).f0 - now) s) (sg l i).f1).2 = true then sg l i :: kp l d (i + 1) (sg l i).f0 (gs (tksI ((sg l i).f0 - now) s) (sg l i).f1).1 else kp l d (i + 1) (sg l i).f0 (gs (tksI ((sg l i).f0 - now) s) (sg l i).f1).1
/-- The same list's run, told by its elements. -/
def spL (T : Int) : List S33 → Int → Ct → Ct
  | [], now, s => tksI (T - now) s
  | x :: xs, now, s => if x.f0 ≤ T then spL T xs x.f0 (gs (tksI (x.f0 - now) s) x.f1).1 else tksI (T - now) s
/-- Are all taken? -/
def okL : List S33 → Int → Ct → Bool
  | [], _, _ => true
  | x :: xs, now, s => (gs (tksI (x.f0 - now) s) x.f1).2 && okL xs x.f0 (gs (tksI (x.f0 - now) s) x.f1).1
theorem sg_drop (l : List S33) {i d : Nat} (h : i + (d + 1) = l.length) : l.drop i = sg l i :: l.drop (i + 1) := by
  have hi : i < l.length := by omega
  rw [List.drop_eq_getElem_cons hi]
  unfold sg
  rw [rd_T33_nat hi]
theorem sp_spL (l : List S33) (T : Int) : ∀ d i now s r, i + d = l.length → (sp l T d i now s r).1 = spL T (l.drop i) now s := by
  intro d
  induction d with
  | zero =>
    intro i now s r hi
    rw [List.drop_eq_nil_of_le (by omega)]
    rfl
  | succ d ih =>
    intro i now s r hi
    rw [sg_drop l hi]
    simp only [sp, spL]
    by_cases c : (sg l i).f0 ≤ T
    · rw [if_pos c, if_pos c, ih _ _ _ _ (by omega), gs_app]
    · rw [if_neg c, if_neg c]
theorem sp_ok (l : List S33) (T : Int) (hT : ∀ j, j < l.length → (sg l j).f0 ≤ T) : ∀ d i now s r, i + d = l.length → okL (l.drop i) now s = true → (sp l T d i now s r).2 = r := by
  intro d
  induction d with
  | zero => intro i now s r hi h; rfl
  | succ d ih =>
    intro i now s r hi h
    rw [sg_drop l hi] at h
    simp only [okL, Bool.and_eq_true] at h
    simp only [sp]
    rw [if_pos (hT i (by omega)), gs_app]
    dsimp only
    rw [if_pos h.1]
    exact ih _ _ _ _ (by omega) h.2
/-- Without what is refused the controller is the same, and nothing is refused. -/
theorem kp_same (l : List S33) (hs : ∀ i j, i ≤ j → j < l.length → (sg l i).f0 ≤ (sg l j).f0) : ∀ d i (now : Int) (s : Ct) (now' : Int) (s' : Ct), i + d = l.length → okc s' → now' ≤ now → tksI (now - now') s' = s → (∀ j, i ≤ j → j < l.length → now ≤ (sg l j).f0) →
    okL (kp l d i now s) now' s' = true ∧ (∀ x ∈ kp l d i now s, now ≤ x.f0) ∧ ∀ T, now ≤ T → spL T (kp l d i now s) now' s' = spL T (l.drop i) now s := by
  intro d
  induction d with
  | zero =>
    intro i now s now' s' hi ho hn he hj
    rw [List.drop_eq_nil_of_le (by omega)]
    refine ⟨rfl, fun x hx => by simp [kp] at hx, fun T hT => ?_⟩
    simp only [kp, spL]
    rw [← he, tksI_add (by omega) (by omega) ho, show now - now' + (T - now) = T - now' by omega]
  | succ d ih =>
    intro i now s now' s' hi ho hn he hj
    have hf := hj i (Nat.le_refl _) (by omega)
    have hos : okc s := by rw [← he]; exact okc_tksI _ ho
    have hu : tksI ((sg l i).f0 - now') s' = tksI ((sg l i).f0 - now) s := by
      rw [← he, tksI_add (by omega) (by omega) ho, show now - now' + ((sg l i).f0 - now) = (sg l i).f0 - now' by omega]
    have hnx : ∀ j, i + 1 ≤ j → j < l.length → (sg l i).f0 ≤ (sg l j).f0 := fun j h1 h2 => hs i j (by omega) h2
    rw [sg_drop l hi]
    simp only [kp]
    by_cases c : (gs (tksI ((sg l i).f0 - now) s) (sg l i).f1).2 = true
    · rw [if_pos c]
      obtain ⟨h1, h2, h3⟩ := ih (i + 1) (sg l i).f0 (gs (tksI ((sg l i).f0 - now) s) (sg l i).f1).1 (sg l i).f0 (gs (tksI ((sg l i).f0 - now) s) (sg l i).f1).1 (by omega) (okc_gs (okc_tksI _ hos) _) (Int.le_refl _) (by rw [Int.sub_self, tksI_zero]) hnx
      refine ⟨?_, ?_, fun T hT => ?_⟩
      · simp only [okL, hu, c, Bool.true_and]
        exact h1
      · intro x hx
        rcases List.mem_cons.1 hx with rfl | hx
        · exact hf
        · exact Int.le_trans hf (h2 x hx)
      · simp only [spL, hu]
        by_cases cT : (sg l i).f0 ≤ T
        · rw [if_pos cT, if_pos cT]
          exact h3 T cT
        · rw [if_neg cT, if_neg cT, ← he, tksI_add (by omega) (by omega) ho, show now - now' + (T - now) = T - now' by omega]
    · rw [if_neg c, gs_no c]
      obtain ⟨h1, h2, h3⟩ := ih (i + 1) (sg l i).f0 (tksI ((sg l i).f0 - now) s) now' s' (by omega) ho (by omega) hu hnx
      refine ⟨h1, fun x hx => Int.le_trans hf (h2 x hx), fun T hT => ?_⟩
      simp only [spL]
      by_cases cT : (sg l i).f0 ≤ T
      · rw [if_pos cT, gs_no c]
        exact h3 T cT
      · rw [if_neg cT]
        have key : ∀ (ys : List S33), (∀ x ∈ ys, T < x.f0) → spL T ys now' s' = tksI (T - now') s' := by
          intro ys hy
          cases ys with
          | nil => rfl
          | cons y ys =>
            simp only [spL]
            rw [if_neg (by have := hy y List.mem_cons_self; omega)]
        rw [key _ (fun x hx => by have := h2 x hx; omega), ← he, tksI_add (by omega) (by omega) ho, show now - now' + (T - now) = T - now' by omega]
theorem kp_sub (l : List S33) : ∀ d i now s, i + d = l.length → (kp l d i now s).Sublist (l.drop i) := by
  intro d
  induction d with
  | zero => intro i now s hi; exact List.nil_sublist _
  | succ d ih =>
    intro i now s hi
    rw [sg_drop l hi]
    simp only [kp]
    split
    · exact (ih _ _ _ (by omega)).cons_cons _
    · exact (ih _ _ _ (by omega)).cons _
/-- Signals, told by their elements. -/
theorem areSig_iff (l : List S33) (hv : ∀ x ∈ l, 0 ≤ x.f0 ∧ x.f0 ≤ 100000 ∧ 0 ≤ x.f1 ∧ x.f1 ≤ 9 ∧ x.f1 ≠ 8) (hp : l.Pairwise (fun x y => x.f0 ≤ y.f0)) (hn : l.length ≤ 40) : areSig l = true := by
  unfold areSig
  simp only [Bool.and_eq_true, decide_eq_true_eq]
  refine ⟨(allD_iff _ _ _).2 fun j _ hj => ?_, hn⟩
  have hjl : j < l.length := by omega
  unfold sgB
  rw [rd_T33_nat hjl]
  have h1 := hv _ (List.getElem_mem hjl)
  simp only [Bool.and_eq_true, Bool.or_eq_true, decide_eq_true_eq, Bool.not_eq_true', decide_eq_false_iff_not]
  refine ⟨⟨⟨⟨⟨h1.1, h1.2.1⟩, h1.2.2.1⟩, h1.2.2.2.1⟩, h1.2.2.2.2⟩, ?_⟩
  by_cases c : j = 0
  · exact .inl c
  · right
    rw [rd_T33_nat (show j - 1 < l.length by omega)]
    exact List.pairwise_iff_getElem.1 hp (j - 1) j (by omega) hjl (by omega)
theorem areSig_parts (l : List S33) (h : areSig l = true) : (∀ x ∈ l, 0 ≤ x.f0 ∧ x.f0 ≤ 100000 ∧ 0 ≤ x.f1 ∧ x.f1 ≤ 9 ∧ x.f1 ≠ 8) ∧ l.Pairwise (fun x y => x.f0 ≤ y.f0) := by
  obtain ⟨_, _, hs⟩ := sig_of l h
  constructor
  · intro x hx
    obtain ⟨j, hj, rfl⟩ := List.getElem_of_mem hx
    unfold areSig at h
    simp only [Bool.and_eq_true, decide_eq_true_eq] at h
    have h1 := (allD_iff _ _ _).1 h.1 j (Nat.zero_le _) (by omega)
    unfold sgB at h1
    rw [rd_T33_nat hj] at h1
    simp only [Bool.and_eq_true, Bool.not_eq_true', decide_eq_true_eq, decide_eq_false_iff_not] at h1
    exact ⟨h1.1.1.1.1.1, h1.1.1.1.1.2, h1.1.1.1.2, h1.1.1.2, h1.1.2⟩
  · refine List.pairwise_iff_getElem.2 fun i j hi hj hij => ?_
    have := hs i j (by omega) hj
    unfold sg at this
    rw [rd_T33_nat hi, rd_T33_nat hj] at this
    exact this
def lessOf (l : List S33) : List S33 := kp l l.length 0 0 z6
theorem less_sig (l : List S33) (h : areSig l = true) : areSig (lessOf l) = true := by
  have hsub : (lessOf l).Sublist l := by
    have := kp_sub l l.length 0 0 z6 (by omega)
    rw [List.drop_zero] at this
    exact this
  obtain ⟨h1, h2⟩ := areSig_parts l h
  refine areSig_iff _ (fun x hx => h1 x (hsub.subset hx)) (h2.sublist hsub) ?_
  have := hsub.length_le
  have := (sig_of l h).1
  omega
theorem less_at (l : List S33) (h : areSig l = true) (T : Int) (hT : 0 ≤ T) : (atT (lessOf l) T).1 = (atT l T).1 ∧ (atT (lessOf l) 100000).2 = [] := by
  obtain ⟨_, hv, hs⟩ := sig_of l h
  obtain ⟨h1, _, h3⟩ := kp_same l hs l.length 0 0 z6 0 z6 (by omega) okc_z6 (Int.le_refl _) (by rw [Int.sub_self, tksI_zero]) (fun j _ hj => (hv j hj).1)
  constructor
  · unfold atT
    rw [sp_spL _ _ _ _ _ _ _ (by omega), sp_spL _ _ _ _ _ _ _ (by omega), List.drop_zero]
    exact h3 T hT
  · have hv2 := (sig_of _ (less_sig l h)).2.1
    unfold atT
    exact sp_ok (lessOf l) 100000 (fun j hj => (hv2 j hj).2.1) _ 0 0 z6 [] (by omega) (by rw [List.drop_zero]; exact h1)
/-- What is refused, from i on. -/
def rej (l : List S33) : Nat → Nat → Int → Ct → List Int
  | 0, _, _, _ => []
  | d + 1, i, now, s => (if (gs (tksI ((sg l i).f0 - now) s) (sg l i).f1).2 = true then [] else [(i : Int)]) ++ rej l d (i + 1) (sg l i).f0 (gs (tksI ((sg l i).f0 - now) s) (sg l i).f1).1
theorem sp_rej (l : List S33) (T : Int) (hT : ∀ j, j < l.length → (sg l j).f0 ≤ T) : ∀ d i now s r, i + d = l.length → (sp l T d i now s r).2 = r ++ rej l d i now s := by
  intro d
  induction d with
  | zero => intro i now s r hi; simp [sp, rej]
  | succ d ih =>
    intro i now s r hi
    simp only [sp, rej]
    rw [if_pos (hT i (by omega)), ih _ _ _ _ (by omega), gs_app]
    dsimp only
    split
    · rw [List.nil_append]
    · rw [List.append_assoc]
theorem rej_ge (l : List S33) : ∀ d i now s x, x ∈ rej l d i now s → (i : Int) ≤ x := by
  intro d
  induction d with
  | zero => intro i now s x h; simp [rej] at h
  | succ d ih =>
    intro i now s x h
    simp only [rej, List.mem_append] at h
    rcases h with h | h
    · split at h
      · simp at h
      · rw [List.mem_singleton] at h; omega
    · have := ih _ _ _ _ h; omega
/-- The list without what a row of indices names. -/
def wo (l : List S33) (r : List Int) : Nat → Nat → List S33
  | 0, _ => []
  | d + 1, i => if (i : Int) ∈ r then wo l r d (i + 1) else sg l i :: wo l r d (i + 1)
theorem wo_kp (l : List S33) (R : List Int) : ∀ d i now s p, i + d = l.length → R = p ++ rej l d i now s → (∀ x ∈ p, x < (i : Int)) → wo l R d i = kp l d i now s := by
  intro d
  induction d with
  | zero => intro i now s p _ _ _; rfl
  | succ d ih =>
    intro i now s p hi hR hp
    simp only [wo, kp]
    simp only [rej] at hR
    by_cases c : (gs (tksI ((sg l i).f0 - now) s) (sg l i).f1).2 = true
    · rw [if_pos c] at hR ⊢
      have hn : ¬ (i : Int) ∈ R := by
        rw [hR, List.nil_append, List.mem_append]
        rintro (h | h)
        · have := hp _ h; omega
        · have := rej_ge l _ _ _ _ _ h; omega
      rw [if_neg hn, ih (i + 1) _ _ p (by omega) (by rw [hR, List.nil_append]) (fun x hx => by have := hp x hx; omega)]
    · rw [if_neg c] at hR ⊢
      have hn : (i : Int) ∈ R := by rw [hR]; simp
      rw [if_pos hn]
      exact ih (i + 1) _ _ (p ++ [(i : Int)]) (by omega) (by rw [hR, List.append_assoc]) (fun x hx => by
        rcases List.mem_append.1 hx with h | h
        · have := hp x h; omega
        · rw [List.mem_singleton] at h; omega)
theorem wo_less (l : List S33) (h : areSig l = true) : wo l (atT l 100000).2 l.length 0 = lessOf l := by
  have hv := (sig_of l h).2.1
  exact wo_kp l _ l.length 0 0 z6 [] (by omega) (sp_rej l 100000 (fun j hj => (hv j hj).2.1) l.length 0 0 z6 [] (by omega)) (fun x hx => by simp at hx)
/-- A place in the bytes and a state of the draws. -/
def Gd (L : List Int) (p z : Int) : Prop := 0 ≤ p ∧ p ≤ (L.length : Int) ∧ 0 ≤ z ∧ z < 2147483647
def By (L : List Int) : Prop := L.length ≤ 4096 ∧ ∀ j : Nat, j < L.length → 0 ≤ rd L (j : Int) ∧ rd L (j : Int) ≤ 255
theorem tm_bd {x n : Int} (hx : 0 ≤ x) (hn : 0 < n) : 0 ≤ Int.tmod x n ∧ Int.tmod x n < n := ⟨Int.tmod_nonneg n hx, Int.tmod_lt_of_pos x hn⟩
theorem next_ok {L : List Int} (hL : By L) {p z : Int} (g : Gd L p z) (n : Int) (h1 : 1 ≤ n) (h2 : n ≤ 100000000) : ∃ v p' z' : Int, spec_l01Next.f L p z n = some (v, p', z') ∧ Gd L p' z' ∧ 0 ≤ v ∧ v < n := by
  obtain ⟨g1, g2, g3, g4⟩ := g
  obtain ⟨hl, hb⟩ := hL
  unfold spec_l01Next.f
  by_cases c1 : n ≤ 1
  · rw [if_pos c1]
    exact ⟨0, p, z, rfl, ⟨g1, g2, g3, g4⟩, by omega, by omega⟩
  rw [if_neg c1]
  have hn : ¬ n = 0 := by omega
  have w1 : wrap64 (z * 48271) = z * 48271 := wrap_id (by omega) (by omega)
  have w2 : wrap64 (z * 48271 + 29) = z * 48271 + 29 := wrap_id (by omega) (by omega)
  obtain ⟨z0, z1⟩ := tm_bd (x := z * 48271 + 29) (n := 2147483647) (by omega) (by decide)
  simp only [w1, w2, if_neg hn]
  generalize Int.tmod (z * 48271 + 29) 2147483647 = y at z0 z1
  have q0 : Int.tdiv y 31 = y / 31 := Int.tdiv_eq_ediv_of_nonneg z0
  obtain ⟨q2, q3⟩ : 0 ≤ y / 31 ∧ y / 31 ≤ 2147483647 := by clear w1 w2 c1 hb; omega
  have q1 : wrap64 (y / 31) = y / 31 := wrap_id (by clear w1 w2 c1 hb q0; omega) (by clear w1 w2 c1 hb q0; omega)
  simp only [q0, q1]
  clear q0 q1 w1 w2
  generalize y / 31 = q at q2 q3
  by_cases c2 : p < (L.length : Int)
  · obtain ⟨m, rfl⟩ := Int.eq_ofNat_of_zero_le g1
    obtain ⟨r0, r1⟩ := hb m (by omega)
    have m0 : (m : Int) < 4096 := by clear z0 z1 q2 q3 r0 r1; omega
    obtain ⟨p1, p2⟩ : wrap64 ((m : Int) + 1) = (m : Int) + 1 ∧ wrap64 ((m : Int) + 1 - 1) = (m : Int) := by
      clear z0 z1 q2 q3 r0 r1 c2 g1 g2 hb hn
      refine ⟨wrap_id (by omega) (by omega), ?_⟩
      rw [wrap_id (by omega) (by omega)]
      omega
    obtain ⟨r2, r3⟩ : wrap64 (rd L (m : Int)) = rd L (m : Int) ∧ wrap64 (q + rd L (m : Int)) = q + rd L (m : Int) := by
      clear p1 p2 c2 g1 g2 hb hn
      generalize rd L (m : Int) = r at r0 r1
      exact ⟨wrap_id (by omega) (by omega), wrap_id (by omega) (by omega)⟩
    have k1 : 0 ≤ (m : Int) + 1 ∧ (m : Int) + 1 ≤ (L.length : Int) := by clear p1 p2 r2 r3 z0 z1 q2 q3 r0 r1; omega
    have k2 : 0 ≤ q + rd L (m : Int) := by clear p1 p2 r2 r3 z0 z1; omega
    have k3 : 0 < n := by clear p1 p2 r2 r3 z0 z1 q2 q3 r0 r1; omega
    obtain ⟨a0, a1⟩ := tm_bd (x := rd L (m : Int)) (n := n) r0 k3
    obtain ⟨b0, b1⟩ := tm_bd (x := q + rd L (m : Int)) (n := n) k2 k3
    by_cases c4 : n ≤ 256
    · simp only [if_pos c2, if_pos g1, if_pos c4, p1, p2, r2, r3]
      by_cases c3 : Int.tmod ((m : Int) + 1) 2 = 0
      · rw [if_pos c3]
        exact ⟨_, _, _, rfl, ⟨k1.1, k1.2, z0, z1⟩, a0, a1⟩
      · rw [if_neg c3]
        exact ⟨_, _, _, rfl, ⟨k1.1, k1.2, z0, z1⟩, b0, b1⟩
    · simp only [if_pos c2, if_pos g1, if_neg c4, p1, p2, r2, r3]
      exact ⟨_, _, _, rfl, ⟨k1.1, k1.2, z0, z1⟩, b0, b1⟩
  · rw [if_neg c2]
    obtain ⟨b0, b1⟩ := tm_bd (x := q) (n := n) (by omega) (by omega)
    exact ⟨_, _, _, rfl, ⟨g1, g2, z0, z1⟩, b0, b1⟩
theorem pick_ok {L : List Int} (hL : By L) {p z : Int} (g : Gd L p z) (l : List Int) (h1 : 1 ≤ l.length) (h2 : l.length ≤ 256) : ∃ v p' z' : Int, spec_l01Pick.f L p z l = some (v, p', z') ∧ Gd L p' z' := by
  obtain ⟨v, p', z', e, g', v0, v1⟩ := next_ok hL g (l.length : Int) (by omega) (by omega)
  refine ⟨rd l v, p', z', ?_, g'⟩
  unfold spec_l01Pick.f
  rw [e, Option.bind_some, if_pos v0, if_pos v1]
theorem from_ev {L : List Int} (hL : By L) : ∃ z, Ev (fun k => spec_l01From.f k L) (L, 0, z) ∧ Gd L 0 z := by
  have loop : ∀ (d i : Nat) (z : Int), i + d = 64 → 0 ≤ z → z < 2147483647 → ∃ z', Ev (fun k => spec_l01From.l0 k L (i : Int) L 0 z) (L, 0, z') ∧ Gd L 0 z' := by
    intro d
    induction d with
    | zero =>
      intro i z hi h0 h1
      refine ⟨z, Ev.dn ?_, by omega, by omega, h0, h1⟩
      simp only [spec_l01From.l0, if_neg (show ¬ (i : Int) < 64 by omega), ite_self]
      exact Ev.now _
    | succ d ih =>
      intro i z hi h0 h1
      by_cases c : (i : Int) < (L.length : Int)
      · obtain ⟨r0, r1⟩ := hL.2 i (by omega)
        have w1 : wrap64 (z * 83) = z * 83 := wrap_id (by clear ih; omega) (by clear ih; omega)
        have w2 : wrap64 (rd L (i : Int)) = rd L (i : Int) := wrap_id (by clear ih; omega) (by clear ih; omega)
        have w3 : wrap64 (z * 83 + rd L (i : Int)) = z * 83 + rd L (i : Int) := wrap_id (by clear ih; omega) (by clear ih; omega)
        obtain ⟨z0, z1⟩ := tm_bd (x := z * 83 + rd L (i : Int)) (n := 2147483647) (by clear ih; omega) (by decide)
        obtain ⟨z', h2, h3⟩ := ih (i + 1) _ (by clear ih; omega) z0 z1
        refine ⟨z', Ev.dn ?_, h3⟩
        have hw := wrap_succ (i := i) (n := 64) (by clear ih; omega) (by omega)
        simp only [spec_l01From.l0, if_pos c, if_pos (show (i : Int) < 64 by clear ih; omega), if_pos (show (0 : Int) ≤ (i : Int) by clear ih; omega), w1, w2, w3, hw]
        exact h2
      · refine ⟨z, Ev.dn ?_, by omega, by omega, h0, h1⟩
        simp only [spec_l01From.l0, if_neg c]
        exact Ev.now _
  unfold spec_l01From.f
  exact loop 64 0 61043 (by omega) (by omega) (by omega)
theorem good22_loop {L : List Int} (hL : By L) : ∀ (c : Nat) (x : List S33) (t p z : Int), Gd L p z → x.length + c ≤ 90 → ∃ (xs : List S33) (p' z' : Int), Ev (fun k => spec_l22Good.l0 k x t (c : Int) L p z) (xs, p', z') ∧ Gd L p' z' ∧ xs.length ≤ 90 := by
  intro c
  induction c with
  | zero =>
    intro x t p z g hx
    refine ⟨x, p, z, Ev.dn ?_, g, by omega⟩
    simp only [spec_l22Good.l0, if_neg (show ¬ ((0 : Nat) : Int) > 0 by omega)]
    exact Ev.now _
  | succ c ih =>
    intro x t p z g hx
    obtain ⟨v, p1, z1, e1, g1⟩ := pick_ok hL g [0, 1, 2, 3, 4] (by decide) (by decide)
    obtain ⟨u, p2, z2, e2, g2⟩ := pick_ok hL g1 [7, 7, 7, 7, 2, 4, 5, 0, 6, 3, 9] (by decide) (by decide)
    obtain ⟨xs, p', z', h1, h2, h3⟩ := ih (x ++ [(⟨wrap64 (t + v), u⟩ : S33)]) (wrap64 (t + v)) p2 z2 g2 (by rw [List.length_append, List.length_singleton]; omega)
    refine ⟨xs, p', z', Ev.dn ?_, h2, h3⟩
    have w : wrap64 (((c + 1 : Nat) : Int) - 1) = (c : Int) := by rw [wrap_id (by clear ih; omega) (by clear ih; omega)]; clear ih; omega
    simp only [spec_l22Good.l0, if_pos (show ((c + 1 : Nat) : Int) > 0 by clear ih; omega), e1, Option.bind_some, e2, if_pos (show x.length < 8796093022208 by clear ih; omega), w]
    exact h1
theorem good22_ok {L : List Int} (hL : By L) {p z : Int} (g : Gd L p z) : ∃ (xs : List S33) (p' z' : Int), Ev (fun k => spec_l22Good.f k L p z) (xs, p', z') ∧ Gd L p' z' ∧ xs.length ≤ 90 := by
  obtain ⟨v, p1, z1, e1, g1, v0, v1⟩ := next_ok hL g 5 (by omega) (by omega)
  obtain ⟨u, p2, z2, e2, g2, u0, u1⟩ := next_ok hL g1 6 (by omega) (by omega)
  obtain ⟨q, p3, z3, e3, g3, q0, q1⟩ := next_ok hL g2 20 (by omega) (by omega)
  obtain ⟨m, rfl⟩ := Int.eq_ofNat_of_zero_le q0
  unfold spec_l22Good.f
  by_cases c : u > 0
  · obtain ⟨xs, p', z', h1, h2, h3⟩ := good22_loop hL m [(⟨v, 0⟩ : S33), (⟨v, 1⟩ : S33), (⟨wrap64 (v + 1), 2⟩ : S33)] (wrap64 (v + 1)) p3 z3 g3 (by simp; omega)
    refine ⟨xs, p', z', ?_, h2, h3⟩
    simp only [Option.bind_some, e1, e2, if_pos c, List.nil_append]
    simp only [List.length_nil, List.length_cons, if_pos (show 0 + (0 + 1 + 1 + 1) < 8796093022208 by decide)]
    refine Ev.dn ?_
    simp only [spec_l22Good.j0, e3, Option.bind_some]
    exact h1
  · obtain ⟨xs, p', z', h1, h2, h3⟩ := good22_loop hL m [] v p3 z3 g3 (by simp; omega)
    refine ⟨xs, p', z', ?_, h2, h3⟩
    simp only [Option.bind_some, e1, e2, if_neg c]
    refine Ev.dn ?_
    simp only [spec_l22Good.j0, e3, Option.bind_some]
    exact h1
theorem draw22_loop {L : List Int} (hL : By L) : ∀ (d : Nat) (x : List S33) (p z : Int), Gd L p z → 41 ≤ x.length + d → x.length ≤ 90 → ∃ (xs : List S33) (p' z' : Int), Ev (fun k => spec_l22Draw.l0 k x L p z) (xs, p', z') ∧ Gd L p' z' ∧ xs.length ≤ 100 := by
  intro d
  induction d with
  | zero =>
    intro x p z g hd hx
    obtain ⟨v, p1, z1, e1, g1, v0, v1⟩ := next_ok hL g 2 (by omega) (by omega)
    have w : wrap64 (40 + v) = 40 + v := wrap_id (by omega) (by omega)
    refine ⟨x, p1, z1, Ev.dn ?_, g1, by omega⟩
    simp only [spec_l22Draw.l0, e1, Option.bind_some, w, if_neg (show ¬ (x.length : Int) < 40 + v by omega)]
    exact Ev.now _
  | succ d ih =>
    intro x p z g hd hx
    obtain ⟨v, p1, z1, e1, g1, v0, v1⟩ := next_ok hL g 2 (by omega) (by omega)
    have w : wrap64 (40 + v) = 40 + v := wrap_id (by omega) (by omega)
    by_cases c : (x.length : Int) < 40 + v
    · obtain ⟨xs, p', z', h1, h2, h3⟩ := ih (x ++ [(⟨300, 7⟩ : S33)]) p1 z1 g1 (by rw [List.length_append, List.length_singleton]; omega) (by rw [List.length_append, List.length_singleton]; omega)
      refine ⟨xs, p', z', Ev.dn ?_, h2, h3⟩
      simp only [spec_l22Draw.l0, e1, Option.bind_some, w, if_pos c, if_pos (show x.length < 8796093022208 by clear ih; omega)]
      exact h1
    · refine ⟨x, p1, z1, Ev.dn ?_, g1, by omega⟩
      simp only [spec_l22Draw.l0, e1, Option.bind_some, w, if_neg c]
      exact Ev.now _
theorem draw22_ok {L : List Int} (hL : By L) {p z : Int} (g : Gd L p z) : ∃ (xs : List S33) (p' z' : Int), Ev (fun k => spec_l22Draw.f k L p z) (xs, p', z') ∧ Gd L p' z' ∧ xs.length ≤ 100 := by
  obtain ⟨x, p1, z1, h1, g1, hx⟩ := good22_ok hL g
  obtain ⟨v, p2, z2, e2, g2, v0, v1⟩ := next_ok hL g1 40 (by omega) (by omega)
  unfold spec_l22Draw.f
  by_cases c0 : v = 0
  · obtain ⟨u, p3, z3, e3, g3⟩ := pick_ok hL g2 [8, (-1), 10, 7] (by decide) (by decide)
    refine ⟨x ++ [(⟨200, u⟩ : S33)], p3, z3, Ev.bind h1 ?_, g3, ?_⟩
    · simp only [e2, Option.bind_some, if_pos c0, e3, if_pos (show x.length < 8796093022208 by omega)]
      exact Ev.now _
    · rw [List.length_append, List.length_singleton]; omega
  by_cases c1 : v = 1
  · obtain ⟨u, p3, z3, e3, g3⟩ := pick_ok hL g2 [0, 100000, 100001] (by decide) (by decide)
    refine ⟨x ++ [(⟨u, 7⟩ : S33)], p3, z3, Ev.bind h1 ?_, g3, ?_⟩
    · simp only [e2, Option.bind_some, if_neg c0, if_pos c1, e3, if_pos (show x.length < 8796093022208 by omega)]
      exact Ev.now _
    · rw [List.length_append, List.length_singleton]; omega
  by_cases c2 : v = 2
  · obtain ⟨xs, p3, z3, h3, g3, hl⟩ := draw22_loop hL 41 x p2 z2 g2 (by omega) hx
    refine ⟨xs, p3, z3, Ev.bind h1 ?_, g3, hl⟩
    simp only [e2, Option.bind_some, if_neg c0, if_neg c1, if_pos c2]
    exact h3
  · refine ⟨x, p2, z2, Ev.bind h1 ?_, g2, by omega⟩
    simp only [e2, Option.bind_some, if_neg c0, if_neg c1, if_neg c2]
    exact Ev.now _
theorem dAdd {L : List Int} (hL : By L) : ∃ (xs : List S33) (a b : Int), Ev (fun k => spec_DrawAddSignal.f k L) (xs, a, b) ∧ xs.length ≤ 100 := by
  obtain ⟨z, h0, g0⟩ := from_ev hL
  obtain ⟨xs, p1, z1, h1, g1, hx⟩ := draw22_ok hL g0
  obtain ⟨v2, p2, z2, e2, g2, _, _⟩ := next_ok hL g1 40 (by omega) (by omega)
  obtain ⟨v3, p3, z3, e3, g3, _, _⟩ := next_ok hL g2 40 (by omega) (by omega)
  obtain ⟨v4, p4, z4, e4, g4⟩ := pick_ok hL g3 [v2, v3, 100000, 100001] (by simp) (by simp)
  obtain ⟨v5, p5, z5, e5, g5, _, _⟩ := next_ok hL g4 10 (by omega) (by omega)
  obtain ⟨v6, p6, z6, e6, g6⟩ := pick_ok hL g5 [7, 6, v5, 8, 10] (by simp) (by simp)
  refine ⟨xs, v4, v6, ?_, hx⟩
  unfold spec_DrawAddSignal.f
  refine Ev.bind h0 (Ev.bind h1 ?_)
  simp only [e2, e3, e4, e5, e6, Option.bind_some]
  exact Ev.now _
theorem dRef {L : List Int} (hL : By L) : ∃ xs : List S33, Ev (fun k => spec_DrawRefusedSignals.f k L) xs ∧ xs.length ≤ 100 := by
  obtain ⟨z, h0, g0⟩ := from_ev hL
  obtain ⟨xs, p1, z1, h1, g1, hx⟩ := draw22_ok hL g0
  refine ⟨xs, ?_, hx⟩
  unfold spec_DrawRefusedSignals.f
  exact Ev.bind h0 (Ev.bind h1 (Ev.now _))
theorem dFir {L : List Int} (hL : By L) : ∃ (xs : List S33) (a b : Int), Ev (fun k => spec_DrawFiringTicks.f k L) (xs, a, b) ∧ xs.length ≤ 100 ∧ 0 ≤ a ∧ a < 30 := by
  obtain ⟨z, h0, g0⟩ := from_ev hL
  obtain ⟨xs, p1, z1, h1, g1, hx⟩ := draw22_ok hL g0
  obtain ⟨v2, p2, z2, e2, g2, a0, a1⟩ := next_ok hL g1 30 (by omega) (by omega)
  obtain ⟨v3, p3, z3, e3, g3, _, _⟩ := next_ok hL g2 40 (by omega) (by omega)
  obtain ⟨v4, p4, z4, e4, g4, _, _⟩ := next_ok hL g3 20 (by omega) (by omega)
  obtain ⟨v5, p5, z5, e5, g5⟩ := pick_ok hL g4 [v3, 0, (-1), 1000, 1001, v4] (by simp) (by simp)
  refine ⟨xs, v2, wrap64 (v2 + v5), ?_, hx, a0, a1⟩
  unfold spec_DrawFiringTicks.f
  refine Ev.bind h0 (Ev.bind h1 ?_)
  simp only [e2, e3, e4, e5, Option.bind_some]
  exact Ev.now _
theorem dCtl {L : List Int} (hL : By L) : ∃ (xs : List S33) (a : Int), Ev (fun k => spec_DrawControllerAt.f k L) (xs, a) ∧ xs.length ≤ 100 := by
  obtain ⟨z, h0, g0⟩ := from_ev hL
  obtain ⟨xs, p1, z1, h1, g1, hx⟩ := draw22_ok hL g0
  obtain ⟨v2, p2, z2, e2, g2, _, _⟩ := next_ok hL g1 40 (by omega) (by omega)
  obtain ⟨v3, p3, z3, e3, g3, _, _⟩ := next_ok hL g2 40 (by omega) (by omega)
  obtain ⟨v4, p4, z4, e4, g4, _, _⟩ := next_ok hL g3 100 (by omega) (by omega)
  obtain ⟨v5, p5, z5, e5, g5⟩ := pick_ok hL g4 [v2, v3, v4, 100000, 100001, (-1)] (by simp) (by simp)
  refine ⟨xs, v5, ?_, hx⟩
  unfold spec_DrawControllerAt.f
  refine Ev.bind h0 (Ev.bind h1 ?_)
  simp only [e2, e3, e4, e5, Option.bind_some]
  exact Ev.now _
theorem roll_ev {L : List Int} (hL : By L) (a : Int) : ∃ h : Int, Ev (fun k => laws_roll.f k L a) (L, 0, h) := by
  have loop : ∀ (d i : Nat) (h : Int), i + d = L.length → ∃ h', Ev (fun k => laws_roll.l0 k L (i : Int) L 0 h) (L, 0, h') := by
    intro d
    induction d with
    | zero =>
      intro i h hi
      refine ⟨h, Ev.dn ?_⟩
      simp only [laws_roll.l0, if_neg (show ¬ (i : Int) < (L.length : Int) by omega)]
      exact Ev.now _
    | succ d ih =>
      intro i h hi
      obtain ⟨h', e⟩ := ih (i + 1) (IntKind.u64.wrap ((IntKind.u64.wrap ((IntKind.u64.wrap (h * 1099511628211)) + (IntKind.u64.wrap (rd L (i : Int))))) + 3)) (by omega)
      have hw := wrap_succ (i := i) (n := L.length) (by omega) (by have := hL.1; omega)
      refine ⟨h', Ev.dn ?_⟩
      simp only [laws_roll.l0, if_pos (show (i : Int) < (L.length : Int) by omega), if_pos (show (0 : Int) ≤ (i : Int) by omega), hw]
      exact e
  unfold laws_roll.f
  exact loop L.length 0 _ (by omega)
theorem hasI_ev (l : List Int) (v : Int) (hn : l.length ≤ 1000) : ∃ b : Bool, Ev (fun k => laws_hasInt.f k l v) b ∧ (b = true ↔ v ∈ l) := by
  have loop : ∀ d j, j + d = l.length → ∃ b : Bool, Ev (fun k => laws_hasInt.l0 k l v (j : Int)) b ∧ (b = true ↔ v ∈ l.drop j) := by
    intro d
    induction d with
    | zero =>
      intro j hj
      refine ⟨false, Ev.dn ?_, ?_⟩
      · simp only [laws_hasInt.l0, if_neg (show ¬ (j : Int) < (l.length : Int) by omega)]
        exact Ev.now _
      · rw [List.drop_of_length_le (by omega)]; simp
    | succ d ih =>
      intro j hj
      have hjl : j < l.length := by omega
      have hw := wrap_succ hjl (show l.length ≤ 9223372036854775807 by omega)
      rw [List.drop_eq_getElem_cons hjl]
      by_cases c : rd l (j : Int) = v
      · refine ⟨true, Ev.dn ?_, ?_⟩
        · simp only [laws_hasInt.l0, if_pos (show (j : Int) < (l.length : Int) by omega), if_pos (show (0 : Int) ≤ (j : Int) by omega), if_pos c]
          exact Ev.now _
        · rw [rd_nat hjl] at c
          simp [c]
      · obtain ⟨b, h1, h2⟩ := ih (j + 1) (by omega)
        refine ⟨b, Ev.dn ?_, ?_⟩
        · simp only [laws_hasInt.l0, if_pos (show (j : Int) < (l.length : Int) by omega), if_pos (show (0 : Int) ≤ (j : Int) by omega), if_neg c, hw]
          exact h1
        · rw [rd_nat hjl] at c
          rw [h2, List.mem_cons]
          exact ⟨.inr, fun h => h.elim (fun e => absurd e.symm c) id⟩
  unfold laws_hasInt.f
  obtain ⟨b, h1, h2⟩ := loop l.length 0 (by omega)
  exact ⟨b, h1, h2⟩
def sds (s : Ct) : Bool := snd s.1 s.2.1 s.2.2.1 s.2.2.2.1 s.2.2.2.2.1 s.2.2.2.2.2
theorem sds_gv {s t : Ct} {x : Int} (h : sds s = true) (h0 : 0 ≤ x) (h9 : x ≤ 9) (hg : gv s.1 s.2.1 s.2.2.1 s.2.2.2.1 s.2.2.2.2.1 s.2.2.2.2.2 x = some t) : sds t = true := by
  obtain ⟨a, b, c, d, e, n⟩ := s
  have hi : inp (a, b, c, d, e, n) x = (t, 0) := by
    unfold inp
    rw [if_pos ⟨h0, h9⟩]
    dsimp only at hg ⊢
    rw [hg]
  have h2 := snd_inp a b c d e n x h (by rw [hi])
  rw [hi] at h2
  exact h2
theorem sds_tk {s : Ct} (h : sds s = true) : sds (tk s) = true := sds_gv h (by decide) (by decide) (gv_tick s)
theorem sds_tks (n : Nat) : ∀ {s : Ct}, sds s = true → sds (tks n s) = true := by
  induction n with
  | zero => exact fun h => h
  | succ n ih => exact fun h => ih (sds_tk h)
theorem sds_app {s : Ct} (h : sds s = true) (r : List Int) (i : Nat) {x : Int} (h0 : 0 ≤ x) (h9 : x ≤ 9) : sds (app s r i x).1 = true := by
  unfold app
  cases hg : gv s.1 s.2.1 s.2.2.1 s.2.2.2.1 s.2.2.2.2.1 s.2.2.2.2.2 x with
  | some t => exact sds_gv h h0 h9 hg
  | none => exact h
theorem sds_sp (l : List S33) (hv : ∀ j, j < l.length → 0 ≤ (sg l j).f1 ∧ (sg l j).f1 ≤ 9) (T : Int) : ∀ d i now s r, i + d = l.length → sds s = true → sds (sp l T d i now s r).1 = true := by
  intro d
  induction d with
  | zero => intro i now s r _ h; exact sds_tks _ h
  | succ d ih =>
    intro i now s r hi h
    simp only [sp]
    split
    · exact ih _ _ _ _ (by omega) (sds_app (sds_tks _ h) r i (hv i (by omega)).1 (hv i (by omega)).2)
    · exact sds_tks _ h
theorem sds_at (l : List S33) (hl : areSig l = true) (T : Int) : sds (atT l T).1 = true :=
  sds_sp l (fun j hj => ⟨((sig_of l hl).2.1 j hj).2.2.1, ((sig_of l hl).2.1 j hj).2.2.2⟩) T l.length 0 0 z6 [] (by omega) (by decide)
theorem likeInts_refl (l : List Int) (hn : l.length ≤ 1000000) : Ev (fun k => laws_likeInts.f k l l) true := by
  unfold laws_likeInts.f
  simp only [if_true]
  have h := Ev.allLoop (l := fun k i => laws_likeInts.l0 k l l i) (n := l.length) (fun _ => true) false true
    (fun i hi => Evt.all fun k => by
      simp only [laws_likeInts.l0]
      rw [if_pos (by omega), if_pos (by omega), if_pos (by omega), wrap_succ hi (by omega)])
    (Evt.all fun k => by
      simp only [laws_likeInts.l0]
      rw [if_neg (by omega)]) l.length 0 (by omega)
  refine (congrArg (Ev _) ?_).mp h
  rw [if_pos ((allD_iff _ _ _).2 (fun _ _ _ => rfl))]
theorem likeSig_refl (l : List S33) (hn : l.length ≤ 2000000) : Ev (fun k => laws_likeSignals.f k l l) true := by
  unfold laws_likeSignals.f
  simp only [if_true]
  have h := Ev.allLoop (l := fun k i => laws_likeSignals.l0 k l l i) (n := l.length) (fun _ => true) false true
    (fun i hi => Evt.all fun k => by
      simp only [laws_likeSignals.l0]
      rw [if_pos (by omega), if_pos (by omega), if_pos (by omega), wrap_succ hi (by omega)]
      simp)
    (Evt.all fun k => by
      simp only [laws_likeSignals.l0]
      rw [if_neg (by omega)]) l.length 0 (by omega)
  refine (congrArg (Ev _) ?_).mp h
  rw [if_pos ((allD_iff _ _ _).2 (fun _ _ _ => rfl))]
theorem below_ok {L : List Int} (hL : By L) (h n : Int) (h1 : 1 ≤ n) (h2 : n ≤ 100000000) : ∃ v q h' : Int, laws_dice_below.f L 0 h n = some (v, q, h') ∧ 0 ≤ v ∧ v < n := by
  obtain ⟨y, hy⟩ : ∃ y, IntKind.u64.wrap ((IntKind.u64.wrap (h * 6364136223846793005)) + 1442695040888963407) = y := ⟨_, rfl⟩
  have hb : 0 ≤ y ∧ y < 18446744073709551616 := by
    rw [← hy, IntKind.wrap_u64]
    generalize (IntKind.u64.wrap (h * 6364136223846793005)) + 1442695040888963407 = z
    omega
  have hm : Go.bits .and .u64 (y / 8589934592) 16777215 = (y / 8589934592) % 16777216 := by
    have := bits_mask .u64 31 (by decide) (fun n h₀ h₁ => by rw [IntKind.wrap_u64]; omega) 24 (by decide) (y / 8589934592) (by omega) (by omega)
    simpa using this
  obtain ⟨m, hmm⟩ : ∃ m, (y / 8589934592) % 16777216 = m := ⟨_, rfl⟩
  have hm2 : 0 ≤ m ∧ m < 16777216 := by rw [← hmm]; omega
  have w1 : wrap64 m = m := wrap_id (by omega) (by omega)
  have hn : ¬ n = 0 := by omega
  unfold laws_dice_below.f
  simp only [hy, hm, hmm, w1, if_neg hn]
  by_cases c : (0 : Int) < (L.length : Int)
  · obtain ⟨r0, r1⟩ := hL.2 0 (by omega)
    have r0' : 0 ≤ rd L 0 := r0
    have r1' : rd L 0 ≤ 255 := r1
    have w2 : wrap64 (rd L 0) = rd L 0 := wrap_id (by omega) (by omega)
    have w3 : wrap64 (m + rd L 0) = m + rd L 0 := wrap_id (by omega) (by omega)
    simp only [if_pos c, if_pos (Int.le_refl (0 : Int)), w2, w3]
    obtain ⟨b0, b1⟩ := tm_bd (x := m + rd L 0) (n := n) (by omega) (by omega)
    exact ⟨_, _, _, rfl, b0, b1⟩
  · simp only [if_neg c]
    obtain ⟨b0, b1⟩ := tm_bd (x := m) (n := n) hm2.1 (by omega)
    exact ⟨_, _, _, rfl, b0, b1⟩
theorem addR_code (l : List S33) (x : S33) : (areSig l != ((addR l x).2 != 1)) = false := by
  unfold addR
  cases areSig l with
  | false => rfl
  | true =>
    simp only [if_true]
    by_cases c : l.length = 40
    · rw [if_pos c]; rfl
    · rw [if_neg c]
      unfold fin5
      split <;> rfl
theorem addR_zero (l : List S33) (x : S33) (h : (addR l x).2 = 0) : areSig (addR l x).1 = true ∧ (addR l x).1.length = l.length + 1 := by
  unfold addR at h ⊢
  cases hs : areSig l with
  | false => rw [hs] at h; simp only [Bool.false_eq_true, if_false] at h; exact absurd h (by decide)
  | true =>
    rw [hs] at h
    simp only [if_true] at h ⊢
    by_cases c : l.length = 40
    · rw [if_pos c] at h; exact absurd h (by decide)
    · rw [if_neg c] at h ⊢
      unfold fin5 at h ⊢
      by_cases c2 : areSig (ins l x (pl l x l.length)) = true
      · rw [if_pos c2]
        exact ⟨c2, ins_len l x _ (pl_le l x l.length)⟩
      · rw [if_neg c2] at h; exact absurd h (by decide)
theorem fc_bd (l : List S33) (a : Int) : ∀ (d : Nat) (t m : Int), m ≤ fc l a d t m ∧ fc l a d t m ≤ m + d := by
  intro d
  induction d with
  | zero => intro t m; simp [fc]
  | succ d ih =>
    intro t m
    simp only [fc]
    have h := ih (t + 1) (if t ≥ a ∧ fire l t = true then m + 1 else m)
    split at h
    · rename_i c; rw [if_pos c]; omega
    · rename_i c; rw [if_neg c]; omega
theorem sig_j3 (x3 x5 : List S33) (x : S33) (hx : x5 = (addR x3 x).1) (h3 : x3.length ≤ 1000000) (T : Int) (v : List S33) (hv : v.length ≤ 1000000) :
    Ev (fun k => laws_FnSignals.j3 k x3 x5 (addR x3 x).2 (ctlR v T).2.2.2.2.2.2 false (ctlR v T).1 (ctlR v T).2.1 (ctlR v T).2.2.1 (ctlR v T).2.2.2.1 (ctlR v T).2.2.2.2.1 (ctlR v T).2.2.2.2.2.1) true := by
  have tail : Ev (fun k => if (addR x3 x).2 = 0 then ((impl_AreSignals.f k x5).bind fun t813 => (if t813 = true then (some ((x5.length : Int) == (wrap64 ((x3.length : Int) + 1)))) else (some false))) else (some true)) true := by
    by_cases c : (addR x3 x).2 = 0
    · obtain ⟨h1, h2⟩ := addR_zero x3 x c
      simp only [if_pos c]
      rw [hx]
      have hh := impl_AreSignals_ev (addR x3 x).1 (by omega)
      rw [h1] at hh
      refine Ev.bind hh ?_
      have hw : wrap64 ((x3.length : Int) + 1) = (((addR x3 x).1.length : Nat) : Int) := by rw [h2, wrap_id (by omega) (by omega)]; omega
      simp only [if_true, hw, beq_self_eq_true]
      exact Ev.now _
    · simp only [if_neg c]
      exact Ev.now _
  refine Ev.dn ?_
  simp only [laws_FnSignals.j3, Bool.false_eq_true, if_false]
  by_cases c : (ctlR v T).2.2.2.2.2.2 = 0
  · have hs : impl_IsSound.f (ctlR v T).1 (ctlR v T).2.1 (ctlR v T).2.2.1 (ctlR v T).2.2.2.1 (ctlR v T).2.2.2.2.1 (ctlR v T).2.2.2.2.2.1 = some true := by
      rw [impl_snd]
      unfold ctlR at c ⊢
      by_cases hl : areSig v = true
      · rw [if_pos hl] at c ⊢
        by_cases ht : 0 ≤ T ∧ T ≤ 100000
        · rw [if_pos ht]
          have h := sds_at v hl T
          unfold sds at h
          exact congrArg some h
        · rw [if_neg ht] at c; exact absurd c (by decide)
      · rw [if_neg hl] at c; exact absurd c (by decide)
    simp only [if_pos c, hs, Option.bind_some, if_true]
    exact tail
  · simp only [if_neg c]
    exact tail
theorem sig_j2 (x3 x5 : List S33) (x : S33) (hx : x5 = (addR x3 x).1) (h3 : x3.length ≤ 1000000) (T : Int) (v w : List S33) (hv : v.length ≤ 1000000) (a b : Int) :
    Ev (fun k => laws_FnSignals.j2 k x3 x5 (addR x3 x).2 a b (frR w a b).1 (frR w a b).2 (ctlR v T).2.2.2.2.2.2 (ctlR v T).1 (ctlR v T).2.1 (ctlR v T).2.2.1 (ctlR v T).2.2.2.1 (ctlR v T).2.2.2.2.1 (ctlR v T).2.2.2.2.2.1) true := by
  have h := sig_j3 x3 x5 x hx h3 T v hv
  refine Ev.dn ?_
  simp only [laws_FnSignals.j2]
  by_cases c : (frR w a b).2 = 0
  · have hb : ¬ (frR w a b).1 < 0 ∧ ¬ (frR w a b).1 > wrap64 (wrap64 (b - a) + 1) := by
      unfold frR at c ⊢
      by_cases hl : areSig w = true
      · rw [if_pos hl] at c ⊢
        by_cases hr : (0 ≤ a ∧ a ≤ 100000) ∧ (a ≤ b ∧ b ≤ 100000 ∧ b ≤ a + 1000)
        · rw [if_pos hr]
          obtain ⟨f1, f2⟩ := fc_bd w a (b + 1 - a).toNat a 0
          rw [wrap_id (show _ ≤ b - a by omega) (by omega), wrap_id (by omega) (by omega)]
          dsimp only
          omega
        · rw [if_neg hr] at c; exact absurd c (by decide)
      · rw [if_neg hl] at c; exact absurd c (by decide)
    simp only [if_pos c, if_neg hb.1, decide_eq_false hb.2]
    exact h
  · simp only [if_neg c]
    exact h
theorem less_loop (L : List Int) (hL : By L) (x3 x5 : List S33) (x : S33) (hx : x5 = (addR x3 x).1) (h3 : x3.length ≤ 1000000) (T : Int) (v w y : List S33) (hv : v.length ≤ 1000000) (a b : Int) (hy : areSig y = true) (hR : (atT y 100000).2.length ≤ 1000) : ∀ d i (acc : List S33), i + d = y.length → acc.length ≤ i → acc ++ wo y (atT y 100000).2 d i = lessOf y →
    Ev (fun k => laws_FnSignals.l0 k L x3 x5 (addR x3 x).2 y (atT y 100000).2 a b (frR w a b).1 (frR w a b).2 (ctlR v T).2.2.2.2.2.2 acc (i : Int) (ctlR v T).1 (ctlR v T).2.1 (ctlR v T).2.2.1 (ctlR v T).2.2.2.1 (ctlR v T).2.2.2.2.1 (ctlR v T).2.2.2.2.2.1) true := by
  have hn := (sig_of y hy).1
  intro d
  induction d with
  | zero =>
    intro i acc hi ha he
    obtain rfl : i = y.length := by omega
    simp only [wo, List.append_nil] at he
    subst he
    obtain ⟨hh, eR⟩ := roll_ev hL 2201
    obtain ⟨at_, q, h', eB, b0, b1⟩ := below_ok hL hh 100001 (by omega) (by omega)
    have hls := less_sig y hy
    have hln := (sig_of _ hls).1
    have c1 := impl_ctl_ev y (by omega) at_
    have c2 := impl_ctl_ev (lessOf y) (by omega) at_
    have c3 := impl_rfs_ev (lessOf y) (by omega)
    obtain ⟨s1, s2⟩ := less_at y hy at_ b0
    have e1 : ctlR y at_ = flC (atT y at_).1 0 := by unfold ctlR; rw [if_pos hy, if_pos ⟨b0, by omega⟩]
    have e2 : ctlR (lessOf y) at_ = flC (atT y at_).1 0 := by unfold ctlR; rw [if_pos hls, if_pos ⟨b0, by omega⟩, s1]
    have e3 : rfsR (lessOf y) = ([], 0) := by unfold rfsR; rw [if_pos hls, s2]
    rw [e1] at c1
    rw [e2] at c2
    rw [e3] at c3
    refine Ev.dn ?_
    simp only [laws_FnSignals.l0, if_neg (show ¬ (y.length : Int) < (y.length : Int) by omega)]
    refine Ev.bind eR ?_
    simp only [eB, Option.bind_some]
    refine Ev.bind c1 (Ev.bind c2 (Ev.bind c3 ?_))
    simp only [flC, beq_self_eq_true, Bool.not_true, Bool.or_self, Bool.false_eq_true, if_false, if_true, List.length_nil]
    exact sig_j2 x3 x5 x hx h3 T v w hv a b
  | succ d ih =>
    intro i acc hi ha he
    obtain ⟨bb, eH, hb⟩ := hasI_ev (atT y 100000).2 (i : Int) hR
    have hs : wrap64 ((i : Int) + 1) = ((i + 1 : Nat) : Int) := wrap_succ (show i < y.length by omega) (by omega)
    refine Ev.dn ?_
    simp only [laws_FnSignals.l0, if_pos (show (i : Int) < (y.length : Int) by omega), hs, if_pos (show (0 : Int) ≤ (i : Int) by omega), if_pos (show acc.length < 8796093022208 by omega)]
    refine Ev.bind eH ?_
    simp only [wo] at he
    cases bb with
    | true =>
      simp only [if_true]
      rw [if_pos (hb.1 rfl)] at he
      exact ih (i + 1) acc (by omega) (by omega) he
    | false =>
      simp only [Bool.false_eq_true, if_false]
      rw [if_neg (fun h => by have := hb.2 h; exact absurd this (by decide))] at he
      refine ih (i + 1) _ (by omega) (by rw [List.length_append, List.length_singleton]; omega) ?_
      rw [List.append_assoc]
      exact he
theorem FnSignals : ∀ (l0 : List Int), (l0.length ≤ reachBytes ∧ ∀ y ∈ l0, (Lit.int .u8 y).wf = true) → ∃ k, laws_FnSignals.f k l0 = some true := by
  intro L ⟨_, hb⟩
  apply Ev.rounds
  unfold laws_FnSignals.f laws_big.f
  simp only [Option.bind_some]
  by_cases hbig : (L.length : Int) > 4096
  · simp only [decide_eq_true hbig, if_true]; exact Ev.now _
  simp only [decide_eq_false hbig, Bool.false_eq_true, if_false]
  have hL : By L := by
    refine ⟨by omega, fun j hj => ?_⟩
    rw [show rd L (j : Int) = L[j] by simp [rd, hj]]
    have := hb _ (List.getElem_mem hj)
    simp only [Lit.wf, Bool.and_eq_true, decide_eq_true_eq] at this
    have m1 : IntKind.u8.min = 0 := by decide
    have m2 : IntKind.u8.max = 255 := by decide
    omega
  obtain ⟨l, p, q, d1, hl⟩ := dAdd hL
  obtain ⟨y, d2, hy⟩ := dRef hL
  obtain ⟨w, a, b, d3, hw, a0, a1⟩ := dFir hL
  obtain ⟨v, T, d4, hv⟩ := dCtl hL
  obtain ⟨s1, i1, n1⟩ := AddSignal_both l p q (by omega)
  have i2 := impl_rfs_ev y (by omega)
  have s2 := spec_rfs_ev y (by omega)
  have n2 := rfsR_len y
  have i3 := impl_frt_ev w (by omega) a b
  have s3 := spec_frt_ev w (by omega) a b (by omega) (by omega)
  have i4 := impl_ctl_ev v (by omega) T
  have s4 := spec_ctl_ev v (by omega) T
  refine Ev.bind d1 (Ev.bind i1 (Ev.bind s1 (Ev.bind d2 (Ev.bind i2 (Ev.bind s2 (Ev.bind d3 (Ev.bind i3 (Ev.bind s3 (Ev.bind d4 (Ev.bind i4 (Ev.bind s4 ?_)))))))))))
  simp only [if_true]
  refine Ev.bind (likeSig_refl (addR l ⟨p, q⟩).1 (by omega)) ?_
  simp only [if_true]
  refine Ev.bind (likeInts_refl (rfsR y).1 (by omega)) ?_
  simp only [if_true, beq_self_eq_true, Bool.not_true, Bool.or_self, Bool.false_eq_true, if_false]
  refine Ev.bind (impl_AreSignals_ev l (by omega)) ?_
  simp only [addR_code]
  refine Ev.dn ?_
  simp only [laws_FnSignals.j0, Bool.false_eq_true, if_false]
  by_cases c : areSig y = true
  · have e : rfsR y = ((atT y 100000).2, 0) := by unfold rfsR; rw [if_pos c]
    rw [e] at n2 ⊢
    simp only [if_true]
    exact less_loop L hL l _ ⟨p, q⟩ rfl (by omega) T v w y (by omega) a b c (by dsimp only at n2; omega) y.length 0 [] (by omega) (Nat.le_refl _) (by rw [List.nil_append]; exact wo_less y c)
  · have e : rfsR y = ([], 1) := by unfold rfsR; rw [if_neg c]
    rw [e]
    simp only [if_neg (show ¬ (1 : Int) = 0 by decide)]
    exact sig_j2 l _ ⟨p, q⟩ rfl (by omega) T v w (by omega) a b
end Go.Proofs.Ytjgbncpbenmjoaa.Pure
