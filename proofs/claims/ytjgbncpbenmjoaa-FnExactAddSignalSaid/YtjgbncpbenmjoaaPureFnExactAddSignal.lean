/- The law FnExactAddSignal as a statement over numbers and lists, proved; no condition but the sizes and ranges that every input has. -/
import Derived.Test.YtjgbncpbenmjoaaF06
import Derived.Test.YtjgbncpbenmjoaaEv
namespace Go.Proofs.Ytjgbncpbenmjoaa.Pure
open Go.RowKit Go.Proofs.Ytjgbncpbenmjoaa.Pall Go.Proofs.YtjgbncpbenmjoaaW.PrintWords
set_option linter.unusedSimpArgs false
set_option linter.unusedVariables false
/-- Is the signal with the index j right, beside the one before it? -/
def sgB (l : List S33) (j : Nat) : Bool :=
  decide (0 ≤ (rd_T33 l (j : Int)).f0) && decide ((rd_T33 l (j : Int)).f0 ≤ 100000) && decide (0 ≤ (rd_T33 l (j : Int)).f1) && decide ((rd_T33 l (j : Int)).f1 ≤ 9) && !decide ((rd_T33 l (j : Int)).f1 = 8) && (decide (j = 0) || decide ((rd_T33 l ((j - 1 : Nat) : Int)).f0 ≤ (rd_T33 l (j : Int)).f0))
def areSig (l : List S33) : Bool := allD (sgB l) 0 l.length && decide (l.length ≤ 40)
theorem spec_AreSignals_ev (l : List S33) (hn : l.length ≤ 9223372036854775807) : Ev (fun k => spec_AreSignals.f k l) (areSig l) := by
  have h := Ev.allLoop (l := fun k i => spec_AreSignals.l0 k l i) (n := l.length) (sgB l) false (decide (l.length ≤ 40))
    (fun i hi => Evt.all fun k => by
      simp only [spec_AreSignals.l0, spec_l01In.f]
      rw [if_pos (by omega), if_pos (by omega), wrap_succ hi hn]
      generalize spec_AreSignals.l0 k l ((i + 1 : Nat) : Int) = R
      by_cases h0 : i = 0
      · have hz : (i = 0) = True := eq_true h0
        have hp : ¬ 0 < i := by omega
        clear h0
        by_cases h1 : 0 ≤ (rd_T33 l (i : Int)).f0 <;> by_cases h2 : (rd_T33 l (i : Int)).f0 ≤ 100000 <;> by_cases h3 : 0 ≤ (rd_T33 l (i : Int)).f1 <;> by_cases h4 : (rd_T33 l (i : Int)).f1 ≤ 9 <;> by_cases h5 : (rd_T33 l (i : Int)).f1 = 8 <;> simp [sgB, hz, hp, h1, h2, h3, h4, h5]
      · have hp : (i : Int) > 0 := by omega
        rw [wrap_pred hi (by omega) hn]
        have q1 : (0 : Int) ≤ ((i - 1 : Nat) : Int) := by omega
        have q2 : ((i - 1 : Nat) : Int) < (l.length : Int) := by omega
        by_cases h1 : 0 ≤ (rd_T33 l (i : Int)).f0 <;> by_cases h2 : (rd_T33 l (i : Int)).f0 ≤ 100000 <;> by_cases h3 : 0 ≤ (rd_T33 l (i : Int)).f1 <;> by_cases h4 : (rd_T33 l (i : Int)).f1 ≤ 9 <;> by_cases h5 : (rd_T33 l (i : Int)).f1 = 8 <;> by_cases h6 : (rd_T33 l ((i - 1 : Nat) : Int)).f0 ≤ (rd_T33 l (i : Int)).f0 <;> simp [sgB, h0, q1, q2, h1, h2, h3, h4, h5, h6, Int.not_lt.2, Int.not_le.1] <;> (try omega))
    (Evt.all fun k => by
      simp only [spec_AreSignals.l0]
      rw [if_neg (by omega)]
      congr 1
      exact decide_eq_decide.2 (by omega)) l.length 0 (by omega)
  refine (congrArg (Ev _) ?_).mp h
  unfold areSig
  cases allD (sgB l) 0 l.length <;> simp
theorem impl_AreSignals_ev (l : List S33) (hn : l.length ≤ 9223372036854775807) : Ev (fun k => impl_AreSignals.f k l) (areSig l) := by
  unfold impl_AreSignals.f
  by_cases hl : (l.length : Int) > 40
  · simp only [if_pos hl]
    have : areSig l = false := by
      unfold areSig
      rw [decide_eq_false (by omega), Bool.and_false]
    rw [this]
    exact Ev.now _
  simp only [if_neg hl]
  have h := Ev.allLoop (l := fun k i => impl_AreSignals.l0 k l l (l.length : Int) i) (n := l.length) (sgB l) false true
    (fun i hi => Evt.all fun k => by
      simp only [impl_AreSignals.l0, impl_isTick.f, impl_within.f]
      rw [if_pos (by omega), if_pos (by omega), if_pos (by omega), wrap_succ hi hn]
      generalize impl_AreSignals.l0 k l l (l.length : Int) ((i + 1 : Nat) : Int) = R
      by_cases h0 : i = 0
      · have hz : (i = 0) = True := eq_true h0
        have hp : ¬ 0 < i := by omega
        clear h0
        by_cases h1 : 0 ≤ (rd_T33 l (i : Int)).f0 <;> by_cases h2 : (rd_T33 l (i : Int)).f0 ≤ 100000 <;> by_cases h3 : 0 ≤ (rd_T33 l (i : Int)).f1 <;> by_cases h4 : (rd_T33 l (i : Int)).f1 ≤ 9 <;> by_cases h5 : (rd_T33 l (i : Int)).f1 = 8 <;> simp [sgB, hz, hp, h1, h2, h3, h4, h5]
      · have hp : (i : Int) > 0 := by omega
        rw [wrap_pred hi (by omega) hn]
        have q1 : (0 : Int) ≤ ((i - 1 : Nat) : Int) := by omega
        have q2 : ((i - 1 : Nat) : Int) < (l.length : Int) := by omega
        by_cases h1 : 0 ≤ (rd_T33 l (i : Int)).f0 <;> by_cases h2 : (rd_T33 l (i : Int)).f0 ≤ 100000 <;> by_cases h3 : 0 ≤ (rd_T33 l (i : Int)).f1 <;> by_cases h4 : (rd_T33 l (i : Int)).f1 ≤ 9 <;> by_cases h5 : (rd_T33 l (i : Int)).f1 = 8 <;> by_cases h6 : (rd_T33 l ((i - 1 : Nat) : Int)).f0 ≤ (rd_T33 l (i : Int)).f0 <;> simp [sgB, h0, q1, q2, h1, h2, h3, h4, h5, h6, Int.not_lt.2, Int.not_le.1] <;> (try omega))
    (Evt.all fun k => by
      simp only [impl_AreSignals.l0]
      rw [if_neg (by omega)]) l.length 0 (by omega)
  refine (congrArg (Ev _) ?_).mp h
  unfold areSig
  rw [decide_eq_true (by omega : l.length ≤ 40), Bool.and_true]
  cases allD (sgB l) 0 l.length <;> simp
theorem eqSignalS_refl (l : List S33) (hn : l.length ≤ 9223372036854775807) : Ev (fun k => laws_eqSignalS.f k l l) true := by
  unfold laws_eqSignalS.f
  simp only [if_pos rfl]
  have h := Ev.allLoop (l := fun k i => laws_eqSignalS.l0 k l l i) (n := l.length) (fun _ => true) false true
    (fun i hi => Evt.all fun k => by
      simp only [laws_eqSignalS.l0, laws_eqSignal.f]
      rw [if_pos (by omega), if_pos (by omega), if_pos (by omega), wrap_succ hi hn]
      simp)
    (Evt.all fun k => by
      simp only [laws_eqSignalS.l0]
      rw [if_neg (by omega)]) l.length 0 (by omega)
  refine (congrArg (Ev _) ?_).mp h
  rw [if_pos ((allD_iff _ _ _).2 (fun _ _ _ => rfl))]
theorem intactSignalS_refl (l : List S33) (hn : l.length ≤ 1000000) : Ev (fun k => laws_intactSignalS.f k l l) true := by
  unfold laws_intactSignalS.f
  simp only [if_pos rfl]
  exact eqSignalS_refl _ (full_le l hn)
theorem szSignalS_some (l : List S30) (hn : l.length ≤ 9223372036854775807) : laws_szSignalS.f l 1000000 = some (if 1000000 < l.length then -1 else 1000000 - (l.length : Int)) := by
  unfold laws_szSignalS.f
  exact sz_some hn
theorem toSignalS_some (k : Nat) (l : List S30) (b : Bool) (hn : l.length ≤ 1000000) : laws_toSignalS.f k l b = some (l.map laws_toSignalS.conv) := by
  unfold laws_toSignalS.f
  rw [if_pos hn]
theorem rd_T33_nat {l : List S33} {i : Nat} (h : i < l.length) : rd_T33 l (i : Int) = l[i] := by simp [rd_T33, h]
def sgM (i : Nat) : S33 := ⟨101 + 2 * (i : Int), 102 + 2 * (i : Int)⟩
theorem markSignalS_ev (l : List S33) (hn : l.length ≤ 1000000) : ∃ L : List S33, L.length = l.length ∧ (∀ j, j < L.length → rd_T33 L (j : Int) = sgM j) ∧ Ev (fun k => laws_markSignalS.f k l 101) (101 + 2 * (l.length : Int), L) := by
  have key : ∀ d i (xs : List S33), i + d = l.length → xs.length = l.length → (∀ j, j < i → rd_T33 xs (j : Int) = sgM j) →
      ∃ L : List S33, L.length = l.length ∧ (∀ j, j < l.length → rd_T33 L (j : Int) = sgM j) ∧ Ev (fun k => laws_markSignalS.l0 k xs (101 + 2 * (i : Int)) (i : Int)) (101 + 2 * (l.length : Int), L) := by
    intro d
    induction d with
    | zero =>
      intro i xs hi hx hj
      obtain rfl : i = l.length := by omega
      refine ⟨xs, hx, hj, Ev.dn ?_⟩
      simp only [laws_markSignalS.l0]
      simp only [if_neg (show ¬ (l.length : Int) < (xs.length : Int) by omega)]
      exact Ev.now _
    | succ d ih =>
      intro i xs hi hx hj
      obtain ⟨y, hy⟩ : ∃ y, y = xs.set i (⟨101 + 2 * (i : Int), (rd_T33 xs (i : Int)).f1⟩ : S33) := ⟨_, rfl⟩
      have hyl : y.length = l.length := by rw [hy, List.length_set, hx]
      have hyi : (rd_T33 y (i : Int)).f0 = 101 + 2 * (i : Int) := by rw [rd_T33_nat (by omega)]; simp [hy]
      have ez : y.set i (⟨(rd_T33 y (i : Int)).f0, 101 + 2 * (i : Int) + 1⟩ : S33) = xs.set i (sgM i) := by
        rw [hyi, hy, List.set_set]
        unfold sgM
        congr 2
        omega
      obtain ⟨L, h1, h2, h3⟩ := ih (i + 1) (xs.set i (sgM i)) (by omega) (by simpa using hx) (fun j hj2 => by
        have hjl : j < (xs.set i (sgM i)).length := by rw [List.length_set]; omega
        rw [rd_T33_nat hjl, List.getElem_set]
        by_cases e : i = j
        · rw [if_pos e, e]
        · rw [if_neg e]
          have := hj j (by omega)
          rwa [rd_T33_nat (by omega)] at this)
      refine ⟨L, h1, h2, Ev.dn ?_⟩
      refine Ev.eq' h3 (fun k => ?_)
      simp only [laws_markSignalS.l0]
      rw [if_pos (show (i : Int) < (xs.length : Int) by omega), if_pos (show (0 : Int) ≤ (i : Int) by omega), Option.bind_some, Int.toNat_natCast, ← hy, wrap_succ (show i < l.length by omega) (by omega), wrap_id (x := 101 + 2 * (i : Int) + 1) (by omega) (by omega), wrap_id (x := 101 + 2 * (i : Int) + 1 + 1) (by omega) (by omega), ez]
      first | done | (congr 1; done) | (congr 1; omega)
  obtain ⟨L, h1, h2, h3⟩ := key l.length 0 l (by omega) rfl (fun j hj => by omega)
  exact ⟨L, h1, fun j hj => h2 j (by omega), h3⟩
theorem heldSignalS_ev (L : List S33) (hn : L.length ≤ 1000000) (h : ∀ j, j < L.length → rd_T33 L (j : Int) = sgM j) : Ev (fun k => laws_heldSignalS.f k L 101) (101 + 2 * (L.length : Int)) := by
  have key : ∀ d i, i + d = L.length → Ev (fun k => laws_heldSignalS.l0 k L (101 + 2 * (i : Int)) (i : Int)) (101 + 2 * (L.length : Int)) := by
    intro d
    induction d with
    | zero =>
      intro i hi
      obtain rfl : i = L.length := by omega
      refine Ev.dn ?_
      simp only [laws_heldSignalS.l0]
      simp only [if_neg (show ¬ (L.length : Int) < (L.length : Int) by omega)]
      exact Ev.now _
    | succ d ih =>
      intro i hi
      refine Ev.dn ?_
      refine Ev.eq' (ih (i + 1) (by omega)) (fun k => ?_)
      simp only [laws_heldSignalS.l0, h i (by omega), sgM]
      rw [if_pos (show (i : Int) < (L.length : Int) by omega), if_pos (show (0 : Int) ≤ (i : Int) by omega), if_pos trivial, wrap_succ (show i < L.length by omega) (by omega), wrap_id (x := 101 + 2 * (i : Int) + 1) (by omega) (by omega), wrap_id (x := 101 + 2 * (i : Int) + 1 + 1) (by omega) (by omega), if_pos (show 102 + 2 * (i : Int) = 101 + 2 * (i : Int) + 1 by omega)]
      first | done | (congr 1; done) | (congr 1; omega)
  exact key L.length 0 (by omega)
/-- x put in at place k. -/
def ins (l : List S33) (x : S33) (k : Nat) : List S33 := l.take k ++ x :: l.drop k
theorem ins_len (l : List S33) (x : S33) (k : Nat) (h : k ≤ l.length) : (ins l x k).length = l.length + 1 := by
  simp [ins]; omega
theorem ins_at (l : List S33) (x : S33) (k : Nat) (h : k < l.length) : ins l x k = l.take k ++ x :: l[k] :: l.drop (k + 1) := by
  rw [ins, List.drop_eq_getElem_cons h]
theorem ins_succ (l : List S33) (x : S33) (k : Nat) (h : k < l.length) : ins l x (k + 1) = l.take k ++ l[k] :: x :: l.drop (k + 1) := by
  rw [ins, List.take_succ_eq_append_getElem h, List.append_assoc]
  rfl
theorem ins_rd0 (l : List S33) (x : S33) (k : Nat) (h : k < l.length) : rd_T33 (ins l x (k + 1)) (k : Int) = l[k] := by
  rw [rd_T33_nat (by rw [ins_len _ _ _ (by omega)]; omega)]
  have hk : (l.take k).length = k := by simp; omega
  simp only [ins_succ l x k h]
  rw [List.getElem_append_right (by omega)]
  simp [hk]
theorem ins_rd1 (l : List S33) (x : S33) (k : Nat) (h : k < l.length) : rd_T33 (ins l x (k + 1)) ((k + 1 : Nat) : Int) = x := by
  rw [rd_T33_nat (by rw [ins_len _ _ _ (by omega)]; omega)]
  have hk : (l.take k).length = k := by simp; omega
  simp only [ins_succ l x k h]
  rw [List.getElem_append_right (by omega)]
  simp [hk]
theorem ins_swap (l : List S33) (x : S33) (k : Nat) (h : k < l.length) : ((ins l x (k + 1)).set k x).set (k + 1) l[k] = ins l x k := by
  have hk : (l.take k).length = k := by simp; omega
  rw [ins_succ l x k h, ins_at l x k h, List.set_append_right _ _ (by omega), hk, Nat.sub_self, List.set_cons_zero, List.set_append_right _ _ (by omega), hk, show k + 1 - k = 1 by omega, List.set_cons_succ, List.set_cons_zero]
/-- Where x comes to, from k down. -/
def pl (l : List S33) (x : S33) : Nat → Nat
  | 0 => 0
  | k + 1 => if (rd_T33 l (k : Int)).f0 > x.f0 then pl l x k else k + 1
theorem pl_le (l : List S33) (x : S33) : ∀ k, pl l x k ≤ k
  | 0 => Nat.le_refl _
  | k + 1 => by
    have := pl_le l x k
    simp only [pl]
    split <;> omega
def fin5 (y : List S33) : List S33 × Int := if areSig y = true then (y, 0) else ([], 5)
theorem spec_ins (l : List S33) (a b : Int) (hn : l.length ≤ 1000000) : ∀ k, k ≤ l.length → Ev (fun n => spec_AddSignal.l0 n l (k : Int) a b) (fin5 (ins l ⟨a, b⟩ (pl l ⟨a, b⟩ k))) := by
  have stop : ∀ k, k ≤ l.length → ∀ n, ((some (([] : List (S33)) : List (S33))).bind fun y165 => (if 0 ≤ (k : Int) then (if (k : Int) ≤ (l.length : Int) then ((some (l.take ((k : Int) : Int).toNat : List (S33))).bind fun y168 => (if y165.length + y168.length < 8796093022208 then ((some (y165 ++ y168 : List (S33))).bind fun y172 => ((some (([(⟨a, b⟩ : S33)] : List (S33)) : List (S33))).bind fun y175 => (if y172.length + y175.length < 8796093022208 then ((some (y172 ++ y175 : List (S33))).bind fun y178 => ((some (l.drop ((k : Int) : Int).toNat : List (S33))).bind fun y181 => (if y178.length + y181.length < 8796093022208 then ((some (y178 ++ y181 : List (S33))).bind fun y185 => ((spec_AreSignals.f n y185).bind fun t188 => (if t188 = true then (some (y185, (0 : Int))) else (some (([] : List (S33)), (5 : Int)))))) else (none)))) else (none)))) else (none))) else (none)) else (none))) = (spec_AreSignals.f n (ins l ⟨a, b⟩ k)).bind fun t => if t = true then some (ins l ⟨a, b⟩ k, (0 : Int)) else some (([] : List (S33)), (5 : Int)) := by
    intro k hk n
    rw [Option.bind_some, if_pos (show (0 : Int) ≤ (k : Int) by omega), if_pos (show (k : Int) ≤ (l.length : Int) by omega), Option.bind_some, Int.toNat_natCast, if_pos (by simp; omega), Option.bind_some, Option.bind_some, if_pos (by simp; omega), Option.bind_some, Option.bind_some, if_pos (by simp; omega), Option.bind_some]
    have e : [] ++ List.take k l ++ [(⟨a, b⟩ : S33)] ++ List.drop k l = ins l ⟨a, b⟩ k := by simp [ins]
    rw [e]
  have fin : ∀ k, k ≤ l.length → Ev (fun n => (spec_AreSignals.f n (ins l ⟨a, b⟩ k)).bind fun t => if t = true then some (ins l ⟨a, b⟩ k, (0 : Int)) else some (([] : List (S33)), (5 : Int))) (fin5 (ins l ⟨a, b⟩ k)) := by
    intro k hk
    refine Ev.bind (spec_AreSignals_ev _ (by rw [ins_len _ _ _ hk]; omega)) ?_
    unfold fin5
    cases areSig (ins l ⟨a, b⟩ k) <;> exact Ev.now _
  intro k
  induction k with
  | zero =>
    intro hk
    refine Ev.dn (Ev.eq' (fin 0 hk) (fun n => ?_))
    rw [← stop 0 hk n]
    simp only [spec_AddSignal.l0]
    rw [if_neg (show ¬ ((0 : Nat) : Int) > 0 by decide)]
  | succ k ih =>
    intro hk
    have hw : wrap64 (((k + 1 : Nat) : Int) - 1) = (k : Int) := by rw [wrap_id (by omega) (by omega)]; omega
    by_cases c : (rd_T33 l (k : Int)).f0 > a
    · have e : pl l ⟨a, b⟩ (k + 1) = pl l ⟨a, b⟩ k := if_pos c
      rw [e]
      refine Ev.dn (Ev.eq' (ih (by omega)) (fun n => ?_))
      simp only [spec_AddSignal.l0]
      rw [if_pos (show ((k + 1 : Nat) : Int) > 0 by omega), hw, if_pos (show (0 : Int) ≤ (k : Int) by omega), if_pos (show (k : Int) < (l.length : Int) by omega), if_pos c]
    · have e : pl l ⟨a, b⟩ (k + 1) = k + 1 := if_neg c
      rw [e]
      refine Ev.dn (Ev.eq' (fin (k + 1) hk) (fun n => ?_))
      rw [← stop (k + 1) hk n]
      simp only [spec_AddSignal.l0]
      rw [if_pos (show ((k + 1 : Nat) : Int) > 0 by omega), hw, if_pos (show (0 : Int) ≤ (k : Int) by omega), if_pos (show (k : Int) < (l.length : Int) by omega), if_neg c]
theorem impl_ins (l : List S33) (x : S33) (hn : l.length ≤ 1000000) : ∀ k, k ≤ l.length → Ev (fun n => impl_AddSignal.l0 n (ins l x k) (k : Int)) (fin5 (ins l x (pl l x k))) := by
  have fin : ∀ k, k ≤ l.length → Ev (fun n => (impl_AreSignals.f n (ins l x k)).bind fun t => if t = true then some (ins l x k, (0 : Int)) else some (([] : List (S33)), (5 : Int))) (fin5 (ins l x k)) := by
    intro k hk
    refine Ev.bind (impl_AreSignals_ev _ (by rw [ins_len _ _ _ hk]; omega)) ?_
    unfold fin5
    cases areSig (ins l x k) <;> exact Ev.now _
  intro k
  induction k with
  | zero =>
    intro hk
    refine Ev.dn (Ev.eq' (fin 0 hk) (fun n => ?_))
    simp only [impl_AddSignal.l0]
    rw [if_neg (show ¬ ((0 : Nat) : Int) > 0 by decide)]
  | succ k ih =>
    intro hk
    have hw : wrap64 (((k + 1 : Nat) : Int) - 1) = (k : Int) := by rw [wrap_id (by omega) (by omega)]; omega
    have hl := ins_len l x (k + 1) hk
    have hlk : rd_T33 l (k : Int) = l[k] := rd_T33_nat (by omega)
    by_cases c : (rd_T33 l (k : Int)).f0 > x.f0
    · have e : pl l x (k + 1) = pl l x k := if_pos c
      rw [e]
      refine Ev.dn (Ev.eq' (ih (by omega)) (fun n => ?_))
      simp only [impl_AddSignal.l0]
      rw [if_pos (show ((k + 1 : Nat) : Int) > 0 by omega), hw, if_pos (show (0 : Int) ≤ (k : Int) by omega), if_pos (show (k : Int) < ((ins l x (k + 1)).length : Int) by omega), if_pos (show (0 : Int) ≤ ((k + 1 : Nat) : Int) by omega), if_pos (show ((k + 1 : Nat) : Int) < ((ins l x (k + 1)).length : Int) by omega), ins_rd0 l x k (by omega), ins_rd1 l x k (by omega), if_pos (by rw [← hlk]; exact c), Int.toNat_natCast, Int.toNat_natCast]
      congr 1
      exact ins_swap l x k (by omega)
    · have e : pl l x (k + 1) = k + 1 := if_neg c
      rw [e]
      refine Ev.dn (Ev.eq' (fin (k + 1) hk) (fun n => ?_))
      simp only [impl_AddSignal.l0]
      rw [if_pos (show ((k + 1 : Nat) : Int) > 0 by omega), hw, if_pos (show (0 : Int) ≤ (k : Int) by omega), if_pos (show (k : Int) < ((ins l x (k + 1)).length : Int) by omega), if_pos (show (0 : Int) ≤ ((k + 1 : Nat) : Int) by omega), if_pos (show ((k + 1 : Nat) : Int) < ((ins l x (k + 1)).length : Int) by omega), ins_rd0 l x k (by omega), ins_rd1 l x k (by omega), if_neg (by rw [← hlk]; exact c)]
def addR (l : List S33) (x : S33) : List S33 × Int := if areSig l = true then (if l.length = 40 then ([], 3) else fin5 (ins l x (pl l x l.length))) else ([], 1)
theorem AddSignal_both (l : List S33) (a b : Int) (hn : l.length ≤ 1000000) : Ev (fun k => spec_AddSignal.f k l a b) (addR l ⟨a, b⟩) ∧ Ev (fun k => impl_AddSignal.f k l a b) (addR l ⟨a, b⟩) ∧ (addR l ⟨a, b⟩).1.length ≤ 1000001 := by
  unfold spec_AddSignal.f impl_AddSignal.f addR
  refine ⟨Ev.bind (spec_AreSignals_ev l (by omega)) ?_, Ev.bind (impl_AreSignals_ev l (by omega)) ?_, ?_⟩
  · cases areSig l with
    | false => simp only [Bool.false_eq_true, if_false]; exact Ev.now _
    | true =>
      simp only [if_true]
      by_cases c : l.length = 40
      · simp only [if_pos c, if_pos (show (l.length : Int) = 40 by omega)]; exact Ev.now _
      · simp only [if_neg c, if_neg (show ¬ (l.length : Int) = 40 by omega)]
        exact spec_ins l a b hn l.length (Nat.le_refl _)
  · cases areSig l with
    | false => simp only [Bool.false_eq_true, if_false]; exact Ev.now _
    | true =>
      simp only [if_true]
      by_cases c : l.length = 40
      · simp only [if_pos c, if_pos (show (l.length : Int) = 40 by omega)]; exact Ev.now _
      · simp only [if_neg c, if_neg (show ¬ (l.length : Int) = 40 by omega)]
        refine Ev.eq' (impl_ins l ⟨a, b⟩ hn l.length (Nat.le_refl _)) (fun n => ?_)
        have e : ins l ⟨a, b⟩ l.length = [] ++ l ++ [(⟨a, b⟩ : S33)] := by simp [ins]
        rw [Option.bind_some, if_pos (by simp; omega), Option.bind_some, Option.bind_some, if_pos (by simp; omega), Option.bind_some, ← e, ins_len _ _ _ (Nat.le_refl _), wrap_id (by omega) (by omega)]
        congr 1
        omega
  · have hp := pl_le l ⟨a, b⟩ l.length
    have hi := ins_len l ⟨a, b⟩ _ hp
    cases areSig l with
    | false => simp
    | true =>
      simp only [if_true]
      split
      · simp
      · unfold fin5
        split
        · simp only [hi]; omega
        · simp
theorem FnExactAddSignal : ∀ (l0 : List S30) (x1_0 : Int) (x1_1 : Int), (l0.length ≤ reachBytes ∧ ∀ y ∈ l0, ((Lit.int .i64 y.f0).wf = true ∧ (Lit.int .i64 y.f1).wf = true)) → ((Lit.int .i64 x1_0).wf = true ∧ (Lit.int .i64 x1_1).wf = true) → ∃ k, laws_FnExactAddSignal.f k l0 x1_0 x1_1 = some true := by
  intro l0 a b ⟨hm, _⟩ _
  unfold reachBytes at hm
  apply Ev.rounds
  unfold laws_FnExactAddSignal.f
  rw [szSignalS_some l0 (by omega)]
  simp only [Option.bind_some]
  by_cases h : 1000000 < l0.length
  · simp only [if_pos h, if_pos (show (-1 : Int) < 0 by decide)]
    exact Ev.now _
  have hl : l0.length ≤ 1000000 := by omega
  simp only [if_neg h, if_neg (show ¬ (1000000 - (l0.length : Int) < 0) by omega), toSignalS_some _ l0 _ hl, laws_toSignal.f, Option.bind_some]
  have hc : (l0.map laws_toSignalS.conv).length ≤ 1000000 := by simpa using hl
  generalize hcc : l0.map laws_toSignalS.conv = c at hc
  obtain ⟨h1, h2, _⟩ := AddSignal_both c a b hc
  have h3 : (addR c ⟨a, b⟩).1.length ≤ 1000000 := by
    unfold addR fin5
    cases hs : areSig c with
    | false => simp
    | true =>
      simp only [if_true]
      have h40 : c.length ≤ 40 := by
        unfold areSig at hs
        simp only [Bool.and_eq_true, decide_eq_true_eq] at hs
        exact hs.2
      split
      · simp
      · split
        · simp only [ins_len c ⟨a, b⟩ _ (pl_le c ⟨a, b⟩ c.length)]; omega
        · simp
  obtain ⟨L0, _, _, hL0⟩ := markSignalS_ev c hc
  obtain ⟨L, hL1, hL2, hL⟩ := markSignalS_ev (addR c ⟨a, b⟩).1 h3
  have hH := heldSignalS_ev L (by omega) hL2
  rw [hL1] at hH
  have hE := eqSignalS_refl (addR c ⟨a, b⟩).1 (by omega)
  refine Ev.bind h1 (Ev.bind h2 (Ev.bind hE ?_))
  simp only [bne_self_eq_false, if_true]
  refine Ev.dn ?_
  simp only [laws_FnExactAddSignal.j0, Bool.false_eq_true, if_false, toSignalS_some _ l0 _ hl, Option.bind_some, hcc]
  refine Ev.bind (intactSignalS_refl c hc) ?_
  simp only [if_true]
  refine Ev.bind hL0 ?_
  simp only [if_neg (show ¬ 101 + 2 * (c.length : Int) < 0 by omega)]
  refine Ev.bind hE ?_
  simp only [bne_self_eq_false, if_true]
  refine Ev.dn ?_
  simp only [laws_FnExactAddSignal.j1, Bool.false_eq_true, if_false]
  refine Ev.bind hL (Ev.bind hH ?_)
  simp only [if_neg (show ¬ 101 + 2 * (((addR c ⟨a, b⟩).1.length : Nat) : Int) < 0 by omega), if_true, toSignalS_some _ l0 _ hl, Option.bind_some, hcc, laws_toSignal.f]
  refine Ev.bind h2 (Ev.bind hE ?_)
  simp only [bne_self_eq_false, if_true]
  refine Ev.dn ?_
  simp only [laws_FnExactAddSignal.j2, Bool.false_eq_true, if_false]
  refine Ev.bind hH ?_
  simp only [if_neg (show ¬ 101 + 2 * (((addR c ⟨a, b⟩).1.length : Nat) : Int) < 0 by omega), if_true]
  exact Ev.now _
end Go.Proofs.Ytjgbncpbenmjoaa.Pure
