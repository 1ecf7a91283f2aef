/- The law GroupNone: what its call does. -/
import Derived.Test.YtogbdkfbjphkiaaGreatLa
import Derived.Test.YtogbdkfbjphkiaaGreatLk
import Derived.Test.YtogbdkfbjphkiaaGreatL0
import Derived.Test.YtogbdkfbjphkiaaGreatL1
import Derived.Test.YtogbdkfbjphkiaaGreatL2
import Derived.Test.YtogbdkfbjphkiaaGreatL3
import Derived.Test.YtogbdkfbjphkiaaGreatL4
namespace Go.Proofs.YtogbdkfbjphkiaaGreat
open Go Go.Cx Go.RowKit

theorem isS_eq {k : Nat} {v : Value} (h : isS k v = true) : v = sy k := by
  unfold isS at h
  split at h
  · rw [Nat.eq_of_beq_eq_true h]; rfl
  · cases h
theorem isSs_nil {k : Nat} (h : isSs k [] = true) : k = 8 := Nat.eq_of_beq_eq_true h
theorem isSs_cons {k : Nat} {v : Value} {l : List Value} (h : isSs k (v :: l) = true) : v = sy k ∧ isSs (Nat.succ k) l = true := by
  have h : Bool.rec (motive := fun _ => Bool) false (isSs (Nat.succ k) l) (isS k v) = true := h
  cases hv : isS k v with
  | false => rw [hv] at h; cases h
  | true => rw [hv] at h; exact ⟨isS_eq hv, h⟩

theorem isSs_le : ∀ (l : List Value) (k : Nat), isSs k l = true → k ≤ 8
  | [], k, h => by have := isSs_nil h; omega
  | v :: l, k, h => by have := isSs_le l (Nat.succ k) (isSs_cons h).2; omega

/-- the cells behind symbols -/
theorem syms_eq {g : Gh} : ∀ (l : List Value) (k : Nat) (l' vs : List Value), (∀ (j : Nat) (v : Value), vs[j]? = some v → ∀ v', RC g (sy (k + j)) v' → v' = v) → vs.length + k = 8 → isSs k l = true → All2 (RC g) l l' → l' = vs
  | [], k, l', vs, _, hk, h, ha => by
    have h8 := isSs_nil h
    cases ha
    cases vs with
    | nil => rfl
    | cons _ _ => simp only [List.length_cons] at hk; omega
  | v :: l, k, l', vs, hs, hk, h, ha => by
    obtain ⟨e9, h9⟩ := isSs_cons h
    subst e9
    cases ha with
    | cons h1 ha =>
      cases vs with
      | nil =>
        have h8 := isSs_le _ _ h9
        have hk : 0 + k = 8 := hk
        have h8 : k + 1 ≤ 8 := h8
        exfalso; omega
      | cons u us =>
        have e := hs 0 u rfl _ h1
        subst e
        have hk' : us.length + Nat.succ k = 8 := by simp only [List.length_cons] at hk; omega
        have e := syms_eq l (Nat.succ k) _ us (fun j v hj v' hv => hs (j + 1) v (by simpa using hj) v' (by rw [show k + (j + 1) = Nat.succ k + j from by omega]; exact hv)) hk' h9 ha
        rw [e]

theorem orc_ok {wB : World} {c : Cmd} {cs : List Value} (h : CmdIn wB c cs) {b : Bool} (hF : un_fewCmd c = some b) : OrcOk Tryz.prog (symG (undef :: cs)) wB (orc b) := by
  intro f args args' u he g w hg hw ha
  unfold orc at he
  cases h21 : Nat.beq f 21 with
  | true =>
    have := Nat.eq_of_beq_eq_true h21
    subst this
    rw [h21] at he
    dsimp only at he
    split at he
    · rename_i l
      cases hs : isSs 1 l with
      | false => rw [hs] at he; cases he
      | true =>
        rw [hs] at he
        cases he
        cases ha with
        | cons h1 ha =>
          cases ha
          obtain ⟨l', rfl, h2⟩ := h1.agg
          have hlen : cs.length = 7 := by obtain ⟨v1, v2, v3, v4, v5, v6, v7, rfl, _⟩ := h.cells; rfl
          have e : l' = cs := syms_eq l 1 l' cs (fun j v hj v' hv => sym_inv hg (k := 1 + j) (by rw [Nat.add_comm]; simpa using hj) (.one (.cell hv))) (by omega) hs h2
          subst e
          refine (few_calls h hF hw).mono ?_
          rintro e w' ⟨rfl, hb⟩
          exact ⟨hb, _, rfl, RV.self rfl⟩
    · cases he
  | false =>
    rw [h21] at he
    cases h6 : Nat.beq f 6 with
    | false => rw [h6] at he; cases he
    | true =>
      rw [h6] at he
      have := Nat.eq_of_beq_eq_true h6
      subst this
      cases args with
      | cons _ _ => cases he
      | nil =>
        cases he
        cases ha
        refine (known_calls w).mono ?_
        rintro e w' ⟨rfl, hb⟩
        exact ⟨hb, _, rfl, RV.self rfl⟩

theorem look_all : ∀ (b : Bool) (i : Int), isB true (evO Tryz.prog 100000 (orc b) 100 5 (args5 i) w02) = true
  | false, i => look_f i
  | true, .ofNat 0 => look_0
  | true, .ofNat 1 => look_1
  | true, .ofNat 2 => look_2
  | true, .ofNat (m + 3) => look_3 m
  | true, .negSucc m => look_4 m

set_option maxRecDepth 100000 in
theorem cell_sym {g : Gh} {k : Nat} {v : Value} {cs : List Value} (hg : g = symG (undef :: cs)) (h : cs[k]? = some v) (h1 : v.oneCell' = true) : RC g (sy (k + 1)) v := by
  subst hg
  have e : symG (undef :: cs) 1 (k + 1) = some ⟨0, 0, 0, 0, 0, false, v⟩ := by unfold symG; rw [if_pos rfl, show (undef :: cs)[k + 1]? = some v from by simpa using h]
  exact RC.sym e h1

set_option maxRecDepth 100000 in
theorem none_calls (i : Int) {c : Cmd} {cs : List Value} {w : World} (h : CmdIn w c cs) : Calls Tryz.prog 5 ⟨[.int .i64 i, .agg ⟨cs⟩]⟩ w fun e w' => e = .returned (.bool true) ∧ Below w.heap.size w w' := by
  obtain ⟨b, hF⟩ := fewCmd_answers c
  have hO := orc_ok h hF
  obtain ⟨v1, v2, v3, v4, v5, v6, v7, rfl, o1, o2, o3, o4, o5, o6, o7⟩ := h.cells
  refine call_of (gB := symG [undef, v1, v2, v3, v4, v5, v6, v7]) (evO_ok noNum mixed hO 100000 100 5 (args5 i) _ (symG [undef, v1, v2, v3, v4, v5, v6, v7]) w.heap.size w02 w ⟨GLe.refl _, Below.refl _ _, Nat.le_refl _, rel_start (symG_one _) w⟩ ?_) (look_all b i)
  refine .cons (RV.self rfl) (.cons (.one (.agg ?_)) .nil)
  exact .cons (cell_sym (k := 0) rfl rfl o1) (.cons (cell_sym (k := 1) rfl rfl o2) (.cons (cell_sym (k := 2) rfl rfl o3) (.cons (cell_sym (k := 3) rfl rfl o4) (.cons (cell_sym (k := 4) rfl rfl o5) (.cons (cell_sym (k := 5) rfl rfl o6) (.cons (cell_sym (k := 6) rfl rfl o7) .nil))))))

end Go.Proofs.YtogbdkfbjphkiaaGreat
