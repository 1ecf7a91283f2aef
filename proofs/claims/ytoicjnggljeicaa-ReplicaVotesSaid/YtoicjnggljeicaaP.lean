/- The laws of chapter 15 on typed data, where their inputs are few. -/
import Derived.Test.YtoicjnggljeicaaQ
import Derived.IntWalk
namespace Go.Proofs.Ytoicjnggljeicaa
open Go Go.Ev
set_option maxRecDepth 100000

theorem known_true : known = some true := by kernel_rfl

theorem w64_id {n : Int} (h1 : -9223372036854775808 ≤ n) (h2 : n < 9223372036854775808) : w64 n = n := by
  unfold w64
  exact IntWalk.i64_in n (by omega)

theorem within_eq {a n : Int} (hn : 0 < n) (hm : n < 4611686018427387904) : within a n = some (a % n) := by
  unfold within
  have h0 : decide (n = 0) = false := by simp; omega
  simp only [h0, cond_false]
  have h1 := Int.emod_nonneg a (by omega : n ≠ 0)
  have h2 := Int.emod_lt_of_pos a hn
  have h3 : a.tmod n = a % n ∨ a.tmod n = a % n - n := by
    rw [Int.tmod_eq_emod]
    split
    · left; omega
    · right; omega
  congr 1
  rcases h3 with h3 | h3
  · rw [h3]
    have : decide (a % n < 0) = false := by simp; omega
    simp [this]
  · rw [h3]
    have : decide (a % n - n < 0) = true := by simp; omega
    simp only [this, cond_true]
    rw [w64_id (by omega) (by omega)]
    omega

def isT (o : Option Bool) : Bool := match o with | some true => true | _ => false
theorem isT_eq {o : Option Bool} (h : isT o = true) : o = some true := by
  unfold isT at h
  split at h
  · rfl
  · cases h

theorem commits_all : ((List.range 8).all fun k => (List.range (k + 2)).all fun a => (List.range (k + 2)).all fun b => isT (commitsRest k a b)) = true := by kernel_rfl

theorem commits_true (i1 i2 i3 : Int) : replicaCommits i1 i2 i3 = some true := by
  have h1 := Int.emod_nonneg i1 (by omega : (8 : Int) ≠ 0)
  have h2 := Int.emod_lt_of_pos i1 (by omega : (0 : Int) < 8)
  have hf : replicaCommits i1 i2 i3 = commitsRest (i1 % 8) (i2 % (i1 % 8 + 2)) (i3 % (i1 % 8 + 2)) := by
    unfold replicaCommits
    rw [known_true]
    simp only [ob_some, Bool.not_true, cond_false]
    rw [within_eq (by omega) (by omega)]
    simp only [ob_some]
    rw [w64_id (n := i1 % 8 + 2) (by omega) (by omega), within_eq (by omega) (by omega), within_eq (by omega) (by omega)]
    rfl
  rw [hf]
  have h3 := Int.emod_nonneg i2 (by omega : (i1 % 8 + 2 : Int) ≠ 0)
  have h4 := Int.emod_lt_of_pos i2 (by omega : (0 : Int) < i1 % 8 + 2)
  have h5 := Int.emod_nonneg i3 (by omega : (i1 % 8 + 2 : Int) ≠ 0)
  have h6 := Int.emod_lt_of_pos i3 (by omega : (0 : Int) < i1 % 8 + 2)
  obtain ⟨k, hk⟩ := Int.eq_ofNat_of_zero_le h1
  obtain ⟨a, ha⟩ := Int.eq_ofNat_of_zero_le h3
  obtain ⟨b, hb⟩ := Int.eq_ofNat_of_zero_le h5
  rw [hk] at ha hb ⊢
  rw [ha, hb]
  have := commits_all
  rw [List.all_eq_true] at this
  have := this k (List.mem_range.2 (by omega))
  rw [List.all_eq_true] at this
  have := this a (List.mem_range.2 (by rw [hk] at h4; omega))
  rw [List.all_eq_true] at this
  exact isT_eq (this b (List.mem_range.2 (by rw [hk] at h6; omega)))

theorem snaps_all : ((List.range 6).all fun k => (List.range (k + 2)).all fun a => isT (snapsRest k a true) && isT (snapsRest k a false)) = true := by kernel_rfl

theorem snaps_true (i1 i2 : Int) (b1 : Bool) : replicaSnaps i1 i2 b1 = some true := by
  have h1 := Int.emod_nonneg i1 (by omega : (6 : Int) ≠ 0)
  have h2 := Int.emod_lt_of_pos i1 (by omega : (0 : Int) < 6)
  have hf : replicaSnaps i1 i2 b1 = snapsRest (i1 % 6) (i2 % (1 + i1 % 6 + 1)) b1 := by
    unfold replicaSnaps
    rw [known_true]
    simp only [ob_some, Bool.not_true, cond_false]
    rw [within_eq (by omega) (by omega)]
    simp only [ob_some]
    have e : w64 (w64 (1 + i1 % 6) + 1) = 1 + i1 % 6 + 1 := by rw [w64_id (n := 1 + i1 % 6) (by omega) (by omega), w64_id (by omega) (by omega)]
    have e2 : within i2 (w64 (w64 (1 + i1 % 6) + 1)) = some (i2 % (1 + i1 % 6 + 1)) := by rw [e, within_eq (by omega) (by omega)]
    rw [e2]
    rfl
  rw [hf]
  have h3 := Int.emod_nonneg i2 (by omega : (1 + i1 % 6 + 1 : Int) ≠ 0)
  have h4 := Int.emod_lt_of_pos i2 (by omega : (0 : Int) < 1 + i1 % 6 + 1)
  obtain ⟨k, hk⟩ := Int.eq_ofNat_of_zero_le h1
  obtain ⟨a, ha⟩ := Int.eq_ofNat_of_zero_le h3
  rw [hk] at ha ⊢
  rw [ha]
  have := snaps_all
  rw [List.all_eq_true] at this
  have := this k (List.mem_range.2 (by omega))
  rw [List.all_eq_true] at this
  have := this a (List.mem_range.2 (by rw [hk] at h4; omega))
  rw [Bool.and_eq_true] at this
  cases b1
  · exact isT_eq this.2
  · exact isT_eq this.1


/- Leads. -/
def leadsX (id_ from_ : Int) : Node := ⟨id_, 1, id_, 0, 0, s_empty, [⟨1, s_empty⟩], 2, 0, 0, ⟨id_ == 0 || from_ == 0, id_ == 1 || from_ == 1, id_ == 2 || from_ == 2⟩, ⟨1, 1, 1⟩, ⟨cond (id_ == 0) 1 0, cond (id_ == 1) 1 0, cond (id_ == 2) 1 0⟩⟩

def leadsN (id_ : Int) : Node := ⟨id_, 1, id_, 0, 0, s_empty, [], 1, 0, 0, ⟨id_ == 0, id_ == 1, id_ == 2⟩, ⟨0, 0, 0⟩, ⟨0, 0, 0⟩⟩

theorem leadsA0 (i2 : Int) (s : ByteArray) : leadsRest 0 i2 s = ob (within i2 2) fun r4 => leadsMid (0, i2, s, 21, leadsN 0) r4 := by kernel_rfl
theorem leadsA1 (i2 : Int) (s : ByteArray) : leadsRest 1 i2 s = ob (within i2 2) fun r4 => leadsMid (1, i2, s, 21, leadsN 1) r4 := by kernel_rfl
theorem leadsA2 (i2 : Int) (s : ByteArray) : leadsRest 2 i2 s = ob (within i2 2) fun r4 => leadsMid (2, i2, s, 21, leadsN 2) r4 := by kernel_rfl
theorem leadsB00 (i2 : Int) (s : ByteArray) : leadsMid (0, i2, s, 21, leadsN 0) 0 = leadsEnd 0 (leadsX 0 1) s := by kernel_rfl
theorem leadsB01 (i2 : Int) (s : ByteArray) : leadsMid (0, i2, s, 21, leadsN 0) 1 = leadsEnd 0 (leadsX 0 2) s := by kernel_rfl
theorem leadsB10 (i2 : Int) (s : ByteArray) : leadsMid (1, i2, s, 21, leadsN 1) 0 = leadsEnd 1 (leadsX 1 2) s := by kernel_rfl
theorem leadsB11 (i2 : Int) (s : ByteArray) : leadsMid (1, i2, s, 21, leadsN 1) 1 = leadsEnd 1 (leadsX 1 0) s := by kernel_rfl
theorem leadsB20 (i2 : Int) (s : ByteArray) : leadsMid (2, i2, s, 21, leadsN 2) 0 = leadsEnd 2 (leadsX 2 0) s := by kernel_rfl
theorem leadsB21 (i2 : Int) (s : ByteArray) : leadsMid (2, i2, s, 21, leadsN 2) 1 = leadsEnd 2 (leadsX 2 1) s := by kernel_rfl

theorem sEq_self (s : ByteArray) : sEq s s = true := by simp [sEq]

/-- what is proposed -/
def leadsY (id_ from_ : Int) (s : ByteArray) : Node := { leadsX id_ from_ with log := [⟨1, s_empty⟩, ⟨1, s⟩], match_ := ⟨cond (id_ == 0) 2 0, cond (id_ == 1) 2 0, cond (id_ == 2) 2 0⟩ }
def leadsP (id_ from_ : Int) (s : ByteArray) : Prop := propose (leadsX id_ from_) s = cond (sEq s s_empty) (some (leadsX id_ from_, 0, 1)) (some (leadsY id_ from_ s, 2, 0))
theorem leadsP01 (s : ByteArray) : leadsP 0 1 s := by unfold leadsP; kernel_rfl
theorem leadsP02 (s : ByteArray) : leadsP 0 2 s := by unfold leadsP; kernel_rfl
theorem leadsP12 (s : ByteArray) : leadsP 1 2 s := by unfold leadsP; kernel_rfl
theorem leadsP10 (s : ByteArray) : leadsP 1 0 s := by unfold leadsP; kernel_rfl
theorem leadsP20 (s : ByteArray) : leadsP 2 0 s := by unfold leadsP; kernel_rfl
theorem leadsP21 (s : ByteArray) : leadsP 2 1 s := by unfold leadsP; kernel_rfl

theorem leadsEnd_true {id_ from_ : Int} {s : ByteArray} (h : leadsP id_ from_ s) (hs : same (leadsX id_ from_) (leadsX id_ from_) = some true) (hid : id_ = 0 ∨ id_ = 1 ∨ id_ = 2) : leadsEnd id_ (leadsX id_ from_) s = some true := by
  unfold leadsEnd
  rw [show propose (leadsX id_ from_) s = _ from h]
  cases hb : sEq s s_empty with
  | true => simp [hs]
  | false =>
    rcases hid with rfl | rfl | rfl <;> simp [leadsY, leadsX, sEq_self]

theorem leads_true (i1 i2 : Int) (s : ByteArray) : replicaLeads i1 i2 s = some true := by
  have h1 := Int.emod_nonneg i1 (by omega : (3 : Int) ≠ 0)
  have h2 := Int.emod_lt_of_pos i1 (by omega : (0 : Int) < 3)
  have h3 := Int.emod_nonneg i2 (by omega : (2 : Int) ≠ 0)
  have h4 := Int.emod_lt_of_pos i2 (by omega : (0 : Int) < 2)
  have hf : replicaLeads i1 i2 s = cond (decide ((s.size : Int) > 40)) (some true) (leadsRest (i1 % 3) i2 s) := by
    unfold replicaLeads
    rw [known_true]
    simp only [ob_some, Bool.not_true, cond_false]
    rw [within_eq (by omega) (by omega)]
    rfl
  rw [hf]
  cases decide ((s.size : Int) > 40) with
  | true => rfl
  | false =>
    simp only [cond_false]
    have hw : within i2 2 = some (i2 % 2) := within_eq (by omega) (by omega)
    have c3 : i1 % 3 = 0 ∨ i1 % 3 = 1 ∨ i1 % 3 = 2 := by omega
    have c2 : i2 % 2 = 0 ∨ i2 % 2 = 1 := by omega
    rcases c3 with c | c | c <;> rw [c] <;> rcases c2 with d | d
    · rw [leadsA0, hw, d, ob_some, leadsB00]; exact leadsEnd_true (leadsP01 s) (by kernel_rfl) (.inl rfl)
    · rw [leadsA0, hw, d, ob_some, leadsB01]; exact leadsEnd_true (leadsP02 s) (by kernel_rfl) (.inl rfl)
    · rw [leadsA1, hw, d, ob_some, leadsB10]; exact leadsEnd_true (leadsP12 s) (by kernel_rfl) (.inr (.inl rfl))
    · rw [leadsA1, hw, d, ob_some, leadsB11]; exact leadsEnd_true (leadsP10 s) (by kernel_rfl) (.inr (.inl rfl))
    · rw [leadsA2, hw, d, ob_some, leadsB20]; exact leadsEnd_true (leadsP20 s) (by kernel_rfl) (.inr (.inr rfl))
    · rw [leadsA2, hw, d, ob_some, leadsB21]; exact leadsEnd_true (leadsP21 s) (by kernel_rfl) (.inr (.inr rfl))

end Go.Proofs.Ytoicjnggljeicaa
