/- The fast evaluator of code on known values, and that it is sound: part 2. -/
import Derived.Laws.Slices
import Derived.MapKept
import Derived.Laws.StructEq
import Derived.Laws.IdiomStrings
import Derived.Conc.LoneSelect
import Derived.Recover
import Derived.Below
import Derived.Orders
import Derived.Test.YteglbeihabjdiaaGreatKa
namespace Go.Cx
open Go
variable {g : Gh} {B : Nat} {a : W} {w : World} {P : Program}

theorem sizeT_info {e : TypeId} {sz : Nat} (h : sizeT P e = some sz) : ∃ inf, P.info? e = some inf ∧ sz = inf.size := by
  obtain ⟨inf, h1, h2⟩ := sizeT_some h
  exact ⟨inf, h1, by first | exact h2 | exact h2.symm⟩

theorem index_ok (hr : Rel g B a.h a.n w) {t : TypeId} {x x' i i' : Value} (hx : RV g x x') (hi : RV g i i') : Res P g B a w (Instr.index t x' i') ((cIndex P t).run x i a) := by
  unfold cIndex
  split
  · rename_i k e sz ag ht
    obtain ⟨inf, h1, h2, h3, h4⟩ := ti_some ht
    split
    · rename_i n hn
      obtain ⟨ie, e1, e2⟩ := sizeT_info hn
      refine opt_ok fun cs hcs => opt_ok fun j hj => ite_ok fun hle => ?_
      have x1 := asAgg_some hcs; subst x1
      have x2 := asNat_some hj; subst x2
      obtain ⟨l', rfl, hl⟩ := hx.agg
      have x3 := hi.int; subst x3
      refine opt_ok fun v hv => ?_
      obtain ⟨v', p1, p2⟩ := part_ok hl hv
      have hle : j.n + 1 ≤ k := Nat.le_of_ble_eq_true hle
      refine Res.pure hr ?_ p2
      have p1 : ∀ w, (part e l'.toArray (j.n * n)).run P w = .ok v' w := p1
      simp [Instr.index, asIntOf, run_underlying h2, run_size e1, ← e2, p1]
      intro hc; omega
    · exact trivial
  · rename_i sz ag ht
    obtain ⟨inf, h1, h2, h3, h4⟩ := ti_some ht
    refine opt_ok fun s hs => opt_ok fun j hj => opt_ok fun b hb => ?_
    have x1 := asStr_some hs; subst x1
    have x2 := asNat_some hj; subst x2
    have x3 := hi.int; subst x3
    have x4 := hx.string; subst x4
    rw [nth_eq] at hb
    refine Res.pure hr ?_ (RV.self rfl)
    have hb' : s[j.n]? = some b := by
      have : s.data[j.n]? = some b := by rw [← Array.getElem?_toList]; exact hb
      rw [Array.getElem?_eq_some_iff] at this
      obtain ⟨q1, q2⟩ := this
      have q3 : j.n < s.size := q1
      rw [getElem?_pos s j.n q3]
      exact congrArg some q2
    simp [Instr.index, asIntOf, run_underlying h2, hb']
  · exact trivial

theorem valV_self {v : Value} (h : valV v = true) : R1 g v v := by
  unfold valV at h
  cases ha : asAgg v with
  | none => rw [ha] at h; exact .cell (RC.self h)
  | some l =>
    rw [ha] at h
    have e := asAgg_some ha; subst e
    have h : allL cellV l = true := h
    rw [allL_eq, List.all_eq_true] at h
    exact .agg (RCs.self h)

theorem zeroV_some {t : TypeId} {z : Value} (h : zeroV P t = some z) : (∀ w, (zeroValue t).run P w = .ok z w) ∧ R1 g z z := by
  unfold zeroV at h
  split at h
  · rename_i l i hl hi
    obtain ⟨inf, v, h1, h2, h3, h4⟩ := zero_some hl
    have hi := infoF_some hi
    rw [hi] at h1; cases h1
    rw [h2] at h; cases h
    refine ⟨fun w => by simp [zeroValue, typeInfo, hi, h2], ?_⟩
    cases z with
    | agg x =>
      have : x = l.toArray := h3
      subst this
      exact .agg (RCs.self h4)
    | _ =>
      have : [_] = l := congrArg Array.toList h3
      subst this
      exact .cell (RC.self (h4 _ (by simp)))
  · cases h

theorem okV_rv {ok b : Bool} {v : Value} (h : R1 g v v) : RV g (okV ok v b) (okV ok v b) := by
  cases ok with
  | true => exact .tuple (.cons h (.cons (.cell (RC.self rfl)) .nil))
  | false => exact .one h

theorem okV_rv' {ok b : Bool} {v v' : Value} (h : R1 g v v') : RV g (okV ok v b) (okV ok v' b) := by
  cases ok with
  | true => exact .tuple (.cons h (.cons (.cell (RC.self rfl)) .nil))
  | false => exact .one h

theorem assertRe_ok (hr : Rel g B a.h a.n w) {t u : TypeId} {d : TypeDesc} (hd : P.underlying u = some d) (hni : ∀ ms, d ≠ .interface ms) {ok : Bool} {x x' : Value} (hx : RV g x x') : Res P g B a w (Instr.typeAssert x' t u ok) (assertRe u (zeroV P u) ok x a) := by
  unfold assertRe
  split
  · rename_i dt v
    obtain ⟨y, rfl, hf⟩ := hx.iface
    simp only [if_eq]
    split
    · rename_i he
      have he := Nat.eq_of_beq_eq_true he
      subst he
      split
      · rename_i hv
        have hy : R1 g v y := by
          rcases hf with ⟨rfl, _⟩ | ⟨l, l', rfl, rfl, h⟩
          · exact valV_self hv
          · exact .agg (h.mono fun _ _ h => .base h)
        refine Res.pure hr ?_ (okV_rv' hy)
        unfold Instr.typeAssert
        simp only [Sem.run_bind, run_underlying hd, Result.andThen_ok]
        cases d <;> first | exact absurd rfl (hni _) | (simp; cases ok <;> rfl)
      · exact trivial
    · rename_i he
      have he : dt ≠ u := fun e => he (by rw [e]; exact Nat.beq_refl u)
      cases ok with
      | false => exact trivial
      | true =>
        refine opt_ok fun z hz => ?_
        obtain ⟨z1, z2⟩ := zeroV_some (g := g) hz
        refine Res.pure hr ?_ (okV_rv z2)
        unfold Instr.typeAssert
        simp only [Sem.run_bind, run_underlying hd, Result.andThen_ok]
        cases d <;> first | exact absurd rfl (hni _) | (simp [he, z1]; rfl)
  · have e : x' = .nilIface := hx.of_free rfl
    subst e
    cases ok with
    | false => exact trivial
    | true =>
      refine opt_ok fun z hz => ?_
      obtain ⟨z1, z2⟩ := zeroV_some (g := g) hz
      refine Res.pure hr ?_ (okV_rv z2)
      unfold Instr.typeAssert
      simp only [Sem.run_bind, run_underlying hd, Result.andThen_ok]
      cases d <;> first | exact absurd rfl (hni _) | (simp [z1]; rfl)
  · exact trivial

theorem hasM_any {x : String × TypeId} : ∀ {ms : List Method}, (List.rec (motive := fun _ => Bool) false (fun m _ ih => Bool.rec (motive := fun _ => Bool) ih (Bool.rec (motive := fun _ => Bool) ih true (Nat.beq m.sig x.2)) (m.name == x.1)) ms : Bool) = true → ms.any (fun m => m.name == x.1 && m.sig == x.2) = true
  | [], h => by cases h
  | m :: ms, h => by
    have h : (Bool.rec (motive := fun _ => Bool) (List.rec (motive := fun _ => Bool) false (fun m _ ih => Bool.rec (motive := fun _ => Bool) ih (Bool.rec (motive := fun _ => Bool) ih true (Nat.beq m.sig x.2)) (m.name == x.1)) ms) (Bool.rec (motive := fun _ => Bool) (List.rec (motive := fun _ => Bool) false (fun m _ ih => Bool.rec (motive := fun _ => Bool) ih (Bool.rec (motive := fun _ => Bool) ih true (Nat.beq m.sig x.2)) (m.name == x.1)) ms) true (Nat.beq m.sig x.2)) (m.name == x.1) : Bool) = true := h
    rw [List.any_cons, Bool.or_eq_true]
    cases h1 : (m.name == x.1) with
    | false => rw [h1] at h; exact .inr (hasM_any h)
    | true =>
      rw [h1] at h
      cases h2 : Nat.beq m.sig x.2 with
      | false => rw [h2] at h; exact .inr (hasM_any h)
      | true =>
        refine .inl ?_
        have := Nat.eq_of_beq_eq_true h2
        simp [this]

theorem hasM_ok {want : Array (String × TypeId)} {got : Array Method} (h : hasM want.toList got.toList = true) : Instr.missingMethod want got = none := by
  unfold hasM at h
  rw [allL_eq, List.all_eq_true] at h
  have e : (want.toList.filter fun x => !got.any fun m => m.name == x.1 && m.sig == x.2) = [] := by
    rw [List.filter_eq_nil_iff]
    intro x hx
    have := hasM_any (h x hx)
    rw [← Array.any_toList]
    simp [this]
  unfold Instr.missingMethod
  have e2 : (want.toList.filter fun x => match x with | (name, sig) => !got.any fun m => m.name == name && m.sig == sig) = [] := e
  simp only [e2, List.map_nil]
  rfl

theorem assertI_ok (hr : Rel g B a.h a.n w) {t u : TypeId} {ms : Array (String × TypeId)} (hd : P.underlying u = some (.interface ms)) {ok : Bool} {x x' : Value} (hx : RV g x x') : Res P g B a w (Instr.typeAssert x' t u ok) (assertI P ms.toList (zeroV P u) ok x a) := by
  unfold assertI
  split
  · rename_i dt v
    obtain ⟨y, rfl, hf⟩ := hx.iface
    split
    · rename_i i hi
      have hi := infoF_some hi
      refine ite_ok fun hh => ?_
      have hy : R1 g (.iface dt v) (.iface dt y) := by
        rcases hf with ⟨rfl, hf⟩ | ⟨l, l', rfl, rfl, h⟩
        · exact .cell (.base (.same hf))
        · exact .cell (.iface h)
      refine Res.pure hr ?_ (okV_rv' hy)
      unfold Instr.typeAssert
      simp only [Sem.run_bind, run_underlying hd, Result.andThen_ok]
      simp [typeInfo, hi, hasM_ok hh]
      cases ok <;> rfl
    · exact trivial
  · have e : x' = .nilIface := hx.of_free rfl
    subst e
    cases ok with
    | false => exact trivial
    | true =>
      refine opt_ok fun z hz => ?_
      obtain ⟨z1, z2⟩ := zeroV_some (g := g) hz
      refine Res.pure hr ?_ (okV_rv z2)
      unfold Instr.typeAssert
      simp only [Sem.run_bind, run_underlying hd, Result.andThen_ok]
      simp [z1]; rfl
  · exact trivial

theorem assert_ok (hr : Rel g B a.h a.n w) {t u : TypeId} {ok : Bool} {x x' : Value} (hx : RV g x x') : Res P g B a w (Instr.typeAssert x' t u ok) ((cAssert P u ok).run x a) := by
  unfold cAssert
  split
  · rename_i ms s g2 hi
    obtain ⟨inf, h1, h2, h3, h4⟩ := ti_some hi
    exact assertI_ok hr h2 hx
  · rename_i i hni hi
    obtain ⟨inf, h1, h2, h3, h4⟩ := ti_some hi
    refine assertRe_ok hr h2 (fun ms e => ?_) hx
    obtain ⟨d, s, g⟩ := i
    have e : d = .interface ms := e
    subst e
    exact hni _ _ _ rfl
  · exact trivial

end Go.Cx
namespace Go.Cx
open Go
variable {g : Gh} {B : Nat} {a : W} {w : World} {P : Program}

theorem natOf_some {v : Value} {n : Nat} (e : natOf v = some n) : ∃ k, v = .int k (.ofNat n) := by
  cases v with
  | int k m => cases m <;> cases e; exact ⟨k, rfl⟩
  | _ => cases e

theorem add_cut {blk off cut k : Nat} (h : cut ≤ off) : (⟨blk, off - cut, none⟩ : Addr).add k = ⟨blk, off + k - cut, none⟩ := by
  unfold Addr.add
  split
  · rename_i h0; subst h0; rfl
  · congr 1
    show off - cut + k = off + k - cut
    omega

inductive RO (g : Gh) : Option Value → Option Value → Prop
  | none : RO g none none
  | some {v v'} (h : RV g v v') : RO g (some v) (some v')

def Bd (d : Nat) (v : Option Value) (n : Nat) : Prop := (v = none ∧ n = d) ∨ ∃ k, v = some (.int k (n : Int))

theorem numOr_ok {d n : Nat} {v v' : Option Value} (h : numOr d v = some n) (hv : RO g v v') : Bd d v' n := by
  cases hv with
  | none => cases h; exact .inl ⟨rfl, rfl⟩
  | some hv =>
    rename_i u u'
    have h : natOf u = some n := h
    obtain ⟨k, rfl⟩ := natOf_some h
    have e := hv.int; subst e
    exact .inr ⟨k, rfl⟩

theorem run_bounds {s : Bool} {len cap l h m : Nat} {lo hi mx : Option Value} (hl : Bd 0 lo l) (hh : Bd len hi h) (hm : Bd cap mx m) (hx : mx.isSome = true → hi.isSome = true) (h1 : l ≤ h) (h2 : h ≤ m) (h3 : m ≤ cap) :
    (Instr.sliceBounds s len cap lo hi mx).run P w = .ok (l, h, m) w := by
  have bd : ∀ (k : IntKind) (i y : Nat) (c : BoundsCode) (w : World), i ≤ y → (Instr.sliceBound (.int k (i : Int)) y c).run P w = .ok i w := fun k i y c w h => by
    rw [run_sliceBound w k i y c (by omega) (by omega)]; simp
  unfold Instr.sliceBounds
  rcases hm with ⟨rfl, rfl⟩ | ⟨km, rfl⟩ <;> rcases hh with ⟨rfl, rfl⟩ | ⟨kh, rfl⟩ <;> rcases hl with ⟨rfl, rfl⟩ | ⟨kl, rfl⟩ <;>
    first | (simp [bd, h1, h2, h3]; done) | (have := hx rfl; cases this)

theorem fixOf_ok (hr : Rel g B a.h a.n w) {b : Addr} {sz : Nat} {f : Bool} (h : fixOf a.h b sz = some f) {cp : Cp} (hg : g b.block (genOf b.spot) = some cp) : (f = true ∧ cp.fix = true ∧ cp.ext = 0) ∨ (f = false ∧ cp.e = sz) := by
  obtain ⟨blk, off, sp⟩ := b
  have hd := (hr.dom _ _ _ hg).1
  have hd : 0 < blk := hd
  unfold fixOf at h
  simp only [] at h
  cases blk with
  | zero => omega
  | succ k =>
    simp only [] at h
    cases hrow : rowOf (hget a.h (k + 1)) with
    | none => rw [hrow] at h; cases h
    | some r =>
      rw [hrow] at h
      simp only [if_eq] at h
      split at h
      case isFalse => cases h
      rename_i hf
      have hf := Nat.le_of_ble_eq_true hf
      obtain ⟨h1, h2, h3, h4, h5⟩ := hr.row (rowOf_some hrow) hg
      have hrow' := (h5 hf).1
      split at h
      · rename_i hfix
        cases h
        exact .inl ⟨rfl, by rw [hrow'.same]; exact hfix, hrow'.fix hfix⟩
      · split at h
        · rename_i hsz
          cases h
          exact .inr ⟨rfl, by rw [hrow'.esz]; exact Nat.eq_of_beq_eq_true hsz⟩
        · cases h

theorem no_room {m e l hh : Nat} (h : m + e = l) (h1 : l ≤ hh) (h2 : hh ≤ m) : m - l + e = 0 := by omega

theorem shiftA_eq (b : Addr) (k : Nat) : shiftA b k = ⟨b.block, b.off + k, b.spot⟩ := rfl

theorem sliceRe_ok (hr : Rel g B a.h a.n w) {t e : TypeId} {sz : Nat} {inf : TypeInfo} (ht : P.underlying t = some (.slice e)) (he : P.info? e = some inf) (hsz : sz = inf.size) {s : SL} {x' : Value} (hx : RV g (.slice s.a s.n s.c) x')
    {lo lo' hi hi' mx mx' : Option Value} (hlo : RO g lo lo') (hhi : RO g hi hi') (hmx : RO g mx mx') : Res P g B a w (Instr.sliceAt t x' lo' hi' mx') (sliceRe sz s lo hi mx a) := by
  obtain ⟨sa, n, c⟩ := s
  have hx : RV g (.slice sa n c) x' := hx
  have go : ∀ a' len cap l h m, x' = .slice a' len cap → Bd 0 lo' l → Bd len hi' h → Bd cap mx' m → (mx'.isSome = true → hi'.isSome = true) → l ≤ h → h ≤ m → m ≤ cap →
      (Instr.sliceAt t x' lo' hi' mx').run P w = .ok (.slice (if m = l then a' else a'.map (·.add (l * sz))) (h - l) (m - l)) w := by
    intro a' len cap l h m e hl hh hm hmm h1 h2 h3
    subst e
    subst hsz
    simp only [Instr.sliceAt, Sem.run_bind, run_underlying ht, Result.andThen_ok, Instr.slice, run_bounds hl hh hm hmm h1 h2 h3, run_size he, Sem.run_pure]
  unfold sliceRe
  refine ite_ok fun hmm => opt_ok fun m hm => opt_ok fun hh hhh => opt_ok fun l hl => ?_
  have bl := numOr_ok hl hlo
  have bh := numOr_ok hhh hhi
  have bm := numOr_ok hm hmx
  simp only [] at bl bh bm
  have hmi : mx'.isSome = true → hi'.isSome = true := by
    intro h
    cases hmx with
    | none => cases h
    | some _ => cases hhi with
      | none => cases hmm
      | some _ => rfl
  unfold sliceRe2
  refine ite_ok fun k3 => ite_ok fun k2 => ite_ok fun k1 => ?_
  have h3 : m ≤ c := Nat.le_of_ble_eq_true k3
  have h2 : hh ≤ m := Nat.le_of_ble_eq_true k2
  have h1 : l ≤ hh := Nat.le_of_ble_eq_true k1
  clear k1 k2 k3
  rcases slice_cases hx.slice with ⟨rfl, rfl, rfl, rfl⟩ | ⟨b, cp, a', rfl, q1, q2, q3, q4, q5, rfl⟩ | ⟨a', rfl, rfl, rfl, rfl⟩
  · refine Res.pure hr (v' := .slice none 0 0) ?_ (RV.self rfl)
    rw [go _ _ _ l hh m rfl bl bh bm hmi h1 h2 h3]
    have : m = 0 := by omega
    have : l = 0 := by omega
    have : hh = 0 := by omega
    subst_vars; rfl
  · refine opt_ok fun fx hfx => ?_
    rcases fixOf_ok hr hfx q1 with ⟨rfl, f1, f2⟩ | ⟨rfl, f1⟩
    · have bm' : Bd (c + cp.ext) mx' m := by rw [f2]; exact bm
      have := go _ _ _ l hh m rfl bl bh bm' hmi h1 h2 (by omega)
      refine Res.pure hr this (.one (.cell (.base ?_)))
      show RI g (.slice (some (Bool.rec (motive := fun _ => Addr) (shiftA b (l * sz)) b (Nat.beq m l))) (hh - l) (m - l)) _
      by_cases hml : m = l
      · subst hml
        rw [if_pos rfl, Nat.beq_refl]
        have := RI.slice (g := g) (i := b.block) (o := b.off) (s := b.spot) (n := hh - m) (c := m - m) (a := a') q1 q2 (by omega) (.inl f1) (.inl (by omega))
        simpa [f2] using this
      · have hb : Nat.beq m l = false := by
          cases hbb : Nat.beq m l with
          | true => exact absurd (Nat.eq_of_beq_eq_true hbb) hml
          | false => rfl
        rw [if_neg hml, hb]
        have ha' : a' = ⟨cp.blk, b.off - cp.cut, none⟩ := q5.resolve_left (by omega)
        have := RI.slice (g := g) (i := b.block) (o := b.off + l * sz) (s := b.spot) (n := hh - l) (c := m - l) (a := ⟨cp.blk, b.off + l * sz - cp.cut, none⟩) q1 (by omega) (by omega) (.inl f1) (.inr rfl)
        rw [f2] at this
        rw [ha']
        have e : (⟨cp.blk, b.off - cp.cut, none⟩ : Addr).add (l * sz) = ⟨cp.blk, b.off + l * sz - cp.cut, none⟩ := add_cut q2
        show RI g (.slice (some (shiftA b (l * sz))) (hh - l) (m - l)) (.slice (some ((⟨cp.blk, b.off - cp.cut, none⟩ : Addr).add (l * sz))) (hh - l) (m - l))
        rw [e]
        exact this
    · cases hmx with
      | @some hv0 hv1 hmv =>
        show Res P g B a w _ (Bool.rec (motive := fun _ => Re) (.ok junkV a) (.ok (.slice (some ⟨0, 0, none⟩) 0 0) a) (Nat.beq m l))
        have bm' : Bd (c + cp.ext) (Option.some hv1) m := by
          rcases bm with ⟨h, _⟩ | h
          · cases h
          · exact .inr h
        rw [if_eq]
        split
        case isFalse => exact Res.pure hr (go _ _ _ l hh m rfl bl bh bm' hmi h1 h2 (by omega)) (.one .junk)
        rename_i hml
        have hml := Nat.eq_of_beq_eq_true hml
        subst hml
        have := go _ _ _ m hh m rfl bl bh bm' hmi h1 h2 (by omega)
        refine Res.pure hr this ?_
        rw [if_pos rfl, show hh - m = 0 by omega, show m - m = 0 by omega]
        exact .one (.cell (.base .slice0))
      | none =>
        have hmc : m = c := by
          rcases bm with ⟨_, h⟩ | ⟨_, h⟩
          · exact h
          · cases h
        subst hmc
        have := go _ _ _ l hh (m + cp.ext) rfl bl bh (.inl ⟨rfl, rfl⟩) hmi h1 (by omega) (Nat.le_refl _)
        refine Res.pure hr this (.one (.cell (.base ?_)))
        show RI g (.slice (some (shiftA b (l * sz))) (hh - l) (m - l)) _
        have hle : cp.fix = true ∨ b.off + l * sz + (m - l) * cp.e ≤ cp.len := by
          rcases q4 with h | h
          · exact .inl h
          · refine .inr ?_
            rw [f1] at h ⊢
            have : l * sz + (m - l) * sz = m * sz := by rw [← Nat.add_mul]; congr 1; omega
            omega
        have e2 : m + cp.ext - l = m - l + cp.ext := by omega
        rw [e2]
        by_cases hml : m + cp.ext = l
        · rw [if_pos hml]
          exact RI.slice (g := g) (i := b.block) (o := b.off + l * sz) (s := b.spot) (n := hh - l) (c := m - l) (a := a') q1 (by omega) (by omega) hle (.inl (no_room hml h1 h2))
        · rw [if_neg hml]
          have ha' : a' = ⟨cp.blk, b.off - cp.cut, none⟩ := q5.resolve_left (by omega)
          have e : (⟨cp.blk, b.off - cp.cut, none⟩ : Addr).add (l * sz) = ⟨cp.blk, b.off + l * sz - cp.cut, none⟩ := add_cut q2
          rw [ha']
          show RI g _ (.slice (some ((⟨cp.blk, b.off - cp.cut, none⟩ : Addr).add (l * sz))) _ _)
          rw [e]
          exact RI.slice (g := g) (i := b.block) (o := b.off + l * sz) (s := b.spot) (n := hh - l) (c := m - l) (a := ⟨cp.blk, b.off + l * sz - cp.cut, none⟩) q1 (by omega) (by omega) hle (.inr rfl)
  · -- no room, a block of its own
    have : m = 0 := by omega
    have : l = 0 := by omega
    have : hh = 0 := by omega
    subst_vars
    have hbm : Bd 0 mx' 0 := bm
    have := go _ _ _ 0 0 0 rfl bl bh hbm hmi h1 h2 h3
    refine Res.pure hr this (.one (.cell (.base .slice0)))

theorem sliceArr_ok (hr : Rel g B a.h a.n w) {t e : TypeId} {sz k : Nat} {inf : TypeInfo} (ht : P.underlying t = some (.array k e)) (he : P.info? e = some inf) (hsz : sz = inf.size) {b : Addr} {x' : Value} (hx : RV g (.pointer (some b)) x')
    {lo lo' hi hi' mx mx' : Option Value} (hlo : RO g lo lo') (hhi : RO g hi hi') (hmx : RO g mx mx') : Res P g B a w (Instr.sliceAt t x' lo' hi' mx') (sliceArr sz k b lo hi mx a) := by
  unfold sliceArr
  cases hmx with
  | some _ => exact trivial
  | none =>
    refine opt_ok fun hh hhh => opt_ok fun l hl => ?_
    have bl := numOr_ok hl hlo
    have bh := numOr_ok hhh hhi
    refine ite_ok fun k2 => ite_ok fun k1 => opt_ok fun f hf => ite_ok fun hft => ?_
    have h2 : hh ≤ k := Nat.le_of_ble_eq_true k2
    have h1 : l ≤ hh := Nat.le_of_ble_eq_true k1
    clear k1 k2
    obtain ⟨cp, q1, q2, rfl⟩ := hx.ptr
    rcases fixOf_ok hr hf q1 with ⟨_, f1, f2⟩ | ⟨f1, _⟩
    case inr => rw [f1] at hft; cases hft
    refine Res.pure hr (v' := .slice (some (if k = l then ⟨cp.blk, b.off - cp.cut, none⟩ else (⟨cp.blk, b.off - cp.cut, none⟩ : Addr).add (l * sz))) (hh - l) (k - l)) ?_ (.one (.cell (.base ?_)))
    · subst hsz
      simp [Instr.sliceAt, run_underlying ht, Instr.sureAddr, run_bounds bl bh (.inl ⟨rfl, rfl⟩ : Bd k none k) (by intro h; cases h) h1 h2 (Nat.le_refl _), run_size he]
    · show RI g (.slice (some (Bool.rec (motive := fun _ => Addr) (shiftA b (l * sz)) b (Nat.beq k l))) (hh - l) (k - l)) _
      by_cases hkl : k = l
      · rw [if_pos hkl]
        have hb : Nat.beq k l = true := by rw [hkl]; exact Nat.beq_refl l
        rw [hb]
        have := RI.slice (g := g) (i := b.block) (o := b.off) (s := b.spot) (n := hh - l) (c := k - l) (a := ⟨cp.blk, b.off - cp.cut, none⟩) q1 q2 (by omega) (.inl f1) (.inr rfl)
        rw [f2] at this
        exact this
      · have hb : Nat.beq k l = false := by
          cases hbb : Nat.beq k l with
          | true => exact absurd (Nat.eq_of_beq_eq_true hbb) hkl
          | false => rfl
        rw [if_neg hkl, hb, add_cut q2]
        have := RI.slice (g := g) (i := b.block) (o := b.off + l * sz) (s := b.spot) (n := hh - l) (c := k - l) (a := ⟨cp.blk, b.off + l * sz - cp.cut, none⟩) q1 (by omega) (by omega) (.inl f1) (.inr rfl)
        rw [f2] at this
        exact this

theorem RO.of_free {v v' : Option Value} (h : RO g v v') (hf : ∀ x ∈ v.toList, free x = true) : v' = v := by
  cases h with
  | none => rfl
  | some h => rw [h.of_free (hf _ (by simp))]

theorem sliceStr_ok (hr : Rel g B a.h a.n w) {t : TypeId} {x x' : Value} (hx : RV g x x') {lo lo' hi hi' mx mx' : Option Value} (hlo : RO g lo lo') (hhi : RO g hi hi') (hmx : RO g mx mx') :
    Res P g B a w (Instr.sliceAt t x' lo' hi' mx') (sliceStr P t x lo hi mx a) := by
  unfold sliceStr
  cases hmx with
  | some _ => exact trivial
  | none =>
    refine ite_ok fun hf => ?_
    rw [allL_eq, List.all_eq_true] at hf
    simp only [app_eq, List.mem_cons, List.mem_append] at hf
    rw [hx.of_free (hf _ (.inl rfl)), hlo.of_free fun x h => hf x (.inr (.inl h)), hhi.of_free fun x h => hf x (.inr (.inr h))]
    exact resOf_ok hr

theorem slice_ok (hr : Rel g B a.h a.n w) {t : TypeId} {x x' : Value} (hx : RV g x x') {lo lo' hi hi' mx mx' : Option Value} (hlo : RO g lo lo') (hhi : RO g hi hi') (hmx : RO g mx mx') :
    Res P g B a w (Instr.sliceAt t x' lo' hi' mx') ((cSlice P t).run x lo hi mx a) := by
  unfold cSlice
  split
  · rename_i e sz ag ht
    obtain ⟨inf, h1, h2, h3, h4⟩ := ti_some ht
    split
    · rename_i n hn
      obtain ⟨ie, e1, e2⟩ := sizeT_info hn
      refine opt_ok fun s hs => ?_
      have := asSlice_some hs; subst this
      exact sliceRe_ok hr h2 e1 e2 hx hlo hhi hmx
    · exact trivial
  · rename_i k e sz ag ht
    obtain ⟨inf, h1, h2, h3, h4⟩ := ti_some ht
    split
    · rename_i n hn
      obtain ⟨ie, e1, e2⟩ := sizeT_info hn
      refine opt_ok fun b hb => ?_
      have := asPtr_some hb; subst this
      exact sliceArr_ok hr h2 e1 e2 hx hlo hhi hmx
    · exact trivial
  · exact sliceStr_ok hr hx hlo hhi hmx
  · exact trivial

end Go.Cx
namespace Go.Cx
open Go
variable {g : Gh} {B : Nat} {a : W} {w : World} {P : Program}

def Fm (r : Re) : Prop := (∃ v b, r = .ok v b) ∨ ∃ y, r = no y
theorem Fm.ok {v : Value} {b : W} : Fm (.ok v b) := .inl ⟨_, _, rfl⟩
theorem Fm.no {y : Nat} : Fm (Cx.no y) := .inr ⟨_, rfl⟩
theorem Fm.opt {α : Type} {o : Option α} {r : Re} {f : α → Re} (hr : Fm r) (h : ∀ x, Fm (f x)) : Fm (Option.rec (motive := fun _ => Re) r f o) := by
  cases o with
  | none => exact hr
  | some x => exact h x
theorem Fm.ite {c : Bool} {r s : Re} (hr : Fm r) (hs : Fm s) : Fm (Bool.rec (motive := fun _ => Re) r s c) := by cases c <;> assumption
theorem Fm.nat {n : Nat} {r : Re} {f : Nat → Re → Re} (hr : Fm r) (h : ∀ m i, Fm (f m i)) : Fm (Nat.rec (motive := fun _ => Re) r f n) := by
  cases n with
  | zero => exact hr
  | succ m => exact h m _
theorem Fm.newRow {cs : List Value} {t e : Nat} {fix : Bool} {f : Nat → Value} : Fm (Cx.newRow a cs t e fix f) := by
  rcases newRow_form a cs t e fix f with ⟨b, h⟩ | h <;> rw [h]
  · exact .ok
  · exact .no
theorem Fm.freshRe {e sz ln : Nat} {cs : List Value} : Fm (Cx.freshRe e sz cs ln a) := Fm.ite .no .newRow
theorem Fm.growRe {e sz ln c k : Nat} {b : Addr} {new : List Value} : Fm (Cx.growRe e sz b ln c k new a) := by
  unfold Cx.growRe
  exact .opt (.nat .freshRe fun _ _ => .no) fun r => .ite (.ite .no (.ite .no (.ite .no (.ite .no (.ite .no .ok))))) (.opt .no fun _ => .freshRe)
theorem Fm.appendRe {e sz k : Nat} {s : SL} {new : List Value} : Fm (Cx.appendRe e sz s k new a) := by
  unfold Cx.appendRe
  exact .ite (.opt .freshRe fun _ => .growRe) (.opt .ok fun _ => .nat .ok fun _ _ => .opt .no fun _ => .ok)

theorem ofBytes_eq (s : ByteArray) : ofBytes s = byteCells s := by
  unfold ofBytes byteCells
  rw [mapL_eq]
  rfl

theorem bytes_rc (s : ByteArray) : All2 (RC g) (byteCells s) (byteCells s) := RCs.self fun c hc => by
  obtain ⟨_, _, rfl⟩ := List.mem_map.1 hc
  rfl

theorem RCs.one {l l' : List Value} (h : All2 (RC g) l l') : ∀ v ∈ l', v.oneCell' = true := fun v hv => by
  obtain ⟨u, _, hu⟩ := h.mem hv
  exact hu.one

theorem natrec_ok {α : Type} {n : Nat} {x : α} {f : Nat → α → α} : (Nat.rec (motive := fun _ => α) x f n : α) = match n with | 0 => x | m + 1 => f m (Nat.rec (motive := fun _ => α) x f m) := by cases n <;> rfl

theorem mkSrc (hr : Rel g B a.h a.n w) {tx : TypeId} {x x' : Value} (hx : RV g x x') {sz k : Nat} {new : List Value} (h : srcOf a.h sz x = some (k, new))
    (_ : (∃ e', P.underlying tx = some (.slice e')) ∨ P.underlying tx = some .string)
    (hsl : ∀ s : SL, x = .slice s.a s.n s.c → ∃ e', P.underlying tx = some (.slice e')) (hst : ∀ s, x = .string s → P.underlying tx = some .string) :
    ∃ new', Go.Src P sz tx x' k new' w ∧ All2 (RC g) new new' := by
  unfold srcOf at h
  cases ha : asSlice x with
  | none =>
    rw [ha] at h
    cases hs : asStr x with
    | none => rw [hs] at h; cases h
    | some s =>
      rw [hs] at h
      simp only [if_eq] at h
      split at h
      · rename_i hz
        have hz := Nat.eq_of_beq_eq_true hz
        subst hz
        have e := asStr_some hs; subst e
        have e := hx.string; subst e
        cases h
        rw [ofBytes_eq]
        exact ⟨_, Go.Src.ofString w (hst s rfl) s, bytes_rc s⟩
      · cases h
  | some s =>
    rw [ha] at h
    have e := asSlice_some ha; subst e
    obtain ⟨sa, n, c⟩ := s
    obtain ⟨e', hk'⟩ := hsl _ rfl
    have h : (Nat.rec (motive := fun _ => Option (Nat × List Value)) (some (0, [])) (fun _ _ => Option.rec (motive := fun _ => Option (Nat × List Value)) none (fun b => Option.rec (motive := fun _ => Option (Nat × List Value)) none (fun l => some (n, l)) (rdS a.h b sz n)) sa) n : Option (Nat × List Value)) = some (k, new) := h
    have hx : RV g (.slice sa n c) x' := hx
    cases n with
    | zero =>
      cases h
      rcases slice_cases hx.slice with ⟨_, _, _, rfl⟩ | ⟨_, _, a', _, _, _, _, _, _, rfl⟩ | ⟨a', _, _, _, rfl⟩
      · exact ⟨[], Go.Src.ofNil w hk' 0, .nil⟩
      · exact ⟨[], Go.Src.ofSlice w hk' a' 0 _ [] (by simp) (by simp) (by simp), .nil⟩
      · exact ⟨[], Go.Src.ofSlice w hk' a' 0 _ [] (by simp) (by simp) (by simp), .nil⟩
    | succ m =>
      cases sa with
      | none => cases h
      | some b =>
        have h : (Option.rec (motive := fun _ => Option (Nat × List Value)) none (fun l => some (m + 1, l)) (rdS a.h b sz (m + 1)) : Option (Nat × List Value)) = some (k, new) := h
        cases hrd : rdS a.h b sz (m + 1) with
        | none => rw [hrd] at h; cases h
        | some l =>
          rw [hrd] at h
          cases h
          rcases slice_cases hx.slice with ⟨h0, _⟩ | ⟨b', cp, a', h0, q1, q2, q3, q4, q5, rfl⟩ | ⟨_, _, h0, _⟩
          · cases h0
          · cases h0
            obtain ⟨_, l', l1, l2, l3⟩ := rdS_sound hr hrd q1 q2 q3 q4
            have ha' := q5.resolve_left (by omega)
            subst ha'
            exact ⟨l', Go.Src.ofSlice w hk' _ (m + 1) _ l' l1 l3 (RCs.one l2), l2⟩
          · cases h0

theorem appS_ok (hr : Rel g B a.h a.n w) {t tx ty e sz : TypeId} {z : List Value} (hs : sliceT P t = some (e, sz, z)) {s s' x x' : Value} (hsv : RV g s s') (hx : RV g x x')
    (hk : (∃ e', P.underlying tx = some (.slice e')) ∨ P.underlying tx = some .string)
    (hty : ∀ k new, srcOf a.h sz x = some (k, new) → (∀ s : SL, x = .slice s.a s.n s.c → ∃ e', P.underlying tx = some (.slice e')) ∧ (∀ s, x = .string s → P.underlying tx = some .string)) :
    Res P g B a w (Builtin.append_ #[t, tx] ty #[s', x']) (appS e sz s x a) := by
  obtain ⟨h1, h2⟩ := sliceT_some hs
  obtain ⟨i, zv, e1, e2, e3, e4, e5, e6, e7, e8⟩ := madeT_some h2
  unfold appS
  refine opt_ok fun sl hsl => opt_ok fun p hp => ?_
  obtain ⟨k, new⟩ := p
  have := asSlice_some hsl; subst this
  obtain ⟨x1, x2⟩ := hty k new hp
  obtain ⟨new', n1, n2⟩ := mkSrc hr hx hp hk x1 x2
  show Res P g B a w _ (appendRe e sz sl k new a)
  rcases Fm.appendRe (a := a) (e := e) (sz := sz) (k := k) (s := sl) (new := new) with ⟨v, b, he⟩ | ⟨y, he⟩
  · rw [he]
    subst e5
    exact append_sound hr hsv.slice (Sr.of (ty := ty) h1 e1 e2 n1) n2 rfl e6 e7 (by rw [e3]; simpa using e4) he
  · rw [he]; exact trivial

theorem zero_made {z : Array Value} {n : Nat} (hz : 0 < z.size) : Builtin.zeroCells z n = madeCells z (n * z.size) := by
  unfold Builtin.zeroCells madeCells
  apply Array.ext
  · simp
  · intro i h1 h2
    simp at h1
    have : i % z.size < z.size := Nat.mod_lt _ hz
    simp [this]

theorem keq_eq {a b : IntKind} (h : keq a b = true) : a = b := by cases a <;> cases b <;> first | rfl | cases h

theorem Sr.zeros {t tx ty e : TypeId} {q : IntKind} {i : TypeInfo} {z : Value} {k : Nat} (ht : P.underlying t = some (.slice e)) (htx : P.underlying tx = some (.int q)) (hi : P.info? e = some i) (hz : i.zero = some z) (hzs : z.cells.size = i.size) (hpos : 1 ≤ i.size) (hk : k ≤ 1048576) (hb : i.bytes ≤ 131072) (w : World) :
    Sr P t tx ty e i z (.int .i64 (k : Int)) k (Builtin.zeroCells z.cells k).toList w := by
  have hw : IntKind.i64.wrap (k : Int) = (k : Int) := wrap_nat (k := .i64) (show k < top .i64 from by show k < 9223372036854775808; omega)
  have h48 : ¬ ((k : Int) * (i.bytes : Int) > 281474976710656) := by
    have : k * i.bytes ≤ 1048576 * 131072 := Nat.mul_le_mul hk hb
    have : ((k * i.bytes : Nat) : Int) ≤ 281474976710656 := by omega
    have h : (k : Int) * (i.bytes : Int) = ((k * i.bytes : Nat) : Int) := by simp
    rw [h]; omega
  have h48 : ¬ (281474976710656 < (k : Int) * (i.bytes : Int)) := by omega
  have h64 : ¬ ((k : Int) < 0) := by omega
  have hse : i.size ≠ 0 := by omega
  have hw0 : IntKind.i64.wrap 0 = 0 := by decide
  have hz0 : Builtin.zeroCells z.cells 0 = #[] := by simp [Builtin.zeroCells]
  refine ⟨?_, ?_, ?_, ?_⟩
  · intro b sLen sCap w' hr hst
    rcases Nat.eq_zero_or_pos k with rfl | hkp
    · rw [hz0] at hst
      simp at hr
      simp at hst
      simp [Builtin.append_, run_underlying ht, run_underlying htx, sizeOf, typeInfo, hi, asInt, asIntOf, hw0, hr, hst]
    · have hks : k * i.size ≠ 0 := Nat.mul_ne_zero (by omega) hse
      simp [Builtin.append_, run_underlying ht, run_underlying htx, sizeOf, typeInfo, hi, asInt, asIntOf, hw, h48, h64, hr, hks, zeroValue, hz, hst]
  · intro h0 sCap
    subst h0
    simp [Builtin.append_, run_underlying ht, run_underlying htx, sizeOf, typeInfo, hi, asInt, asIntOf, hw0]
  · intro base sLen sCap olds ho hg hn hbb
    have hf := fits48 hg hn hbb
    have hf' : ¬ (281474976710656 < Builtin.nextslicecap (sLen + k) sCap * i.bytes) := by omega
    have hng : ¬ (sLen + k ≤ sCap) := by omega
    have h63 : ¬ (9223372036854775807 < ((sLen : Int) + (k : Int))) := by omega
    rcases Nat.eq_zero_or_pos k with rfl | hkp
    · simp at hg hng h63 hf'
      have hgn : ¬ (sLen ≤ sCap) := by omega
      have hff : ¬ (281474976710656 < Builtin.nextslicecap sLen sCap * i.bytes) := by omega
      have h63' : ¬ (9223372036854775807 < (sLen : Int)) := by omega
      simp [Builtin.append_, run_underlying ht, run_underlying htx, sizeOf, typeInfo, hi, asInt, asIntOf, hw0, hgn, h63', hff, zeroValue, hz, ho, Question.forced, Go.newRow, grownCap, hz0]
    · have hks : k * i.size ≠ 0 := Nat.mul_ne_zero (by omega) hse
      have hm : max (k : Int) 0 = k := by omega
      simp [Builtin.append_, run_underlying ht, run_underlying htx, sizeOf, typeInfo, hi, asInt, asIntOf, hw, h48, h64, hng, hm, h63, hf', hks, zeroValue, hz, ho, Question.forced, Go.newRow, grownCap]
      congr 2
      apply Array.ext'
      simp [List.append_assoc]
  · rw [zero_made (by omega), Array.length_toList]
    simp [madeCells, hzs]

theorem appZ_ok (hr : Rel g B a.h a.n w) {t tx ty e sz : TypeId} {q : IntKind} {z : List Value} (hs : sliceT P t = some (e, sz, z)) (htx : P.underlying tx = some (.int q)) {s s' x x' : Value} (hsv : RV g s s') (hx : RV g x x') :
    Res P g B a w (Builtin.append_ #[t, tx] ty #[s', x']) (appZ e sz z s x a) := by
  obtain ⟨h1, h2⟩ := sliceT_some hs
  obtain ⟨i, zv, e1, e2, e3, e4, e5, e6, e7, e8⟩ := madeT_some h2
  unfold appZ
  refine opt_ok fun sl hsl => opt_ok fun k hk => ite_ok fun hke => ite_ok fun hle => ?_
  have := asSlice_some hsl; subst this
  have := asNat_some hk; subst this
  have := hx.int; subst this
  have hke := keq_eq hke
  have hle : k.n ≤ 1048576 := Nat.le_of_ble_eq_true hle
  rw [hke]
  have hzs : zv.cells.size = i.size := by rw [e3]; simpa using e4
  rcases Fm.appendRe (a := a) (e := e) (sz := sz) (k := k.n) (s := sl) (new := rep z k.n) with ⟨v, b, he⟩ | ⟨y, he⟩
  · rw [he]
    subst e5
    refine append_sound hr hsv.slice (Sr.zeros (ty := ty) h1 htx e1 e2 hzs e6 hle e7 w) ?_ rfl e6 e7 hzs he
    rw [zero_made (by omega), hzs, rep_made (sz := i.size) e3 e4 e6]
    refine RCs.self fun c hc => ?_
    rw [← rep_made (sz := i.size) e3 e4 e6, rep_eq] at hc
    obtain ⟨l, hl, hc⟩ := List.mem_flatten.1 hc
    rw [List.eq_of_mem_replicate hl] at hc
    exact e8 c hc
  · rw [he]; exact trivial

theorem append_ok (hr : Rel g B a.h a.n w) {t tx ty : TypeId} {s s' x x' : Value} (hsv : RV g s s') (hx : RV g x x') : Res P g B a w (Builtin.append_ #[t, tx] ty #[s', x']) ((cAppend P t tx).run s x a) := by
  unfold cAppend
  split
  · rename_i e sz z q sz' ag hs ht
    obtain ⟨inf, h1, h2, h3, h4⟩ := ti_some ht
    exact appZ_ok hr hs h2 hsv hx
  · rename_i e sz z _ sz' ag hs ht
    obtain ⟨inf, h1, h2, h3, h4⟩ := ti_some ht
    refine opt_ok fun sl hsl => appS_ok hr hs hsv hx (.inl ⟨_, h2⟩) fun k new _ => ⟨fun _ _ => ⟨_, h2⟩, fun s hs => ?_⟩
    subst hs; cases hsl
  · rename_i e sz z sz' ag hs ht
    obtain ⟨inf, h1, h2, h3, h4⟩ := ti_some ht
    refine opt_ok fun st hst => appS_ok hr hs hsv hx (.inr h2) fun k new _ => ⟨fun s hs => ?_, fun _ _ => h2⟩
    subst hs; cases hst
  · exact trivial

def Cells : Obj → Prop
  | .cells .. => True
  | _ => False
theorem run_obj {w : World} {r : Nat} {o : Obj} (h : w.heap[r]? = some o) (hn : ¬ Cells o) : (getObj r).run P w = .ok o w := by
  cases o <;> first | exact absurd trivial hn | simp [getObj, Sem.run, h]
theorem run_put {w : World} {r : Nat} {o : Obj} (o' : Obj) (h : w.heap[r]? = some o) (hn : ¬ Cells o) : (setObj r o').run P w = .ok () { w with heap := w.heap.setIfInBounds r o' } := by
  cases o <;> first | exact absurd trivial hn | simp [setObj, Sem.run, h]

theorem chan_inv {r : Nat} {v' : Value} (h : RV g (.chan (some r)) v') : ∃ cp, g r 0 = some cp ∧ v' = .chan (some cp.blk) := by
  have := h.cellInv rfl ⟨(by intro e; cases e), fun _ e => by cases e⟩
  cases this with | base h => cases h with
    | same hc => cases hc
    | chan h' => exact ⟨_, h', rfl⟩

theorem chanOf_some {h : Hp} {v : Value} {p : Nat × Nat × List Value × Bool × Nat × Nat} (e : chanOf h v = some p) : v = .chan (some p.1) ∧ hget h p.1 = some (.chan p.2.1 p.2.2.1 p.2.2.2.1 p.2.2.2.2.1 p.2.2.2.2.2) := by
  unfold chanOf at e
  split at e
  · split at e
    · rename_i hh; cases e; exact ⟨rfl, hh⟩
    · cases e
  · cases e

theorem chan_at (hr : Rel g B a.h a.n w) {v v' : Value} {p : Nat × Nat × List Value × Bool × Nat × Nat} (e : chanOf a.h v = some p) (hv : RV g v v') :
    ∃ cp buf', g p.1 0 = some cp ∧ v' = .chan (some cp.blk) ∧ B ≤ cp.blk ∧ w.heap[cp.blk]? = some (.chan p.2.1 ⟨buf'⟩ p.2.2.2.1 p.2.2.2.2.1 p.2.2.2.2.2 false) ∧ All2 (R1 g) p.2.2.1 buf' := by
  obtain ⟨rfl, ho⟩ := chanOf_some e
  obtain ⟨cp, h1, rfl⟩ := chan_inv hv
  obtain ⟨h2, buf', h3, h4⟩ := hr.obs _ _ (Nat.lt_of_lt_of_le (hr.dom _ _ _ h1).2 hr.lim) ho cp h1
  exact ⟨cp, buf', h1, rfl, h2, h3, h4⟩

theorem map_at (hr : Rel g B a.h a.n w) {v v' : Value} {es : List MapEntry} (e : mapOf a.h v = some es) (hv : RV g v v') :
    (v = .map none ∧ v' = .map none ∧ es = []) ∨ ∃ r cp es' clock, v = .map (some r) ∧ hget a.h r = some (.map es clock) ∧ g r 0 = some cp ∧ v' = .map (some cp.blk) ∧ B ≤ cp.blk ∧ w.heap[cp.blk]? = some (.map ⟨es'⟩ clock) ∧ All2 (RE g) es es' := by
  unfold mapOf at e
  split at e
  · cases e
    rcases hv.map with ⟨_, h⟩ | ⟨_, _, h, _⟩
    · exact .inl ⟨rfl, h, rfl⟩
    · cases h
  · rename_i r
    split at e
    · rename_i es' clock ho
      cases e
      rcases hv.map with ⟨h, _⟩ | ⟨i, cp, h, hg, rfl⟩
      · cases h
      · cases h
        obtain ⟨h2, es', h3, h4⟩ := hr.obs _ _ (Nat.lt_of_lt_of_le (hr.dom _ _ _ hg).2 hr.lim) ho cp hg
        exact .inr ⟨r, cp, es', clock, rfl, ho, hg, rfl, h2, h3, h4⟩
    · cases e
  · cases e

theorem len_len {α : Type} (l : List α) : len l = l.length := by first | exact len_eq l | exact len_eq

theorem len_ok (hr : Rel g B a.h a.n w) {t ty : TypeId} {x x' : Value} (hx : RV g x x') : Res P g B a w (Builtin.len_ #[t] ty #[x']) ((cLen P t).run x a) := by
  unfold cLen
  split
  · rename_i e sz ag ht
    obtain ⟨inf, h1, h2, h3, h4⟩ := ti_some ht
    refine opt_ok fun s hs => ?_
    have := asSlice_some hs; subst this
    refine Res.pure hr ?_ (RV.self rfl)
    rcases slice_cases hx.slice with ⟨_, h, _, rfl⟩ | ⟨_, _, a', _, _, _, _, _, _, rfl⟩ | ⟨a', _, h, _, rfl⟩
    · rw [h]; simp [Builtin.len_, run_underlying h2, numV, goInt]
    · simp [Builtin.len_, run_underlying h2, numV, goInt]
    · rw [h]; simp [Builtin.len_, run_underlying h2, numV, goInt]
  · rename_i sz ag ht
    obtain ⟨inf, h1, h2, h3, h4⟩ := ti_some ht
    refine opt_ok fun s hs => ?_
    have := asStr_some hs; subst this
    have := hx.string; subst this
    exact Res.pure hr (by simp [Builtin.len_, run_underlying h2, numV, goInt]) (RV.self rfl)
  · rename_i k e sz ag ht
    obtain ⟨inf, h1, h2, h3, h4⟩ := ti_some ht
    refine opt_ok fun es hes => ?_
    refine Res.pure hr ?_ (RV.self rfl)
    rcases map_at hr hes hx with ⟨_, rfl, rfl⟩ | ⟨r, cp, es', clock, _, _, _, rfl, _, p1, p2⟩
    · simp [Builtin.len_, run_underlying h2, numV, goInt, len]
    · rw [len_len]
      simp [Builtin.len_, run_underlying h2, numV, goInt, run_obj p1 id, p2.length]
  · rename_i d e sz ag ht
    obtain ⟨inf, h1, h2, h3, h4⟩ := ti_some ht
    refine opt_ok fun p hp => ?_
    refine Res.pure hr ?_ (RV.self rfl)
    obtain ⟨cp, buf', _, rfl, _, p1, p2⟩ := chan_at hr hp hx
    rw [len_len]
    simp [Builtin.len_, run_underlying h2, numV, goInt, run_obj p1 id, p2.length]
  · rename_i k e sz ag ht
    obtain ⟨inf, h1, h2, h3, h4⟩ := ti_some ht
    exact Res.pure hr (by simp [Builtin.len_, run_underlying h2, numV, goInt]) (RV.self rfl)
  · exact trivial

theorem cap_ok (hr : Rel g B a.h a.n w) {t ty : TypeId} {x x' : Value} (hx : RV g x x') : Res P g B a w (Builtin.cap_ #[t] ty #[x']) ((cCap P t).run x a) := by
  unfold cCap
  split
  · rename_i e sz ag ht
    obtain ⟨inf, h1, h2, h3, h4⟩ := ti_some ht
    refine opt_ok fun s hs => ?_
    have := asSlice_some hs; subst this
    obtain ⟨sa, n, c⟩ := s
    rcases slice_cases hx.slice with ⟨h0, _, h, rfl⟩ | ⟨b, cp, a', h0, q1, _, _, _, _, rfl⟩ | ⟨a', h0, _, h, rfl⟩
    · have h0 : sa = none := h0
      have h : c = 0 := h
      subst h0; subst h
      exact Res.pure hr (by simp [Builtin.cap_, run_underlying h2, numV, goInt]) (RV.self rfl)
    · have h0 : sa = some b := h0
      subst h0
      refine opt_ok fun f hf => ite_ok fun hft => ?_
      rcases fixOf_ok hr hf q1 with ⟨_, _, f2⟩ | ⟨f1, _⟩
      · exact Res.pure hr (by simp [Builtin.cap_, run_underlying h2, numV, goInt, f2]) (RV.self rfl)
      · rw [f1] at hft; cases hft
    · have h0 : sa = some ⟨0, 0, none⟩ := h0
      have h : c = 0 := h
      subst h0; subst h
      show Res P g B a w _ (.ok (numV 0) a)
      exact Res.pure hr (by simp [Builtin.cap_, run_underlying h2, numV, goInt]) (RV.self rfl)
  · exact trivial

end Go.Cx
namespace Go.Cx
open Go
variable {g : Gh} {B : Nat} {a : W} {w : World} {P : Program}

theorem slice_len {p : Option Addr} {n c : Nat} {v' : Value} (h : RV g (.slice p n c) v') : ∃ a' c', v' = .slice a' n c' := by
  rcases slice_cases h.slice with ⟨_, rfl, _, rfl⟩ | ⟨_, _, a', _, _, _, _, _, _, rfl⟩ | ⟨a', _, rfl, _, rfl⟩ <;> exact ⟨_, _, rfl⟩

theorem slice_at {p : Option Addr} {n c : Nat} {v' : Value} (h : RV g (.slice p n c) v') (hn : 0 < n) :
    ∃ b cp c', p = some b ∧ g b.block (genOf b.spot) = some cp ∧ cp.cut ≤ b.off ∧ n ≤ c ∧ (cp.fix = true ∨ b.off + c * cp.e ≤ cp.len) ∧ v' = .slice (some ⟨cp.blk, b.off - cp.cut, none⟩) n c' := by
  rcases slice_cases h.slice with ⟨_, h, _, _⟩ | ⟨b, cp, a', h0, q1, q2, q3, q4, q5, rfl⟩ | ⟨a', _, h, _, _⟩
  · omega
  · have ha := q5.resolve_left (by omega)
    subst ha
    exact ⟨b, cp, _, h0, q1, q2, q3, q4, rfl⟩
  · omega

theorem first_ok (hr : Rel g B a.h a.n w) {x x' : Value} (hx : RV g x x') {sz n k : Nat} {vs : List Value} (hk : Cx.lenOf x = some k) (hn : 0 < n) (hle : n ≤ k) (h : firstOf a.h sz n x = some vs) :
    ∃ vs', (Builtin.firstCells sz n x').run P w = .ok vs'.toArray w ∧ All2 (RC g) vs vs' := by
  unfold firstOf at h
  unfold Cx.lenOf at hk
  cases ha : asSlice x with
  | none =>
    rw [ha] at h hk
    cases hs : asStr x with
    | none => rw [hs] at h; cases h
    | some s =>
      rw [hs] at h hk
      have e := asStr_some hs; subst e
      have e := hx.string; subst e
      have h : take (ofBytes s) n = some vs := h
      rw [take_eq, ofBytes_eq] at h
      split at h
      · cases h
        refine ⟨_, ?_, (bytes_rc s).take n⟩
        simp only [Builtin.firstCells, Sem.run_pure]
        congr 1
        apply Array.ext'
        simp [byteCells]
      · cases h
  | some s =>
    rw [ha] at h hk
    have e := asSlice_some ha; subst e
    obtain ⟨sa, m, c⟩ := s
    have hk : some m = some k := hk
    cases hk
    obtain ⟨b, cp, c', hb, q1, q2, q3, q4, rfl⟩ := slice_at (show RV g (.slice sa k c) x' from hx) (by omega)
    subst hb
    have h : rdS a.h b sz n = some vs := h
    obtain ⟨_, l', l1, l2, l3⟩ := rdS_sound hr h q1 q2 (by omega : n ≤ c) q4
    exact ⟨l', run_firstCells_some w sz n _ k c' l' l1 l3, l2⟩

theorem lenOf_ok {x x' : Value} (hx : RV g x x') {k : Nat} (hk : Cx.lenOf x = some k) (w : World) : (Builtin.lenOf x').run P w = .ok k w := by
  unfold Cx.lenOf at hk
  cases ha : asSlice x with
  | none =>
    rw [ha] at hk
    cases hs : asStr x with
    | none => rw [hs] at hk; cases hk
    | some s =>
      rw [hs] at hk
      have e := asStr_some hs; subst e
      have e := hx.string; subst e
      cases hk
      rfl
  | some s =>
    rw [ha] at hk
    have e := asSlice_some ha; subst e
    cases hk
    obtain ⟨a', c', rfl⟩ := slice_len hx
    rfl

theorem copy_ok (hr : Rel g B a.h a.n w) {t tx ty : TypeId} {d d' x x' : Value} (hd : RV g d d') (hx : RV g x x') : Res P g B a w (Builtin.copy_ #[t, tx] ty #[d', x']) ((cCopy P t).run d x a) := by
  unfold cCopy
  split
  · rename_i e sz z hs
    obtain ⟨h1, h2⟩ := sliceT_some hs
    obtain ⟨i, zv, e1, e2, e3, e4, e5, e6, e7, e8⟩ := madeT_some h2
    refine opt_ok fun s hsl => opt_ok fun k hk => ?_
    have := asSlice_some hsl; subst this
    have hl := lenOf_ok (P := P) hx hk
    obtain ⟨sa, m, c⟩ := s
    have hd : RV g (.slice sa m c) d' := hd
    show Res P g B a w _ (copyRe sz ⟨sa, m, c⟩ x (Nat.min k m) a)
    subst e5
    unfold copyRe
    cases hn : Nat.min k m with
    | zero =>
      refine Res.pure hr (v' := goInt 0) ?_ (RV.self rfl)
      obtain ⟨a', c', rfl⟩ := slice_len hd
      have hl0 : ∀ (x : Addr) (w : World), (loadCells x 0).run P w = .ok #[] w := fun x w => by simpa using run_loadCells_list (P := P) w x [] (by simp)
      have hf : (Builtin.firstCells i.size 0 x').run P w = .ok #[] w := by
        unfold Cx.lenOf at hk
        cases ha : asSlice x with
        | none =>
          rw [ha] at hk
          cases hs : asStr x with
          | none => rw [hs] at hk; cases hk
          | some s =>
            have e := asStr_some hs; subst e
            have e := hx.string; subst e
            simp [Builtin.firstCells]
        | some s =>
          have e := asSlice_some ha; subst e
          obtain ⟨a'', c'', rfl⟩ := slice_len hx
          cases a'' <;> simp [Builtin.firstCells, hl0]
      cases a' <;> simp [Builtin.copy_, run_underlying h1, hl, hn, sizeOf, typeInfo, e1, hf, storeCells]
    | succ n =>
      have hnm : n + 1 ≤ m := by rw [← hn]; exact Nat.min_le_right k m
      have hnk : n + 1 ≤ k := by rw [← hn]; exact Nat.min_le_left k m
      obtain ⟨b, cp, c', hb, q1, q2, q3, q4, rfl⟩ := slice_at hd (by omega)
      subst hb
      show Res P g B a w _ (Option.rec (motive := fun _ => Re) (no 27) (fun vs => Option.rec (motive := fun _ => Re) (no 28) (fun h => .ok (.int .i64 (.ofNat (n + 1))) (a.seth h)) (wr a.h b vs)) (firstOf a.h i.size (n + 1) x) : Re)
      refine opt_ok fun vs hvs => opt_ok fun h' hw => ?_
      obtain ⟨vs', f1, f2⟩ := first_ok (P := P) hr hx hk (by omega) hnk hvs
      obtain ⟨w', s1, s2⟩ := wr_sound (P := P) hr hw q1 q2 f2
      refine ⟨goInt (n + 1 : Nat), w', g, ?_, RV.self rfl, ?_⟩
      · simp [Builtin.copy_, run_underlying h1, hl, hn, sizeOf, typeInfo, e1, f1, s1]
      · obtain ⟨h, n', ds, rc⟩ := a
        exact ⟨s2, rfl, rfl⟩
  · exact trivial

theorem clear_ok (hr : Rel g B a.h a.n w) {t ty : TypeId} {x x' : Value} (hx : RV g x x') : Res P g B a w (Builtin.clear_ #[t] ty #[x']) ((cClear P t).run x a) := by
  unfold cClear
  split
  · rename_i e sz z hs
    obtain ⟨h1, h2⟩ := sliceT_some hs
    obtain ⟨i, zv, e1, e2, e3, e4, e5, e6, e7, e8⟩ := madeT_some h2
    refine opt_ok fun s hsl => ?_
    have := asSlice_some hsl; subst this
    obtain ⟨sa, m, c⟩ := s
    have hx : RV g (.slice sa m c) x' := hx
    subst e5
    cases m with
    | zero =>
      refine Res.pure hr (v' := undef) ?_ undef_rv
      obtain ⟨a', c', rfl⟩ := slice_len hx
      cases a' <;> simp [Builtin.clear_, run_underlying h1, undef]
    | succ n =>
      obtain ⟨b, cp, c', hb, q1, q2, q3, q4, rfl⟩ := slice_at hx (by omega)
      subst hb
      show Res P g B a w _ (Option.rec (motive := fun _ => Re) (no 34) (fun h => .ok undefV (a.seth h)) (wr a.h b (rep z (n + 1))) : Re)
      refine opt_ok fun h' hw => ?_
      have hzs : zv.cells.size = i.size := by rw [e3]; simpa using e4
      have hall : All2 (RC g) (rep z (n + 1)) (Builtin.zeroCells zv.cells (n + 1)).toList := by
        rw [zero_made (by omega), hzs, rep_made (sz := i.size) e3 e4 e6]
        refine RCs.self fun c hc => ?_
        rw [← rep_made (sz := i.size) e3 e4 e6, rep_eq] at hc
        obtain ⟨l, hl, hc⟩ := List.mem_flatten.1 hc
        rw [List.eq_of_mem_replicate hl] at hc
        exact e8 c hc
      obtain ⟨w', s1, s2⟩ := wr_sound (P := P) hr hw q1 q2 hall
      refine ⟨undef, w', g, ?_, undef_rv, ?_⟩
      · simp [Builtin.clear_, run_underlying h1, zeroValue, typeInfo, e1, e2, s1, undef]
      · obtain ⟨h, n', ds, rc⟩ := a
        exact ⟨s2, rfl, rfl⟩
  · exact trivial

end Go.Cx
namespace Go.Cx
open Go
variable {g : Gh} {B : Nat} {a : W} {w : World} {P : Program}

def flat0 : Ob → Prop
  | .row .. => False
  | _ => True
theorem floor0 {o : Ob} (h : flat0 o) : floor o = 0 := by cases o <;> first | exact absurd h id | rfl

theorem newOb_ok (hr : Rel g B a.h a.n w) {o : Ob} {ob : Obj} {f : Nat → Value} {s : Sem Value} {v' : Value} (hob : ∀ g', g' a.n 0 = some ⟨w.heap.size, 0, 0, 0, 0, true, .nilIface⟩ → (∀ k cp, g' a.n k = some cp → k = 0 ∧ cp = ⟨w.heap.size, 0, 0, 0, 0, true, .nilIface⟩) → ObAt g' (w.alloc ob) B a.n o)
    (hs : s.run P w = .ok v' (w.alloc ob)) (hv : ∀ g', g' a.n 0 = some ⟨w.heap.size, 0, 0, 0, 0, true, .nilIface⟩ → RV g' (f a.n) v') : Res P g B a w s (a.new o f) := by
  obtain ⟨h, n, ds, rc⟩ := a
  have e : W.new ⟨h, n, ds, rc⟩ o f = (Bool.rec (motive := fun _ => Re) (no 1) (.ok (f n) ⟨hset h n o, Nat.succ n, ds, rc⟩) (Nat.ble (Nat.succ n) top16) : Re) := rfl
  rw [e]
  refine ite_ok fun hn => ?_
  have hn : n + 1 ≤ 65536 := Nat.le_of_ble_eq_true hn
  have hsame : upd g n 0 ⟨w.heap.size, 0, 0, 0, 0, true, .nilIface⟩ n 0 = some ⟨w.heap.size, 0, 0, 0, 0, true, .nilIface⟩ := upd_same _ _ _ _
  have x := rel_new (w' := w.alloc ob) (ob := ob) (o := o) (cp := ⟨w.heap.size, 0, 0, 0, 0, true, .nilIface⟩) hr hn rfl rfl rfl rfl rfl (hob _ hsame (by
    intro k cp hk
    rcases upd_inv hk with ⟨_, h2, h3⟩ | h1
    · exact ⟨h2, h3⟩
    · exact absurd (hr.dom _ _ _ h1).2 (Nat.lt_irrefl _)))
  exact ⟨v', _, _, hs, hv _ hsame, ⟨x, rfl, rfl⟩⟩

theorem setOb_ok (hr : Rel g B a.h a.n w) {r : Nat} {cp : Cp} {o o' : Ob} {ob ob' : Obj} (ho : hget a.h r = some o) (hg : g r 0 = some cp) (h0 : flat0 o) (_ : flat0 o') (_ : w.heap[cp.blk]? = some ob)
    (hob : ObAt g { w with heap := w.heap.setIfInBounds cp.blk ob' } B r o') : Kept g B a w g (a.seth (hset a.h r o')) { w with heap := w.heap.setIfInBounds cp.blk ob' } := by
  obtain ⟨h, n, ds, rc⟩ := a
  have hd := hr.dom _ _ _ hg
  have hi : r < 65536 := Nat.lt_of_lt_of_le hd.2 hr.lim
  have hlive : ∀ k, Live h r k := fun k => ⟨hi, o, ho, by rw [floor0 h0]; exact Nat.zero_le _⟩
  refine ⟨rel_set hr hd.1 hi ho (GLe.refl g) (fun j k c hc => .inl hc) (by rw [floor0 h0]; exact Nat.zero_le _) (by simp) rfl rfl rfl ?_ hob ?_ ⟨0, cp, hg⟩, rfl, rfl⟩
  · intro b hb hne
    have : cp.blk ≠ b := hne 0 cp (hlive 0) hg
    simp [this]
  · intro k c hc _
    have := hr.lt _ _ _ (hlive k) hc
    simpa using this

theorem makeMap_ok (hr : Rel g B a.h a.n w) {t : TypeId} : Res P g B a w (Instr.makeMap t none) (mapRe a) := by
  refine newOb_ok hr (ob := .map #[] 0) (v' := .map (some w.heap.size)) ?_ (by simp [Instr.makeMap]) fun g' h => .one (.cell (.base (.map h)))
  intro g' hs hall cp hk
  obtain ⟨_, rfl⟩ := hall _ _ hk
  exact ⟨hr.base, [], by show (w.heap.push _)[w.heap.size]? = _; simp, .nil⟩

theorem makeMapN_ok (hr : Rel g B a.h a.n w) {t : TypeId} {x x' : Value} (hx : RV g x x') : Res P g B a w (Instr.makeMap t (some x')) ((cMakeMap P t).run x a) := by
  unfold cMakeMap
  split
  · rename_i k e sz ag ht
    obtain ⟨inf, h1, h2, h3, h4⟩ := ti_some ht
    refine opt_ok fun p hp => ?_
    have := asNat_some hp; subst this
    have := hx.int; subst this
    refine newOb_ok hr (ob := .map #[] 0) (v' := .map (some w.heap.size)) ?_ (by simp [Instr.makeMap, run_underlying h2, asInt, asIntOf]) fun g' h => .one (.cell (.base (.map h)))
    intro g' hs hall cp hk
    obtain ⟨_, rfl⟩ := hall _ _ hk
    exact ⟨hr.base, [], by show (w.heap.push _)[w.heap.size]? = _; simp, .nil⟩
  · exact trivial

theorem makeChan_ok (hr : Rel g B a.h a.n w) {t : TypeId} {x x' : Value} (hx : RV g x x') : Res P g B a w (Instr.makeChan t x') ((cMakeChan P t).run x a) := by
  unfold cMakeChan
  split
  · rename_i d e sz ag ht
    obtain ⟨inf, h1, h2, h3, h4⟩ := ti_some ht
    split
    · rename_i i hi
      have hi := infoF_some hi
      rw [if_eq]
      split
      · rename_i hb
        have hb : i.bytes ≤ 131072 := Nat.le_of_ble_eq_true hb
        refine opt_ok fun p hp => ite_ok fun hle => ?_
        have hle : p.n ≤ 65536 := Nat.le_of_ble_eq_true hle
        have := asNat_some hp; subst this
        have := hx.int; subst this
        have h48 : ¬ (281474976710544 < (i.bytes : Int) * (p.n : Int)) := by
          have : i.bytes * p.n ≤ 131072 * 65536 := Nat.mul_le_mul hb hle
          have e : (i.bytes : Int) * (p.n : Int) = ((i.bytes * p.n : Nat) : Int) := by simp
          rw [e]; omega
        have h63 : ¬ ((9223372036854775807 : Int) < (p.n : Int)) := by omega
        have h00 : ¬ ((p.n : Int) < 0) := by omega
        refine newOb_ok hr (ob := .chan p.n #[] false 0 0 false) (v' := .chan (some w.heap.size)) ?_ ?_ fun g' h => .one (.cell (.base (.chan h)))
        · intro g' hs hall cp hk
          obtain ⟨_, rfl⟩ := hall _ _ hk
          exact ⟨hr.base, [], by show (w.heap.push _)[w.heap.size]? = _; simp, .nil⟩
        · simp [Instr.makeChan, run_underlying h2, asInt, asIntOf, typeInfo, hi, h48, h63, h00]
      · exact trivial
    · exact trivial
  · exact trivial

theorem run_close {ts : Array TypeId} {ty : TypeId} {r c s q : Nat} {b : Array Value} (h : w.heap[r]? = some (.chan c b false s q false)) : (Builtin.close_ ts ty #[.chan (some r)]).run P w = .ok undef { w with heap := w.heap.setIfInBounds r (.chan c b true s q false) } := by
  have e : Builtin.close_ ts ty #[.chan (some r)] = (getObj r >>= fun o => match o with
    | .chan room buf closed sent received timer => do
      if closed then runtimePanic (.plain "close of closed channel")
      setObj r (.chan room buf true sent received timer)
      pure (.tuple #[])
    | _ => stuck "close: no channel in this block") := rfl
  rw [e]
  simp [run_obj h id, run_put _ h id, undef]

theorem close_ok (hr : Rel g B a.h a.n w) {ts : Array TypeId} {ty : TypeId} {x x' : Value} (hx : RV g x x') : Res P g B a w (Builtin.close_ ts ty #[x']) (closeRe x a) := by
  unfold closeRe
  split
  · rename_i r c b s q hc
    obtain ⟨cp, buf', h1, rfl, h2, h3, h4⟩ := chan_at hr hc hx
    obtain ⟨rfl, ho⟩ := chanOf_some hc
    refine ⟨undef, _, g, ?_, undef_rv, setOb_ok hr ho h1 trivial trivial h3 (ob' := .chan c ⟨buf'⟩ true s q false) ?_⟩
    · exact run_close h3
    · intro cp' hk
      have : cp' = cp := by rw [h1] at hk; exact (Option.some.inj hk).symm
      subst this
      have hlt : cp'.blk < w.heap.size := (Array.getElem?_eq_some_iff.1 h3).1
      exact ⟨h2, buf', by simp [hlt], h4⟩
  · exact trivial

theorem range_ok (hr : Rel g B a.h a.n w) {t : TypeId} {x x' : Value} (ht : P.underlying t = some .string) (hx : RV g x x') : Res P g B a w (Instr.range t x') (rangeRe x a) := by
  unfold rangeRe
  refine opt_ok fun s hs => ?_
  have := asStr_some hs; subst this
  have := hx.string; subst this
  refine newOb_ok hr (ob := .stringIter s 0) (v' := .pointer (some ⟨w.heap.size, 0, none⟩)) ?_ (by simp [Instr.range, run_underlying ht]) fun g' h => .one (.cell (.base (RI.ptr (g := g') (i := a.n) (o := 0) (s := none) h (Nat.zero_le _))))
  intro g' hs hall k cp hk h0
  obtain ⟨_, rfl⟩ := hall _ _ hk
  exact ⟨hr.base, by show (w.heap.push _)[w.heap.size]? = _; simp⟩

theorem next_ok (hr : Rel g B a.h a.n w) {t : TypeId} {x x' : Value} (hx : RV g x x') : Res P g B a w (Instr.next x' true t) (nextRe x a) := by
  unfold nextRe
  split
  · rename_i r
    split
    · rename_i s p ho
      obtain ⟨cp, h1, h2, rfl⟩ := hx.ptr
      have h1 : g r 0 = some cp := h1
      obtain ⟨h3, h4⟩ := hr.obs _ _ (Nat.lt_of_lt_of_le (hr.dom _ _ _ h1).2 hr.lim) ho 0 cp h1 rfl
      rw [if_eq]
      split
      · rename_i hp
        have hp : p < s.size := Nat.le_of_ble_eq_true hp
        refine ⟨.tuple #[.bool true, goInt p, .int .i32 (Utf8.decode s p).1], _, g, ?_, .tuple (.cons (.cell (RC.self rfl)) (.cons (.cell (RC.self rfl)) (.cons (.cell (RC.self rfl)) .nil))), setOb_ok hr ho h1 trivial trivial h4 (ob' := .stringIter s (p + (Utf8.decode s p).2)) ?_⟩
        · simp [Instr.next, run_obj h4 id, run_put _ h4 id, hp]
        · intro k cp' hk h0
          subst h0
          have : cp' = cp := by rw [h1] at hk; exact (Option.some.inj hk).symm
          subst this
          have hlt : cp'.blk < w.heap.size := (Array.getElem?_eq_some_iff.1 h4).1
          exact ⟨h3, by simp [hlt]⟩
      · rename_i hp
        have hp : ¬ p < s.size := fun h => hp (Nat.ble_eq_true_of_le h)
        refine Res.pure hr (v' := .tuple #[.bool false]) ?_ (.tuple (.cons (.cell (RC.self rfl)) .nil))
        simp [Instr.next, run_obj h4 id, hp]
    · exact trivial
  · exact trivial

end Go.Cx
namespace Go.Cx
open Go
variable {g : Gh} {B : Nat} {a : W} {w : World} {P : Program}

theorem cellV_free {v : Value} (h : cellV v = true) : free v = true := by
  cases v with
  | pointer p => cases p <;> first | rfl | cases h
  | slice p n c =>
    obtain ⟨rfl, rfl, rfl⟩ := cellV_slice h
    rfl
  | map p => cases p <;> first | rfl | cases h
  | chan p => cases p <;> first | rfl | cases h
  | iface t v => exact h
  | _ => first | rfl | cases h


inductive KeyD (P : Program) (t : TypeId) : TypeDesc → Prop where
  | str (h : P.underlying t = some .string) : KeyD P t .string
  | int {q : IntKind} (h : P.underlying t = some (.int q)) : KeyD P t (.int q)
  | rec3 {f0 f1 f2 : Field} (h : P.underlying t = some (.struct ⟨[f0, f1, f2]⟩)) (hs : P.stoodInHeld t = false) (h0 : P.underlying f0.type = some (.int .i64) ∧ f0.offset = 0 ∧ f0.name ≠ "_")
      (h1 : P.underlying f1.type = some (.int .i64) ∧ f1.offset = 1 ∧ f1.name ≠ "_") (h2 : P.underlying f2.type = some (.int .i64) ∧ f2.offset = 2 ∧ f2.name ≠ "_") : KeyD P t (.struct ⟨[f0, f1, f2]⟩)

theorem KeyD.und {t : TypeId} {d : TypeDesc} (h : KeyD P t d) : P.underlying t = some d := by cases h <;> assumption

theorem i3_some {f : Field} {o : Nat} (h : i3 P f o = true) : P.underlying f.type = some (.int .i64) ∧ f.offset = o ∧ f.name ≠ "_" := by
  unfold i3 at h
  rw [if_eq] at h
  split at h
  case isFalse => cases h
  rename_i ho
  rw [if_eq] at h
  split at h
  case isTrue => cases h
  rename_i hn
  split at h
  · rename_i hi
    obtain ⟨inf, h1, h2, h3, h4⟩ := ti_some hi
    exact ⟨h2, Nat.eq_of_beq_eq_true ho, fun e => hn (by rw [e]; rfl)⟩
  · cases h

theorem keyT_some {t : TypeId} {d : TypeDesc} (h : keyT P t = some d) : KeyD P t d := by
  unfold keyT at h
  split at h
  · rename_i s ag ht
    cases h
    obtain ⟨inf, h1, h2, h3, h4⟩ := ti_some ht
    exact .str h2
  · rename_i k s ag ht
    cases h
    obtain ⟨inf, h1, h2, h3, h4⟩ := ti_some ht
    exact .int h2
  · rename_i f0 f1 f2 s ag ht
    obtain ⟨inf, h1, h2, h3, h4⟩ := ti_some ht
    rw [if_eq] at h
    split at h
    case isFalse => cases h
    rename_i a0
    rw [if_eq] at h
    split at h
    case isFalse => cases h
    rename_i a1
    rw [if_eq] at h
    split at h
    case isFalse => cases h
    rename_i a2
    rw [if_eq] at h
    split at h
    case isTrue => cases h
    rename_i hs
    cases h
    exact .rec3 h2 (by simpa using hs) (i3_some a0) (i3_some a1) (i3_some a2)
  · cases h

def IsK (d : TypeDesc) (k : Value) : Prop := match d with | .struct _ => ∃ a b c, k = .agg ⟨[.int .i64 a, .int .i64 b, .int .i64 c]⟩ | _ => True

theorem keyIs_ok {d : TypeDesc} {k : Value} (h : keyIs d k = true) : IsK d k ∧ free k = true := by
  unfold keyIs at h
  split at h
  · cases hq : keyEq (.struct _) k k with
    | none => rw [hq] at h; cases h
    | some b =>
      unfold keyEq at hq
      split at hq
      case h_3 a b' c x y z _ e _ =>
        cases e
        exact ⟨⟨_, _, _, rfl⟩, rfl⟩
      all_goals simp_all
  · rename_i hn
    refine ⟨?_, cellV_free h⟩
    unfold IsK
    split
    · rename_i fs; exact absurd rfl (hn fs)
    · trivial

theorem run_check {t : TypeId} {d : TypeDesc} {k : Value} (hd : KeyD P t d) (hk : IsK d k) (e : Bool) (w : World) : (Instr.checkKey e 10000 t k).run P w = .ok () w := by
  cases hd with
  | str h =>
    show (Instr.checkKey e (9999 + 1) t k).run P w = _
    unfold Instr.checkKey
    simp only [Sem.run_bind, run_underlying h, Result.andThen]
    rfl
  | int h =>
    show (Instr.checkKey e (9999 + 1) t k).run P w = _
    unfold Instr.checkKey
    simp only [Sem.run_bind, run_underlying h, Result.andThen]
    rfl
  | rec3 h hs h0 h1 h2 =>
    obtain ⟨a, b, c, rfl⟩ := hk
    have ci : ∀ n (f : Field) x (w : World), P.underlying f.type = some (.int .i64) → (Instr.checkKey e (n + 1) f.type (.int .i64 x)).run P w = .ok () w := by
      intro n f x w hi; simp [Instr.checkKey, run_underlying hi]
    have ag : ∀ (f : Field) (w : World), P.underlying f.type = some (.int .i64) → (isAgg f.type).run P w = .ok false w := fun f w hi => run_agg hi w
    have go : ∀ n, (Instr.checkKey e (n + 1 + 1) t (.agg ⟨[.int .i64 a, .int .i64 b, .int .i64 c]⟩)).run P w = .ok () w := by
      intro n
      rw [Instr.checkKey]
      simp [run_underlying h, h0.2.1, h1.2.1, h2.2.1, h0.2.2, h1.2.2, h2.2.2, Go.part, ag _ _ h0.1, ag _ _ h1.1, ag _ _ h2.1, ci _ _ _ _ h0.1, ci _ _ _ _ h1.1, ci _ _ _ _ h2.1]
    exact go 9998

def Asks (P : Program) (t : TypeId) (d : TypeDesc) (u v : Value) (b : Bool) : Prop := match d with
  | .struct _ => Instr.sameNow d u v = none ∧ ∀ w, (Op.equal t u v).run P w = .ok b w
  | _ => Instr.sameNow d u v = some b

theorem keyEq_ok {t : TypeId} {d : TypeDesc} {u v : Value} {b : Bool} (hd : KeyD P t d) (h : keyEq d u v = some b) :
    free u = true ∧ (b = true → v = u) ∧ Instr.sameBits 10000 u u = true ∧ Asks P t d u v b := by
  unfold keyEq at h
  split at h
  · rename_i s t
    cases h
    refine ⟨rfl, fun h => ?_, (MapKept.bytes_beq s s).2 rfl, ?_⟩
    · have h := of_decide_eq_true h
      obtain ⟨x⟩ := s; obtain ⟨y⟩ := t
      have : x = y := Array.ext' h
      rw [this]
    · show some (s == t) = some (decide (s.data.toList = t.data.toList))
      congr 1
      rw [Bool.eq_iff_iff, MapKept.bytes_beq, decide_eq_true_iff]
      constructor
      · intro h; rw [h]
      · intro h
        obtain ⟨x⟩ := s; obtain ⟨y⟩ := t
        have : x = y := Array.ext' h
        rw [this]
  · rename_i q k m k' n
    replace h : (Bool.rec (motive := fun _ => Option Bool) none (some (decide (m = n))) (keq k k') : Option Bool) = some b := h
    rw [if_eq] at h
    split at h
    · rename_i hk
      have hk := keq_eq hk
      subst hk
      cases h
      refine ⟨rfl, fun h => by rw [of_decide_eq_true h], by simp [Instr.sameBits], ?_⟩
      have : (m == n) = decide (m = n) := by rw [Bool.eq_iff_iff, beq_iff_eq, decide_eq_true_iff]
      show Instr.sameNow (.int q) (.int k m) (.int k n) = some (decide (m = n))
      simp [Instr.sameNow, this]
    · cases h
  · rename_i fs a b' c x y z
    replace h : some (Bool.rec (motive := fun _ => Bool) false (Bool.rec (motive := fun _ => Bool) false (decide (c = z)) (decide (b' = y))) (decide (a = x))) = some b := h
    have hb : b = (a == x && (b' == y && c == z)) := by
      rw [if_eq, if_eq] at h
      cases h
      by_cases e1 : a = x
      · by_cases e2 : b' = y
        · by_cases e3 : c = z <;> simp [e1, e2, e3]
        · simp [e1, e2]
      · simp [e1]
    clear h
    refine ⟨rfl, fun h => ?_, by simp [Instr.sameBits], ⟨by simp [Instr.sameNow], fun w => ?_⟩⟩
    · rw [hb] at h
      simp only [Bool.and_eq_true, beq_iff_eq] at h
      obtain ⟨rfl, rfl, rfl⟩ := h
      rfl
    · cases hd with
      | rec3 hk hs h0 h1 h2 =>
        rename_i f0 f1 f2
        have hf : P.fieldsOf t = ⟨[f0, f1, f2]⟩ := by simp [Program.fieldsOf, hk]
        have hk' : P.underlying t = some (.struct (P.fieldsOf t)) := by rw [hf]; exact hk
        have ag : ∀ (f : Field) (w : World), P.underlying f.type = some (.int .i64) → (isAgg f.type).run P w = .ok false w := fun f w hi => run_agg hi w
        show (Op.equalIn Op.maxDepth t _ _).run P w = _
        rw [show Op.maxDepth = (Op.maxDepth - 2 + 1) + 1 from rfl]
        rw [run_equalIn_struct w _ t _ _ hk' hs, hf, hb]
        simp [Op.eqFields, h0.2.1, h1.2.1, h2.2.1, h0.2.2, h1.2.2, h2.2.2, Go.part, ag _ _ h0.1, ag _ _ h1.1, ag _ _ h2.1, run_equalIn_int w _ _ .i64 .i64 _ _ h0.1, run_equalIn_int w _ _ .i64 .i64 _ _ h1.1, run_equalIn_int w _ _ .i64 .i64 _ _ h2.1]
        cases h : a == x <;> simp_all
        cases h : b' == y <;> simp_all
        cases h : c == z <;> simp_all
  · cases h

def Found (g : Gh) (k : Value) (es es' : List MapEntry) (r : Option Nat) (N : Option (Nat × Value) → Prop) : Prop :=
  (r = none ∧ N none) ∨ ∃ j e e', r = some j ∧ es[j]? = some e ∧ es'[j]? = some e' ∧ RE g e e' ∧ N (some (j, e'.val)) ∧ e.key = k ∧ Instr.sameBits 10000 k k = true

theorem find_step {d : TypeDesc} {k : Value} {e : MapEntry} {es : List MapEntry} {r : Option Nat} (h : find d k (e :: es) = some r) :
    (keyEq d k e.key = some true ∧ r = some 0) ∨ ∃ r', keyEq d k e.key = some false ∧ find d k es = some r' ∧ r = r'.map Nat.succ := by
  have h : (match keyEq d k e.key with
    | some true => some (some 0)
    | some false => (match find d k es with | some (some i) => some (some (Nat.succ i)) | r => r)
    | none => none) = some r := h
  cases hq : keyEq d k e.key with
  | none => rw [hq] at h; cases h
  | some b =>
    rw [hq] at h
    cases b with
    | true => cases h; exact .inl ⟨rfl, rfl⟩
    | false =>
      have h : (match find d k es with | some (some i) => some (some (Nat.succ i)) | r => r) = some r := h
      cases hf : find d k es with
      | none => rw [hf] at h; cases h
      | some r' =>
        rw [hf] at h
        cases r' with
        | none => cases h; exact .inr ⟨none, rfl, rfl, rfl⟩
        | some i => cases h; exact .inr ⟨some i, rfl, rfl, rfl⟩

theorem find_all {t : TypeId} {d : TypeDesc} {k : Value} (hd : KeyD P t d) (N : List MapEntry → Nat → Option (Nat × Value) → Prop) (h0 : ∀ i, N [] i none)
    (h1 : ∀ e es i, keyEq d k e.key = some true → N (e :: es) i (some (i, e.val))) (h2 : ∀ e es i x, keyEq d k e.key = some false → N es (i + 1) x → N (e :: es) i x) :
    ∀ {es es' : List MapEntry} {r : Option Nat} (i : Nat), find d k es = some r → All2 (RE g) es es' → Found g k es es' r fun x => N es' i (x.map fun p => (i + p.1, p.2))
  | [], _, r, i, h, he => by cases he; cases h; exact .inl ⟨rfl, h0 i⟩
  | e :: es, _, r, i, h, he => by
    cases he with
    | cons q1 q2 =>
      rename_i e' es'
      rcases find_step h with ⟨hq, rfl⟩ | ⟨r', hq, hf, rfl⟩
      · obtain ⟨_, e2, e3, _⟩ := keyEq_ok hd hq
        exact .inr ⟨0, e, e', rfl, rfl, rfl, q1, h1 e' es' i (by rw [← q1.key]; exact hq), e2 rfl, e3⟩
      · rcases find_all hd N h0 h1 h2 (i + 1) hf q2 with ⟨rfl, hn⟩ | ⟨j, x, x', rfl, y1, y2, y3, y4, y5, y6⟩
        · exact .inl ⟨rfl, h2 e' es' i none (by rw [← q1.key]; exact hq) hn⟩
        · refine .inr ⟨j + 1, x, x', rfl, y1, y2, y3, h2 e' es' i _ (by rw [← q1.key]; exact hq) ?_, y5, y6⟩
          have : i + (j + 1) = i + 1 + j := by omega
          simpa [this] using y4

theorem find_now {t : TypeId} {d : TypeDesc} {k : Value} (hd : KeyD P t d) (hn : ∀ fs, d ≠ .struct fs) {es es' : List MapEntry} {r : Option Nat} (h : find d k es = some r) (he : All2 (RE g) es es') :
    Found g k es es' r fun x => Instr.findNow d k es' 0 = some x := by
  have same : ∀ {v b}, keyEq d k v = some b → Instr.sameNow d k v = some b := by
    intro v b hq
    have := (keyEq_ok hd hq).2.2.2
    cases hd with
    | str _ => exact this
    | int _ => exact this
    | rec3 _ _ _ _ _ => exact absurd rfl (hn _)
  have := find_all (g := g) (k := k) hd (fun es i x => Instr.findNow d k es i = some x) (fun i => rfl)
    (fun e es i hq => by simp [Instr.findNow, same hq]) (fun e es i x hq h => by simp [Instr.findNow, same hq, h]) 0 h he
  rcases this with ⟨rfl, hn⟩ | ⟨j, x, x', rfl, y1, y2, y3, y4, y5, y6⟩
  · exact .inl ⟨rfl, hn⟩
  · exact .inr ⟨j, x, x', rfl, y1, y2, y3, by simpa using y4, y5, y6⟩

theorem find_asking {t : TypeId} {fs : Array Field} {k : Value} (hd : KeyD P t (.struct fs)) {es es' : List MapEntry} {r : Option Nat} (h : find (.struct fs) k es = some r) (he : All2 (RE g) es es') :
    Found g k es es' r fun x => (Instr.findAsking t k es' 0).run P w = .ok x w := by
  have same : ∀ {v b}, keyEq (.struct fs) k v = some b → ∀ w, (Op.equal t k v).run P w = .ok b w := fun hq => ((keyEq_ok hd hq).2.2.2).2
  have := find_all (g := g) (k := k) hd (fun es i x => (Instr.findAsking t k es i).run P w = .ok x w) (fun i => rfl)
    (fun e es i hq => by simp [Instr.findAsking, same hq]) (fun e es i x hq h => by simp [Instr.findAsking, same hq, h]) 0 h he
  rcases this with ⟨rfl, hn⟩ | ⟨j, x, x', rfl, y1, y2, y3, y4, y5, y6⟩
  · exact .inl ⟨rfl, hn⟩
  · exact .inr ⟨j, x, x', rfl, y1, y2, y3, by simpa using y4, y5, y6⟩

theorem find_ok {t : TypeId} {d : TypeDesc} {k k' : Value} (hd : KeyD P t d) (hk : RV g k k') (hi : keyIs d k = true) {es es' : List MapEntry} {r : Option Nat} (h : find d k es = some r) (he : All2 (RE g) es es') :
    Found g k es es' r fun x => (Instr.findKey t k' es').run P w = .ok x w := by
  have ek : k' = k := hk.of_free (keyIs_ok hi).2
  subst ek
  have now : (∀ fs, d ≠ .struct fs) → Found g k' es es' r fun x => (Instr.findKey t k' es').run P w = .ok x w := by
    intro hn
    rcases find_now hd hn h he with ⟨rfl, hx⟩ | ⟨j, x, x', rfl, y1, y2, y3, y4, y5, y6⟩
    · exact .inl ⟨rfl, by simp [Instr.findKey, run_underlying hd.und, hx]⟩
    · exact .inr ⟨j, x, x', rfl, y1, y2, y3, by simp [Instr.findKey, run_underlying hd.und, y4], y5, y6⟩
  cases hd with
  | str h => exact now (fun fs e => by cases e)
  | int h => exact now (fun fs e => by cases e)
  | @rec3 f0 f1 f2 hu hs h0 h1 h2 =>
    have hd : KeyD P t _ := .rec3 hu hs h0 h1 h2
    cases he with
    | nil =>
      cases h
      exact .inl ⟨rfl, by simp [Instr.findKey, run_underlying hu, Instr.findNow]⟩
    | cons q1 q2 =>
      rename_i e e' l l'
      have hne : Instr.findNow (.struct ⟨[f0, f1, f2]⟩) k' (e' :: l') 0 = none := by
        have : Instr.sameNow (.struct ⟨[f0, f1, f2]⟩) k' e'.key = none := by
          rw [← q1.key]
          rcases find_step h with ⟨hq, _⟩ | ⟨_, hq, _⟩
          · exact ((keyEq_ok hd hq).2.2.2).1
          · exact ((keyEq_ok hd hq).2.2.2).1
        simp [Instr.findNow, this]
      rcases find_asking (w := w) hd h (.cons q1 q2) with ⟨rfl, hx⟩ | ⟨j, x, x', rfl, y1, y2, y3, y4, y5, y6⟩
      · exact .inl ⟨rfl, by simp [Instr.findKey, run_underlying hu, hne, hx]⟩
      · exact .inr ⟨j, x, x', rfl, y1, y2, y3, by simp [Instr.findKey, run_underlying hu, hne, y4], y5, y6⟩

theorem lookup_ok (hr : Rel g B a.h a.n w) {t : TypeId} {ok : Bool} {m m' k k' : Value} (hm : RV g m m') (hk : RV g k k') : Res P g B a w (Instr.lookup t m' k' ok) ((cLookup P t ok).run m k a) := by
  unfold cLookup
  split
  · rename_i q e sz ag ht
    obtain ⟨inf, h1, h2, h3, h4⟩ := ti_some ht
    split
    · rename_i z d hz hd
      have hd := keyT_some hd
      obtain ⟨z1, z2⟩ := zeroV_some (g := g) hz
      show Res P g B a w _ (lookRe d ok z m k a)
      unfold lookRe
      refine ite_ok fun hi => ?_
      have hck : ∀ (e : Bool), (Instr.checkKey e 10000 q k').run P w = .ok () w := fun e => by
        rw [hk.of_free (keyIs_ok hi).2]; exact run_check hd (keyIs_ok hi).1 e w
      split
      · rename_i es hes
        have key : ∃ es', All2 (RE g) es es' ∧ ∀ r, (Instr.findKey q k' es').run P w = .ok r w → (Instr.lookup t m' k' ok).run P w = .ok (match r with
            | some (_, v) => okV ok v true
            | none => okV ok z false) w := by
          rcases map_at hr hes hm with ⟨_, rfl, rfl⟩ | ⟨r, cp, es', clock, _, _, _, rfl, _, p1, p2⟩
          · refine ⟨[], .nil, fun r hr => ?_⟩
            cases r with
            | none => cases ok <;> simp [Instr.lookup, run_underlying h2, hck, hr, z1, okV]
            | some x => obtain ⟨j, v⟩ := x; cases ok <;> simp [Instr.lookup, run_underlying h2, hck, hr, okV]
          · refine ⟨es', p2, fun r hr => ?_⟩
            cases r with
            | none => cases ok <;> simp [Instr.lookup, run_underlying h2, run_obj p1 id, hck, hr, z1, okV]
            | some x => obtain ⟨j, v⟩ := x; cases ok <;> simp [Instr.lookup, run_underlying h2, run_obj p1 id, hck, hr, okV]
        obtain ⟨es', k1, k2⟩ := key
        split
        · rename_i j hf
          rcases find_ok (w := w) hd hk hi hf k1 with ⟨h, _⟩ | ⟨j', x, x', h, y1, y2, y3, y4, y5, y6⟩
          · cases h
          · cases h
            rw [nth_eq, y1]
            refine Res.pure hr (k2 _ y4) ?_
            cases ok with
            | true => exact .tuple (.cons y3.val (.cons (.cell (RC.self rfl)) .nil))
            | false => exact .one y3.val
        · rename_i hf
          rcases find_ok (w := w) hd hk hi hf k1 with ⟨_, hn⟩ | ⟨_, _, _, h, _⟩
          · exact Res.pure hr (k2 _ hn) (okV_rv z2)
          · cases h
        · exact trivial
      · exact trivial
    · exact trivial
  · exact trivial

theorem RV.one_of {v v' : Value} (h : RV g v v') (hn : noTuple v = true) : R1 g v v' := by
  cases h with
  | one h => exact h
  | tuple => cases hn

theorem setVal_ok {k v v' : Value} (hv : R1 g v v') : ∀ {es es' : List MapEntry} {j : Nat} {e : MapEntry}, All2 (RE g) es es' → es[j]? = some e → e.key = k → All2 (RE g) (setVal v es j) (es'.modify j fun e => { e with key := k, val := v' })
  | [], _, j, e, _, he, _ => by cases he
  | x :: es, _, j, e, h, he, hk => by
    cases h with
    | cons h1 h2 =>
      rename_i x' es'
      cases j with
      | zero =>
        have he : some x = some e := he
        cases he
        exact .cons ⟨hk, hv, h1.born⟩ h2
      | succ j =>
        exact .cons h1 (setVal_ok hv h2 (by simpa using he) hk)

theorem setVal_ok2 {v v' : Value} (hv : R1 g v v') : ∀ {es es' : List MapEntry} {j : Nat}, All2 (RE g) es es' → All2 (RE g) (setVal v es j) (es'.modify j fun e => { e with val := v' })
  | [], _, j, h => by cases h; cases j <;> exact .nil
  | x :: es, _, j, h => by
    cases h with
    | cons h1 h2 =>
      cases j with
      | zero => exact .cons ⟨h1.key, hv, h1.born⟩ h2
      | succ j => exact .cons h1 (setVal_ok2 hv h2)

theorem map_put (hr : Rel g B a.h a.n w) {r : Nat} {m' : Value} (hm : RV g (.map (some r)) m') {es : List MapEntry} {clock : Nat} (ho : hget a.h r = some (.map es clock)) :
    ∃ b es', m' = .map (some b) ∧ w.heap[b]? = some (.map ⟨es'⟩ clock) ∧ All2 (RE g) es es' ∧ ∀ {fs fs' : List MapEntry} {c : Nat}, All2 (RE g) fs fs' → Kept g B a w g (a.seth (hset a.h r (.map fs c))) { w with heap := w.heap.setIfInBounds b (.map ⟨fs'⟩ c) } := by
  obtain ⟨cp, hg, rfl⟩ : ∃ cp, g r 0 = some cp ∧ m' = .map (some cp.blk) := by
    rcases hm.map with ⟨h, _⟩ | ⟨i, cp, h, hg, rfl⟩
    · cases h
    · cases h; exact ⟨cp, hg, rfl⟩
  obtain ⟨b1, es', b2, b3⟩ := hr.obs _ _ (Nat.lt_of_lt_of_le (hr.dom _ _ _ hg).2 hr.lim) ho cp hg
  have hlt : cp.blk < w.heap.size := (Array.getElem?_eq_some_iff.1 b2).1
  refine ⟨cp.blk, es', rfl, b2, b3, fun {fs fs' c} hf => setOb_ok hr ho hg trivial trivial b2 (ob' := .map ⟨fs'⟩ c) ?_⟩
  intro cp' hc
  rw [hg] at hc
  cases hc
  exact ⟨b1, fs', by simp [hlt], hf⟩

theorem modify_same {α : Type} {f : α → α} : ∀ {l : List α} {j : Nat}, (∀ x, l[j]? = some x → f x = x) → l.modify j f = l
  | [], j, _ => by cases j <;> rfl
  | x :: l, 0, h => by
    have := h x rfl
    show f x :: l = _
    rw [this]
  | x :: l, j + 1, h => by
    show x :: l.modify j f = _
    rw [modify_same fun y hy => h y (by simpa using hy)]

theorem update_ok (hr : Rel g B a.h a.n w) {t : TypeId} {m m' k k' v v' : Value} (hm : RV g m m') (hk : RV g k k') (hv : RV g v v') : ResU P g B a w (Instr.mapUpdate t m' k' v') ((cUpdate P t).run m k v a) := by
  unfold cUpdate
  split
  · rename_i q e sz ag ht
    obtain ⟨inf, h1, h2, h3, h4⟩ := ti_some ht
    split
    · rename_i d hd
      have hd := keyT_some hd
      show ResU P g B a w _ (updateRe d m k v a)
      unfold updateRe
      rw [if_eq]
      split
      case isFalse => exact trivial
      rename_i hnt
      have hv1 := hv.one_of hnt
      rw [if_eq]
      split
      case isFalse => exact trivial
      rename_i hi
      have ek := hk.of_free (keyIs_ok hi).2
      have hck : ∀ (e : Bool), (Instr.checkKey e 10000 q k').run P w = .ok () w := fun e => by
        rw [ek]; exact run_check hd (keyIs_ok hi).1 e w
      split
      case h_2 => exact trivial
      rename_i r
      split
      case h_2 => exact trivial
      rename_i es clock ho
      obtain ⟨b, es', rfl, b2, b3, put⟩ := map_put hr hm ho
      split
      · rename_i j hf
        rcases find_ok (w := w) hd hk hi hf b3 with ⟨h, _⟩ | ⟨j', x, x', h, y1, y2, y3, y4, y5, y6⟩
        · cases h
        · cases h
          have hkey : x'.key = k' := by rw [← y3.key, y5, ek]
          rw [← ek] at y5 y6
          refine ⟨rfl, _, g, ?_, put (setVal_ok hv1 b3 y1 y5)⟩
          simp [Instr.mapUpdate, run_underlying h2, run_obj b2 id, hck, y4, y2, hkey, Instr.keyThatStays, y6, run_put _ b2 id]
      · rename_i hf
        rcases find_ok (w := w) hd hk hi hf b3 with ⟨_, hn⟩ | ⟨_, _, _, h, _⟩
        · refine ⟨rfl, _, g, ?_, put (fs' := es' ++ [⟨k', v', clock⟩]) (by rw [app_eq]; exact b3.append (.cons ⟨ek.symm, hv1, rfl⟩ .nil))⟩
          simp [Instr.mapUpdate, run_underlying h2, run_obj b2 id, hck, hn, run_put _ b2 id]
        · cases h
      · exact trivial
    · exact trivial
  · exact trivial

theorem entry_ok (hr : Rel g B a.h a.n w) {t : TypeId} {m m' k k' : Value} (hm : RV g m m') (hk : RV g k k') : Res P g B a w (Instr.mapEntry t m' k') ((cEntry P t).run m k a) := by
  unfold cEntry
  split
  · rename_i q e sz ag ht
    obtain ⟨inf, h1, h2, h3, h4⟩ := ti_some ht
    split
    · rename_i z d hz hd
      have hd := keyT_some hd
      obtain ⟨z1, z2⟩ := zeroV_some (g := g) hz
      show Res P g B a w _ (entryRe d z m k a)
      unfold entryRe
      refine ite_ok fun hi => ?_
      have ek := hk.of_free (keyIs_ok hi).2
      have hck : ∀ (e : Bool), (Instr.checkKey e 10000 q k').run P w = .ok () w := fun e => by
        rw [ek]; exact run_check hd (keyIs_ok hi).1 e w
      split
      case h_2 => exact trivial
      rename_i r
      split
      case h_2 => exact trivial
      rename_i es clock ho
      obtain ⟨b, es', rfl, b2, b3, put⟩ := map_put hr hm ho
      split
      · rename_i j hf
        rcases find_ok (w := w) hd hk hi hf b3 with ⟨h, _⟩ | ⟨j', x, x', h, y1, y2, y3, y4, y5, y6⟩
        · cases h
        · cases h
          have hkey : x'.key = k' := by rw [← y3.key, y5, ek]
          rw [← ek] at y6
          rw [nth_eq, y1]
          have hsame : es'.modify j (fun e => { e with key := k' }) = es' := modify_same fun y hy => by
            rw [y2] at hy; cases hy; rw [← hkey]
          refine ⟨.tuple #[x'.val, goInt x'.born], _, g, ?_, .tuple (.cons y3.val (.cons (by rw [y3.born]; exact .cell (RC.self rfl)) .nil)), put b3⟩
          simp [Instr.mapEntry, run_underlying h2, run_obj b2 id, hck, y4, y2, hkey, Instr.keyThatStays, y6, run_put _ b2 id, hsame]
      · rename_i hf
        rcases find_ok (w := w) hd hk hi hf b3 with ⟨_, hn⟩ | ⟨_, _, _, h, _⟩
        · refine ⟨.tuple #[z, goInt clock], _, g, ?_, .tuple (.cons z2 (.cons (.cell (RC.self rfl)) .nil)), put (fs' := es' ++ [⟨k', z, clock⟩]) (by rw [app_eq]; exact b3.append (.cons ⟨ek.symm, z2, rfl⟩ .nil))⟩
          simp [Instr.mapEntry, run_underlying h2, run_obj b2 id, hck, hn, z1, run_put _ b2 id]
        · cases h
      · exact trivial
    · exact trivial
  · exact trivial

theorem findB_ok {b : Nat} : ∀ {es es' : List MapEntry} {j : Nat}, findB b es = some j → All2 (RE g) es es' → es'.findIdx? (fun e => (e.born : Int) == (b : Int)) = some j
  | [], _, j, h, _ => by cases h
  | e :: es, _, j, h, he => by
    cases he with
    | cons h1 h2 =>
      rename_i e' es'
      have h : (Bool.rec (motive := fun _ => Option Nat) (Option.rec (motive := fun _ => Option Nat) none (fun i => some (Nat.succ i)) (findB b es)) (some 0) (Nat.beq e.born b) : Option Nat) = some j := h
      rw [List.findIdx?_cons, ← h1.born]
      cases hb : Nat.beq e.born b with
      | true =>
        rw [hb] at h
        cases h
        have := Nat.eq_of_beq_eq_true hb
        simp [this]
      | false =>
        rw [hb] at h
        have hne : ((e.born : Int) == (b : Int)) = false := by
          have : e.born ≠ b := fun e2 => by rw [e2] at hb; simp at hb
          simp; omega
        rw [hne]
        cases hf : findB b es with
        | none => rw [hf] at h; cases h
        | some i =>
          rw [hf] at h
          cases h
          rw [findB_ok hf h2]
          rfl

theorem fillE_ok (hr : Rel g B a.h a.n w) {t : TypeId} {m m' s s' v v' : Value} (hm : RV g m m') (hs : RV g s s') (hv : RV g v v') : ResU P g B a w (Instr.entryStore t m' s' v') (fillRe m s v a) := by
  unfold fillRe
  rw [if_eq]
  split
  case isFalse => exact trivial
  rename_i hnt
  have hv1 := hv.one_of hnt
  split
  case h_2 => exact trivial
  rename_i r b
  split
  case h_2 => exact trivial
  rename_i es clock ho
  obtain ⟨q, es', rfl, b2, b3, put⟩ := map_put hr hm ho
  split
  case h_2 => exact trivial
  rename_i j hf
  have := hs.of_free rfl
  subst this
  refine ⟨rfl, _, g, ?_, put (setVal_ok2 (j := j) hv1 b3)⟩
  have hx := findB_ok hf b3
  simp [Instr.entryStore, run_obj b2 id, asInt, asIntOf, hx, run_put _ b2 id]

end Go.Cx
namespace Go.Cx
open Go
variable {g : Gh} {B : Nat} {a : W} {w : World} {P : Program}

theorem opt2_ok {α : Type} {o : Option α} {r : Re} {f : α → Re} {s : Sem Value} (hn : o = none → Res P g B a w s r) (h : ∀ x, o = some x → Res P g B a w s (f x)) : Res P g B a w s (Option.rec (motive := fun _ => Re) r f o) := by
  cases o with
  | none => exact hn rfl
  | some x => exact h x rfl

theorem slowConv_ok (hr : Rel g B a.h a.n w) {s d : TypeId} {x x' : Value} (hx : RV g x x') : Res P g B a w (convert s d x') (slowConv P s d x a) := by
  unfold slowConv
  refine ite_ok fun h => ?_
  rw [hx.of_free h]
  exact resOf_ok hr

theorem bytesOf_some : ∀ {cs : List Value} {bs : List UInt8}, bytesOf cs = some bs → ∃ ns : List Int, cs = ns.map (.int .u8) ∧ bs = ns.map (fun n => UInt8.ofNat n.toNat)
  | [], bs, h => by cases h; exact ⟨[], rfl, rfl⟩
  | c :: cs, bs, h => by
    have h : (match (generalizing := false) c with
      | .int .u8 (.ofNat n) => (Option.rec (motive := fun _ => Option (List UInt8)) none (fun r => some (UInt8.ofNat n :: r)) (bytesOf cs) : Option (List UInt8))
      | _ => none) = some bs := h
    split at h
    · rename_i n _
      cases hb : bytesOf cs with
      | none => rw [hb] at h; cases h
      | some r =>
        rw [hb] at h
        cases h
        obtain ⟨ns, rfl, rfl⟩ := bytesOf_some hb
        exact ⟨(n : Int) :: ns, rfl, rfl⟩
    · cases h

theorem foldl_push (ns : List Int) (r : ByteArray) : ns.foldl (fun r n => r.push (UInt8.ofNat n.toNat)) r = ⟨r.data ++ (ns.map fun n => UInt8.ofNat n.toNat).toArray⟩ := by
  induction ns generalizing r with
  | nil => simp
  | cons n ns ih =>
    rw [List.foldl_cons, ih]
    simp [ByteArray.push]

theorem bytesStr_ok (hr : Rel g B a.h a.n w) {s d e : TypeId} (hs : P.underlying s = some (.slice e)) (he : P.underlying e = some (.int .u8)) (hd : P.underlying d = some .string) {x x' : Value} (hx : RV g x x') : Res P g B a w (convert s d x') (bytesStr a x) := by
  unfold bytesStr
  refine opt_ok fun sl hsl => ?_
  have := asSlice_some hsl; subst this
  obtain ⟨sa, n, c⟩ := sl
  have hx : RV g (.slice sa n c) x' := hx
  cases n with
  | zero =>
    refine Res.pure hr (v' := .string ⟨#[]⟩) ?_ (RV.self rfl)
    obtain ⟨a', c', rfl⟩ := slice_len hx
    rw [run_convert_bytes_string w s d e a' 0 c' hs he hd]
    cases a' with
    | none => rfl
    | some b =>
      have := run_loadCells_list (P := P) w b [] (by simp)
      rw [run_bytesToString w b 0 c' [] this]
      rfl
  | succ m =>
    obtain ⟨b, cp, c', hb, q1, q2, q3, q4, rfl⟩ := slice_at hx (by omega)
    subst hb
    show Res P g B a w _ (Option.rec (motive := fun _ => Re) (no 60) (fun cs => Option.rec (motive := fun _ => Re) (no 61) (fun bs => .ok (.string ⟨⟨bs⟩⟩) a) (bytesOf cs)) (rdS a.h b 1 (m + 1)) : Re)
    refine opt_ok fun cs hcs => opt_ok fun bs hbs => ?_
    obtain ⟨_, l', l1, l2, l3⟩ := rdS_sound hr hcs q1 q2 q3 q4
    obtain ⟨ns, rfl, rfl⟩ := bytesOf_some hbs
    have hl : l' = ns.map (.int .u8) := RCs.of_free l2 (frees_iff.2 fun v hv => by obtain ⟨n, _, rfl⟩ := List.mem_map.1 hv; rfl)
    subst hl
    refine Res.pure hr ?_ (RV.self rfl)
    rw [run_convert_bytes_string w s d e _ _ c' hs he hd]
    have hld := run_loadCells_list (P := P) w _ _ l3
    rw [l1, Nat.mul_one] at hld
    rw [run_bytesToString w _ _ c' ns hld, foldl_push]
    congr 2
    show (⟨#[] ++ _⟩ : ByteArray) = _
    simp

theorem strBytes_ok (hr : Rel g B a.h a.n w) {s d e : TypeId} (hs : P.underlying s = some .string) (hd : P.underlying d = some (.slice e)) (he : P.underlying e = some (.int .u8)) (st : ByteArray) :
    Res P g B a w (convert s d (.string st)) (newRow a (ofBytes st) e 1 false (fun n => .slice (some ⟨n, 0, none⟩) st.size st.size)) := by
  obtain ⟨h, n, ds, rc⟩ := a
  show Res P g B ⟨h, n, ds, rc⟩ w _ (Bool.rec (motive := fun _ => Re) (no 1) (.ok (.slice (some ⟨n, 0, none⟩) st.size st.size) ⟨hset h n (.row (chop (ofBytes st)) (len (ofBytes st)) e 1 false 0 0), Nat.succ n, ds, rc⟩) (Nat.ble (Nat.succ n) top16) : Re)
  refine ite_ok fun hn => ?_
  have hn : n + 1 ≤ 65536 := Nat.le_of_ble_eq_true hn
  have hrun := run_bytes_of_string w s d e st hs hd he
  have hcap := grownCap_ge w st.size 0 e
  generalize grownCap w st.size 0 e = cap at hrun hcap
  have hlen : (byteCells st).length = st.size := byteCells_length st
  have hvs : (bytesRow st cap).size = st.size + (cap - st.size) := by
    simp only [bytesRow, Array.size_append, Array.size_map, Array.size_replicate]
    rfl
  have htake : (bytesRow st cap).toList.take st.size = byteCells st := by
    have : (bytesRow st cap).toList = byteCells st ++ List.replicate (cap - st.size) (.int .u8 0) := by simp [bytesRow, byteCells]
    rw [this, ← hlen, List.take_left]
  rw [ofBytes_eq]
  have x := rel_newRow (t := e) (t' := e) (cs := byteCells st) (e := 1) (ext := cap - st.size) (fix := false) (fr := ((bytesRow st cap).size, (bytesRow st cap).size + 1)) (vec := bytesRow st cap)
    (w' := w.drew.alloc (.cells (bytesRow st cap) e ((bytesRow st cap).size, (bytesRow st cap).size + 1))) hr hn rfl rfl rfl rfl (fun x hx hf => by have := hf.1; omega) (by rw [hlen, htake]; exact bytes_rc st) (by rw [hlen, hvs]; omega) (by simp)
  refine ⟨_, _, _, hrun, ?_, ⟨x, rfl, rfl⟩⟩
  have := slice_rv (l := st.size) (c := st.size) (upd_same g n 0 ⟨w.heap.size, 0, cap - st.size, (byteCells st).length, 1, false, .nilIface⟩) (Nat.le_refl _) (.inr (by rw [hlen]; omega))
  rw [Nat.add_sub_cancel' hcap] at this
  exact this

theorem convert_ok (hr : Rel g B a.h a.n w) {s d : TypeId} {x x' : Value} (hx : RV g x x') : Res P g B a w (convert s d x') ((cConv P s d).run x a) := by
  unfold cConv
  split
  · rename_i k1 s1 g1 k s2 g2 hs hd
    obtain ⟨_, _, hs, _, _⟩ := ti_some hs
    obtain ⟨_, _, hd, _, _⟩ := ti_some hd
    refine opt2_ok (fun _ => slowConv_ok hr hx) fun p hp => opt2_ok (fun _ => slowConv_ok hr hx) fun v hv => ?_
    have := asNat_some hp; subst this
    have := hx.int; subst this
    obtain ⟨h1, rfl⟩ := nat1_some hv
    refine Res.pure hr ?_ (RV.self rfl)
    simp only [convert, Sem.run_bind, run_underlying hs, run_underlying hd, Result.andThen_ok, Conv.intToInt, Sem.run_pure]
    congr 2
    exact wrap_nat h1
  · rename_i e s1 g1 s2 g2 hs hd
    obtain ⟨_, _, hs, _, _⟩ := ti_some hs
    obtain ⟨_, _, hd, _, _⟩ := ti_some hd
    split
    · rename_i s3 g3 he
      obtain ⟨_, _, he, _, _⟩ := ti_some he
      exact bytesStr_ok hr hs he hd hx
    · exact trivial
  · rename_i s1 g1 e s2 g2 hs hd
    obtain ⟨_, _, hs, _, _⟩ := ti_some hs
    obtain ⟨_, _, hd, _, _⟩ := ti_some hd
    split
    · rename_i s3 g3 he
      obtain ⟨_, _, he, _, _⟩ := ti_some he
      refine opt_ok fun st hst => ?_
      have := asStr_some hst; subst this
      have := hx.string; subst this
      exact strBytes_ok hr hs hd he st
    · exact trivial
  · exact slowConv_ok hr hx

end Go.Cx
namespace Go.Cx
open Go
variable {g : Gh} {B : Nat} {a : W} {w : World} {P : Program}

noncomputable def Sh.re (s : Sh) (f : Operand → Value) (w : W) : Re := match s with
  | .mv x => .ok (f x) w
  | .s0 b => b.run w
  | .s1 x b => b.run (f x) w
  | .s2 x y b => b.run (f x) (f y) w
  | .s3 x y z b => b.run (f x) (f y) (f z) w
  | .sp l b => b.run (l.map fun p => (p.1, f p.2)) w
  | .sl l b => b.run (l.map f) w
  | .sf x l b => b.run (f x) (l.map f) w
  | .so x p q r b => b.run (f x) (p.map f) (q.map f) (r.map f) w

def ResN (P : Program) (g : Gh) (B : Nat) (a : W) (w : World) (s : Sem Next) : Re → Prop
  | .ok v b => ∃ nx w' g', s.run P w = .ok nx w' ∧ Kept g B a w g' b w' ∧ ((∃ v', nx = .value v' ∧ RV g' v v') ∨ (nx = .skip ∧ v = undefV))
  | .ot (.pan v b) => ∃ w' g', s.run P w = .halt (.panic v) w' ∧ cellV v = true ∧ Kept g B a w g' b w'
  | .ot (.enter f args) => ∃ args', s.run P w = .ok (.enter f ⟨args'⟩) w ∧ All2 (RV g) args args'
  | .ot (.defer f args) => ∃ xs ys cs, s.run P w = .ok (.defer { target := .fn (.func f) ⟨cs⟩, args := ⟨xs ++ ys⟩ }) w ∧ All2 (RV g) args (xs ++ (ys ++ cs))
  | .ot .recover => s.run P w = .ok .recover w
  | .ot (.comm (c, x, z) bl sh) => ∃ c' x', s.run P w = .ok (.comm #[{ chan := c', send := x', zero := z }] bl sh) w ∧ RV g c c' ∧ RO g x x' ∧ (x = none → R1 g z z)
  | .ot (.no _) => True

theorem Res.toN {s : Sem Value} {r : Re} (h : Res P g B a w s r) : ResN P g B a w (s >>= fun v => Pure.pure (Next.value v)) r := by
  cases r with
  | ok v b => obtain ⟨v', w', g', h1, h2, h3⟩ := h; exact ⟨.value v', w', g', by simp [h1], h3, .inl ⟨v', rfl, h2⟩⟩
  | ot r =>
    cases r with
    | pan v b => obtain ⟨w', g', h1, h2, h3⟩ := h; exact ⟨w', g', by simp [h1, Result.andThen], h2, h3⟩
    | no y => exact trivial
    | _ => exact absurd h id

theorem ResU.toN {s : Sem Unit} {r : Re} (h : ResU P g B a w s r) : ResN P g B a w (s >>= fun _ => Pure.pure Next.skip) r := by
  cases r with
  | ok v b => obtain ⟨hv, w', g', h1, h3⟩ := h; exact ⟨.skip, w', g', by simp [h1], h3, .inr ⟨rfl, hv⟩⟩
  | ot r =>
    cases r with
    | pan v b => obtain ⟨w', g', h1, h2, h3⟩ := h; exact ⟨w', g', by simp [h1, Result.andThen], h2, h3⟩
    | no y => exact trivial
    | _ => exact absurd h id

theorem ResN.val (hr : Rel g B a.h a.n w) {s : Sem Next} {v v' : Value} (h : s.run P w = .ok (.value v') w) (hv : RV g v v') : ResN P g B a w s (.ok v a) := ⟨_, w, g, h, Kept.refl hr, .inl ⟨v', rfl, hv⟩⟩

theorem simpV_ri {v v' : Value} (h : simpV v = true) (hv : RV g v v') : RI g v v' := by
  have h1 : v.oneCell' = true := by cases v <;> first | rfl | cases h
  have h2 : v ≠ junkV ∧ ∀ k, v ≠ .complex .f32 k 2 := ⟨(by intro e; subst e; cases h), fun k e => (by subst e; cases h)⟩
  have := hv.cellInv h1 h2
  cases this with
  | base h => exact h
  | func => cases h
  | sym => cases h
  | lin => cases h
  | @iface t l l' hl =>
    have hf : free (.agg ⟨l⟩) = true := h
    rw [free_agg] at hf
    rw [RIs.of_free hl hf]
    exact .same h

theorem RC.simp {v v' : Value} (h : simpV v = true) (hv : RC g v v') : RI g v v' := simpV_ri h (.one (.cell hv))

theorem RCs.simp {l l' : List Value} (hl : All2 (RC g) l l') : (∀ x ∈ l, simpV x = true) → All2 (RI g) l l' := by
  induction hl with
  | nil => intro _; exact .nil
  | cons h1 _ ih => intro h; exact .cons (RC.simp (h _ (by simp)) h1) (ih fun x hx => h x (by simp [hx]))

theorem holdV_ra {v v' : Value} (h : holdV v = true) (hv : RV g v v') : RA g v v' := by
  unfold holdV at h
  cases ha : asAgg v with
  | none =>
    rw [ha] at h
    dsimp only at h
    rw [if_eq] at h
    by_cases hs : simpV v = true
    · exact .one (simpV_ri hs hv)
    · rw [if_neg hs] at h
      cases v with
      | iface t x =>
        have h : (Option.rec (motive := fun _ => Bool) false (fun l => allL simpV l) (asAgg x) : Bool) = true := h
        cases hx : asAgg x with
        | none => rw [hx] at h; cases h
        | some l =>
          rw [hx] at h
          have h : allL simpV l = true := h
          rw [allL_eq, List.all_eq_true] at h
          have := asAgg_some hx; subst this
          obtain ⟨y, rfl, hf⟩ := hv.iface
          rcases hf with ⟨rfl, _⟩ | ⟨l1, l2, e1, rfl, h2⟩
          · cases hv with
            | one hv => cases hv with
              | cell hv => cases hv with
                | base hv => exact .one hv
                | iface hl => exact .iface hl
          · cases e1; exact .iface h2
      | _ => cases h
  | some l =>
    rw [ha] at h
    have := asAgg_some ha; subst this
    have h : allL simpV l = true := h
    rw [allL_eq, List.all_eq_true] at h
    obtain ⟨l', rfl, hl⟩ := hv.agg
    exact .agg (RCs.simp hl h)

theorem func_ok (hr : Rel g B a.h a.n w) {f : Fn} {xs ys xs' ys' : List Value} (hx : All2 (RV g) xs xs') (hy : All2 (RV g) ys ys') : Res P g B a w (Instr.makeFunc f ⟨xs'⟩ ⟨ys'⟩) (funcRe f xs.length (xs ++ ys) a) := by
  unfold funcRe
  refine ite_ok fun hs => opt_ok fun p hp => ?_
  rw [allL_eq, List.all_eq_true] at hs
  rw [take_eq] at hp
  split at hp
  case isFalse => cases hp
  cases hp
  have ri : ∀ {l l' : List Value}, All2 (RV g) l l' → (∀ x ∈ l, holdV x = true) → All2 (RA g) l l' := by
    intro l l' h
    induction h with
    | nil => intro _; exact .nil
    | cons h1 _ ih => intro hl; exact .cons (holdV_ra (hl _ (by simp)) h1) (ih fun x hx => hl x (by simp [hx]))
  rw [drop_eq, List.take_left, List.drop_left]
  refine Res.pure hr rfl (.one (.cell (.func (ri hx fun x h => hs x (by simp [h])) (ri hy fun x h => hs x (by simp [h])))))

theorem iface_ok (hr : Rel g B a.h a.n w) {t : TypeId} {d : TypeDesc} (hd : P.underlying t = some d) (hni : ∀ ms, d ≠ .interface ms) {x x' : Value} (hx : RV g x x') : Res P g B a w (Instr.makeInterface t x') (ifaceRe t x a) := by
  have run : (Instr.makeInterface t x').run P w = .ok (.iface t x') w := by
    unfold Instr.makeInterface
    simp only [Sem.run_bind, run_underlying hd, Result.andThen_ok]
    cases d <;> first | exact absurd rfl (hni _) | rfl
  unfold ifaceRe
  rw [if_eq]
  split
  · rename_i hf
    rw [hx.of_free hf] at run ⊢
    exact Res.pure hr run (RV.self hf)
  · refine ite_ok fun hs => ?_
    unfold aggS at hs
    cases ha : asAgg x with
    | none => rw [ha] at hs; cases hs
    | some l =>
      rw [ha] at hs
      have hs : allL simpV l = true := hs
      rw [allL_eq, List.all_eq_true] at hs
      have := asAgg_some ha; subst this
      obtain ⟨l', rfl, hl⟩ := hx.agg
      exact Res.pure hr run (.one (.cell (.iface (RCs.simp hl hs))))

theorem opmap {l : List Operand} {f ρ : Operand → Value} (h : ∀ x, RV g (f x) (ρ x)) : All2 (RV g) (l.map f) (l.map ρ) := by
  induction l with
  | nil => exact .nil
  | cons x r ih => exact .cons (h x) ih

theorem romap {o : Option Operand} {f ρ : Operand → Value} (h : ∀ x, RV g (f x) (ρ x)) : RO g (o.map f) (o.map ρ) := by
  cases o with
  | none => exact .none
  | some x => exact .some (h x)

theorem ptmap {l : List (Nat × Operand)} {f ρ : Operand → Value} (h : ∀ x, RV g (f x) (ρ x)) : All2 (Pt g) (l.map fun p => (p.1, f p.2)) (l.map fun p => (p.1, ρ p.2)) := by
  induction l with
  | nil => exact .nil
  | cons x r ih => exact .cons ⟨rfl, h x.2⟩ ih

theorem ResN.congr {s s' : Sem Next} {r : Re} (e : s.run P w = s'.run P w) (h : ResN P g B a w s r) : ResN P g B a w s' r := by
  unfold ResN at h ⊢
  rw [← e]
  exact h

theorem findM_some {name : String} : ∀ {ms : List Method} {m : Method}, findM name ms = some m → ms.find? (·.name == name) = some m
  | [], m, h => by cases h
  | x :: ms, m, h => by
    have h : (Bool.rec (motive := fun _ => Option Method) (findM name ms) (some x) (x.name == name) : Option Method) = some m := h
    rw [List.find?_cons]
    cases hx : (x.name == name) with
    | true => rw [hx] at h; exact h
    | false => rw [hx] at h; exact findM_some h

theorem mth_some {t : TypeId} {name : String} {f : FuncId} (h : mth P t name = some f) : ∃ i d s, P.info? t = some i ∧ P.underlying t = some d ∧ i.methods.find? (·.name == name) = some ⟨name, s, #[], some (f, false)⟩ ∧ ∀ e, d ≠ .pointer e := by
  unfold mth at h
  split at h
  · rename_i i d hi hd
    split at h
    · rename_i nm s g hf
      have hf := findM_some hf
      rw [Array.find?_toList] at hf
      have hn : nm = name := by
        have := Array.find?_some hf
        simpa using this
      subst hn
      split at h
      · cases h
      · rename_i hne
        cases h
        exact ⟨i, d, s, infoF_some hi, undF_some hd, hf, fun e he => hne e he⟩
    · cases h
  · cases h

theorem mth_method {t : TypeId} {name : String} {f : FuncId} (h : mth P t name = some f) (k : Nat) (v : Value) (w : World) : (method (k + 1) t v name).run P w = .ok (f, v) w := by
  obtain ⟨i, d, s, h1, h2, h3, h4⟩ := mth_some h
  unfold method
  simp [typeInfo, h1, h3, follow, receiverAt, run_underlying h2]
  cases d <;> first | exact absurd rfl (h4 _) | simp [Place.get]
theorem mth_nil {t : TypeId} {name : String} {f : FuncId} (h : mth P t name = some f) (k : Nat) (v : Value) (w : World) : (nilAhead (k + 1) t v name).run P w = .ok (some false) w := by
  obtain ⟨i, d, s, h1, h2, h3, h4⟩ := mth_some h
  unfold nilAhead
  simp [typeInfo, h1, h3, followBlind, run_underlying h2]
  cases d <;> first | exact absurd rfl (h4 _) | rfl

theorem sized (n : Nat) : ∃ m, n + Made.depth = m + 1 := ⟨n + 99, rfl⟩
theorem mth_nil' {t : TypeId} {name : String} {f : FuncId} (h : mth P t name = some f) (n : Nat) (v : Value) (w : World) : (nilAhead (n + Made.depth) t v name).run P w = .ok (some false) w := by
  obtain ⟨m, e⟩ := sized n
  rw [e]; exact mth_nil h m v w
theorem mth_method' {t : TypeId} {name : String} {f : FuncId} (h : mth P t name = some f) (n : Nat) (v : Value) (w : World) : (method (n + Made.depth) t v name).run P w = .ok (f, v) w := by
  obtain ⟨m, e⟩ := sized n
  rw [e]; exact mth_method h m v w

theorem nil_ok (hr : Rel g B a.h a.n w) {o : Oper} {ρ : Operand → Value} {x : Operand} (ho : o.op = .nilCheck x) {v : Value} (hv : RV g v (ρ x)) : ResN P g B a w (execOp ρ o) (nilRe P v a) := by
  obtain ⟨dst, op, type, pos, aft, guard⟩ := o
  subst ho
  unfold nilRe
  cases hp : asPtr v with
  | some p =>
    have := asPtr_some hp; subst this
    obtain ⟨cp, q1, q2, q3⟩ := hv.ptr
    refine ResN.val hr (v' := ρ x) ?_ hv
    simp [execOp, q3]
  | none =>
    show ResN P g B a w _ (nilRe2 P v a)
    unfold nilRe2
    split
    · rename_i fn xs ys
      obtain ⟨x1, y1, q3, _, _⟩ := RV.func (a := xs.toList) (b := ys.toList) hv
      refine ResN.val hr (v' := ρ x) ?_ hv
      simp [execOp, q3]
    · rename_i t y
      obtain ⟨y', q3, _⟩ := hv.iface
      refine ResN.val hr (v' := ρ x) ?_ hv
      simp [execOp, q3]
    · rename_i name t y l ys
      split
      · rename_i f hm
        obtain ⟨x1, y1, q3, h1, _⟩ := RV.func (a := .iface t y :: l) (b := ys.toList) hv
        cases h1 with
        | cons h1 ht =>
          have hi : ∃ z, _ = Value.iface t z := (RV.iface (t := t) (u := y) (.one h1)).imp fun z h => h.1
          obtain ⟨z, rfl⟩ := hi
          refine ResN.val hr (v' := ρ x) ?_ hv
          simp [execOp, q3, mth_nil' hm]
      · exact trivial
    · exact trivial

theorem bad_ok {f : Operand → Value} {y : Nat} {s : Sem Next} : ResN P g B a w s ((bad y).re f a) := trivial

theorem op_ok (hr : Rel g B a.h a.n w) {o : Oper} {f ρ : Operand → Value} (h : ∀ x, RV g (f x) (ρ x)) (hc : ∀ c, o.op ≠ .call c ∧ o.op ≠ .defer c) (hs : ∀ t c b, o.op ≠ .recv t c b) (hx : ∀ cs b, o.op ≠ .select cs b) : ResN P g B a w (execOp ρ o) ((cOp P o.op o.type).re f a) := by
  obtain ⟨dst, op, type, guard, pos⟩ := o
  simp only [] at hc hs hx
  cases op with
  | move x => exact .val hr rfl (h x)
  | assign x => exact .val hr rfl (h x)
  | pick c x y => exact (pick_ok hr (h c) (h x) (h y)).toN.congr (by simp [execOp])
  | alloc t => exact (alloc_ok hr).toN
  | box t x => exact (box_ok hr (h x)).toN
  | build t ps =>
    have := (build_ok (P := P) (t := t) hr (ptmap (l := ps.toList) h)).toN
    have e : ((ps.toList.map fun p => (p.1, ρ p.2)).toArray) = ps.map fun p => (p.1, ρ p.2) := by apply Array.ext'; simp
    rw [e] at this
    exact this
  | buildSlice t n ps =>
    have := (buildSlice_ok (P := P) (t := t) (ln := n) hr (ptmap (l := ps.toList) h)).toN
    have e : ((ps.toList.map fun p => (p.1, ρ p.2)).toArray) = ps.map fun p => (p.1, ρ p.2) := by apply Array.ext'; simp
    rw [e] at this
    exact this
  | insert t m k v => exact (update_ok hr (h m) (h k) (h v)).toN
  | load t x =>
    show ResN P g B a w _ ((match ti P t with | some i => Sh.s1 x (loadRe i.size i.agg) | none => bad 112).re f a)
    cases hti : ti P t with
    | none => exact bad_ok
    | some i => exact (load_ok hr hti (h x)).toN
  | store t x y =>
    show ResN P g B a w _ ((match ti P t with | some i => Sh.s2 x y ⟨storeRe i.size⟩ | none => bad 112).re f a)
    cases hti : ti P t with
    | none => exact bad_ok
    | some i => exact (store_ok hr hti (h x) (h y)).toN
  | ready g => exact bad_ok
  | waits g => exact bad_ok
  | nilCheck x => exact nil_ok hr rfl (h x)
  | binOp o t x y u => exact (bin_ok hr (h x) (h y)).toN
  | unOp o t x => exact (un_ok hr (h x)).toN
  | convert s d x => exact (convert_ok hr (h x)).toN
  | sliceToArrayPointer t x => exact bad_ok
  | makeInterface t x =>
    show ResN P g B a w _ ((match ti P t with | some ⟨.interface _, _, _⟩ => bad 113 | some _ => Sh.s1 x ⟨ifaceRe t⟩ | none => bad 113).re f a)
    split
    · exact bad_ok
    · rename_i i hni hi
      obtain ⟨inf, h1, h2, h3, h4⟩ := ti_some hi
      refine (iface_ok hr h2 (fun ms e => ?_) (h x)).toN
      obtain ⟨d, s, g⟩ := i
      have e : d = .interface ms := e
      subst e
      exact hni _ _ _ rfl
    · exact bad_ok
  | makeFunc fn xs ys =>
    have := (func_ok (P := P) (f := fn) hr (opmap (l := xs.toList) h) (opmap (l := ys.toList) h)).toN
    have e1 : (⟨xs.toList.map ρ⟩ : Array Value) = xs.map ρ := by apply Array.ext'; simp
    have e2 : (⟨ys.toList.map ρ⟩ : Array Value) = ys.map ρ := by apply Array.ext'; simp
    rw [e1, e2] at this
    show ResN P g B a w _ (funcRe fn (len xs.toList) ((app xs.toList ys.toList).map f) a)
    rw [app_eq, List.map_append, len_len]
    rw [List.length_map] at this
    exact this
  | makeMap t r =>
    cases r with
    | none => exact (makeMap_ok hr).toN
    | some x => exact (makeMapN_ok hr (h x)).toN
  | makeChan t x => exact (makeChan_ok hr (h x)).toN
  | makeSlice t x y => exact (make_ok hr (h x) (h y)).toN
  | slice t x lo hi mx => exact (slice_ok hr (h x) (romap h) (romap h) (romap h)).toN
  | fieldAddr t x i => exact (fieldAddr_ok hr (h x)).toN
  | field t x i => exact (field_ok hr (h x)).toN
  | indexAddr t x y => exact (indexAddr_ok hr (h x) (h y)).toN
  | index t x y => exact (index_ok hr (h x) (h y)).toN
  | lookup t x y ok => exact (lookup_ok hr (h x) (h y)).toN
  | mapUpdate t m k v => exact (update_ok hr (h m) (h k) (h v)).toN
  | mapEntry t m k => exact (entry_ok hr (h m) (h k)).toN
  | entryStore t m s x => exact (fillE_ok hr (h m) (h s) (h x)).toN
  | range t x =>
    show ResN P g B a w _ ((match ti P t with | some ⟨.string, _, _⟩ => Sh.s1 x ⟨rangeRe⟩ | _ => bad 87).re f a)
    split
    · rename_i hi
      obtain ⟨inf, h1, h2, h3, h4⟩ := ti_some hi
      exact (range_ok hr h2 (h x)).toN
    · exact bad_ok
  | next x b =>
    cases b with
    | true => exact (next_ok hr (h x)).toN
    | false => exact bad_ok
  | entry x => exact bad_ok
  | typeAssert x t u ok => exact (assert_ok hr (h x)).toN
  | extract x i => exact (extract_ok hr (h x)).toN
  | call c => exact absurd rfl (hc c).1
  | go c => exact bad_ok
  | defer c => exact absurd rfl (hc c).2
  | panic x => exact (panic_ok hr (h x)).toN
  | send c x => exact ⟨ρ c, some (ρ x), rfl, h c, .some (h x), fun h => by cases h⟩
  | recv t c b => exact absurd rfl (hs t c b)
  | select cs b => exact absurd rfl (hx cs b)

end Go.Cx
namespace Go.Cx
open Go
variable {g : Gh} {B : Nat} {a : W} {w : World} {P : Program}

theorem any_ok (hr : Rel g B a.h a.n w) {b : Builtin} {ts : Array TypeId} {type : TypeId} {consts : Array Bool} {args args' : List Value} (hb : b ≠ .print) (hb' : b ≠ .println) (ha : All2 (RV g) args args') :
    ResN P g B a w (builtin b ts type consts ⟨args'⟩) (anyBlt P b ts type args a) := by
  unfold anyBlt
  rw [if_eq]
  split
  · rename_i hf
    rw [RVs.of_free ha hf]
    have e : builtin b ts type consts ⟨args⟩ = builtin b ts type #[] ⟨args⟩ := by
      cases b <;> first | rfl | exact absurd rfl hb | exact absurd rfl hb'
    rw [e]
    split
    · rename_i v hp
      rw [if_eq]
      split
      · rename_i hc; exact .val hr (pv_ok hp w) (RV.self hc)
      · exact trivial
    · rename_i v hp
      rw [if_eq]
      split
      · rename_i hc; exact ⟨w, g, pv_pan hp w, hc, Kept.refl hr⟩
      · exact trivial
    · exact trivial
  · exact trivial

theorem blt_ok (hr : Rel g B a.h a.n w) {b : Builtin} {args : List Operand} {ts : List TypeId} {type : TypeId} {consts : Array Bool} {f ρ : Operand → Value} (h : ∀ x, RV g (f x) (ρ x)) :
    ResN P g B a w (builtin b ⟨ts⟩ type consts ⟨args.map ρ⟩) ((cBlt P b args ⟨ts⟩ type).re f a) := by
  unfold cBlt
  dsimp only
  split
  · exact (len_ok hr (h _)).toN
  · exact (cap_ok hr (h _)).toN
  · exact (append_ok hr (h _) (h _)).toN
  · exact (copy_ok hr (h _) (h _)).toN
  · exact (clear_ok hr (h _)).toN
  · exact rfl
  · exact (close_ok hr (h _)).toN
  · exact bad_ok
  · exact bad_ok
  · exact any_ok hr (by assumption) (by assumption) (opmap h)

def NoNum (P : Program) : Prop := ∀ (f : FuncId) (fn : Func), P.funcs[f]? = some fn → fn.body.isSome = true → (fn.name == "runtime.NumGoroutine") = false

theorem callFunc_enter (hP : NoNum P) {f : FuncId} (hb : bodied P f = none) (args : Array Value) (w : World) : (callFunc f args).run P w = .ok (.enter f args) w := by
  unfold bodied at hb
  rw [fnF_eq] at hb
  split at hb
  · rename_i fn hf
    split at hb
    · rename_i c hc
      have := hP f fn hf (by rw [hc]; rfl)
      have hne : fn.name ≠ "runtime.NumGoroutine" := by simpa using this
      simp [callFunc, hf, hc, hne]
    · cases hb
  · cases hb

theorem call_ok (hP : NoNum P) (hr : Rel g B a.h a.n w) {fv fv' : Value} {args args' : List Value} (hf : RV g fv fv') (ha : All2 (RV g) args args') :
    ResN P g B a w (Deferred.ofValue fv' ⟨args'⟩ >>= fun d => invoke d.target d.args) (callRe P fv args a) := by
  unfold callRe
  cases hq : asFunc fv with
  | none => exact trivial
  | some p =>
    obtain ⟨fn, first, captured⟩ := p
    have := asFunc_some hq; subst this
    obtain ⟨xs, ys, rfl, h1, h2⟩ := RV.func hf
    have ha1 : All2 (RV g) (first ++ (args ++ captured)) (xs ++ (args' ++ ys)) :=
      (h1.mono fun _ _ h => .one h).append (ha.append (h2.mono fun _ _ h => .one h))
    show ResN P g B a w _ (match (generalizing := false) fn with
      | .func f => (Option.rec (motive := fun _ => Re) (.ot (.enter f (app first (app args captured)))) (fun _ => externRe P f (app first (app args captured)) a) (bodied P f) : Re)
      | .method name => methRe P name (app first args)
      | _ => no 97)
    split
    · rename_i f
      have e : (Deferred.ofValue (.func (.func f) ⟨xs⟩ ⟨ys⟩) ⟨args'⟩ >>= fun d => invoke d.target d.args) = callFunc f ((⟨xs⟩ ++ ⟨args'⟩) ++ ⟨ys⟩) := rfl
      have e2 : (((⟨xs⟩ : Array Value) ++ ⟨args'⟩) ++ ⟨ys⟩) = ⟨xs ++ (args' ++ ys)⟩ := by apply Array.ext'; simp
      rw [e, e2, app_eq, app_eq]
      cases hb : bodied P f with
      | none => exact ⟨_, callFunc_enter hP hb _ w, ha1⟩
      | some nm =>
        show ResN P g B a w _ (externRe P f (first ++ (args ++ captured)) a)
        unfold externRe
        rw [if_eq]
        split
        · rename_i hfr
          rw [RVs.of_free ha1 hfr]
          split
          · rename_i v hp
            rw [if_eq]
            split
            · rename_i hc; exact .val hr (pv_ok hp w) (RV.self hc)
            · exact trivial
          · rename_i v hp
            rw [if_eq]
            split
            · rename_i hc; exact ⟨w, g, pv_pan hp w, hc, Kept.refl hr⟩
            · exact trivial
          · exact trivial
        · exact trivial
    · rename_i name
      have e : (Deferred.ofValue (.func (.method name) ⟨xs⟩ ⟨ys⟩) ⟨args'⟩ >>= fun d => invoke d.target d.args) = invoke (.fn (.method name) ⟨ys⟩) (⟨xs⟩ ++ ⟨args'⟩) := rfl
      have e2 : ((⟨xs⟩ : Array Value) ++ ⟨args'⟩) = ⟨xs ++ args'⟩ := by apply Array.ext'; simp
      have ha2 : All2 (RV g) (first ++ args) (xs ++ args') := (h1.mono fun _ _ h => .one h).append ha
      rw [e, e2, app_eq]
      unfold methRe
      split
      · rename_i t v r he
        rw [he] at ha2
        split
        · rename_i f hm
          rw [if_eq]
          split
          case isFalse => exact trivial
          rename_i hval
          cases hb : bodied P f with
          | some _ => exact trivial
          | none =>
            generalize hxs : xs ++ args' = q at ha2
            cases ha2 with
            | @cons _ u _ us hu hrest =>
              obtain ⟨z, rfl, hz⟩ := hu.iface
              have hvz : RV g v z := by
                rcases hz with ⟨rfl, hf⟩ | ⟨l, l', rfl, rfl, h⟩
                · cases hv : valV z with
                  | true => exact .one (valV_self hv)
                  | false => rw [hv, hf] at hval; cases hval
                · exact .one (.agg (h.mono fun _ _ h => .base h))
              refine ⟨z :: us, ?_, .cons hvz hrest⟩
              have e4 : (⟨Value.iface t z :: us⟩ : Array Value).extract 1 (us.length + 1) = ⟨us⟩ := by apply Array.ext'; simp
              simp [invoke, callMethod, mth_method' hm, e4]
              exact callFunc_enter hP hb _ w
        · exact trivial
      · exact trivial
    · exact trivial

theorem calls_ok (hP : NoNum P) (hr : Rel g B a.h a.n w) {c : Call} {type : TypeId} {f ρ : Operand → Value} (h : ∀ x, RV g (f x) (ρ x)) : ResN P g B a w (resolve ρ c type >>= fun d => invoke d.target d.args) ((cCall P c type).re f a) := by
  unfold cCall
  split
  · rename_i b hb
    have e : (resolve ρ c type >>= fun d => invoke d.target d.args) = builtin b c.argTypes type (c.args.map fun | .const _ => true | _ => false) (c.args.map ρ) := by
      unfold resolve; rw [hb]; rfl
    rw [e]
    have e1 : c.args.map ρ = ⟨c.args.toList.map ρ⟩ := by apply Array.ext'; simp
    rw [e1]
    exact blt_ok (ts := c.argTypes.toList) hr h
  · rename_i fo hb
    have e : (resolve ρ c type >>= fun d => invoke d.target d.args) = (Deferred.ofValue (ρ fo) (c.args.map ρ) >>= fun d => invoke d.target d.args) := by
      unfold resolve; rw [hb]
    rw [e]
    have e1 : c.args.map ρ = ⟨c.args.toList.map ρ⟩ := by apply Array.ext'; simp
    rw [e1]
    exact call_ok hP hr (h fo) (opmap h)
  · exact trivial

theorem defers_ok {c : Call} {type : TypeId} {f ρ : Operand → Value} (h : ∀ x, RV g (f x) (ρ x)) : ResN P g B a w (resolve ρ c type >>= fun d => Pure.pure (Next.defer d)) ((cDefer c).re f a) := by
  unfold cDefer
  split
  · rename_i fo hb
    have e : (resolve ρ c type >>= fun d => Pure.pure (Next.defer d)) = (Deferred.ofValue (ρ fo) (c.args.map ρ) >>= fun d => Pure.pure (Next.defer d)) := by
      unfold resolve; rw [hb]
    rw [e]
    have e1 : c.args.map ρ = ⟨c.args.toList.map ρ⟩ := by apply Array.ext'; simp
    rw [e1]
    show ResN P g B a w _ (deferRe (f fo) (c.args.toList.map f))
    unfold deferRe
    split
    · rename_i gf xs0 ys0 hfo
      have hf := h fo
      rw [hfo] at hf
      obtain ⟨xs, ys, hx, h1, h2⟩ := RV.func (a := xs0.toList) (b := ys0.toList) hf
      rw [hx]
      refine ⟨xs, c.args.toList.map ρ, ys, ?_, ?_⟩
      · show Result.ok _ w = _
        congr 3
        apply Array.ext'; simp
      · rw [app_eq, app_eq]
        exact (h1.mono fun _ _ h => .one h).append ((opmap h).append (h2.mono fun _ _ h => .one h))
    · exact trivial
  · exact trivial

end Go.Cx
namespace Go.Cx
open Go
variable {g : Gh} {B : Nat} {a : W} {w : World} {P : Program}

theorem recv_ok {t : TypeId} {c : Operand} {ok : Bool} {f ρ : Operand → Value} (h : ∀ x, RV g (f x) (ρ x)) {o : Oper} (ho : o.op = .recv t c ok) : ResN P g B a w (execOp ρ o) ((cRecv P t c ok).re f a) := by
  obtain ⟨dst, op, type, pos, aft, guard⟩ := o
  subst ho
  unfold cRecv
  split
  · rename_i d e sz ag ht
    obtain ⟨inf, h1, h2, h3, h4⟩ := ti_some ht
    split
    · rename_i z hz
      obtain ⟨z1, z2⟩ := zeroV_some (g := g) hz
      refine ⟨ρ c, none, ?_, h c, .none, fun _ => z2⟩
      simp [execOp, run_underlying h2, z1]
    · exact trivial
  · exact trivial

theorem select_ok {cs : Array SelectCase} {b : Bool} {f ρ : Operand → Value} (h : ∀ x, RV g (f x) (ρ x)) {o : Oper} (ho : o.op = .select cs b) : ResN P g B a w (execOp ρ o) ((cSelect P cs.toList b).re f a) := by
  obtain ⟨dst, op, type, pos, aft, guard⟩ := o
  subst ho
  obtain ⟨cs⟩ := cs
  unfold cSelect
  dsimp only
  split
  · rename_i c
    split
    · rename_i z hz
      obtain ⟨z1, z2⟩ := zeroV_some (g := g) hz
      refine ⟨ρ c.chan, c.send.map ρ, ?_, h c.chan, romap h, fun _ => z2⟩
      simp [execOp, z1]
    · exact trivial
  · exact trivial

theorem op_all (hP : NoNum P) (hr : Rel g B a.h a.n w) {o : Oper} {f ρ : Operand → Value} (h : ∀ x, RV g (f x) (ρ x)) : ResN P g B a w (execOp ρ o) ((cOp P o.op o.type).re f a) := by
  by_cases h1 : ∃ c, o.op = .call c
  · obtain ⟨c, hc⟩ := h1
    obtain ⟨dst, op, type, pos, aft, guard⟩ := o
    have hc : op = .call c := hc
    subst hc
    exact calls_ok hP hr h
  by_cases h2 : ∃ c, o.op = .defer c
  · obtain ⟨c, hc⟩ := h2
    obtain ⟨dst, op, type, pos, aft, guard⟩ := o
    have hc : op = .defer c := hc
    subst hc
    exact defers_ok h
  by_cases h3 : ∃ t c b, o.op = .recv t c b
  · obtain ⟨t, c, b, hc⟩ := h3
    rw [hc]
    exact recv_ok h hc
  by_cases h4 : ∃ cs b, o.op = .select cs b
  · obtain ⟨cs, b, hc⟩ := h4
    rw [hc]
    exact select_ok h hc
  exact op_ok hr h (fun c => ⟨fun e => h1 ⟨c, e⟩, fun e => h2 ⟨c, e⟩⟩) (fun t c b e => h3 ⟨t, c, b, e⟩) (fun cs b e => h4 ⟨cs, b, e⟩)

end Go.Cx
namespace Go.Cx
open Go

theorem bx_eq {α β : Type} (b : Bx α) (f : α → β) : (Bx.rec (motive := fun _ => β) f b : β) = f b.run := by cases b; rfl

noncomputable def rdO (xs : Nat) (ns : List Nat) (env : Env) (st : List Value) (x : Operand) : Value := (opd xs ns x).run env st

theorem opds_eq (xs : Nat) (ns : List Nat) (env : Env) (st : List Value) : ∀ l : List Operand, (opds xs ns l).run env st = l.map (rdO xs ns env st)
  | [] => rfl
  | x :: l => by
    have e : (opds xs ns (x :: l)).run env st = (Bx.rec (motive := fun _ => Value) (fun f => f env st) (opd xs ns x) : Value) :: (Bx.rec (motive := fun _ => List Value) (fun f => f env st) (opds xs ns l) : List Value) := rfl
    rw [e, bx_eq, bx_eq, opds_eq xs ns env st l]
    rfl

theorem opdp_eq (xs : Nat) (ns : List Nat) (env : Env) (st : List Value) : ∀ l : List (Nat × Operand), (opdp xs ns l).run env st = l.map fun p => (p.1, rdO xs ns env st p.2)
  | [] => rfl
  | x :: l => by
    have e : (opdp xs ns (x :: l)).run env st = (x.1, (Bx.rec (motive := fun _ => Value) (fun f => f env st) (opd xs ns x.2) : Value)) :: (Bx.rec (motive := fun _ => List (Nat × Value)) (fun f => f env st) (opdp xs ns l) : List (Nat × Value)) := rfl
    rw [e, bx_eq, bx_eq, opdp_eq xs ns env st l]
    rfl

theorem opdo_eq (xs : Nat) (ns : List Nat) (env : Env) (st : List Value) : ∀ o : Option Operand, (opdo xs ns o).run env st = o.map (rdO xs ns env st)
  | none => rfl
  | some x => by
    have e : (opdo xs ns (some x)).run env st = some (Bx.rec (motive := fun _ => Value) (fun f => f env st) (opd xs ns x) : Value) := rfl
    rw [e, bx_eq]
    rfl

theorem cSh_eq (xs : Nat) (s : Sh) (ns : List Nat) (k : Bx (CallF → Env → List Value → Kv)) (cf : CallF) (env : Env) (st : List Value) (w : W) :
    (cSh xs s ns k).run cf env st w = after env w (k.run cf env st) cf (s.re (rdO xs ns env st) w) := by
  cases s with
  | mv x =>
    show (Bx.rec (motive := fun _ => Ou) (fun f => f cf env st (Bx.rec (motive := fun _ => Value) (fun f => f env st) (opd xs ns x)) w) k : Ou) = _
    rw [bx_eq, bx_eq]; rfl
  | s0 b =>
    show after env w (Bx.rec (motive := fun _ => Kv) (fun f => f cf env st) k) cf (Bx.rec (motive := fun _ => Re) (fun g => g w) b) = _
    rw [bx_eq, bx_eq]; rfl
  | s1 x b =>
    show after env w (Bx.rec (motive := fun _ => Kv) (fun f => f cf env st) k) cf (Bx.rec (motive := fun _ => Re) (fun g => g (Bx.rec (motive := fun _ => Value) (fun f => f env st) (opd xs ns x)) w) b) = _
    rw [bx_eq, bx_eq, bx_eq]; rfl
  | s2 x y b =>
    show after env w (Bx.rec (motive := fun _ => Kv) (fun f => f cf env st) k) cf (Bx.rec (motive := fun _ => Re) (fun g => g (Bx.rec (motive := fun _ => Value) (fun f => f env st) (opd xs ns x)) (Bx.rec (motive := fun _ => Value) (fun f => f env st) (opd xs ns y)) w) b) = _
    rw [bx_eq, bx_eq, bx_eq, bx_eq]; rfl
  | s3 x y z b =>
    show after env w (Bx.rec (motive := fun _ => Kv) (fun f => f cf env st) k) cf (Bx.rec (motive := fun _ => Re) (fun g => g (Bx.rec (motive := fun _ => Value) (fun f => f env st) (opd xs ns x)) (Bx.rec (motive := fun _ => Value) (fun f => f env st) (opd xs ns y)) (Bx.rec (motive := fun _ => Value) (fun f => f env st) (opd xs ns z)) w) b) = _
    rw [bx_eq, bx_eq, bx_eq, bx_eq, bx_eq]; rfl
  | sp l b =>
    show after env w (Bx.rec (motive := fun _ => Kv) (fun f => f cf env st) k) cf (Bx.rec (motive := fun _ => Re) (fun g => g (Bx.rec (motive := fun _ => List (Nat × Value)) (fun f => f env st) (opdp xs ns l)) w) b) = _
    rw [bx_eq, bx_eq, bx_eq, opdp_eq]; rfl
  | sl l b =>
    show after env w (Bx.rec (motive := fun _ => Kv) (fun f => f cf env st) k) cf (Bx.rec (motive := fun _ => Re) (fun g => g (Bx.rec (motive := fun _ => List Value) (fun f => f env st) (opds xs ns l)) w) b) = _
    rw [bx_eq, bx_eq, bx_eq, opds_eq]; rfl
  | sf x l b =>
    show after env w (Bx.rec (motive := fun _ => Kv) (fun f => f cf env st) k) cf (Bx.rec (motive := fun _ => Re) (fun g => g (Bx.rec (motive := fun _ => Value) (fun f => f env st) (opd xs ns x)) (Bx.rec (motive := fun _ => List Value) (fun f => f env st) (opds xs ns l)) w) b) = _
    rw [bx_eq, bx_eq, bx_eq, bx_eq, opds_eq]; rfl
  | so x p q r b =>
    show after env w (Bx.rec (motive := fun _ => Kv) (fun f => f cf env st) k) cf (Bx.rec (motive := fun _ => Re) (fun g => g (Bx.rec (motive := fun _ => Value) (fun f => f env st) (opd xs ns x)) (Bx.rec (motive := fun _ => Option Value) (fun f => f env st) (opdo xs ns p)) (Bx.rec (motive := fun _ => Option Value) (fun f => f env st) (opdo xs ns q)) (Bx.rec (motive := fun _ => Option Value) (fun f => f env st) (opdo xs ns r)) w) b) = _
    rw [bx_eq, bx_eq, bx_eq, bx_eq, bx_eq, bx_eq, opdo_eq, opdo_eq, opdo_eq]; rfl

end Go.Cx
namespace Go.Cx
open Go
variable {g g' : Gh}

def rho (tm : Nat → Value) (x : Operand) : Value := match x with
  | .tmp t => tm t
  | .const v => v
  | .global k => .pointer (some ⟨k, 0, none⟩)
  | .func f => .func (.func f) #[] #[]

noncomputable def slot (xs : Nat) (ns : List Nat) (env : Env) (st : List Value) (t : Nat) : Value := (slotV xs ns t).run env st

structure SlotR (g : Gh) (xs : Nat) (ns : List Nat) (env : Env) (st : List Value) (tm : Nat → Value) : Prop where
  out : ∀ t, has xs t = true → t < 256 → RV g ((getE t).run env) (tm t)
  own : ∀ i t, idx t ns = some i → RV g (st[i]?.getD junkV) (tm t)

theorem junk_rv {v : Value} : RV g junkV v := .one .junk

theorem SlotR.mono {xs : Nat} {ns : List Nat} {env : Env} {st : List Value} {tm : Nat → Value} (hg : GLe g g') (h : SlotR g xs ns env st tm) : SlotR g' xs ns env st tm :=
  ⟨fun t h1 h2 => (h.out t h1 h2).mono hg, fun i t h1 => (h.own i t h1).mono hg⟩

theorem slot_ok {xs : Nat} {ns : List Nat} {env : Env} {st : List Value} {tm : Nat → Value} (h : SlotR g xs ns env st tm) (t : Nat) : RV g (slot xs ns env st t) (tm t) := by
  unfold slot slotV
  cases hi : idx t ns with
  | some i =>
    show RV g (Bx.rec (motive := fun _ => Value) (fun f => f st) (getS i) : Value) (tm t)
    rw [bx_eq, getS_eq]
    exact h.own i t hi
  | none =>
    show RV g ((Bool.rec (motive := fun _ => Src) ⟨fun _ _ => junkV⟩ (Bool.rec (motive := fun _ => Src) ⟨fun _ _ => junkV⟩ ⟨fun env _ => (Bx.rec (motive := fun _ => Value) (fun f => f env) (getE t) : Value)⟩ (Nat.ble (Nat.succ t) 256)) (has xs t) : Src).run env st) (tm t)
    cases hx : has xs t with
    | false => exact junk_rv
    | true =>
      cases hb : Nat.ble (Nat.succ t) 256 with
      | false => exact junk_rv
      | true =>
        show RV g (Bx.rec (motive := fun _ => Value) (fun f => f env) (getE t) : Value) (tm t)
        rw [bx_eq]
        exact h.out t hx (Nat.le_of_ble_eq_true hb)

theorem constV_ok (v : Value) : RV g (constV v) v := by
  unfold constV
  rw [if_eq]
  split
  · rename_i h; exact RV.self h
  · split
    · rename_i cs
      rw [if_eq]
      split
      · rename_i h
        rw [allL_eq, List.all_eq_true] at h
        exact .one (.agg (RCs.self h))
      · exact junk_rv
    · exact .one (.cell (.func .nil .nil))
    · exact junk_rv

theorem rdO_ok {xs : Nat} {ns : List Nat} {env : Env} {st : List Value} {tm : Nat → Value} (h : SlotR g xs ns env st tm) (x : Operand) : RV g (rdO xs ns env st x) (rho tm x) := by
  cases x with
  | tmp t => exact slot_ok h t
  | const v => exact constV_ok v
  | global k => exact .one (.cell (.base .glob))
  | func f => exact .one (.cell (.func .nil .nil))

def setT (tm : Nat → Value) (d : Nat) (v : Value) : Nat → Value := fun t => if t = d then v else tm t

theorem SlotR.put {xs : Nat} {ns : List Nat} {env : Env} {st : List Value} {tm : Nat → Value} (h : SlotR g xs ns env st tm) (hn : ∀ t ∈ ns, has xs t = false) {d : Nat} (hd : has xs d = true) (hb : d < 256) {v v' : Value} (hv : RV g v v') :
    SlotR g xs ns ((putE d).run v env) st (setT tm d v') := by
  refine ⟨fun t ht h256 => ?_, fun i t hi => ?_⟩
  · unfold setT
    split
    · rename_i e; subst e; rw [get_put]; exact hv
    · rename_i hne; rw [get_put' h256 hb hne]; exact h.out t ht h256
  · unfold setT
    split
    · rename_i e
      subst e
      have := List.mem_of_getElem? (idx_some hi).1
      rw [hn _ this] at hd
      cases hd
    · exact h.own i t hi

theorem SlotR.push {xs : Nat} {ns : List Nat} {env : Env} {st : List Value} {tm : Nat → Value} (h : SlotR g xs ns env st tm) {d : Nat} (hd : has xs d = false) {v v' : Value} (hv : RV g v v') :
    SlotR g xs (d :: ns) env (v :: st) (setT tm d v') := by
  refine ⟨fun t ht h256 => ?_, fun i t hi => ?_⟩
  · unfold setT
    split
    · rename_i e; subst e; rw [hd] at ht; cases ht
    · exact h.out t ht h256
  · have hi : (Bool.rec (motive := fun _ => Option Nat) (Option.rec (motive := fun _ => Option Nat) none (fun i => some (Nat.succ i)) (idx t ns)) (some 0) (Nat.beq d t) : Option Nat) = some i := hi
    rw [if_eq] at hi
    unfold setT
    split at hi
    · rename_i e
      have e := Nat.eq_of_beq_eq_true e
      cases hi
      rw [if_pos e.symm]
      exact hv
    · rename_i hne
      have hne : ¬ t = d := fun e => hne (by rw [e]; exact Nat.beq_refl d)
      rw [if_neg hne]
      cases hq : idx t ns with
      | none => rw [hq] at hi; cases hi
      | some j =>
        rw [hq] at hi
        cases hi
        exact h.own j t hq

end Go.Cx
namespace Go.Cx
open Go
variable {g : Gh} {B : Nat} {a : W} {w : World} {P : Program}

theorem chan_put (hr : Rel g B a.h a.n w) {v v' : Value} {p : Nat × Nat × List Value × Bool × Nat × Nat} (e : chanOf a.h v = some p) (hv : RV g v v') {buf buf' : List Value} (hb : All2 (R1 g) buf buf') (cl : Bool) (s q : Nat) :
    ∃ c old, v' = .chan (some c) ∧ w.heap[c]? = some (.chan p.2.1 ⟨old⟩ p.2.2.2.1 p.2.2.2.2.1 p.2.2.2.2.2 false) ∧ All2 (R1 g) p.2.2.1 old ∧
      Kept g B a w g (a.seth (hset a.h p.1 (.chan p.2.1 buf cl s q))) { w with heap := w.heap.setIfInBounds c (.chan p.2.1 ⟨buf'⟩ cl s q false) } := by
  obtain ⟨cp, old, h1, rfl, h2, h3, h4⟩ := chan_at hr e hv
  obtain ⟨rfl, ho⟩ := chanOf_some e
  refine ⟨cp.blk, old, rfl, h3, h4, setOb_ok hr ho h1 trivial trivial h3 ?_⟩
  intro cp' hk
  have : cp' = cp := by rw [h1] at hk; exact (Option.some.inj hk).symm
  subst this
  have hlt : cp'.blk < w.heap.size := (Array.getElem?_eq_some_iff.1 h3).1
  exact ⟨h2, buf', by simp [hlt], hb⟩

end Go.Cx
namespace Go.Cx
open Go
variable {g : Gh}

def Own (xs : Nat) (ns : List Nat) : Prop := ∀ t ∈ ns, has xs t = false

def dstT (tm : Nat → Value) (d : Option Tmp) (v : Value) : Nat → Value := match d with
  | none => tm
  | some d => setT tm d v

theorem cDst_ok {N xs : Nat} {d : Option Tmp} {ns : List Nat} {ih : List Nat → Bx RunS} {cf : CallF} {env : Env} {st : List Value} {v v' : Value} {w : W} {tm : Nat → Value} (hN : N ≤ 256) (h : SlotR g xs ns env st tm) (ho : Own xs ns) (hv : RV g v v') :
    (∃ y, (cDst N xs d ns ih).run cf env st v w = .no y) ∨ ∃ ns' env' st', (∀ t, d = some t → t < N) ∧ (cDst N xs d ns ih).run cf env st v w = (ih ns').run cf env' st' w ∧ SlotR g xs ns' env' st' (dstT tm d v') ∧ Own xs ns' := by
  cases d with
  | none => exact .inr ⟨ns, env, st, fun t ht => (by cases ht), rfl, h, ho⟩
  | some d =>
    cases hb : Nat.ble (Nat.succ d) N with
    | false =>
      refine .inl ⟨141, ?_⟩
      unfold cDst
      simp only [hb]
    | true =>
      have hd : d < N := Nat.le_of_ble_eq_true hb
      cases hx : has xs d with
      | false =>
        refine .inr ⟨d :: ns, env, v :: st, fun t ht => (by cases ht; exact hd), ?_, h.push hx hv, ?_⟩
        · unfold cDst
          simp only [hb, hx]
        · intro t ht
          rcases List.mem_cons.1 ht with rfl | ht
          · exact hx
          · exact ho t ht
      | true =>
        refine .inr ⟨ns, (putE d).run v env, st, fun t ht => (by cases ht; exact hd), ?_, h.put ho hx (Nat.lt_of_lt_of_le hd hN) hv, ho⟩
        unfold cDst
        simp only [hb, hx]

end Go.Cx
namespace Go.Cx
open Go

noncomputable def fin (cf : CallF) (w : W) (r : Re) : Re := match r with
  | .ok v b => .ok v b
  | .ot (.pan v b) => .ot (.pan v b)
  | .ot (.enter f args) => cf f args w
  | .ot (.defer f args) => .ok undefV ⟨w.h, w.n, (f, args) :: w.ds, w.rc⟩
  | .ot (.comm c b sh) => commOp w c b sh
  | .ot .recover => (match w.rc with | .off => no 126 | .pan v => .ok v ⟨w.h, w.n, w.ds, .done v⟩ | _ => .ok .nilIface w)
  | .ot (.no y) => .ot (.no y)

theorem after_eq (env : Env) (w : W) (k : Kv) (cf : CallF) (r : Re) : after env w k cf r = aftCall env k (fin cf w r) := by
  cases r with
  | ok v b => rfl
  | ot r =>
    cases r with
    | recover =>
      show aftRec k w = _
      unfold aftRec fin
      dsimp only
      cases w.rc <;> rfl
    | _ => rfl

def At (P : Program) (dm : Bool) (Q : Exit → Act → List Frame → World → Prop) (ops : Array Oper) (l : List Nat) (a : Act) (cs : List Frame) (w : World) : Prop :=
  ∀ (b : Frame) (k : List Item), (dm = true → b.kind = .deferred ∧ b.roundOf = none) →
    ∃ e a' cs' w', Q e a' cs' w' ∧ Arrives P (lone (b.at a (.inRegion ops l :: k)) cs w) b k cs' e a' w'

section
variable {P : Program} {dm : Bool} {Q : Exit → Act → List Frame → World → Prop} {ops : Array Oper} {i : Nat} {rest : List Nat} {o : Oper} {a : Act} {cs : List Frame} {w w' : World}

theorem at_nil (h : Q .normal a cs w) : At P dm Q ops [] a cs w := fun _ _ _ => ⟨.normal, a, cs, w, h, .one step_region_end⟩

theorem at_not (ho : ops[i]? = some o) (hw : Region.wanted o (yielded ops a.tmps) = false) (h : At P dm Q ops rest (a.put o.dst undef) cs w) : At P dm Q ops (i :: rest) a cs w := by
  intro b k hb
  obtain ⟨e, a', cs', w'', hq, harr⟩ := h b k hb
  have hs := step_op_skip (P := P) (b := b) (a := a) (k := k) (cs := cs) (w := w) (ops := ops) (i := i) (rest := rest) (by simp [ho, hw])
  simp only [ho, Option.bind_some] at hs
  exact ⟨e, a', cs', w'', hq, .of_steps (.one hs) harr⟩


theorem at_val (ho : ops[i]? = some o) (hw : Region.wanted o (yielded ops a.tmps) = true) {v : Value} (hr : (execOp a.eval o).run P w = .ok (.value v) w') (h : At P dm Q ops rest (a.put o.dst v) cs w') : At P dm Q ops (i :: rest) a cs w := by
  intro b k hb
  obtain ⟨e, a', cs', w'', hq, harr⟩ := h b k hb
  refine ⟨e, a', cs', w'', hq, .of_steps (.one (step_lone_go ?_)) harr⟩
  have hfin := Frame.finish_at b a ops i rest k v
  rw [ho] at hfin
  rw [stepG_op (b := b) (k := k) (cs := cs) (w := w) (rest := rest) ho hw]
  simp [stepG.apply, hr, hfin]

theorem at_skip (ho : ops[i]? = some o) (hw : Region.wanted o (yielded ops a.tmps) = true) (hr : (execOp a.eval o).run P w = .ok .skip w') (h : At P dm Q ops rest (a.put o.dst undef) cs w') : At P dm Q ops (i :: rest) a cs w := by
  intro b k hb
  obtain ⟨e, a', cs', w'', hq, harr⟩ := h b k hb
  refine ⟨e, a', cs', w'', hq, .of_steps (.one (step_lone_go ?_)) harr⟩
  have hfin := Frame.finish_at b a ops i rest k undef
  rw [ho] at hfin
  rw [stepG_op (b := b) (k := k) (cs := cs) (w := w) (rest := rest) ho hw]
  simp [stepG.apply, hr, hfin]

theorem at_defer (ho : ops[i]? = some o) (hw : Region.wanted o (yielded ops a.tmps) = true) {d : Deferred} (hr : (execOp a.eval o).run P w = .ok (.defer d) w') (h : At P dm Q ops rest ({ a with defers := d :: a.defers }.put o.dst undef) cs w') : At P dm Q ops (i :: rest) a cs w := by
  intro b k hb
  obtain ⟨e, a', cs', w'', hq, harr⟩ := h b k hb
  refine ⟨e, a', cs', w'', hq, .of_steps (.one (step_lone_go ?_)) harr⟩
  have hfin := Frame.finish_at b { a with defers := d :: a.defers } ops i rest k undef
  rw [ho] at hfin
  rw [stepG_op (b := b) (k := k) (cs := cs) (w := w) (rest := rest) ho hw]
  simp only [stepG.apply, Sem.runT_eq, hr, GStep.bare_after]
  exact congrArg (fun fr => GStep.go { frame := fr, callers := cs, status := .running, dying := none } w') hfin

theorem at_pan (ho : ops[i]? = some o) (hw : Region.wanted o (yielded ops a.tmps) = true) {v : Value} (hr : (execOp a.eval o).run P w = .halt (.panic v) w') (h : Q (.panic [{ v, recovered := false }]) a cs w') : At P dm Q ops (i :: rest) a cs w := by
  intro b k hb
  refine ⟨_, a, cs, w', h, .inRegion ops (i :: rest) :: k, .one (step_lone_go ?_)⟩
  rw [stepG_op (b := b) (k := k) (cs := cs) (w := w) (rest := rest) ho hw, ← Frame.raise_at]
  simp [stepG.apply, hr]

theorem at_call (ho : ops[i]? = some o) (hw : Region.wanted o (yielded ops a.tmps) = true) {f : FuncId} {args : Array Value} {R : Ending → World → Prop} (hr : (execOp a.eval o).run P w = .ok (.enter f args) w') (hc : Calls P f args w' R)
    (h1 : ∀ v w'', R (.returned v) w'' → At P dm Q ops rest (a.put o.dst v) cs w'') (h2 : ∀ ch w'', R (.panicked ch) w'' → Q (.panic ch) a cs w'') (h3 : ∀ w'', ¬ R .outgrown w'') : At P dm Q ops (i :: rest) a cs w := by
  intro b k hb
  obtain ⟨e, w'', fr, hR, hsteps, _, hleave⟩ := hc (b.at a (.inRegion ops (i :: rest) :: k) :: cs)
  have hg := stepG_op (P := P) (b := b) (k := k) (cs := cs) (w := w) (rest := rest) ho hw
  have henter : step P (lone (b.at a (.inRegion ops (i :: rest) :: k)) cs w) = .next (lone (Frame.enter P f args .normal) (b.at a (.inRegion ops (i :: rest) :: k) :: cs) w') :=
    step_lone_go (by rw [hg]; simp [stepG.apply, hr, Frame.at])
  cases e with
  | returned v =>
    obtain ⟨e, a', cs'', w₃, hq, harr⟩ := h1 _ _ hR b k hb
    refine ⟨e, a', cs'', w₃, hq, .of_steps (.head henter (Steps.trans hsteps (.one ?_))) harr⟩
    have hfin := Frame.finish_at b a ops i rest k v
    rw [ho] at hfin
    have hfin : (b.at a (.inRegion ops (i :: rest) :: k)).finish v = b.at (a.put o.dst v) (.inRegion ops rest :: k) := hfin
    rw [← hfin]; exact step_leave_returned hleave
  | panicked chain =>
    refine ⟨.panic chain, a, cs, w'', h2 _ _ hR, .inRegion ops (i :: rest) :: k, .head henter (Steps.trans hsteps (.one ?_))⟩
    rw [← Frame.raise_at]; exact step_leave_panicked hleave
  | outgrown => exact absurd hR (h3 _)

theorem at_recover (ho : ops[i]? = some o) (hw : Region.wanted o (yielded ops a.tmps) = true) {v : Value} {cs1 : List Frame} (hdm : dm = true) (hr : (execOp a.eval o).run P w = .ok .recover w') (hrec : recoverD cs = some (v, cs1)) (h : At P dm Q ops rest (a.put o.dst v) cs1 w') : At P dm Q ops (i :: rest) a cs w := by
  intro b k hb
  obtain ⟨e, a', cs', w'', hq, harr⟩ := h b k hb
  have hk : (b.at a (.inRegion ops (i :: rest) :: k)).kind = .deferred := (hb hdm).1
  have htr := tryRecover_deferred hk cs
  refine ⟨e, a', cs', w'', hq, .of_steps (.one (step_lone_go ?_)) harr⟩
  have hfin := Frame.finish_at b a ops i rest k v
  rw [ho] at hfin
  have hfin : (b.at a (.inRegion ops (i :: rest) :: k)).finish v = b.at (a.put o.dst v) (.inRegion ops rest :: k) := hfin
  rw [stepG_op (b := b) (k := k) (cs := cs) (w := w) (rest := rest) ho hw, ← hfin]
  have hro := (hb hdm).2
  simp only [Frame.at] at htr ⊢
  simp [stepG.apply, hr, htr, hrec]

theorem at_recover0 (ho : ops[i]? = some o) (hw : Region.wanted o (yielded ops a.tmps) = true) (hdm : dm = true) (hr : (execOp a.eval o).run P w = .ok .recover w') (hrec : recoverD cs = none) (h : At P dm Q ops rest (a.put o.dst .nilIface) cs w') : At P dm Q ops (i :: rest) a cs w := by
  intro b k hb
  obtain ⟨e, a', cs', w'', hq, harr⟩ := h b k hb
  have hk : (b.at a (.inRegion ops (i :: rest) :: k)).kind = .deferred := (hb hdm).1
  have htr := tryRecover_deferred hk cs
  refine ⟨e, a', cs', w'', hq, .of_steps (.one (step_lone_go ?_)) harr⟩
  have hfin := Frame.finish_at b a ops i rest k .nilIface
  rw [ho] at hfin
  have hfin : (b.at a (.inRegion ops (i :: rest) :: k)).finish .nilIface = b.at (a.put o.dst .nilIface) (.inRegion ops rest :: k) := hfin
  rw [stepG_op (b := b) (k := k) (cs := cs) (w := w) (rest := rest) ho hw, ← hfin]
  simp only [Frame.at] at htr ⊢
  simp [stepG.apply, hr, htr, hrec]

theorem at_comm (ho : ops[i]? = some o) (hw : Region.wanted o (yielded ops a.tmps) = true) {c : CommCase} {bl : Bool} {sh : CommShape} {v : Value} {w1 : World} (hr : (execOp a.eval o).run P w = .ok (.comm #[c] bl sh) w1)
    (hst : ∀ fr es, stepG P true (Conc.G fr cs) w = .comm (Conc.G fr cs) #[c] bl sh w1 es → step P (Conc.solo (Conc.G fr cs) w) = .next (Conc.solo (Conc.G (fr.finish v) cs) w'))
    (h : At P dm Q ops rest (a.put o.dst v) cs w') : At P dm Q ops (i :: rest) a cs w := by
  intro b k hb
  obtain ⟨e, a', cs', w'', hq, harr⟩ := h b k hb
  have hfin := Frame.finish_at b a ops i rest k v
  rw [ho] at hfin
  have hfin : (b.at a (.inRegion ops (i :: rest) :: k)).finish v = b.at (a.put o.dst v) (.inRegion ops rest :: k) := hfin
  have hg := stepG_op (P := P) (b := b) (k := k) (cs := cs) (w := w) (rest := rest) ho hw
  have : ∃ es, stepG P true (Conc.G (b.at a (.inRegion ops (i :: rest) :: k)) cs) w = .comm (Conc.G (b.at a (.inRegion ops (i :: rest) :: k)) cs) #[c] bl sh w1 es := by
    unfold Conc.G
    rw [hg]
    simp [stepG.apply, Sem.runT_eq, hr, GStep.after]
  obtain ⟨es, hes⟩ := this
  refine ⟨e, a', cs', w'', hq, .of_steps (.one ?_) harr⟩
  have := hst _ es hes
  rw [hfin] at this
  exact this

end
end Go.Cx
namespace Go.Cx
open Go Go.RowKit
variable {g g' : Gh} {B : Nat} {P : Program} {dm : Bool}

def DfR (g : Gh) (p : FuncId × List Value) (d : Deferred) : Prop := ∃ xs ys cs, d = { target := .fn (.func p.1) ⟨cs⟩, args := ⟨xs ++ ys⟩ } ∧ All2 (RV g) p.2 (xs ++ (ys ++ cs))
theorem DfR.mono {p : FuncId × List Value} {d : Deferred} (hg : GLe g g') (h : DfR g p d) : DfR g' p d := by
  obtain ⟨xs, ys, cs, h1, h2⟩ := h
  exact ⟨xs, ys, cs, h1, h2.mono fun _ _ h => h.mono hg⟩

def CsR (dm : Bool) (cs0 : List Frame) (rc : Rc) (cs : List Frame) : Prop := match rc with
  | .off => dm = false ∧ cs = cs0
  | .idle => dm = true ∧ ∃ c r, cs0 = c :: r ∧ cs = { c with mode := .returning } :: r
  | .pan v => dm = true ∧ cellV v = true ∧ ∃ c r, cs0 = c :: r ∧ cs = { c with mode := .panicking [{ v, recovered := false }] } :: r
  | .done v => dm = true ∧ ∃ c r, cs0 = c :: r ∧ cs = { c with mode := .panicking [{ v, recovered := true }] } :: r

def CallR (P : Program) (g : Gh) (B : Nat) (a : W) (w : World) (f : FuncId) (args' : List Value) : Re → Prop
  | .ok v b => Calls P f ⟨args'⟩ w fun e w' => ∃ v' g', e = .returned v' ∧ RV g' v v' ∧ Kept g B a w g' b w'
  | .ot (.pan v b) => Calls P f ⟨args'⟩ w fun e w' => ∃ g', e = .panicked [{ v, recovered := false }] ∧ cellV v = true ∧ Kept g B a w g' b w'
  | _ => True
structure Bs (gB : Gh) (wB : World) (B : Nat) (g : Gh) (a : W) (w : World) : Prop where
  gle : GLe gB g
  wle : Below wB.heap.size wB w
  ble : wB.heap.size ≤ B
  rel : Rel g B a.h a.n w

theorem Bs.ext {gB : Gh} {wB : World} {g g' : Gh} {a b : W} {w w' : World} (h : Bs gB wB B g a w) (he : Ext g B a.h a.n w g' b.h b.n w') : Bs gB wB B g' b w' := by
  refine ⟨h.gle.trans he.ex.le, ⟨he.ex.os.trans h.wle.os, he.ex.tape.trans h.wle.tape, he.ex.output.trans h.wle.output, Nat.le_trans h.wle.size he.ex.size, fun k hk => ?_⟩, h.ble, he.rel⟩
  rw [← h.wle.block k hk]
  refine he.ex.fr k (Nat.lt_of_lt_of_le hk h.wle.size) fun i j cp hl hg e => ?_
  have := h.rel.low i j cp hl hg
  have := h.ble
  omega

def CfOk (P : Program) (gB : Gh) (wB : World) (cf : CallF) : Prop := ∀ (f : FuncId) (args args' : List Value) (g : Gh) (B : Nat) (a : W) (w : World), Bs gB wB B g a w → All2 (RV g) args args' → CallR P g B a w f args' (cf f args a)

def OpR (P : Program) (dm : Bool) (B : Nat) (g : Gh) (cs0 : List Frame) (W0 : W) (w : World) (ops : Array Oper) (i : Nat) (o : Oper) (a : Act) (cs : List Frame) : Re → Prop
  | .ok v b => ∀ rest Q, (∀ g' v' w' cs' ds', Ext g B W0.h W0.n w g' b.h b.n w' → RV g' v v' → All2 (DfR g') b.ds ds' → CsR dm cs0 b.rc cs' →
      At P dm Q ops rest ({ a with defers := ds' }.put o.dst v') cs' w') → At P dm Q ops (i :: rest) a cs w
  | .ot (.pan v b) => ∀ rest Q, (∀ g' w', cellV v = true → Kept g B W0 w g' b w' → Q (.panic [{ v, recovered := false }]) a cs w') → At P dm Q ops (i :: rest) a cs w
  | _ => True

theorem undefV_rv : RV g undefV undef := .tuple .nil

theorem extract_tail (x : Value) (l : List Value) : (⟨x :: l⟩ : Array Value).extract 1 (⟨x :: l⟩ : Array Value).size = ⟨l⟩ := by
  apply Array.ext'; simp

theorem chan_old {o : Option Obj} {cap cap2 s q s2 q2 : Nat} {x y : List Value} {cl cl2 b b2 : Bool} (h : o = some (.chan cap ⟨x⟩ cl s q b)) (h2 : o = some (.chan cap2 ⟨y⟩ cl2 s2 q2 b2)) : x = y := by
  rw [h] at h2
  injection h2 with h2
  injection h2 with _ h2
  injection h2

theorem comm_step {a : W} {w : World} {cs : List Frame} (hr : Rel g B a.h a.n w) {c c' : Value} {x x' : Option Value} {z v : Value} {bl : Bool} {sh : CommShape} {b : W} (hc : RV g c c') (hx : RO g x x') (hz : x = none → R1 g z z)
    (he : commOp a (c, x, z) bl sh = .ok v b) : ∃ v' w', RV g v v' ∧ Kept g B a w g b w' ∧
      ∀ fr es, stepG P true (Conc.G fr cs) w = .comm (Conc.G fr cs) #[{ chan := c', send := x', zero := z }] bl sh w es → step P (Conc.solo (Conc.G fr cs) w) = .next (Conc.solo (Conc.G (fr.finish v') cs) w') := by
  unfold commOp at he
  split at he
  case h_2 => cases he
  rename_i p hp
  obtain ⟨cp, old, h1, rfl, h2, h3, h4⟩ := chan_at hr hp hc
  unfold commRe at he
  dsimp only at he
  split at he
  · -- a send with room
    rename_i r cap buf s q y
    rw [if_eq] at he
    split at he
    case isFalse => cases he
    rename_i hn
    rw [if_eq] at he
    split at he
    case isFalse => cases he
    rename_i hroom
    have hroom := Nat.le_of_ble_eq_true hroom
    rw [len_eq] at hroom
    cases he
    cases hx with
    | some hy =>
      rename_i y'
      have hy1 := hy.one_of hn
      obtain ⟨cb, old2, e2, h5, h6, h7⟩ := chan_put (buf := app buf [y]) (buf' := old ++ [y']) hr hp hc (by rw [app_eq]; exact h4.append (.cons hy1 .nil)) false (s + 1) q
      cases e2
      refine ⟨undef, _, undefV_rv, h7, fun fr es h => ?_⟩
      have hl := h4.length
      have := Conc.step_lone_send_room (c := cp.blk) (v := y') (z' := z) h h3 (by show old.length < cap; dsimp only at hl hroom; omega)
      rw [this]
      simp [World.setChan, List.push_toArray]
  · -- a select that sends
    rename_i r cap buf s q y
    rw [if_eq] at he
    split at he
    case isFalse => cases he
    rename_i hn
    rw [if_eq] at he
    split at he
    case isFalse => cases he
    rename_i hroom
    have hroom := Nat.le_of_ble_eq_true hroom
    rw [len_eq] at hroom
    cases he
    cases hx with
    | some hy =>
      rename_i y'
      have hy1 := hy.one_of hn
      obtain ⟨cb, old2, e2, h5, h6, h7⟩ := chan_put (buf := app buf [y]) (buf' := old ++ [y']) hr hp hc (by rw [app_eq]; exact h4.append (.cons hy1 .nil)) false (s + 1) q
      cases e2
      refine ⟨.tuple #[.int .i64 0, .bool false], _, .tuple (.cons (.cell (.base (.same rfl))) (.cons (.cell (.base (.same rfl))) .nil)), h7, fun fr es h => ?_⟩
      have hl := h4.length
      have := Conc.step_lone_select_send_room (c := cp.blk) (v := y') (z' := z) h h3 (by show old.length < cap; dsimp only at hl hroom; omega)
      rw [this]
      simp [World.setChan, List.push_toArray, goInt]
  · -- a receive
    rename_i r cap y buf cl s q ok
    cases he
    cases hx
    cases old with
    | nil => cases h4
    | cons y' old =>
      cases h4 with
      | cons hy h4 =>
        obtain ⟨cb, old2, e2, h5, h6, h7⟩ := chan_put (buf := buf) (buf' := old) hr hp hc h4 cl s (q + 1)
        cases e2
        refine ⟨okV ok y' true, _, ?_, h7, fun fr es h => ?_⟩
        · cases ok
          · exact .one hy
          · exact .tuple (.cons hy (.cons (.cell (.base (.same rfl))) .nil))
        · have := Conc.step_lone_recv_buf ok (c := cp.blk) (z := z) h h3 (by simp)
          rw [this, extract_tail]
          cases ok <;> rfl
  · -- of a closed channel
    rename_i r cap s q ok
    cases he
    cases hx
    cases old with
    | cons y' old => cases h4
    | nil =>
      have hz1 := hz rfl
      refine ⟨okV ok z false, w, okV_rv hz1, Kept.refl hr, fun fr es h => ?_⟩
      have := Conc.step_lone_recv_shut ok (c := cp.blk) (z := z) h h3
      rw [this]
      cases ok <;> rfl
  · -- a select that finds something
    rename_i r cap y buf cl s q
    cases he
    cases hx
    cases old with
    | nil => cases h4
    | cons y' old =>
      cases h4 with
      | cons hy h4 =>
        obtain ⟨cb, old2, e2, h5, h6, h7⟩ := chan_put (buf := buf) (buf' := old) hr hp hc h4 cl s (q + 1)
        cases e2
        refine ⟨.tuple #[.int .i64 0, .bool true, y'], _, .tuple (.cons (.cell (.base (.same rfl))) (.cons (.cell (.base (.same rfl))) (.cons hy .nil))), h7, fun fr es h => ?_⟩
        have := Conc.step_lone_select_recv_buf (c := cp.blk) (z := z) h h3 (by simp)
        rw [this, extract_tail]
        rfl
  · -- a select that finds nothing
    rename_i r cap s q
    cases he
    cases hx
    cases old with
    | cons y' old => cases h4
    | nil =>
      have hz1 := hz rfl
      refine ⟨.tuple #[.int .i64 (-1), .bool false, z], w, .tuple (.cons (.cell (.base (.same rfl))) (.cons (.cell (.base (.same rfl))) (.cons hz1 .nil))), Kept.refl hr, fun fr es h => ?_⟩
      have := Conc.step_lone_select_default (c := cp.blk) (z := z) h h3
      rw [this]
      rfl
  · cases he

theorem comm_no {a : W} {c : Value × Option Value × Value} {bl : Bool} {sh : CommShape} {r : Ro} (h : commOp a c bl sh = .ot r) : ∃ y, r = .no y := by
  unfold commOp at h
  split at h
  · unfold commRe at h
    split at h
    · rw [if_eq] at h
      split at h
      · rw [if_eq] at h
        split at h
        · cases h
        · cases h; exact ⟨_, rfl⟩
      · cases h; exact ⟨_, rfl⟩
    · rw [if_eq] at h
      split at h
      · rw [if_eq] at h
        split at h
        · cases h
        · cases h; exact ⟨_, rfl⟩
      · cases h; exact ⟨_, rfl⟩
    all_goals first | (cases h; exact ⟨_, rfl⟩) | cases h
  · cases h; exact ⟨_, rfl⟩

theorem op_step {gB : Gh} {wB : World} {cf : CallF} (hP : NoNum P) (hcf : CfOk P gB wB cf) {W0 : W} {w : World} {a : Act} {cs cs0 : List Frame} {ops : Array Oper} {i : Nat} {o : Oper} (hB : Bs gB wB B g W0 w) (hd : All2 (DfR g) W0.ds a.defers) (hc : CsR dm cs0 W0.rc cs)
    (ho : ops[i]? = some o) (hw : Region.wanted o (yielded ops a.tmps) = true) {f : Operand → Value} (h : ∀ x, RV g (f x) (a.eval x)) :
    OpR P dm B g cs0 W0 w ops i o a cs (fin cf W0 ((cOp P o.op o.type).re f W0)) := by
  have hr := hB.rel
  have hR := op_all (o := o) hP hr h
  generalize (cOp P o.op o.type).re f W0 = re at hR
  cases re with
  | ok v b =>
    obtain ⟨nx, w', g', hrun, hk, hv⟩ := hR
    have hd' : All2 (DfR g') b.ds a.defers := by rw [hk.ds]; exact hd.mono fun _ _ h => h.mono hk.ext.ex.le
    have hc' : CsR dm cs0 b.rc cs := by rw [hk.rc]; exact hc
    rcases hv with ⟨v', rfl, hv⟩ | ⟨rfl, rfl⟩
    · exact fun rest Q hq => at_val ho hw hrun (hq g' v' w' cs a.defers hk.ext hv hd' hc')
    · exact fun rest Q hq => at_skip ho hw hrun (hq g' undef w' cs a.defers hk.ext undefV_rv hd' hc')
  | ot r =>
    cases r with
    | pan v b =>
      obtain ⟨w', g', hrun, hv, hk⟩ := hR
      exact fun rest Q hq => at_pan ho hw hrun (hq g' w' hv hk)
    | enter fn args =>
      obtain ⟨args', hrun, ha⟩ := hR
      have hcall := hcf fn args args' g B W0 w hB ha
      show OpR P dm B g cs0 W0 w ops i o a cs (cf fn args W0)
      generalize cf fn args W0 = r at hcall
      cases r with
      | ok v b =>
        refine fun rest Q hq => at_call ho hw hrun hcall ?_ ?_ ?_
        · rintro v1 w1 ⟨v', g', e, hv, hk⟩
          cases e
          exact hq g' _ w1 cs a.defers hk.ext hv (by rw [hk.ds]; exact hd.mono fun _ _ h => h.mono hk.ext.ex.le) (by rw [hk.rc]; exact hc)
        · rintro ch w1 ⟨v', g', e, _⟩; cases e
        · rintro w1 ⟨v', g', e, _⟩; cases e
      | ot r =>
        cases r with
        | pan v b =>
          refine fun rest Q hq => at_call ho hw hrun hcall ?_ ?_ ?_
          · rintro v1 w1 ⟨g', e, _⟩; cases e
          · rintro ch w1 ⟨g', e, hv, hk⟩
            cases e
            exact hq g' w1 hv hk
          · rintro w1 ⟨g', e, _⟩; cases e
        | _ => exact trivial
    | defer fn args =>
      obtain ⟨xs, ys, ks, hrun, ha⟩ := hR
      exact fun rest Q hq => at_defer ho hw hrun (hq g undef w cs _ (Ext.refl hr) undefV_rv (.cons ⟨xs, ys, ks, rfl, ha⟩ hd) hc)
    | comm c bl sh =>
      obtain ⟨c, x, z⟩ := c
      obtain ⟨c', x', hrun, h1, h2, h3⟩ := hR
      show OpR P dm B g cs0 W0 w ops i o a cs (commOp W0 (c, x, z) bl sh)
      cases he : commOp W0 (c, x, z) bl sh with
      | ok v b =>
        obtain ⟨v', w', hv, hk, hst⟩ := comm_step (P := P) (cs := cs) hr h1 h2 h3 he
        exact fun rest Q hq => at_comm ho hw hrun hst (hq g v' w' cs a.defers hk.ext hv (by rw [hk.ds]; exact hd) (by rw [hk.rc]; exact hc))
      | ot r =>
        obtain ⟨y, rfl⟩ := comm_no he
        exact trivial
    | recover =>
      have hrun : (execOp a.eval o).run P w = .ok .recover w := hR
      show OpR P dm B g cs0 W0 w ops i o a cs (match W0.rc with | .off => no 126 | .pan v => .ok v ⟨W0.h, W0.n, W0.ds, .done v⟩ | _ => .ok .nilIface W0)
      obtain ⟨hh, hn, hds, rc⟩ := W0
      cases rc with
      | off => exact trivial
      | idle =>
        obtain ⟨hdm, c0, r0, e1, e2⟩ := hc
        exact fun rest Q hq => at_recover0 ho hw hdm hrun (by rw [e2]; rfl) (hq g .nilIface w cs a.defers (Ext.refl hr) (.one (.cell (.base (.same rfl)))) hd ⟨hdm, c0, r0, e1, e2⟩)
      | pan v =>
        obtain ⟨hdm, hv, c0, r0, e1, e2⟩ := hc
        exact fun rest Q hq => at_recover ho hw hdm hrun (by rw [e2]; rfl) (hq g v w ({ c0 with mode := .panicking [{ v, recovered := true }] } :: r0) a.defers (Ext.refl hr) (RV.self hv) hd ⟨hdm, c0, r0, e1, rfl⟩)
      | done v =>
        obtain ⟨hdm, c0, r0, e1, e2⟩ := hc
        exact fun rest Q hq => at_recover0 ho hw hdm hrun (by rw [e2]; rfl) (hq g .nilIface w cs a.defers (Ext.refl hr) (.one (.cell (.base (.same rfl)))) hd ⟨hdm, c0, r0, e1, e2⟩)
    | no y => exact trivial

end Go.Cx
namespace Go.Cx
open Go
variable {B : Nat} {P : Program} {dm : Bool}

def tmA (a : Act) (t : Nat) : Value := a.tmps.getD t undef

theorem eval_rho (a : Act) : a.eval = rho (tmA a) := by
  funext x; cases x <;> rfl

theorem tmA_put {a : Act} {d : Option Tmp} {v : Value} (h : ∀ t, d = some t → t < a.tmps.size) (ds : List Deferred) : tmA ({ a with defers := ds }.put d v) = dstT (tmA a) d v := by
  cases d with
  | none => rfl
  | some d =>
    funext t
    have hd := h d rfl
    by_cases e : t = d
    · subst e
      simp [tmA, Act.put, dstT, setT, Array.getD_eq_getD_getElem?, hd]
    · simp [tmA, Act.put, dstT, setT, Array.getD_eq_getD_getElem?, e, Array.getElem?_setIfInBounds_ne (Ne.symm e)]

theorem size_put {a : Act} {d : Option Tmp} {v : Value} (ds : List Deferred) : ({ a with defers := ds }.put d v).tmps.size = a.tmps.size := by
  cases d <;> simp [Act.put]

structure St (P : Program) (dm : Bool) (B N xs : Nat) (cs0 : List Frame) (g0 : Gh) (W0 : W) (w0 : World) (ns : List Nat) (env : Env) (st : List Value) (W : W) (g : Gh) (a : Act) (cs : List Frame) (w : World) : Prop where
  ext : Ext g0 B W0.h W0.n w0 g W.h W.n w
  sl : SlotR g xs ns env st (tmA a)
  own : Own xs ns
  size : N ≤ a.tmps.size
  ds : All2 (DfR g) W.ds a.defers
  cs : CsR dm cs0 W.rc cs

def Post (P : Program) (dm : Bool) (B N xs : Nat) (cs0 : List Frame) (g0 : Gh) (W0 : W) (w0 : World) (r : Ou) (e : Exit) (a : Act) (cs : List Frame) (w : World) : Prop := match r with
  | .go env W => e = .normal ∧ ∃ g, St P dm B N xs cs0 g0 W0 w0 [] env [] W g a cs w
  | .ex id env W => e = .exit id ∧ ∃ g, St P dm B N xs cs0 g0 W0 w0 [] env [] W g a cs w
  | .ret env W => e = .ret ∧ ∃ g, St P dm B N xs cs0 g0 W0 w0 [] env [] W g a cs w
  | .pan v env W => e = .panic [{ v, recovered := false }] ∧ cellV v = true ∧ ∃ g, St P dm B N xs cs0 g0 W0 w0 [] env [] W g a cs w
  | .no _ => False

def Meets (r : Ou) (X : Prop) : Prop := match r with
  | .no _ => True
  | _ => X

theorem Meets.of {r : Ou} {X : Prop} (h : X) : Meets r X := by cases r <;> first | exact h | exact trivial
theorem Meets.mp {r : Ou} {X Y : Prop} (h : Meets r X) (f : X → Y) : Meets r Y := by cases r <;> first | exact f h | exact trivial

theorem SlotR.drop {g : Gh} {xs : Nat} {ns : List Nat} {env : Env} {st : List Value} {tm : Nat → Value} (h : SlotR g xs ns env st tm) : SlotR g xs [] env [] tm :=
  ⟨h.out, fun i t hi => by cases hi⟩

theorem guardOf_yes {want : Bool} {v : Value} (h : guardOf want v = .yes) : v = .bool want := by
  unfold guardOf at h
  split at h
  · rename_i b; cases want <;> cases b <;> first | rfl | cases h
  · cases h
  · cases h
theorem guardOf_not {want : Bool} {v : Value} (h : guardOf want v = .not) : v = .bool (!want) ∨ v = .tuple ⟨[]⟩ := by
  unfold guardOf at h
  split at h
  · rename_i b; cases want <;> cases b <;> first | exact .inl rfl | cases h
  · exact .inr rfl
  · cases h

theorem RV.unit {g : Gh} {v' : Value} (h : RV g (.tuple ⟨[]⟩) v') : v' = .tuple ⟨[]⟩ := by
  cases h with
  | one h => cases h with
    | cell h => cases h with
      | base h => cases h; rename_i h; cases h
  | tuple h => cases h; rfl

theorem wanted_of {g : Gh} {a : Act} {ops : Array Oper} {o q : Oper} {j d : Nat} {want : Bool} (hg : o.guard = some (j, want)) (hq : ops[j]? = some q) (hd : q.dst = some d) {v : Value} (hv : RV g v (tmA a d)) :
    (guardOf want v = .yes → Region.wanted o (yielded ops a.tmps) = true) ∧ (guardOf want v = .not → Region.wanted o (yielded ops a.tmps) = false) := by
  have hy : yielded ops a.tmps j = match a.tmps[d]? with | some (.bool b) => some b | _ => none := by
    unfold yielded
    rw [hq]
    simp only [Option.bind_some, hd]
    rfl
  have hw : Region.wanted o (yielded ops a.tmps) = (yielded ops a.tmps j == some want) := by
    unfold Region.wanted
    rw [hg]
  have ht : tmA a d = (a.tmps[d]?).getD undef := by rw [← Array.getD_eq_getD_getElem?]; rfl
  rw [ht] at hv
  rw [hw, hy]
  refine ⟨fun h => ?_, fun h => ?_⟩
  · have := guardOf_yes h; subst this
    have hb := hv.bool
    cases hs : a.tmps[d]? with
    | none => rw [hs] at hb; cases hb
    | some u =>
      rw [hs] at hb
      have hb : u = _ := hb
      subst hb
      cases want <;> rfl
  · rcases guardOf_not h with rfl | rfl
    · have hb := hv.bool
      cases hs : a.tmps[d]? with
      | none => rfl
      | some u =>
        rw [hs] at hb
        have hb : u = _ := hb
        subst hb
        cases want <;> rfl
    · have hb := hv.unit
      cases hs : a.tmps[d]? with
      | none => rfl
      | some u =>
        rw [hs] at hb
        have hb : u = _ := hb
        subst hb
        rfl

theorem guard_ok {g : Gh} {xs : Nat} {ns : List Nat} {env : Env} {st : List Value} {a : Act} (h : SlotR g xs ns env st (tmA a)) {ops : Array Oper} {o : Oper} {j : Nat} {want : Bool} (hg : o.guard = some (j, want)) :
    ((cGuard xs ops.toList ns (j, want)).run env st = .yes → Region.wanted o (yielded ops a.tmps) = true) ∧ ((cGuard xs ops.toList ns (j, want)).run env st = .not → Region.wanted o (yielded ops a.tmps) = false) := by
  unfold cGuard
  rw [nth_eq]
  cases hq : ops.toList[j]? with
  | none => exact ⟨fun h => (by cases h), fun h => (by cases h)⟩
  | some q =>
    dsimp only
    cases hd : q.dst with
    | none => exact ⟨fun h => (by cases h), fun h => (by cases h)⟩
    | some d => exact wanted_of hg (by rw [← hq]; simp) hd (slot_ok h d)

theorem guarded_eq (xs : Nat) (all : List Oper) (ns : List Nat) (o : Oper) (b : Bx RunS) (k : Bx (CallF → Env → List Value → Kv)) (cf : CallF) (env : Env) (st : List Value) (w : W) :
    (cGuarded xs all ns o.guard b k).run cf env st w = match o.guard with
      | none => b.run cf env st w
      | some g => (match (cGuard xs all ns g).run env st with | .yes => b.run cf env st w | .not => k.run cf env st undefV w | .bad => .no 127) := by
  unfold cGuarded
  cases o.guard with
  | none => rfl
  | some g =>
    show Gd.rec (motive := fun _ => Ou) _ _ _ ((cGuard xs all ns g).run env st) = _
    dsimp only
    cases (cGuard xs all ns g).run env st <;> rfl

theorem cOps_cons (N xs : Nat) (all : List Oper) (o : Oper) (l : List Oper) (ns : List Nat) :
    cOps P N xs all (o :: l) ns = cGuarded xs all ns o.guard (cSh xs (cOp P o.op o.type) ns (cDst N xs o.dst ns (cOps P N xs all l))) (cDst N xs o.dst ns (cOps P N xs all l)) := rfl

section
variable {N xs : Nat} {cs0 : List Frame} {g0 : Gh} {W0 : W} {w0 : World} {cf : CallF}

theorem plain_ops {gB : Gh} {wB : World} (hP : NoNum P) (hcf : CfOk P gB wB cf) (hB : Bs gB wB B g0 W0 w0) (hN : N ≤ 256) (ops : Array Oper) : ∀ (l : List Oper) (j : Nat) (ns : List Nat) (env : Env) (st : List Value) (U : W) (g : Gh) (a : Act) (cs : List Frame) (w : World), ops.toList.drop j = l →
    St P dm B N xs cs0 g0 W0 w0 ns env st U g a cs w →
    Meets ((cOps P N xs ops.toList l ns).run cf env st U) (At P dm (Post P dm B N xs cs0 g0 W0 w0 ((cOps P N xs ops.toList l ns).run cf env st U)) ops (List.range' j l.length) a cs w)
  | [], j, ns, env, st, U, g, a, cs, w, _, hs => at_nil ⟨rfl, g, hs.ext, hs.sl.drop, (fun _ h => by cases h), hs.size, hs.ds, hs.cs⟩
  | o :: l, j, ns, env, st, U, g, a, cs, w, hl, hs => by
    have ho : ops[j]? = some o := by
      have : (ops.toList.drop j)[0]? = some o := by rw [hl]; rfl
      rw [List.getElem?_drop] at this
      simpa using this
    have hl' : ops.toList.drop (j + 1) = l := by
      have : (ops.toList.drop j).drop 1 = l := by rw [hl]; rfl
      rw [List.drop_drop] at this
      simpa [Nat.add_comm] using this
    have ih := plain_ops hP hcf hB hN ops l (j + 1)
    have hrange : List.range' j (o :: l).length = j :: List.range' (j + 1) l.length := by simp [List.range'_succ]
    rw [hrange, cOps_cons]
    have next : ∀ (v v' : Value) (W' : W) (g' : Gh) (w' : World) (cs' : List Frame) (ds' : List Deferred), Ext g0 B W0.h W0.n w0 g' W'.h W'.n w' → GLe g g' → RV g' v v' → All2 (DfR g') W'.ds ds' → CsR dm cs0 W'.rc cs' →
        Meets ((cDst N xs o.dst ns (cOps P N xs ops.toList l)).run cf env st v W')
          (At P dm (Post P dm B N xs cs0 g0 W0 w0 ((cDst N xs o.dst ns (cOps P N xs ops.toList l)).run cf env st v W')) ops (List.range' (j + 1) l.length) ({ a with defers := ds' }.put o.dst v') cs' w') := by
      intro v v' W' g' w' cs' ds' he hg hv hd hc
      rcases cDst_ok (ih := cOps P N xs ops.toList l) (cf := cf) (w := W') (d := o.dst) hN (hs.sl.mono hg) hs.own hv with ⟨y, hy⟩ | ⟨ns', env', st', hd', hrun, hsl, hown⟩
      · rw [hy]; exact trivial
      · rw [hrun]
        refine ih ns' env' st' W' g' _ cs' w' hl' ⟨he, ?_, hown, ?_, ?_, hc⟩
        · rw [tmA_put fun t ht => Nat.lt_of_lt_of_le (hd' t ht) hs.size]; exact hsl
        · rw [size_put]; exact hs.size
        · cases o.dst <;> exact hd
    have wanted : Region.wanted o (yielded ops a.tmps) = true → Meets ((cSh xs (cOp P o.op o.type) ns (cDst N xs o.dst ns (cOps P N xs ops.toList l))).run cf env st U)
        (At P dm (Post P dm B N xs cs0 g0 W0 w0 ((cSh xs (cOp P o.op o.type) ns (cDst N xs o.dst ns (cOps P N xs ops.toList l))).run cf env st U)) ops (j :: List.range' (j + 1) l.length) a cs w) := by
      intro hw
      rw [cSh_eq, after_eq]
      have hstep := op_step (dm := dm) (cs0 := cs0) (f := rdO xs ns env st) hP hcf (hB.ext hs.ext) hs.ds hs.cs ho hw (by rw [eval_rho]; exact rdO_ok hs.sl)
      generalize fin cf U ((cOp P o.op o.type).re (rdO xs ns env st) U) = r at hstep
      cases r with
      | ok v b =>
        show Meets ((cDst N xs o.dst ns (cOps P N xs ops.toList l)).run cf env st v b) (At P dm (Post P dm B N xs cs0 g0 W0 w0 ((cDst N xs o.dst ns (cOps P N xs ops.toList l)).run cf env st v b)) ops _ a cs w)
        cases hr : (cDst N xs o.dst ns (cOps P N xs ops.toList l)).run cf env st v b with
        | no y => exact trivial
        | _ =>
          rw [← hr]
          refine Meets.of (hstep _ _ fun g' v' w' cs' ds' he hv hd hc => ?_)
          have := next v v' b g' w' cs' ds' (hs.ext.trans he) he.ex.le hv hd hc
          rw [hr] at this ⊢
          exact this
      | ot r =>
        cases r with
        | pan v b =>
          show At P dm _ ops _ a cs w
          refine hstep _ _ fun g' w' hv hk => ⟨rfl, hv, g', hs.ext.trans hk.ext, (hs.sl.mono hk.ext.ex.le).drop, (fun _ h => by cases h), hs.size, ?_, ?_⟩
          · rw [hk.ds]; exact hs.ds.mono fun _ _ h => h.mono hk.ext.ex.le
          · rw [hk.rc]; exact hs.cs
        | _ => exact trivial
    rw [guarded_eq]
    cases hg : o.guard with
    | none => exact wanted (by unfold Region.wanted; rw [hg])
    | some gd =>
      obtain ⟨q, want⟩ := gd
      have hG := guard_ok (ops := ops) hs.sl hg
      dsimp only
      cases hq : (cGuard xs ops.toList ns (q, want)).run env st with
      | yes => exact wanted (hG.1 hq)
      | not =>
        have := next undefV undef U g w cs a.defers hs.ext (GLe.refl g) undefV_rv hs.ds hs.cs
        exact this.mp fun h => at_not ho (hG.2 hq) h
      | bad => exact trivial

end
end Go.Cx
namespace Go.Cx
open Go
variable {P : Program}

def Sh.ops : Sh → List Operand
  | .mv x => [x]
  | .s0 _ => []
  | .s1 x _ => [x]
  | .s2 x y _ => [x, y]
  | .s3 x y z _ => [x, y, z]
  | .sp l _ => l.map (·.2)
  | .sl l _ => l
  | .sf x l _ => x :: l
  | .so x a b c _ => x :: (a.toList ++ (b.toList ++ c.toList))

theorem Sh.re_congr {s : Sh} {f f' : Operand → Value} (h : ∀ x ∈ s.ops, f x = f' x) (w : W) : s.re f w = s.re f' w := by
  cases s with
  | mv x => simp only [Sh.re]; rw [h x (by simp [Sh.ops])]
  | s0 b => rfl
  | s1 x b => simp only [Sh.re]; rw [h x (by simp [Sh.ops])]
  | s2 x y b => simp only [Sh.re]; rw [h x (by simp [Sh.ops]), h y (by simp [Sh.ops])]
  | s3 x y z b => simp only [Sh.re]; rw [h x (by simp [Sh.ops]), h y (by simp [Sh.ops]), h z (by simp [Sh.ops])]
  | sp l b =>
    simp only [Sh.re]
    rw [List.map_congr_left fun p hp => by rw [h p.2 (List.mem_map.2 ⟨p, hp, rfl⟩)]]
  | sl l b => simp only [Sh.re]; rw [List.map_congr_left (fun p hp => h p hp : ∀ p ∈ l, f p = f' p)]
  | sf x l b => simp only [Sh.re]; rw [h x (by simp [Sh.ops]), List.map_congr_left fun p hp => h p (by simp [Sh.ops, hp])]
  | so x a b c g =>
    simp only [Sh.re]
    have e : ∀ o : Option Operand, (∀ y ∈ o.toList, f y = f' y) → o.map f = o.map f' := by
      intro o ho
      cases o with
      | none => rfl
      | some y => simp [ho y (by simp)]
    rw [h x (by simp [Sh.ops]), e a fun y hy => h y (by simp [Sh.ops] at hy ⊢; simp [hy]), e b fun y hy => h y (by simp [Sh.ops] at hy ⊢; simp [hy]), e c fun y hy => h y (by simp [Sh.ops] at hy ⊢; simp [hy])]

theorem app_mem {α : Type} {x : α} {l m : List α} : x ∈ app l m ↔ x ∈ l ∨ x ∈ m := by rw [app_eq]; simp

theorem blt_sub (b : Builtin) (args : List Operand) (ts : Array TypeId) (type : TypeId) : ∀ x ∈ (cBlt P b args ts type).ops, x ∈ args := by
  intro x hx
  unfold cBlt at hx
  split at hx <;> first | exact hx | (simp [Sh.ops] at hx ⊢; exact hx) | cases hx

theorem ops_sub (op : Op) (type : TypeId) : ∀ x ∈ (cOp P op type).ops, x ∈ op.operands.toList := by
  intro x hx
  cases op with
  | call c =>
    simp only [Op.operands, Call.operands]
    replace hx : x ∈ (cCall P c type).ops := hx
    unfold cCall at hx
    split at hx
    · have := blt_sub _ _ _ _ x hx
      simp [this]
    · rename_i fo hb
      simp [Sh.ops] at hx
      simp [hb]
      exact hx
    · cases hx
  | defer c =>
    simp only [Op.operands, Call.operands]
    replace hx : x ∈ (cDefer c).ops := hx
    unfold cDefer at hx
    split at hx
    · rename_i fo hb
      simp [Sh.ops] at hx
      simp [hb]
      exact hx
    · cases hx
  | select cs b =>
    replace hx : x ∈ (cSelect P cs.toList b).ops := hx
    unfold cSelect at hx
    split at hx
    · rename_i c hc
      split at hx
      · have : cs = #[c] := by apply Array.ext'; rw [hc]
        subst this
        simp [Sh.ops] at hx
        simp [Op.operands]
        exact hx
      · cases hx
    · cases hx
  | recv t c ok =>
    replace hx : x ∈ (cRecv P t c ok).ops := hx
    unfold cRecv at hx
    simp only [Op.operands]
    split at hx
    · split at hx
      · simpa [Sh.ops] using hx
      · cases hx
    · cases hx
  | makeFunc f a b =>
    replace hx : x ∈ app a.toList b.toList := hx
    rw [app_mem] at hx
    simp [Op.operands]
    simpa using hx
  | makeMap t r => cases r <;> simp [cOp, Sh.ops, Op.operands] at hx ⊢ <;> exact hx
  | next it s => cases s <;> simp [cOp, bad, Sh.ops, Op.operands] at hx ⊢ <;> exact hx
  | load t a => 
    simp only [cOp] at hx
    split at hx
    · simpa [Sh.ops, Op.operands] using hx
    · cases hx
  | store t a y => 
    simp only [cOp] at hx
    split at hx
    · simpa [Sh.ops, Op.operands] using hx
    · cases hx
  | makeInterface t y => 
    simp only [cOp] at hx
    split at hx
    · cases hx
    · simpa [Sh.ops, Op.operands] using hx
    · cases hx
  | range t y => 
    simp only [cOp] at hx
    split at hx
    · simpa [Sh.ops, Op.operands] using hx
    · cases hx
  | slice t y a b c =>
    simp [cOp, Sh.ops, Op.operands] at hx ⊢
    exact hx
  | _ => first | (simp [cOp, bad, Sh.ops, Op.operands] at hx ⊢; done) | (simp [cOp, Sh.ops, Op.operands] at hx ⊢; exact hx)

theorem re_congr {op : Op} {type : TypeId} {f f' : Operand → Value} (h : ∀ x ∈ op.operands.toList, f x = f' x) (w : W) : (cOp P op type).re f w = (cOp P op type).re f' w :=
  Sh.re_congr (fun x hx => h x (ops_sub op type x hx)) w

def Stop (r : Re) : Prop := match r with
  | .ot (.pan _ _) => True
  | .ot (.no _) => True
  | _ => False
def PuR (F : W → Re) : Prop := (∃ v, ∀ w, F w = .ok v w) ∨ ∀ w, Stop (F w)
theorem PuR.ok (v : Value) : PuR (fun w => .ok v w) := .inl ⟨v, fun _ => rfl⟩
theorem PuR.pan (v : Value) : PuR (fun w => .ot (.pan v w)) := .inr fun _ => trivial
theorem PuR.no (k : Nat) : PuR (fun _ => Cx.no k) := .inr fun _ => trivial
theorem PuR.opt {α : Type} {o : Option α} {F : W → Re} {G : α → W → Re} (hF : PuR F) (hG : ∀ x, PuR (G x)) : PuR (fun w => (Option.rec (motive := fun _ => Re) (F w) (fun x => G x w) o : Re)) := by
  cases o with
  | none => exact hF
  | some x => exact hG x
theorem PuR.ite {b : Bool} {F G : W → Re} (hF : PuR F) (hG : PuR G) : PuR (fun w => (Bool.rec (motive := fun _ => Re) (F w) (G w) b : Re)) := by
  cases b with
  | false => exact hF
  | true => exact hG
theorem PuR.res (p : Pv Value) (k : Nat) : PuR (fun w => resOf w p k) := by
  cases p with
  | ok a => exact .ite (.no k) (.ok a)
  | pan v => exact .ite (.no k) (.pan v)
  | no => exact .no k

theorem bin0_pu (o : BinOp) (t : TypeId) (x y : Operand) (a b : Value) : PuR (fun w => binRe0 P o t x y a b w) := by
  have slow : PuR (fun w => slowBin P o t a b w) := .res _ _
  have lin : PuR (fun w => linRe o a b w) := .opt (.no _) fun v => .ok v
  have any : PuR (fun w => anyBin P o t x y a b w) := .ite lin (.ite lin (.res _ _))
  have ptr : PuR (fun w => ptrBin P o t x y a b w) := by
    unfold ptrBin
    split
    · exact .opt any fun n => .ok _
    · exact any
  refine .opt ptr fun p => .opt any fun q => ?_
  exact .ite slow (.opt slow fun v => .ok v)

theorem bin_pu (o : BinOp) (t : TypeId) (x y : Operand) (u : TypeId) (a b : Value) : PuR (fun w => (cBin P o t x y u).run a b w) := by
  rw [show (fun w => (cBin P o t x y u).run a b w) = fun w => binRe0 P o t x y a b w from funext fun w => cBin_eq o t x y u a b w]
  exact bin0_pu o t x y a b

theorem un_pu (o : UnOp) (v : Value) : PuR (fun w => unRe P o v w) := by
  unfold unRe
  split
  · exact .ok _
  · exact .ite (.no _) (.res _ _)

theorem nil_pu (v : Value) : PuR (fun w => nilRe P v w) := by
  refine .opt ?_ fun _ => .ok _
  unfold nilRe2
  split
  · exact .ok _
  · exact .ok _
  · split
    · exact .ok _
    · exact .no _
  · exact .no _

theorem fieldAddr_pu (t : TypeId) (fd : Nat) (v : Value) : PuR (fun w => (cFieldAddr P t fd).run v w) := by
  unfold cFieldAddr
  split
  · split
    · rename_i off sz _
      rw [if_eq]
      split
      · exact .no _
      · exact .opt (.no _) fun a => .ok _
    · exact .no _
  · exact .no _

theorem field_pu (t : TypeId) (fd : Nat) (v : Value) : PuR (fun w => (cField P t fd).run v w) := by
  unfold cField
  split
  · split
    · exact .opt (.no _) fun a => .opt (.no _) fun _ => .ok _
    · exact .no _
  · exact .no _

theorem indexAddr_pu (t : TypeId) (v i : Value) : PuR (fun w => (cIndexAddr P t).run v i w) := by
  unfold cIndexAddr
  split
  · split
    · exact .opt (.no _) fun s => .opt (.no _) fun a => .opt (.no _) fun j => .ite (.no _) (.ok _)
    · exact .no _
  · split
    · exact .opt (.no _) fun a => .opt (.no _) fun j => .ite (.no _) (.ok _)
    · exact .no _
  · exact .no _

theorem index_pu (t : TypeId) (v i : Value) : PuR (fun w => (cIndex P t).run v i w) := by
  unfold cIndex
  split
  · split
    · exact .opt (.no _) fun s => .opt (.no _) fun a => .ite (.no _) (.opt (.no _) fun j => .ok _)
    · exact .no _
  · exact .opt (.no _) fun a => .opt (.no _) fun j => .opt (.no _) fun _ => .ok _
  · exact .no _

theorem extract_pu (i : Nat) (v : Value) : PuR (fun w => extractRe i v w) := .opt (.no _) fun _ => .opt (.no _) fun _ => .ok _
theorem iface_pu (t : TypeId) (v : Value) : PuR (fun w => ifaceRe t v w) := .ite (.ite (.no _) (.ok _)) (.ok _)
theorem func_pu (f : Fn) (n : Nat) (l : List Value) : PuR (fun w => funcRe f n l w) := .ite (.no _) (.opt (.no _) fun _ => .ok _)
theorem pick_pu (c a b : Value) : PuR (fun w => pickRe c a b w) := .opt (.no _) fun _ => .ok _

theorem assert_pu (u : TypeId) (ok : Bool) (v : Value) : PuR (fun w => (cAssert P u ok).run v w) := by
  unfold cAssert
  split
  · show PuR (fun w => assertI P _ _ ok v w)
    unfold assertI
    split
    · split
      · exact .ite (.no _) (.ok _)
      · exact .no _
    · exact .ite (.no _) (.opt (.no _) fun _ => .ok _)
    · exact .no _
  · show PuR (fun w => assertRe u (zeroV P u) ok v w)
    unfold assertRe
    split
    · exact .ite (.ite (.no _) (.opt (.no _) fun _ => .ok _)) (.ite (.no _) (.ok _))
    · exact .ite (.no _) (.opt (.no _) fun _ => .ok _)
    · exact .no _
  · exact .no _

theorem build_pu (t : TypeId) (ps : List (Nat × Value)) : PuR (fun w => (cBuild P t).run ps w) := by
  unfold cBuild
  split
  · rw [if_eq]
    split
    · exact .opt (.no _) fun _ => .ok _
    · exact .no _
  · split
    · exact .opt (.no _) fun _ => .ok _
    · exact .no _
  · exact .no _

theorem any_pu (b : Builtin) (ts : Array TypeId) (type : TypeId) (args : List Value) : PuR (fun w => anyBlt P b ts type args w) := by
  refine .ite (.no _) ?_
  split
  · exact .ite (.no _) (.ok _)
  · exact .ite (.no _) (.pan _)
  · exact .no _

theorem len_pu {t : TypeId} (h : (match ti P t with | some ⟨.slice _, _, _⟩ => Cl.pu | some ⟨.string, _, _⟩ => .pu | some ⟨.array _ _, _, _⟩ => .pu | _ => .wr) = .pu) (v : Value) : PuR (fun w => (cLen P t).run v w) := by
  unfold cLen
  split at h
  · rename_i e; rw [e]; exact .opt (.no _) fun _ => .ok _
  · rename_i e; rw [e]; exact .opt (.no _) fun _ => .ok _
  · rename_i e; rw [e]; exact .ok _
  · cases h

theorem conv_pu {s d : TypeId} (h : (match ti P s, ti P d with | some ⟨.slice _, _, _⟩, some ⟨.string, _, _⟩ => Cl.rd | some ⟨.string, _, _⟩, some ⟨.slice _, _, _⟩ => .wr | _, _ => .pu) = .pu) (v : Value) : PuR (fun w => (cConv P s d).run v w) := by
  have slow : PuR (fun w => slowConv P s d v w) := .ite (.no _) (.res _ _)
  unfold cConv
  split
  · exact .opt slow fun p => .opt slow fun _ => .ok _
  · rename_i e1 e2; rw [e1, e2] at h; cases h
  · rename_i e1 e2; rw [e1, e2] at h; cases h
  · exact slow

theorem pu_ok {o : Oper} (h : cls P o = .pu) (f : Operand → Value) : PuR (fun w => (cOp P o.op o.type).re f w) := by
  obtain ⟨dst, op, type, pos, aft, guard⟩ := o
  unfold cls at h
  dsimp only at h ⊢
  split at h
  · cases guard <;> cases h
  · cases guard <;> cases h
  · cases h
  · exact .ok _
  · exact .ok _
  · exact pick_pu _ _ _
  · exact build_pu _ _
  · exact nil_pu _
  · exact fieldAddr_pu _ _ _
  · exact field_pu _ _ _
  · exact indexAddr_pu _ _ _
  · exact index_pu _ _ _
  · exact extract_pu _ _
  · simp only [cOp]
    split
    · exact .no _
    · exact iface_pu _ _
    · exact .no _
  · exact func_pu _ _ _
  · exact bin_pu _ _ _ _ _ _ _
  · exact un_pu _ _
  · exact assert_pu _ _ _
  · cases h
  · cases h
  · exact conv_pu h _
  · rename_i c
    show PuR (fun w => (cCall P c type).re f w)
    unfold cCall
    split at h
    · rename_i x t e1 e2 e3
      rw [e1]
      show PuR (fun w => (cBlt P .len c.args.toList c.argTypes type).re f w)
      unfold cBlt
      rw [e2, e3]
      exact len_pu h _
    · rename_i e1
      rw [e1]
      exact any_pu _ _ _ _
    · rename_i e1
      rw [e1]
      exact any_pu _ _ _ _
    · cases h
  · cases h

end Go.Cx
namespace Go.Cx
open Go
variable {P : Program} {g : Gh} {B : Nat} {w : World}

def KeR (F : W → Re) : Prop := ∀ w, (∃ v, F w = .ok v w) ∨ Stop (F w)
theorem PuR.keeps {F : W → Re} (h : PuR F) : KeR F := fun w => by
  rcases h with ⟨v, h⟩ | h
  · exact .inl ⟨v, h w⟩
  · exact .inr (h w)
theorem KeR.opt {α : Type} {o : W → Option α} {F : W → Re} {G : α → W → Re} (hF : KeR F) (hG : ∀ x, KeR (G x)) : KeR (fun w => (Option.rec (motive := fun _ => Re) (F w) (fun x => G x w) (o w) : Re)) := by
  intro w
  dsimp only
  cases o w with
  | none => exact hF w
  | some x => exact hG x w
theorem KeR.ite {b : Bool} {F G : W → Re} (hF : KeR F) (hG : KeR G) : KeR (fun w => (Bool.rec (motive := fun _ => Re) (F w) (G w) b : Re)) := by
  cases b with
  | false => exact hF
  | true => exact hG
theorem KeR.ok (v : Value) : KeR (fun w => .ok v w) := (PuR.ok v).keeps
theorem KeR.no (k : Nat) : KeR (fun _ => Cx.no k) := (PuR.no k).keeps

theorem load_ke (size : Nat) (agg : Bool) (v : Value) : KeR (fun w => (loadRe size agg).run v w) := by
  intro w
  obtain ⟨h, n, ds, rc⟩ := w
  cases agg with
  | true =>
    show (∃ v', (Option.rec (motive := fun _ => Re) (no 63) (fun a => Option.rec (motive := fun _ => Re) (no 64) (fun cs => .ok (.agg ⟨cs⟩) ⟨h, n, ds, rc⟩) (rd h a size)) (asPtr v) : Re) = .ok v' ⟨h, n, ds, rc⟩) ∨ Stop (Option.rec (motive := fun _ => Re) (no 63) (fun a => Option.rec (motive := fun _ => Re) (no 64) (fun cs => .ok (.agg ⟨cs⟩) ⟨h, n, ds, rc⟩) (rd h a size)) (asPtr v) : Re)
    cases asPtr v with
    | none => exact .inr trivial
    | some a =>
      dsimp only
      cases rd h a size with
      | none => exact .inr trivial
      | some l => exact .inl ⟨_, rfl⟩
  | false =>
    show (∃ v', (Option.rec (motive := fun _ => Re) (no 63) (fun a => Option.rec (motive := fun _ => Re) (no 64) (fun x => .ok x ⟨h, n, ds, rc⟩) (rd1 h a)) (asPtr v) : Re) = .ok v' ⟨h, n, ds, rc⟩) ∨ Stop (Option.rec (motive := fun _ => Re) (no 63) (fun a => Option.rec (motive := fun _ => Re) (no 64) (fun x => .ok x ⟨h, n, ds, rc⟩) (rd1 h a)) (asPtr v) : Re)
    cases asPtr v with
    | none => exact .inr trivial
    | some a =>
      dsimp only
      cases rd1 h a with
      | none => exact .inr trivial
      | some l => exact .inl ⟨_, rfl⟩

theorem hget_alias {m n : Nat} (h : Hp) (x : Ob) : hget (hset h n x) m = hget h m ∨ hget h m = hget h n := by
  rw [hget_eq, hset_eq, hget_eq, hget_eq]
  unfold getH setH
  show (get16 Ho (dig (Nat.mod m 16))).run ((get16 (N16 Ho) (dig (Nat.mod (Nat.div m 16) 16))).run ((get16 (N16 (N16 Ho)) (dig (Nat.mod (Nat.div m 256) 16))).run ((get16 (N16 (N16 (N16 Ho))) (dig (Nat.div m 4096))).run ((upd16 (N16 (N16 (N16 Ho))) (dig (Nat.div n 4096))).run _ h)))) =
    (get16 Ho (dig (Nat.mod m 16))).run ((get16 (N16 Ho) (dig (Nat.mod (Nat.div m 16) 16))).run ((get16 (N16 (N16 Ho)) (dig (Nat.mod (Nat.div m 256) 16))).run ((get16 (N16 (N16 (N16 Ho))) (dig (Nat.div m 4096))).run h))) ∨
    (get16 Ho (dig (Nat.mod m 16))).run ((get16 (N16 Ho) (dig (Nat.mod (Nat.div m 16) 16))).run ((get16 (N16 (N16 Ho)) (dig (Nat.mod (Nat.div m 256) 16))).run ((get16 (N16 (N16 (N16 Ho))) (dig (Nat.div m 4096))).run h))) =
    (get16 Ho (dig (Nat.mod n 16))).run ((get16 (N16 Ho) (dig (Nat.mod (Nat.div n 16) 16))).run ((get16 (N16 (N16 Ho)) (dig (Nat.mod (Nat.div n 256) 16))).run ((get16 (N16 (N16 (N16 Ho))) (dig (Nat.div n 4096))).run h)))
  by_cases h1 : dig (Nat.div m 4096) = dig (Nat.div n 4096)
  · by_cases h2 : dig (Nat.mod (Nat.div m 256) 16) = dig (Nat.mod (Nat.div n 256) 16)
    · by_cases h3 : dig (Nat.mod (Nat.div m 16) 16) = dig (Nat.mod (Nat.div n 16) 16)
      · by_cases h4 : dig (Nat.mod m 16) = dig (Nat.mod n 16)
        · right; rw [h1, h2, h3, h4]
        · left
          rw [h1, get_upd]
          show (get16 Ho _).run ((get16 (N16 Ho) _).run ((get16 (N16 (N16 Ho)) _).run ((upd16 (N16 (N16 Ho)) _).run _ _))) = _
          rw [h2, get_upd]
          show (get16 Ho _).run ((get16 (N16 Ho) _).run ((upd16 (N16 Ho) _).run _ _)) = _
          rw [h3, get_upd]
          exact get_upd' h4 _ _
      · left
        rw [h1, get_upd]
        show (get16 Ho _).run ((get16 (N16 Ho) _).run ((get16 (N16 (N16 Ho)) _).run ((upd16 (N16 (N16 Ho)) _).run _ _))) = _
        rw [h2, get_upd]
        show (get16 Ho _).run ((get16 (N16 Ho) _).run ((upd16 (N16 Ho) _).run _ _)) = _
        rw [get_upd' h3]
    · left
      rw [h1, get_upd]
      show (get16 Ho _).run ((get16 (N16 Ho) _).run ((get16 (N16 (N16 Ho)) _).run ((upd16 (N16 (N16 Ho)) _).run _ _))) = _
      rw [get_upd' h2]
  · left; rw [get_upd' h1]

theorem row_alias {h : Hp} {n b : Nat} {o : Ob} (hn : hget h n = none) {r : Rw} (hr : rowOf (hget h b) = some r) : rowOf (hget (hset h n o) b) = some r := by
  rcases hget_alias (m := b) h o with e | e
  · rw [e]; exact hr
  · rw [e, hn] at hr; cases hr

theorem rd1_mono {h : Hp} {n : Nat} {o : Ob} (hn : hget h n = none) {a : Addr} {v : Value} (e : rd1 h a = some v) : rd1 (hset h n o) a = some v := by
  obtain ⟨b, off, sp⟩ := a
  unfold rd1 at e ⊢
  dsimp only at e ⊢
  cases hr : rowOf (hget h b) with
  | none => rw [hr] at e; cases e
  | some r => rw [hr] at e; rw [row_alias hn hr]; exact e

theorem rd_mono {h : Hp} {n m : Nat} {o : Ob} (hn : hget h n = none) {a : Addr} {v : List Value} (e : rd h a m = some v) : rd (hset h n o) a m = some v := by
  obtain ⟨b, off, sp⟩ := a
  unfold rd at e ⊢
  dsimp only at e ⊢
  cases hr : rowOf (hget h b) with
  | none => rw [hr] at e; cases e
  | some r => rw [hr] at e; rw [row_alias hn hr]; exact e

theorem load_mono {size : Nat} {agg : Bool} {x v : Value} {h : Hp} {n m : Nat} {ds : List (FuncId × List Value)} {rc : Rc} {o : Ob} (hn : hget h n = none) (e : (loadRe size agg).run x ⟨h, n, ds, rc⟩ = .ok v ⟨h, n, ds, rc⟩) :
    (loadRe size agg).run x ⟨hset h n o, m, ds, rc⟩ = .ok v ⟨hset h n o, m, ds, rc⟩ := by
  cases agg with
  | true =>
    have e : (Option.rec (motive := fun _ => Re) (no 63) (fun a => Option.rec (motive := fun _ => Re) (no 64) (fun cs => .ok (.agg ⟨cs⟩) ⟨h, n, ds, rc⟩) (rd h a size)) (asPtr x) : Re) = .ok v ⟨h, n, ds, rc⟩ := e
    show (Option.rec (motive := fun _ => Re) (no 63) (fun a => Option.rec (motive := fun _ => Re) (no 64) (fun cs => .ok (.agg ⟨cs⟩) ⟨hset h n o, m, ds, rc⟩) (rd (hset h n o) a size)) (asPtr x) : Re) = .ok v ⟨hset h n o, m, ds, rc⟩
    cases ha : asPtr x with
    | none => rw [ha] at e; cases e
    | some a =>
      rw [ha] at e
      dsimp only at e ⊢
      cases hl : rd h a size with
      | none => rw [hl] at e; cases e
      | some l => rw [hl] at e; rw [rd_mono hn hl]; cases e; rfl
  | false =>
    have e : (Option.rec (motive := fun _ => Re) (no 63) (fun a => Option.rec (motive := fun _ => Re) (no 64) (fun y => .ok y ⟨h, n, ds, rc⟩) (rd1 h a)) (asPtr x) : Re) = .ok v ⟨h, n, ds, rc⟩ := e
    show (Option.rec (motive := fun _ => Re) (no 63) (fun a => Option.rec (motive := fun _ => Re) (no 64) (fun y => .ok y ⟨hset h n o, m, ds, rc⟩) (rd1 (hset h n o) a)) (asPtr x) : Re) = .ok v ⟨hset h n o, m, ds, rc⟩
    cases ha : asPtr x with
    | none => rw [ha] at e; cases e
    | some a =>
      rw [ha] at e
      dsimp only at e ⊢
      cases hl : rd1 h a with
      | none => rw [hl] at e; cases e
      | some l => rw [hl] at e; rw [rd1_mono hn hl]; cases e; rfl

theorem ld_form {o : Oper} (h : cls P o = .ld) : ∃ t a, o.op = .load t a := by
  obtain ⟨dst, op, type, pos, aft, guard⟩ := o
  unfold cls at h
  dsimp only at h ⊢
  split at h <;> first | (exact ⟨_, _, rfl⟩) | (cases guard <;> cases h) | cases h | skip
  · split at h <;> cases h
  · split at h
    · split at h <;> cases h
    · cases h
    · cases h
    · cases h

theorem ld_ok {o : Oper} (h : cls P o = .ld) (f : Operand → Value) : KeR (fun w => (cOp P o.op o.type).re f w) ∧
    ∀ (hh : Hp) (n : Nat) (ds : List (FuncId × List Value)) (rc : Rc) (ob : Ob) (v : Value), hget hh n = none → (cOp P o.op o.type).re f ⟨hh, n, ds, rc⟩ = .ok v ⟨hh, n, ds, rc⟩ → (cOp P o.op o.type).re f ⟨hset hh n ob, n + 1, ds, rc⟩ = .ok v ⟨hset hh n ob, n + 1, ds, rc⟩ := by
  obtain ⟨t, a, e⟩ := ld_form h
  rw [e]
  simp only [cOp]
  split
  · exact ⟨load_ke _ _ _, fun hh n ds rc ob v hn he => load_mono hn he⟩
  · exact ⟨KeR.no _, fun hh n ds rc ob v hn he => by cases he⟩

theorem slice_ke (t : TypeId) (x : Value) (lo hi mx : Option Value) : KeR (fun w => (cSlice P t).run x lo hi mx w) := by
  unfold cSlice
  split
  · split
    · refine (KeR.opt (o := fun _ => asSlice x) (.no _) fun s => ?_)
      refine .ite (.no _) (.opt (o := fun _ => numOr s.c mx) (.no _) fun m => .opt (o := fun _ => numOr s.n hi) (.no _) fun hh => .opt (o := fun _ => numOr 0 lo) (.no _) fun l => ?_)
      refine .ite (.no _) (.ite (.no _) (.ite (.no _) ?_))
      refine .opt (o := fun _ => s.a) (.ok _) fun a => .opt (o := fun w => fixOf w.h a _) (.no _) fun fix => .ite (.ite (.ok _) (.ite (.ok _) (.ok _))) (.ok _)
    · exact .no _
  · split
    · refine (KeR.opt (o := fun _ => asPtr x) (.no _) fun a => ?_)
      refine .opt (o := fun _ => mx) ?_ fun _ => .no _
      refine .opt (o := fun _ => numOr _ hi) (.no _) fun hh => .opt (o := fun _ => numOr 0 lo) (.no _) fun l => .ite (.no _) (.ite (.no _) ?_)
      exact .opt (o := fun w => fixOf w.h a _) (.no _) fun f => .ite (.no _) (.ok _)
    · exact .no _
  · refine .opt (o := fun _ => mx) ?_ fun _ => .no _
    exact .ite (.no _) (PuR.res _ _).keeps
  · exact .no _

theorem lookup_ke (t : TypeId) (ok : Bool) (m k : Value) : KeR (fun w => (cLookup P t ok).run m k w) := by
  unfold cLookup
  split
  · split
    · rename_i z d _ _
      intro w
      show (∃ v, lookRe d ok z m k w = .ok v w) ∨ Stop (lookRe d ok z m k w)
      unfold lookRe
      rw [if_eq]
      split
      case isFalse => exact .inr trivial
      split
      · split
        · split
          · exact .inl ⟨_, rfl⟩
          · exact .inr trivial
        · exact .inl ⟨_, rfl⟩
        · exact .inr trivial
      · exact .inr trivial
    · exact .no _
  · exact .no _

theorem bytes_ke (v : Value) : KeR (fun w => bytesStr w v) := by
  intro w
  show (∃ r, (Option.rec (motive := fun _ => Re) (no 59) (fun s => Nat.rec (motive := fun _ => Re) (.ok (.string ⟨#[]⟩) w) (fun _ _ => Option.rec (motive := fun _ => Re) (no 59) (fun a => Option.rec (motive := fun _ => Re) (no 60) (fun cs => Option.rec (motive := fun _ => Re) (no 61) (fun bs => .ok (.string ⟨⟨bs⟩⟩) w) (bytesOf cs)) (rdS w.h a 1 s.n)) s.a) s.n) (asSlice v) : Re) = .ok r w) ∨ Stop (Option.rec (motive := fun _ => Re) (no 59) (fun s => Nat.rec (motive := fun _ => Re) (.ok (.string ⟨#[]⟩) w) (fun _ _ => Option.rec (motive := fun _ => Re) (no 59) (fun a => Option.rec (motive := fun _ => Re) (no 60) (fun cs => Option.rec (motive := fun _ => Re) (no 61) (fun bs => .ok (.string ⟨⟨bs⟩⟩) w) (bytesOf cs)) (rdS w.h a 1 s.n)) s.a) s.n) (asSlice v) : Re)
  cases asSlice v with
  | none => exact .inr trivial
  | some s =>
    dsimp only
    cases s.n with
    | zero => exact .inl ⟨_, rfl⟩
    | succ k =>
      dsimp only
      cases s.a with
      | none => exact .inr trivial
      | some a =>
        dsimp only
        cases rdS w.h a 1 (k + 1) with
        | none => exact .inr trivial
        | some cs =>
          dsimp only
          cases bytesOf cs with
          | none => exact .inr trivial
          | some bs => exact .inl ⟨_, rfl⟩

theorem conv_rd {s d : TypeId} (h : (match ti P s, ti P d with | some ⟨.slice _, _, _⟩, some ⟨.string, _, _⟩ => Cl.rd | some ⟨.string, _, _⟩, some ⟨.slice _, _, _⟩ => .wr | _, _ => .pu) = .rd) (v : Value) : KeR (fun w => (cConv P s d).run v w) := by
  unfold cConv
  split
  · rename_i e1 e2; rw [e1, e2] at h; cases h
  · split
    · exact bytes_ke v
    · exact .no _
  · rename_i e1 e2; rw [e1, e2] at h; cases h
  · exfalso
    split at h
    · rename_i e1 e2
      solve_by_elim
    · cases h
    · cases h

theorem rd_ok {o : Oper} (h : cls P o = .rd) (f : Operand → Value) : KeR (fun w => (cOp P o.op o.type).re f w) := by
  obtain ⟨dst, op, type, pos, aft, guard⟩ := o
  unfold cls at h
  dsimp only at h ⊢
  split at h <;> first | (cases guard <;> cases h; done) | (cases h; done) | skip
  · exact slice_ke _ _ _ _ _
  · exact lookup_ke _ _ _ _
  · exact conv_rd h _
  · exfalso
    split at h
    · split at h <;> cases h
    · cases h
    · cases h
    · cases h

theorem keeps_ok {o : Oper} (h1 : cls P o ≠ .wr) (h2 : cls P o ≠ .al) (f : Operand → Value) : KeR (fun w => (cOp P o.op o.type).re f w) := by
  cases h : cls P o with
  | wr => exact absurd h h1
  | al => exact absurd h h2
  | pu => exact (pu_ok h f).keeps
  | ld => exact (ld_ok h f).1
  | rd => exact rd_ok h f

end Go.Cx
namespace Go.Cx
open Go
variable {P : Program} {g g' : Gh} {B n : Nat} {h : Hp} {w w' : World}

theorem rel_add (hr : Rel g B h n w) (hn : n + 1 ≤ 65536) {o : Ob} (ho : ObAt g w B n o) : Rel g B (hset h n o) (n + 1) w := by
  have hget : ∀ i, i < 65536 → hget (hset h n o) i = if i = n then some o else hget h i := by
    intro i hi
    split
    · rename_i e; subst e; exact hget_hset h i o
    · rename_i e; exact hget_hset' hi (by omega) e h o
  have hlive : ∀ i k cp, Live (hset h n o) i k → g i k = some cp → Live h i k := by
    intro i k cp ⟨h1, o', h2, h3⟩ hc
    have hne : i ≠ n := by intro e; subst e; rw [hr.gnone] at hc; cases hc
    rw [hget i h1, if_neg hne] at h2
    exact ⟨h1, o', h2, h3⟩
  refine ⟨Nat.succ_pos n, hn, hr.base, fun i k cp hc => ⟨(hr.dom i k cp hc).1, Nat.lt_succ_of_lt (hr.dom i k cp hc).2⟩, ?_, ?_, ?_, ?_, ?_⟩
  · intro i o' hi ho'
    rw [hget i hi] at ho'
    split at ho'
    · rename_i e; subst e; exact ⟨hr.pos, Nat.lt_succ_self _⟩
    · exact ⟨(hr.hdom i o' hi ho').1, Nat.lt_succ_of_lt (hr.hdom i o' hi ho').2⟩
  · intro i o' hi ho'
    rw [hget i hi] at ho'
    split at ho'
    · rename_i e; subst e; cases ho'; exact ho
    · exact hr.obs i o' hi ho'
  · intro i i' k k' c c' hne h1 h2 h3 h4
    exact hr.dis i i' k k' c c' hne (hlive i k c h1 h3) (hlive i' k' c' h2 h4) h3 h4
  · intro i k c h1 h3
    exact hr.lt i k c (hlive i k c h1 h3) h3
  · intro i k c h1 h3
    exact hr.low i k c (hlive i k c h1 h3) h3

theorem row_at (hr : Rel g B h n w) (cs : List Value) (t : TypeId) (e : Nat) (fix : Bool) : ObAt g w B n (.row (chop cs) (len cs) t e fix 0 0) := by
  refine ⟨chop_wf cs, by rw [len_eq, chop_flat], Nat.le_refl _, ?_, ?_⟩
  · intro k k' c c' h1
    rw [hr.gnone] at h1; cases h1
  · intro k c h1
    rw [hr.gnone] at h1; cases h1

theorem rel_late (hr : Rel g B h n w) {p : Nat} (hp : 0 < p) (hpn : p < n) (hg0 : ∀ k, g p k = none) {o : Ob} {ob : Obj} {cp : Cp} (hblk : cp.blk = w.heap.size) (hw : w'.heap = w.heap.push ob)
    (ho : hget h p = some o) (hob : ObAt (upd g p 0 cp) w' B p o) : Rel (upd g p 0 cp) B h n w' := by
  have hle := upd_le (cp := cp) (hg0 0)
  have hold : ∀ b, b < w.heap.size → w'.heap[b]? = w.heap[b]? := by
    intro b hb; rw [hw, Array.getElem?_push, if_neg (by omega)]
  have hsz : w'.heap.size = w.heap.size + 1 := by rw [hw]; simp
  have hinv : ∀ i k c, i ≠ p → upd g p 0 cp i k = some c → g i k = some c := by
    intro i k c hne hc
    rcases upd_inv hc with ⟨e, _, _⟩ | h'
    · exact absurd e hne
    · exact h'
  have hat : ∀ k c, upd g p 0 cp p k = some c → c.blk = w.heap.size := by
    intro k c hc
    rcases upd_inv hc with ⟨_, _, rfl⟩ | h'
    · exact hblk
    · rw [hg0] at h'; cases h'
  refine ⟨hr.pos, hr.lim, by rw [hsz]; exact Nat.le_succ_of_le hr.base, ?_, hr.hdom, ?_, ?_, ?_, ?_⟩
  · intro i k c hc
    rcases upd_inv hc with ⟨rfl, _, _⟩ | h'
    · exact ⟨hp, hpn⟩
    · exact hr.dom i k c h'
  · intro i o' hi ho'
    by_cases e : i = p
    · subst e; rw [ho] at ho'; cases ho'; exact hob
    · exact (hr.obs i o' hi ho').stay hle (fun k c hc => hinv i k c e hc) fun k c hc hf => hold _ (hr.lt i k c ⟨hi, o', ho', hf⟩ hc)
  · intro i i' k k' c c' hne h1 h2 h3 h4
    by_cases e1 : i = p
    · subst e1
      have e2 : i' ≠ i := Ne.symm hne
      have := hr.lt i' k' c' h2 (hinv i' k' c' e2 h4)
      have := hat k c h3
      omega
    · by_cases e2 : i' = p
      · subst e2
        have := hr.lt i k c h1 (hinv i k c e1 h3)
        have := hat k' c' h4
        omega
      · exact hr.dis i i' k k' c c' hne h1 h2 (hinv i k c e1 h3) (hinv i' k' c' e2 h4)
  · intro i k c h1 h3
    by_cases e1 : i = p
    · subst e1; have := hat k c h3; omega
    · have := hr.lt i k c h1 (hinv i k c e1 h3); omega
  · intro i k c h1 h3
    by_cases e1 : i = p
    · subst e1; have := hat k c h3; have := hr.base; omega
    · exact hr.low i k c h1 (hinv i k c e1 h3)

section
variable {g0 : Gh} {h0 : Hp} {n0 : Nat} {w0 : World}

theorem ex_add (he : Ex g0 h0 n0 w0 g h n w) (hr : Rel g B h n w) (hn : n + 1 ≤ 65536) (o : Ob) : Ex g0 h0 n0 w0 g (hset h n o) (n + 1) w := by
  refine ⟨he.le, he.dm, Nat.le_succ_of_le he.n, he.size, he.os, he.tape, he.output, he.fr, ?_⟩
  intro i k cp ⟨h1, o', h2, h3⟩ hc hlt
  have hne : i ≠ n := by intro e; subst e; rw [hr.gnone] at hc; cases hc
  rw [hget_hset' h1 (by omega) hne] at h2
  exact he.nw i k cp ⟨h1, o', h2, h3⟩ hc hlt

theorem ex_late (he : Ex g0 h0 n0 w0 g h n w) {p : Nat} (hp : n0 ≤ p) {ob : Obj} {cp : Cp} (hg0 : g p 0 = none) (hblk : cp.blk = w.heap.size) (hw : w'.heap = w.heap.push ob) (hos : w'.os = w.os) (htp : w'.tape = w.tape) (hout : w'.output = w.output) :
    Ex g0 h0 n0 w0 (upd g p 0 cp) h n w' := by
  have hsz : w'.heap.size = w.heap.size + 1 := by rw [hw]; simp
  refine ⟨he.le.trans (upd_le hg0), ?_, he.n, by have := he.size; omega, hos.trans he.os, htp.trans he.tape, hout.trans he.output, ?_, ?_⟩
  · intro i k c hc
    rcases upd_inv hc with ⟨rfl, _, _⟩ | h'
    · exact .inl hp
    · exact he.dm i k c h'
  · intro b hb hn
    have := he.size
    rw [hw, Array.getElem?_push, if_neg (by omega)]
    exact he.fr b hb hn
  · intro i k c hl hc hlt
    rcases upd_inv hc with ⟨rfl, _, rfl⟩ | h'
    · have := he.size; omega
    · exact he.nw i k c hl h' hlt
end

def MkForm (mk mk' : Nat → Value) : Prop := (mk = newPtr ∧ mk' = fun n => .pointer (some ⟨n, 0, none⟩)) ∨ ∃ l, mk = (fun n => .slice (some ⟨n, 0, none⟩) l l) ∧ mk' = fun n => .slice (some ⟨n, 0, none⟩) l l

theorem MkForm.rv {mk mk' : Nat → Value} (h : MkForm mk mk') {p blk len e : Nat} (hg : g p 0 = some ⟨blk, 0, 0, len, e, true, .nilIface⟩) : RV g (mk p) (mk' blk) := by
  rcases h with ⟨rfl, rfl⟩ | ⟨l, rfl, rfl⟩
  · exact newPtr_rv hg
  · exact slice_rv hg (Nat.le_refl _) (.inl rfl)

theorem MkForm.place {mk mk' : Nat → Value} (h : MkForm mk mk') (p : Nat) : placeOf (mk p) = some p := by
  rcases h with ⟨rfl, rfl⟩ | ⟨l, rfl, rfl⟩ <;> rfl

theorem buildSlice_run {t : TypeId} {ln : Nat} {ps : List (Nat × Value)} :
    (∃ (cs : List Value) (e : TypeId × Nat), (∀ U, (cBuildSlice P t ln).run ps U = newRow U cs e.1 e.2 true (fun n => .slice (some ⟨n, 0, none⟩) ln ln)) ∧
      ∀ (g : Gh) (qs : List (Nat × Value)) (w : World), All2 (Pt g) ps qs → ∃ cs' t', All2 (RC g) cs cs' ∧ (Instr.buildSlice t ln qs.toArray).run P w = .ok (.slice (some ⟨w.heap.size, 0, none⟩) ln ln) (w.alloc (.cells cs'.toArray t'))) ∨
    ∀ U, Stop ((cBuildSlice P t ln).run ps U) := by
  unfold cBuildSlice
  split
  · rename_i e sz z hs
    obtain ⟨h1, h2⟩ := sliceT_some hs
    obtain ⟨i, zv, e1, e2, e3, e4, e5, e6, e7, e8⟩ := madeT_some h2
    cases hcs : fillP (fun j => some (Nat.mul j sz, sz)) ps (rep z ln) with
    | none => right; intro U; simp only [hcs]; exact trivial
    | some cs =>
      cases hb : Nat.ble (Nat.mul ln sz) 65536 with
      | false => right; intro U; simp only [hcs]; exact trivial
      | true =>
        left
        refine ⟨cs, (e, sz), fun U => by simp only [hcs], fun g qs w hp => ?_⟩
        have hn : ln * sz ≤ 65536 := Nat.le_of_ble_eq_true hb
        have hz : All2 (RC g) (rep z ln) (madeCells zv.cells (ln * sz)).toList := by
          rw [rep_made e3 (e4.trans e5) e6]
          refine All2.refl fun c hc => RC.self ?_
          rw [← rep_made e3 (e4.trans e5) e6, rep_eq, List.mem_flatten] at hc
          obtain ⟨l, hl, hc⟩ := hc
          rw [List.eq_of_mem_replicate hl] at hc
          exact e8 c hc
        obtain ⟨r', f1, f2, f3⟩ := fill_ok hcs hz hp
        refine ⟨r', e, f2, ?_⟩
        have f1 : Instr.fill (fun i => some (i * sz, sz)) (madeCells zv.cells (ln * sz)) qs = some r'.toArray := by simpa using f1
        have hzr : ∀ w, (zeroValue e).run P w = .ok zv w := fun w => by simp [zeroValue, typeInfo, e1, e2]
        have hnot : ¬ (ln * sz > 2 ^ 24) := by omega
        simp only [Instr.buildSlice, Sem.run_bind, run_underlying h1, Result.andThen_ok, run_size e1, e5]
        rw [if_neg hnot]
        by_cases h0 : ln * sz = 0
        · rw [if_pos h0]
          have hm : ((Array.range (ln * sz)).map ((#[] : Array Value)[· % (#[] : Array Value).size]!)) = madeCells zv.cells (ln * sz) := by simp [h0, madeCells]
          simp only [Sem.run_bind, Result.andThen_ok, Sem.run_pure, hm, f1]
          simp [Go.newRow, newObj, Sem.run]
        · rw [if_neg h0]
          have hm : ((Array.range (ln * sz)).map (zv.cells[· % zv.cells.size]!)) = madeCells zv.cells (ln * sz) := rfl
          simp only [Sem.run_bind, hzr, Result.andThen_ok, Sem.run_pure, hm, f1]
          simp [Go.newRow, newObj, Sem.run]
  · right; exact fun U => trivial

def AlR (P : Program) (o : Oper) (f : Operand → Value) (cs : List Value) (t : TypeId) (e : Nat) (mk : Nat → Value) : Prop :=
  (∀ U, (cOp P o.op o.type).re f U = newRow U cs t e true mk) ∧
  ∃ mk', MkForm mk mk' ∧ ∀ (g : Gh) (f' ρ : Operand → Value) (w : World), (∀ x ∈ o.op.operands.toList, f' x = f x) → (∀ x, RV g (f' x) (ρ x)) →
    ∃ cs' t', All2 (RC g) cs cs' ∧ (execOp ρ o).run P w = .ok (.value (mk' w.heap.size)) (w.alloc (.cells cs'.toArray t'))

theorem al_ok {o : Oper} (h : cls P o = .al) (f : Operand → Value) : o.guard = none ∧ ((∃ cs t e mk, AlR P o f cs t e mk) ∨ ∀ U, Stop ((cOp P o.op o.type).re f U)) := by
  obtain ⟨dst, op, type, pos, aft, guard⟩ := o
  unfold cls at h
  dsimp only at h ⊢
  split at h
  · rename_i t
    cases guard with
    | some _ => cases h
    | none =>
      refine ⟨rfl, ?_⟩
      show (∃ cs t e mk, AlR P _ f cs t e mk) ∨ ∀ U, Stop ((cAlloc P t).run U)
      cases hz : zero P t with
      | none => right; intro U; unfold cAlloc; simp only [hz]; exact trivial
      | some z =>
        cases hi : ti P t with
        | none => right; intro U; unfold cAlloc; simp only [hz, hi]; exact trivial
        | some i =>
          left
          obtain ⟨inf, zv, h1, h2, h3, h4⟩ := zero_some hz
          refine ⟨z, t, esz P t i.size, newPtr, fun U => ?_, _, .inl ⟨rfl, rfl⟩, fun g f' ρ w _ _ => ⟨z, t, RCs.self h4, ?_⟩⟩
          · show (cAlloc P t).run U = _
            unfold cAlloc; simp only [hz, hi]
          · show (Instr.alloc t true (.tuple #[]) >>= fun v => Pure.pure (Next.value v)).run P w = _
            simp [Instr.alloc, zeroValue, typeInfo, h1, h2, newVar, Go.newRow, h3, newObj, Sem.run]
  · rename_i t ln ps
    cases guard with
    | some _ => cases h
    | none =>
      refine ⟨rfl, ?_⟩
      rcases buildSlice_run (P := P) (t := t) (ln := ln) (ps := ps.toList.map fun p => (p.1, f p.2)) with ⟨cs, e, h1, h2⟩ | h1
      · left
        refine ⟨cs, e.1, e.2, _, h1, _, .inr ⟨ln, rfl, rfl⟩, fun g f' ρ w hf hρ => ?_⟩
        have hm : (ps.toList.map fun p => (p.1, f p.2)) = ps.toList.map fun p => (p.1, f' p.2) := List.map_congr_left fun p hp => by
          rw [hf p.2 (by simp only [Op.operands]; exact List.mem_map.2 ⟨p, hp, rfl⟩)]
        obtain ⟨cs', t', c1, c2⟩ := h2 g (ps.toList.map fun p => (p.1, ρ p.2)) w (by rw [hm]; exact ptmap hρ)
        refine ⟨cs', t', c1, ?_⟩
        have e : ((ps.toList.map fun p => (p.1, ρ p.2)).toArray) = ps.map fun p => (p.1, ρ p.2) := by apply Array.ext'; simp
        rw [e] at c2
        show (Instr.buildSlice t ln (ps.map fun p => (p.1, ρ p.2)) >>= fun v => Pure.pure (Next.value v)).run P w = _
        simp [c2]
      · exact .inr h1
  all_goals first | (cases h; done) | skip
  · split at h <;> cases h
  · split at h
    · split at h <;> cases h
    · cases h
    · cases h
    · cases h

end Go.Cx
namespace Go.Cx
open Go

theorem has_eq (x t : Nat) : has x t = x.testBit t := by
  show Nat.beq (Nat.land (Nat.shiftRight x t) 1) 1 = _
  have e : Nat.land (Nat.shiftRight x t) 1 = (x >>> t) &&& 1 := rfl
  rw [e, Nat.and_one_is_mod, Nat.testBit, Nat.one_and_eq_mod_two]
  rcases Nat.mod_two_eq_zero_or_one (x >>> t) with h | h <;> rw [h] <;> rfl
theorem has_zero (t : Nat) : has 0 t = false := by rw [has_eq]; exact Nat.zero_testBit t
theorem has_lor (a b t : Nat) : has (Nat.lor a b) t = (has a t || has b t) := by
  rw [has_eq, has_eq, has_eq]; exact Nat.testBit_or a b t
theorem has_land (a b t : Nat) : has (Nat.land a b) t = (has a t && has b t) := by
  rw [has_eq, has_eq, has_eq]; exact Nat.testBit_and a b t
theorem has_sub (a b t : Nat) : has (sub a b) t = (has a t && !has b t) := by
  show has (Nat.xor a (Nat.land a b)) t = _
  rw [has_eq, has_eq, has_eq]
  have : (a ^^^ (a &&& b)).testBit t = (a.testBit t ^^ (a &&& b).testBit t) := Nat.testBit_xor a _ t
  show (a ^^^ (a &&& b)).testBit t = _
  rw [this, Nat.testBit_and]
  cases a.testBit t <;> cases b.testBit t <;> rfl
theorem has_bit (i t : Nat) : has (bit i) t = decide (i = t) := by
  rw [has_eq]
  show (1 <<< i).testBit t = _
  rw [Nat.one_shiftLeft, Nat.testBit_two_pow]
theorem has_ones (n t : Nat) : has (ones n) t = decide (t < n) := by
  rw [has_eq]
  show (1 <<< n - 1).testBit t = _
  rw [Nat.one_shiftLeft, Nat.testBit_two_pow_sub_one]
theorem sub?_spec {a b : Nat} (h : sub? a b = true) {t : Nat} (ht : has a t = true) : has b t = true := by
  have e : Nat.land a b = a := Nat.eq_of_beq_eq_true h
  have := has_land a b t
  rw [e, ht] at this
  cases hb : has b t
  · rw [hb] at this; cases this
  · rfl

theorem genOf_inj {a b : Option Nat} (h : genOf a = genOf b) : a = b := by
  cases a <;> cases b
  · rfl
  · cases h
  · cases h
  · have : Nat.succ _ = Nat.succ _ := h
    rw [Nat.succ.inj this]

theorem eqA_eq {a b : Addr} (h : eqA a b = true) : a = b := by
  obtain ⟨x, y, z⟩ := a
  obtain ⟨x', y', z'⟩ := b
  have h : (Bool.rec (motive := fun _ => Bool) false (Bool.rec (motive := fun _ => Bool) false (Nat.beq (genOf z) (genOf z')) (Nat.beq y y')) (Nat.beq x x') : Bool) = true := h
  rw [if_eq, if_eq] at h
  split at h
  case isFalse => cases h
  split at h
  case isFalse => cases h
  rename_i h1 h2
  rw [Nat.eq_of_beq_eq_true h1, Nat.eq_of_beq_eq_true h2, genOf_inj (Nat.eq_of_beq_eq_true h)]

theorem eqAO_eq {a b : Option Addr} (h : eqAO a b = true) : a = b := by
  cases a <;> cases b
  · rfl
  · cases h
  · cases h
  · rw [eqA_eq h]


theorem eqI_eq {a b : Int} (h : eqI a b = true) : a = b := by
  cases a <;> cases b
  · rw [Nat.eq_of_beq_eq_true h]
  · cases h
  · cases h
  · rw [Nat.eq_of_beq_eq_true h]

theorem eqC_eq {a b : Value} (h : eqC a b = true) : a = b := by
  unfold eqC at h
  split at h
  · rename_i x y; cases x <;> cases y <;> first | rfl | cases h
  · rename_i k m k' n
    rw [if_eq] at h
    split at h
    · rename_i h1; rw [keq_eq h1, eqI_eq h]
    · cases h
  · rename_i s t
    have := of_decide_eq_true h
    obtain ⟨⟨s⟩⟩ := s
    obtain ⟨⟨t⟩⟩ := t
    have this : s = t := this
    rw [this]
  · rw [eqAO_eq h]
  · rename_i x n c y m d
    rw [if_eq] at h
    split at h
    case isFalse => cases h
    rename_i h1
    rw [if_eq] at h
    split at h
    case isFalse => cases h
    rename_i h2
    rw [eqAO_eq h1, Nat.eq_of_beq_eq_true h2, Nat.eq_of_beq_eq_true h]
  · rfl
  · rw [Nat.eq_of_beq_eq_true h]
  · rfl
  · rw [Nat.eq_of_beq_eq_true h]
  · rfl
  · rfl
  · rw [Nat.eq_of_beq_eq_true h]
  · cases h

theorem eqL_eq : ∀ {l m : List Value}, eqL l m = true → l = m
  | [], [], _ => rfl
  | [], _ :: _, h => by cases h
  | _ :: _, [], h => by cases h
  | x :: l, y :: m, h => by
    have h : (Bool.rec (motive := fun _ => Bool) false (eqL l m) (eqC x y) : Bool) = true := h
    rw [if_eq] at h
    split at h
    · rename_i h1; rw [eqC_eq h1, eqL_eq h]
    · cases h

theorem eqV_eq {a b : Value} (h : eqV a b = true) : a = b := by
  unfold eqV at h
  split at h
  · rename_i xs ys; rw [show xs = ys from Array.ext' (eqL_eq h)]
  · rename_i xs ys; rw [show xs = ys from Array.ext' (eqL_eq h)]
  · exact eqC_eq h

theorem sameRow_spec {h : Hp} {v v0 : Value} (e : sameRow h v v0 = true) : ∃ p q, placeOf v = some q ∧ placeOf v0 = some p ∧
    ∃ cs ln t cs' ln' t' gen' flo' e fix, hget h p = some (.row cs ln t e fix 0 0) ∧ hget h q = some (.row cs' ln' t' e fix gen' flo') ∧ cs.flatten = cs'.flatten := by
  unfold sameRow at e
  cases hq : placeOf v with
  | none => rw [hq] at e; cases e
  | some q =>
    cases hp : placeOf v0 with
    | none => rw [hq, hp] at e; cases e
    | some p =>
      rw [hq, hp] at e
      have e : (Bool.rec (motive := fun _ => Bool) false (young (hget h p)) (eqRow (hget h p) (hget h q)) : Bool) = true := e
      rw [if_eq] at e
      split at e
      case isFalse => cases e
      rename_i h1
      refine ⟨p, q, rfl, rfl, ?_⟩
      unfold eqRow at h1
      unfold young at e
      cases ha : hget h p with
      | none => rw [ha] at e; cases e
      | some o =>
        cases o with
        | map _ _ => rw [ha] at e; cases e
        | chan _ _ _ _ _ => rw [ha] at e; cases e
        | iter _ _ => rw [ha] at e; cases e
        | row cs ln t el fix gen flo =>
          rw [ha] at e h1
          have e : (Bool.rec (motive := fun _ => Bool) false (Nat.beq flo 0) (Nat.beq gen 0) : Bool) = true := e
          rw [if_eq] at e
          split at e
          case isFalse => cases e
          rename_i e1
          have e1 := Nat.eq_of_beq_eq_true e1
          have e2 := Nat.eq_of_beq_eq_true e
          subst e1; subst e2
          cases hb : hget h q with
          | none => rw [hb] at h1; cases h1
          | some o =>
            cases o with
            | map _ _ => rw [hb] at h1; cases h1
            | chan _ _ _ _ _ => rw [hb] at h1; cases h1
            | iter _ _ => rw [hb] at h1; cases h1
            | row cs' ln' t' el' fix' gen' flo' =>
              rw [hb] at h1
              have h1 : (Bool.rec (motive := fun _ => Bool) false (Bool.rec (motive := fun _ => Bool) false (Bool.rec (motive := fun _ => Bool) (Bool.rec (motive := fun _ => Bool) true false fix') fix' fix) (Nat.beq el el')) (eqL (flat cs) (flat cs')) : Bool) = true := h1
              rw [if_eq, if_eq] at h1
              split at h1
              case isFalse => cases h1
              rename_i g1
              split at h1
              case isFalse => cases h1
              rename_i g2
              have g1 := eqL_eq g1
              rw [flat_eq, flat_eq] at g1
              have g2 := Nat.eq_of_beq_eq_true g2
              have g3 : fix = fix' := by cases fix <;> cases fix' <;> first | rfl | cases h1
              subst g2; subst g3
              exact ⟨cs, ln, t, cs', ln', t', gen', flo', el, fix, rfl, rfl, g1⟩

end Go.Cx
namespace Go.Cx
open Go
variable {P : Program}

theorem bindsG_eq (e : Edge) : Region.binds .any e = bindsG e.ground := by
  unfold Region.binds bindsG
  cases e.ground <;> rfl

theorem has_preOf (ms : List Nat) (k : Nat) : ∀ es : List Edge, has (preOf ms es) k = true ↔ ∃ e ∈ es, bindsG e.ground = true ∧ (e.on = k ∨ ∃ m, ms[e.on]? = some m ∧ has m k = true)
  | [] => by
    show has 0 k = true ↔ _
    rw [has_zero]; simp
  | e :: es => by
    show has (Bool.rec (motive := fun _ => Nat) (preOf ms es) (Nat.lor (bit e.on) (Nat.lor (Option.rec (motive := fun _ => Nat) 0 (fun m => m) (nth ms e.on)) (preOf ms es))) (bindsG e.ground)) k = true ↔ _
    rw [if_eq, nth_eq]
    have ih := has_preOf ms k es
    split
    · rename_i hb
      rw [has_lor, has_lor, has_bit]
      simp only [Bool.or_eq_true, decide_eq_true_eq, ih]
      constructor
      · rintro (h | h | ⟨e', h1, h2, h3⟩)
        · exact ⟨e, by simp, hb, .inl h⟩
        · cases hm : ms[e.on]? with
          | none => rw [hm] at h; rw [show has (Option.rec (motive := fun _ => Nat) 0 (fun m => m) (none : Option Nat)) k = has 0 k from rfl, has_zero] at h; cases h
          | some m => rw [hm] at h; exact ⟨e, by simp, hb, .inr ⟨m, hm, h⟩⟩
        · exact ⟨e', by simp [h1], h2, h3⟩
      · rintro ⟨e', h1, h2, h3⟩
        rcases List.mem_cons.1 h1 with rfl | h1
        · rcases h3 with h3 | ⟨m, h3, h4⟩
          · exact .inl h3
          · right; left; rw [h3]; exact h4
        · exact .inr (.inr ⟨e', h1, h2, h3⟩)
    · rename_i hb
      rw [ih]
      constructor
      · rintro ⟨e', h1, h2⟩; exact ⟨e', by simp [h1], h2⟩
      · rintro ⟨e', h1, h2⟩
        rcases List.mem_cons.1 h1 with rfl | h1
        · exact absurd h2.1 hb
        · exact ⟨e', h1, h2⟩

theorem masks_len : ∀ (l : List Oper) (ms : List Nat), (masks l ms).length = ms.length + l.length
  | [], ms => rfl
  | o :: l, ms => by
    show (masks l (app ms [preOf ms o.after.toList])).length = _
    rw [masks_len l, app_eq]; simp; omega

theorem masks_old : ∀ (l : List Oper) (ms : List Nat) (i : Nat), i < ms.length → (masks l ms)[i]? = ms[i]?
  | [], ms, i, _ => rfl
  | o :: l, ms, i, h => by
    show (masks l (app ms [preOf ms o.after.toList]))[i]? = _
    rw [masks_old l _ i (by rw [app_eq]; simp; omega), app_eq, List.getElem?_append_left h]

theorem masks_at : ∀ (l : List Oper) (ms : List Nat) (j : Nat) (o : Oper), l[j]? = some o → (masks l ms)[ms.length + j]? = some (preOf ((masks l ms).take (ms.length + j)) o.after.toList)
  | [], ms, j, o, h => by simp at h
  | q :: l, ms, 0, o, h => by
    cases h
    show (masks l (app ms [preOf ms q.after.toList]))[ms.length]? = some (preOf ((masks l (app ms [preOf ms q.after.toList])).take ms.length) q.after.toList)
    have h1 := masks_old l (app ms [preOf ms q.after.toList]) ms.length (by rw [app_eq]; simp)
    have h2 : (masks l (app ms [preOf ms q.after.toList])).take ms.length = ms := by
      apply List.ext_getElem?
      intro i
      rw [List.getElem?_take]
      split
      · rename_i hi
        rw [masks_old l _ i (by rw [app_eq]; simp; omega), app_eq, List.getElem?_append_left hi]
      · rename_i hi
        rw [List.getElem?_eq_none (by omega)]
    rw [h2, h1, app_eq]
    simp
  | q :: l, ms, j + 1, o, h => by
    have ih := masks_at l (app ms [preOf ms q.after.toList]) j o (by simpa using h)
    have hl : (app ms [preOf ms q.after.toList]).length = ms.length + 1 := by rw [app_eq]; simp
    rw [hl] at ih
    have e : ms.length + 1 + j = ms.length + (j + 1) := by omega
    rw [e] at ih
    exact ih

noncomputable def Mk (L : List Oper) (i : Nat) : Nat := ((masks L [])[i]?).getD 0

theorem Mk_spec {L : List Oper} {i : Nat} {o : Oper} (ho : L[i]? = some o) (k : Nat) : has (Mk L i) k = true ↔ ∃ e ∈ o.after.toList, bindsG e.ground = true ∧ (e.on = k ∨ (e.on < i ∧ has (Mk L e.on) k = true)) := by
  have h := masks_at L [] i o ho
  rw [show ([] : List Nat).length + i = i from by simp] at h
  have hil : i < L.length := (List.getElem?_eq_some_iff.1 ho).1
  unfold Mk
  rw [h]
  show has (preOf _ _) k = true ↔ _
  rw [has_preOf]
  constructor
  · rintro ⟨e, h1, h2, h3⟩
    refine ⟨e, h1, h2, ?_⟩
    rcases h3 with h3 | ⟨m, h3, h4⟩
    · exact .inl h3
    · right
      rw [List.getElem?_take] at h3
      split at h3
      · rename_i hi; rw [h3]; exact ⟨hi, h4⟩
      · cases h3
  · rintro ⟨e, h1, h2, h3⟩
    refine ⟨e, h1, h2, ?_⟩
    rcases h3 with h3 | ⟨h3, h4⟩
    · exact .inl h3
    · right
      have hlt : e.on < (masks L []).length := by rw [masks_len]; simp; omega
      have hm := List.getElem?_eq_getElem hlt
      rw [hm] at h4
      exact ⟨_, by rw [List.getElem?_take, if_pos h3]; exact hm, h4⟩

theorem dops_at : ∀ (l : List Oper) (ms : List Nat) (b i : Nat), nth (dops P ms l b) i = match l[i]? with
    | some o => some ⟨b + i, o, cls P o, (ms[b + i]?).getD 0⟩
    | none => none
  | [], ms, b, i => by rw [nth_eq]; simp [dops]
  | o :: l, ms, b, 0 => by
    show some (Dop.mk b o (cls P o) (Option.rec (motive := fun _ => Nat) 0 (fun m => m) (nth ms b))) = _
    rw [nth_eq]
    cases ms[b]? <;> simp
    all_goals rename_i h; simp [h]
  | o :: l, ms, b, i + 1 => by
    show nth (dops P ms l (b + 1)) i = _
    rw [dops_at l ms (b + 1) i]
    have e : b + 1 + i = b + (i + 1) := by omega
    rw [e]
    simp

theorem dop_at {L : List Oper} {i : Nat} {d : Dop} (h : nth (dops P (masks L []) L 0) i = some d) : ∃ o, L[i]? = some o ∧ d = ⟨i, o, cls P o, Mk L i⟩ := by
  rw [dops_at] at h
  cases ho : L[i]? with
  | none => rw [ho] at h; cases h
  | some o =>
    rw [ho] at h
    refine ⟨o, rfl, ?_⟩
    have h := (Option.some.inj h).symm
    rw [Nat.zero_add] at h
    exact h

theorem has_maskD (f : Cl → Bool) (i : Nat) : ∀ ds : List Dop, has (maskD f ds) i = true ↔ ∃ d ∈ ds, d.i = i ∧ f d.c = true
  | [] => by show has 0 i = true ↔ _; rw [has_zero]; simp
  | d :: ds => by
    show has (Bool.rec (motive := fun _ => Nat) (maskD f ds) (Nat.lor (bit d.i) (maskD f ds)) (f d.c)) i = true ↔ _
    rw [if_eq]
    have ih := has_maskD f i ds
    split
    · rename_i hf
      rw [has_lor, has_bit, Bool.or_eq_true, decide_eq_true_eq, ih]
      constructor
      · rintro (h | ⟨d', h1, h2⟩)
        · exact ⟨d, by simp, h, hf⟩
        · exact ⟨d', by simp [h1], h2⟩
      · rintro ⟨d', h1, h2, h3⟩
        rcases List.mem_cons.1 h1 with rfl | h1
        · exact .inl h2
        · exact .inr ⟨d', h1, h2, h3⟩
    · rename_i hf
      rw [ih]
      constructor
      · rintro ⟨d', h1, h2⟩; exact ⟨d', by simp [h1], h2⟩
      · rintro ⟨d', h1, h2, h3⟩
        rcases List.mem_cons.1 h1 with rfl | h1
        · exact absurd h3 hf
        · exact ⟨d', h1, h2, h3⟩

theorem mem_dops {L : List Oper} {i : Nat} {o : Oper} (ho : L[i]? = some o) : (⟨i, o, cls P o, Mk L i⟩ : Dop) ∈ dops P (masks L []) L 0 := by
  have h := dops_at (P := P) L (masks L []) 0 i
  rw [ho, nth_eq] at h
  have h : (dops P (masks L []) L 0)[i]? = some ⟨0 + i, o, cls P o, ((masks L [])[0 + i]?).getD 0⟩ := h
  rw [Nat.zero_add] at h
  exact List.mem_of_getElem? h

theorem has_maskL {L : List Oper} {i : Nat} {o : Oper} (ho : L[i]? = some o) (f : Cl → Bool) : f (cls P o) = true → has (maskD f (dops P (masks L []) L 0)) i = true := fun h =>
  (has_maskD f i _).2 ⟨_, mem_dops ho, rfl, h⟩

theorem wof_some {L : List Oper} {t k : Nat} (h : wof L t = some k) : ∃ o, L[k]? = some o ∧ o.dst = some t := by
  induction L generalizing k with
  | nil => cases h
  | cons q L ih =>
    have h : (Bool.rec (motive := fun _ => Option Nat) (Option.rec (motive := fun _ => Option Nat) none (fun i => some (Nat.succ i)) (wof L t)) (some 0) (isDst t q.dst) : Option Nat) = some k := h
    rw [if_eq] at h
    split at h
    · rename_i hd
      cases h
      refine ⟨q, rfl, ?_⟩
      unfold isDst at hd
      cases hq : q.dst with
      | none => rw [hq] at hd; cases hd
      | some d => rw [hq] at hd; rw [Nat.eq_of_beq_eq_true hd]
    · cases hw : wof L t with
      | none => rw [hw] at h; cases h
      | some j =>
        rw [hw] at h
        cases h
        obtain ⟨o, h1, h2⟩ := ih hw
        exact ⟨o, by simpa using h1, h2⟩

theorem onlyDst_spec {L : List Oper} {i d : Nat} {o : Option Tmp} (h : onlyDst L i o = true) (hd : o = some d) : wof L d = some i := by
  subst hd
  have h : (Option.rec (motive := fun _ => Bool) false (fun k => Nat.beq k i) (wof L d) : Bool) = true := h
  cases hw : wof L d with
  | none => rw [hw] at h; cases h
  | some k => rw [hw] at h; rw [Nat.eq_of_beq_eq_true h]

theorem tmpsL_cons (o : Operand) (l : List Operand) : tmpsL (o :: l) = match o with | .tmp t => t :: tmpsL l | _ => tmpsL l := rfl

theorem mem_tmpsL {t : Nat} : ∀ {l : List Operand}, Operand.tmp t ∈ l → t ∈ tmpsL l
  | [], h => by cases h
  | o :: l, h => by
    rw [tmpsL_cons]
    rcases List.mem_cons.1 h with rfl | h
    · simp
    · have := mem_tmpsL h
      cases o <;> first | (simp [this]; done) | exact this

theorem guardD_sub {L : List Oper} {g : Option (Nat × Bool)} {l : List Nat} : ∀ t ∈ l, t ∈ guardD L g l := by
  intro t ht
  unfold guardD
  split
  · exact ht
  · split
    · split
      · simp [ht]
      · exact ht
    · exact ht

theorem guardD_mem {L : List Oper} {j d : Nat} {want : Bool} {q : Oper} {l : List Nat} (hq : L[j]? = some q) (hd : q.dst = some d) : d ∈ guardD L (some (j, want)) l := by
  unfold guardD
  simp only [nth_eq, hq, hd]
  simp

theorem slotOk_spec {L : List Oper} {i dn t k : Nat} (h : slotOk L (masks L []) i (Mk L i) dn t = true) (hw : wof L t = some k) : (has dn k = true ∧ has (Mk L i) k = true) ∨ (has dn k = false ∧ has (Mk L i) k = false ∧ (k = i ∨ has (Mk L k) i = true)) := by
  unfold slotOk at h
  rw [hw] at h
  have h : (Bool.rec (motive := fun _ => Bool) (Bool.rec (motive := fun _ => Bool) (Bool.rec (motive := fun _ => Bool) (Option.rec (motive := fun _ => Bool) false (fun mk => has mk i) (nth (masks L []) k)) true (Nat.beq k i)) false (has (Mk L i) k)) (has (Mk L i) k) (has dn k) : Bool) = true := h
  rw [if_eq] at h
  split at h
  · rename_i h1; exact .inl ⟨h1, h⟩
  · rename_i h1
    have h1 : has dn k = false := by simpa using h1
    rw [if_eq] at h
    split at h
    · cases h
    · rename_i h2
      have h2 : has (Mk L i) k = false := by simpa using h2
      refine .inr ⟨h1, h2, ?_⟩
      rw [if_eq] at h
      split at h
      · rename_i h3; exact .inl (Nat.eq_of_beq_eq_true h3)
      · right
        unfold Mk
        rw [nth_eq] at h
        cases hm : (masks L [])[k]? with
        | none => rw [hm] at h; cases h
        | some m => rw [hm] at h; exact h

end Go.Cx
namespace Go.Cx
open Go
variable {P : Program}

noncomputable def Oks (P : Program) (L : List Oper) (np rd full : Nat) (ss : List Stp) (dn dw su bad : Nat) : Prop := okS L (masks L []) (dops P (masks L []) L 0) np rd full ss dn dw su bad = true

section
variable {L : List Oper} {np rd full : Nat} {dn dw su bad i : Nat} {r : List Stp}

theorem Oks.nil (h : Oks P L np rd full [] dn dw su bad) : dn = full ∧ bad = 0 := by
  have h : (Bool.rec (motive := fun _ => Bool) false (Nat.beq bad 0) (Nat.beq dn full) : Bool) = true := h
  rw [if_eq] at h
  split at h
  · rename_i h1; exact ⟨Nat.eq_of_beq_eq_true h1, Nat.eq_of_beq_eq_true h⟩
  · cases h

theorem Oks.op (h : Oks P L np rd full (.op i :: r) dn dw su bad) : ∃ o, L[i]? = some o ∧ has dn i = false ∧ sub? dw (Mk L i) = true ∧ slotsOk L (masks L []) ⟨i, o, cls P o, Mk L i⟩ dn = true ∧ onlyDst L i o.dst = true ∧ elder i o.after.toList = true ∧
    ((cls P o = .wr ∧ bad = 0 ∧ Oks P L np rd full r (Nat.lor dn (bit i)) (Nat.lor dw (bit i)) (Nat.lor su (Mk L i)) (sub (Nat.land dn np) (Nat.lor su (Mk L i)))) ∨
     (cls P o = .al ∧ Oks P L np rd full r (Nat.lor dn (bit i)) dw su (Nat.lor bad (sub (Nat.land dn rd) su))) ∨
     (cls P o ≠ .wr ∧ cls P o ≠ .al ∧ Oks P L np rd full r (Nat.lor dn (bit i)) dw su bad)) := by
  unfold Oks at h
  have h : (Option.rec (motive := fun _ => Bool) false (fun d => Bool.rec (motive := fun _ => Bool) (Bool.rec (motive := fun _ => Bool) false (Bool.rec (motive := fun _ => Bool) false (Bool.rec (motive := fun _ => Bool) false (Bool.rec (motive := fun _ => Bool) false
      (Bool.rec (motive := fun _ => Bool) (okS L (masks L []) (dops P (masks L []) L 0) np rd full r (Nat.lor dn (bit i)) dw su (Bool.rec (motive := fun _ => Nat) bad (Nat.lor bad (sub (Nat.land dn rd) su)) (isAl d.c)))
        (Bool.rec (motive := fun _ => Bool) false (okS L (masks L []) (dops P (masks L []) L 0) np rd full r (Nat.lor dn (bit i)) (Nat.lor dw (bit i)) (Nat.lor su d.m) (sub (Nat.land dn np) (Nat.lor su d.m))) (Nat.beq bad 0)) (isWr d.c))
      (elder i d.o.after.toList)) (onlyDst L i d.o.dst)) (slotsOk L (masks L []) d dn)) (sub? dw d.m)) false (has dn i)) (nth (dops P (masks L []) L 0) i) : Bool) = true := h
  cases hd : nth (dops P (masks L []) L 0) i with
  | none => rw [hd] at h; cases h
  | some d =>
    rw [hd] at h
    obtain ⟨o, ho, rfl⟩ := dop_at hd
    dsimp only at h
    rw [if_eq] at h
    split at h
    case isTrue => cases h
    rename_i h1
    rw [if_eq] at h
    split at h
    case isFalse => cases h
    rename_i h2
    rw [if_eq] at h
    split at h
    case isFalse => cases h
    rename_i h3
    rw [if_eq] at h
    split at h
    case isFalse => cases h
    rename_i h4
    rw [if_eq] at h
    split at h
    case isFalse => cases h
    rename_i h5
    refine ⟨o, ho, by simpa using h1, h2, h3, h4, h5, ?_⟩
    cases hc : cls P o with
    | wr =>
      rw [hc] at h
      have h : (Bool.rec (motive := fun _ => Bool) false (okS L (masks L []) (dops P (masks L []) L 0) np rd full r (Nat.lor dn (bit i)) (Nat.lor dw (bit i)) (Nat.lor su (Mk L i)) (sub (Nat.land dn np) (Nat.lor su (Mk L i)))) (Nat.beq bad 0) : Bool) = true := h
      rw [if_eq] at h
      split at h
      · rename_i h6; exact .inl ⟨rfl, Nat.eq_of_beq_eq_true h6, h⟩
      · cases h
    | al => rw [hc] at h; exact .inr (.inl ⟨rfl, h⟩)
    | pu => rw [hc] at h; exact .inr (.inr ⟨(by intro e; cases e), (by intro e; cases e), h⟩)
    | ld => rw [hc] at h; exact .inr (.inr ⟨(by intro e; cases e), (by intro e; cases e), h⟩)
    | rd => rw [hc] at h; exact .inr (.inr ⟨(by intro e; cases e), (by intro e; cases e), h⟩)

theorem Oks.chk (h : Oks P L np rd full (.chk i :: r) dn dw su bad) : ∃ o, L[i]? = some o ∧ has dn i = true ∧ slotsOk L (masks L []) ⟨i, o, cls P o, Mk L i⟩ dn = true ∧ cls P o ≠ .wr ∧ cls P o ≠ .al ∧ Oks P L np rd full r dn dw su (sub bad (bit i)) := by
  unfold Oks at h
  have h : (Option.rec (motive := fun _ => Bool) false (fun d => Bool.rec (motive := fun _ => Bool) false (Bool.rec (motive := fun _ => Bool) false (Bool.rec (motive := fun _ => Bool) (Bool.rec (motive := fun _ => Bool) (okS L (masks L []) (dops P (masks L []) L 0) np rd full r dn dw su (sub bad (bit i))) false (isAl d.c)) false (isWr d.c)) (slotsOk L (masks L []) d dn)) (has dn i)) (nth (dops P (masks L []) L 0) i) : Bool) = true := h
  cases hd : nth (dops P (masks L []) L 0) i with
  | none => rw [hd] at h; cases h
  | some d =>
    rw [hd] at h
    obtain ⟨o, ho, rfl⟩ := dop_at hd
    dsimp only at h
    rw [if_eq] at h
    split at h
    case isFalse => cases h
    rename_i h1
    rw [if_eq] at h
    split at h
    case isFalse => cases h
    rename_i h2
    rw [if_eq] at h
    split at h
    case isTrue => cases h
    rename_i h3
    rw [if_eq] at h
    split at h
    case isTrue => cases h
    rename_i h4
    exact ⟨o, ho, h1, h2, (fun e => h3 (by rw [e]; rfl)), (fun e => h4 (by rw [e]; rfl)), h⟩

theorem Oks.chkA (h : Oks P L np rd full (.chkA i :: r) dn dw su bad) : ∃ o, L[i]? = some o ∧ has dn i = true ∧ slotsOk L (masks L []) ⟨i, o, cls P o, Mk L i⟩ dn = true ∧ cls P o = .al ∧ Oks P L np rd full r dn dw su (sub bad (bit i)) := by
  unfold Oks at h
  have h : (Option.rec (motive := fun _ => Bool) false (fun d => Bool.rec (motive := fun _ => Bool) false (Bool.rec (motive := fun _ => Bool) false (Bool.rec (motive := fun _ => Bool) false (okS L (masks L []) (dops P (masks L []) L 0) np rd full r dn dw su (sub bad (bit i))) (isAl d.c)) (slotsOk L (masks L []) d dn)) (has dn i)) (nth (dops P (masks L []) L 0) i) : Bool) = true := h
  cases hd : nth (dops P (masks L []) L 0) i with
  | none => rw [hd] at h; cases h
  | some d =>
    rw [hd] at h
    obtain ⟨o, ho, rfl⟩ := dop_at hd
    dsimp only at h
    rw [if_eq] at h
    split at h
    case isFalse => cases h
    rename_i h1
    rw [if_eq] at h
    split at h
    case isFalse => cases h
    rename_i h2
    rw [if_eq] at h
    split at h
    case isFalse => cases h
    rename_i h3
    refine ⟨o, ho, h1, h2, ?_, h⟩
    revert h3
    cases cls P o <;> intro h3 <;> first | rfl | cases h3
end

noncomputable def kon (x : Operand) : Value := match x with
  | .tmp _ => junkV
  | .const v => constV v
  | .global k => .complex .f32 k 0
  | .func f => .func (.func f) #[] #[]

theorem rdO_kon {xs : Nat} {ns : List Nat} {env : Env} {st : List Value} {x : Operand} (h : ∀ t, x ≠ .tmp t) : rdO xs ns env st x = kon x := by
  cases x with
  | tmp t => exact absurd rfl (h t)
  | _ => rfl

noncomputable def opv (L : List Oper) (E0 v : Nat → Value) (m : Nat) (x : Operand) : Value := match x with
  | .tmp t => (match wof L t with | some k => if has m k = true then v k else E0 t | none => E0 t)
  | x => kon x

noncomputable def gdv (L : List Oper) (E0 v : Nat → Value) (m : Nat) (o : Oper) : Gd := match o.guard with
  | none => .yes
  | some (j, want) => (match L[j]? with | some q => (match q.dst with | some d => guardOf want (opv L E0 v m (.tmp d)) | none => .bad) | none => .bad)

inductive Fi where
  | done (U : W)
  | pan (v : Value) (U : W)

noncomputable def TP (P : Program) (L : List Oper) (N : Nat) (cf : CallF) (E0 v : Nat → Value) : List Stp → W → Fi → Prop
  | [], U, F => F = .done U
  | .op i :: r, U, F => ∃ o, L[i]? = some o ∧ (∀ d, o.dst = some d → d < N) ∧
      ((gdv L E0 v (Mk L i) o = .yes ∧ ∃ b, fin cf U ((cOp P o.op o.type).re (opv L E0 v (Mk L i)) U) = .ok (v i) b ∧ TP P L N cf E0 v r b F) ∨
       (gdv L E0 v (Mk L i) o = .not ∧ v i = undefV ∧ TP P L N cf E0 v r U F) ∨
       (gdv L E0 v (Mk L i) o = .yes ∧ cls P o = .wr ∧ ∃ pv b, fin cf U ((cOp P o.op o.type).re (opv L E0 v (Mk L i)) U) = .ot (.pan pv b) ∧ F = .pan pv b))
  | .chk i :: r, U, F => ∃ o, L[i]? = some o ∧ ((gdv L E0 v (Mk L i) o = .yes ∧ ∃ b, fin cf U ((cOp P o.op o.type).re (opv L E0 v (Mk L i)) U) = .ok (v i) b ∧ TP P L N cf E0 v r b F) ∨
       (gdv L E0 v (Mk L i) o = .not ∧ TP P L N cf E0 v r U F))
  | .chkA i :: r, U, F => ∃ o, L[i]? = some o ∧ (∃ u b, fin cf U ((cOp P o.op o.type).re (opv L E0 v (Mk L i)) U) = .ok u b ∧ sameRow b.h u (v i) = true) ∧ TP P L N cf E0 v r U F

structure EnvV (L : List Oper) (xs : Nat) (E0 : Nat → Value) (dn : Nat) (v : Nat → Value) (ns : List Nat) (env : Env) (st : List Value) : Prop where
  own : Own xs ns
  sl : ∀ t, slot xs ns env st t = match wof L t with | some k => if has dn k = true then v k else E0 t | none => E0 t

theorem slot_put {xs : Nat} {ns : List Nat} {env : Env} {st : List Value} {d : Nat} {v : Value} (ho : Own xs ns) (hd : has xs d = true) (hb : d < 256) (t : Nat) :
    slot xs ns ((putE d).run v env) st t = if t = d then v else slot xs ns env st t := by
  unfold slot slotV
  cases hi : idx t ns with
  | some i =>
    have hne : t ≠ d := by
      intro e; subst e
      have := ho t (List.mem_of_getElem? (idx_some hi).1)
      rw [hd] at this; cases this
    rw [if_neg hne]
  | none =>
    show ((Bool.rec (motive := fun _ => Src) ⟨fun _ _ => junkV⟩ (Bool.rec (motive := fun _ => Src) ⟨fun _ _ => junkV⟩ ⟨fun env _ => (Bx.rec (motive := fun _ => Value) (fun f => f env) (getE t) : Value)⟩ (Nat.ble (Nat.succ t) 256)) (has xs t) : Src).run _ st) = if t = d then v else ((Bool.rec (motive := fun _ => Src) ⟨fun _ _ => junkV⟩ (Bool.rec (motive := fun _ => Src) ⟨fun _ _ => junkV⟩ ⟨fun env _ => (Bx.rec (motive := fun _ => Value) (fun f => f env) (getE t) : Value)⟩ (Nat.ble (Nat.succ t) 256)) (has xs t) : Src).run env st)
    by_cases e : t = d
    · subst e
      rw [if_pos rfl, hd, show Nat.ble (Nat.succ t) 256 = true from Nat.ble_eq_true_of_le hb]
      show (Bx.rec (motive := fun _ => Value) (fun f => f ((putE t).run v env)) (getE t) : Value) = v
      rw [bx_eq, get_put]
    · rw [if_neg e]
      cases has xs t with
      | false => rfl
      | true =>
        cases hb' : Nat.ble (Nat.succ t) 256 with
        | false => rfl
        | true =>
          show (Bx.rec (motive := fun _ => Value) (fun f => f ((putE d).run v env)) (getE t) : Value) = (Bx.rec (motive := fun _ => Value) (fun f => f env) (getE t) : Value)
          rw [bx_eq, bx_eq, get_put' (Nat.le_of_ble_eq_true hb') hb e]

theorem slot_push {xs : Nat} {ns : List Nat} {env : Env} {st : List Value} {d : Nat} {v : Value} (t : Nat) :
    slot xs (d :: ns) env (v :: st) t = if t = d then v else slot xs ns env st t := by
  unfold slot slotV
  have e : idx t (d :: ns) = (Bool.rec (motive := fun _ => Option Nat) (Option.rec (motive := fun _ => Option Nat) none (fun i => some (Nat.succ i)) (idx t ns)) (some 0) (Nat.beq d t) : Option Nat) := rfl
  rw [e, if_eq]
  by_cases h : t = d
  · subst h
    rw [if_pos rfl, if_pos (Nat.beq_refl t)]
    show (Bx.rec (motive := fun _ => Value) (fun f => f (v :: st)) (getS 0) : Value) = v
    rw [bx_eq, getS_eq]; rfl
  · rw [if_neg h, if_neg (fun hb => h (Nat.eq_of_beq_eq_true hb).symm)]
    cases idx t ns with
    | none =>
      dsimp only
      cases has xs t with
      | false => rfl
      | true => cases Nat.ble (Nat.succ t) 256 <;> rfl
    | some i =>
      show (Bx.rec (motive := fun _ => Value) (fun f => f (v :: st)) (getS (i + 1)) : Value) = (Bx.rec (motive := fun _ => Value) (fun f => f st) (getS i) : Value)
      rw [bx_eq, bx_eq, getS_eq, getS_eq]; rfl

section
variable {L : List Oper} {xs N : Nat} {E0 v : Nat → Value} {dn : Nat} {ns : List Nat} {env : Env} {st : List Value}

theorem EnvV.at (h : EnvV L xs E0 dn v ns env st) {i : Nat} {d : Dop} (hd : d.i = i) (hm : d.m = Mk L i) (hs : slotsOk L (masks L []) d dn = true) {v' : Nat → Value} (hv : ∀ k, has dn k = true → v' k = v k) {t : Nat}
    (ht : t ∈ guardD L d.o.guard (tmpsL d.o.op.operands.toList)) : slot xs ns env st t = opv L E0 v' (Mk L i) (.tmp t) := by
  rw [h.sl t]
  unfold slotsOk at hs
  rw [allL_eq, List.all_eq_true] at hs
  have hs := hs t ht
  rw [hd, hm] at hs
  show _ = (match wof L t with | some k => if has (Mk L i) k = true then v' k else E0 t | none => E0 t)
  cases hw : wof L t with
  | none => rfl
  | some k =>
    dsimp only
    rcases slotOk_spec hs hw with ⟨h1, h2⟩ | ⟨h1, h2, _⟩
    · rw [if_pos h1, if_pos h2, hv k h1]
    · rw [if_neg (by rw [h1]; decide), if_neg (by rw [h2]; decide)]

theorem EnvV.ops (h : EnvV L xs E0 dn v ns env st) {i : Nat} {o : Oper} {c : Cl} (hs : slotsOk L (masks L []) ⟨i, o, c, Mk L i⟩ dn = true) {v' : Nat → Value} (hv : ∀ k, has dn k = true → v' k = v k) :
    ∀ x ∈ o.op.operands.toList, rdO xs ns env st x = opv L E0 v' (Mk L i) x := by
  intro x hx
  cases x with
  | tmp t => exact h.at (d := ⟨i, o, c, Mk L i⟩) rfl rfl hs hv (guardD_sub t (mem_tmpsL hx))
  | _ => rfl

theorem EnvV.guard (h : EnvV L xs E0 dn v ns env st) {i : Nat} {o : Oper} {c : Cl} (hs : slotsOk L (masks L []) ⟨i, o, c, Mk L i⟩ dn = true) {v' : Nat → Value} (hv : ∀ k, has dn k = true → v' k = v k) {g : Nat × Bool} (hg : o.guard = some g) :
    (cGuard xs L ns g).run env st = gdv L E0 v' (Mk L i) o := by
  obtain ⟨j, want⟩ := g
  unfold gdv cGuard
  rw [hg, nth_eq]
  dsimp only
  cases hq : L[j]? with
  | none => rfl
  | some q =>
    dsimp only
    cases hd : q.dst with
    | none => rfl
    | some d =>
      dsimp only
      have := h.at (d := ⟨i, o, c, Mk L i⟩) (i := i) (t := d) rfl rfl hs hv (by show d ∈ guardD L o.guard _; rw [hg]; exact guardD_mem hq hd)
      rw [← this]
      rfl

theorem EnvV.step (hN : N ≤ 256) (h : EnvV L xs E0 dn v ns env st) {i : Nat} {o : Oper} (ho : L[i]? = some o) (hn : has dn i = false) (hd : onlyDst L i o.dst = true) (u : Value) {cf : CallF} {w : W} {ih : List Nat → Bx RunS} :
    (∃ y, (cDst N xs o.dst ns ih).run cf env st u w = .no y) ∨ ∃ ns' env' st', (cDst N xs o.dst ns ih).run cf env st u w = (ih ns').run cf env' st' w ∧ (∀ d, o.dst = some d → d < N) ∧
      EnvV L xs E0 (Nat.lor dn (bit i)) (fun k => if k = i then u else v k) ns' env' st' := by
  cases hq : o.dst with
  | none =>
    refine .inr ⟨ns, env, st, rfl, fun d hd => (by cases hd), h.own, fun t => ?_⟩
    rw [h.sl t]
    cases hw : wof L t with
    | none => rfl
    | some k =>
      dsimp only
      obtain ⟨o', h1, h2⟩ := wof_some hw
      have hne : k ≠ i := by intro e; subst e; rw [ho] at h1; cases h1; rw [hq] at h2; cases h2
      rw [has_lor, has_bit, if_neg hne]
      simp [Ne.symm hne]
  | some d =>
    have hwd := onlyDst_spec hd hq
    have key : ∀ (ns' : List Nat) (env' : Env) (st' : List Value), (∀ t, slot xs ns' env' st' t = if t = d then u else slot xs ns env st t) → ∀ t, slot xs ns' env' st' t = match wof L t with | some k => if has (Nat.lor dn (bit i)) k = true then (if k = i then u else v k) else E0 t | none => E0 t := by
      intro ns' env' st' hs t
      rw [hs t]
      by_cases e : t = d
      · subst e
        rw [if_pos rfl, hwd]
        dsimp only
        rw [has_lor, has_bit]
        simp
      · rw [if_neg e, h.sl t]
        cases hw : wof L t with
        | none => rfl
        | some k =>
          dsimp only
          have hne : k ≠ i := by
            intro e2; subst e2
            obtain ⟨o', h1, h2⟩ := wof_some hw
            rw [ho] at h1; cases h1; rw [hq] at h2; cases h2; exact e rfl
          rw [has_lor, has_bit, if_neg hne]
          simp [Ne.symm hne]
    cases hb : Nat.ble (Nat.succ d) N with
    | false =>
      refine .inl ⟨141, ?_⟩
      unfold cDst
      simp only [hb]
    | true =>
      have hdN : d < N := Nat.le_of_ble_eq_true hb
      cases hx : has xs d with
      | false =>
        refine .inr ⟨d :: ns, env, u :: st, ?_, fun d' hd' => (by cases hd'; exact hdN), ?_, key _ _ _ fun t => slot_push t⟩
        · unfold cDst
          simp only [hb, hx]
        · intro t ht
          rcases List.mem_cons.1 ht with rfl | ht
          · exact hx
          · exact h.own t ht
      | true =>
        refine .inr ⟨ns, (putE d).run u env, st, ?_, fun d' hd' => (by cases hd'; exact hdN), h.own, key _ _ _ fun t => slot_put h.own hx (Nat.lt_of_lt_of_le hdN hN) t⟩
        unfold cDst
        simp only [hb, hx]
end

end Go.Cx
namespace Go.Cx
open Go
variable {P : Program}

theorem aft_go {env env' : Env} {k : Kv} {r : Re} {U' : W} (h : aftCall env k r = .go env' U') : ∃ u b, r = .ok u b ∧ k u b = .go env' U' := by
  cases r with
  | ok u b => exact ⟨u, b, rfl, h⟩
  | ot r => cases r <;> cases h

theorem steps_op (N xs : Nat) (L : List Oper) (i : Nat) (r : List Stp) (ns : List Nat) {o : Oper} (ho : L[i]? = some o) :
    cSteps P N xs L (.op i :: r) ns = cGuarded xs L ns o.guard (cSh xs (cOp P o.op o.type) ns (cDst N xs o.dst ns (cSteps P N xs L r))) (cDst N xs o.dst ns (cSteps P N xs L r)) := by
  show (Option.rec (motive := fun _ => Bx RunS) (noS 144) (fun o => cGuarded xs L ns o.guard (cSh xs (cOp P o.op o.type) ns (cDst N xs o.dst ns (cSteps P N xs L r))) (cDst N xs o.dst ns (cSteps P N xs L r))) (nth L i) : Bx RunS) = _
  rw [nth_eq, ho]

theorem steps_chk (N xs : Nat) (L : List Oper) (i : Nat) (r : List Stp) (ns : List Nat) {o : Oper} (ho : L[i]? = some o) :
    cSteps P N xs L (.chk i :: r) ns = (Option.rec (motive := fun _ => Bx RunS) (noS 144) (fun d => cGuarded xs L ns o.guard (cSh xs (cOp P o.op o.type) ns (cAgain xs d ns (cSteps P N xs L r))) (cSkip ns (cSteps P N xs L r))) o.dst : Bx RunS) := by
  show (Option.rec (motive := fun _ => Bx RunS) (noS 144) (fun o => (Option.rec (motive := fun _ => Bx RunS) (noS 144) (fun d => cGuarded xs L ns o.guard (cSh xs (cOp P o.op o.type) ns (cAgain xs d ns (cSteps P N xs L r))) (cSkip ns (cSteps P N xs L r))) o.dst : Bx RunS)) (nth L i) : Bx RunS) = _
  rw [nth_eq, ho]

theorem steps_chkA (N xs : Nat) (L : List Oper) (i : Nat) (r : List Stp) (ns : List Nat) {o : Oper} (ho : L[i]? = some o) :
    cSteps P N xs L (.chkA i :: r) ns = (Option.rec (motive := fun _ => Bx RunS) (noS 144) (fun d => ⟨fun cf env st w => (cSh xs (cOp P o.op o.type) ns (cRow xs d ns (cSteps P N xs L r) w)).run cf env st w⟩) o.dst : Bx RunS) := by
  show (Option.rec (motive := fun _ => Bx RunS) (noS 144) (fun o => (Option.rec (motive := fun _ => Bx RunS) (noS 144) (fun d => ⟨fun cf env st w => (cSh xs (cOp P o.op o.type) ns (cRow xs d ns (cSteps P N xs L r) w)).run cf env st w⟩) o.dst : Bx RunS)) (nth L i) : Bx RunS) = _
  rw [nth_eq, ho]

theorem steps_tp {N xs : Nat} (hN : N ≤ 256) {L : List Oper} {np rd full : Nat} {E0 : Nat → Value} {cf : CallF} {env' : Env} {U' : W} : ∀ (ss : List Stp) (dn dw su bad : Nat) (ns : List Nat) (env : Env) (st : List Value) (U : W) (v0 : Nat → Value),
    Oks P L np rd full ss dn dw su bad → EnvV L xs E0 dn v0 ns env st → (∀ k o d, has dn k = true → L[k]? = some o → o.dst = some d → wof L d = some k) → (cSteps P N xs L ss ns).run cf env st U = .go env' U' →
    ∃ v ns' st', (∀ k, has dn k = true → v k = v0 k) ∧ TP P L N cf E0 v ss U (.done U') ∧ EnvV L xs E0 full v ns' env' st'
  | [], dn, dw, su, bad, ns, env, st, U, v0, hok, hev, hds, hr => by
    obtain ⟨rfl, _⟩ := hok.nil
    cases hr
    exact ⟨v0, ns, st, fun _ _ => rfl, rfl, hev⟩
  | .op i :: r, dn, dw, su, bad, ns, env, st, U, v0, hok, hev, hds, hr => by
    obtain ⟨o, ho, h1, h2, h3, h4, h5, h6⟩ := hok.op
    have hnext : ∃ dw' su' bad', Oks P L np rd full r (Nat.lor dn (bit i)) dw' su' bad' := by
      rcases h6 with ⟨_, _, h⟩ | ⟨_, h⟩ | ⟨_, _, h⟩
      · exact ⟨_, _, _, h⟩
      · exact ⟨_, _, _, h⟩
      · exact ⟨_, _, _, h⟩
    obtain ⟨dw', su', bad', hok'⟩ := hnext
    have hds' : ∀ k o d, has (Nat.lor dn (bit i)) k = true → L[k]? = some o → o.dst = some d → wof L d = some k := by
      intro k o' d hk ho' hd'
      rw [has_lor, has_bit, Bool.or_eq_true, decide_eq_true_eq] at hk
      rcases hk with hk | rfl
      · exact hds k o' d hk ho' hd'
      · rw [ho] at ho'; cases ho'; exact onlyDst_spec h4 hd'
    rw [steps_op N xs L i r ns ho, guarded_eq] at hr
    have next : ∀ (u : Value) (b : W), (cDst N xs o.dst ns (cSteps P N xs L r)).run cf env st u b = .go env' U' → ∃ v ns' st', (∀ k, has dn k = true → v k = v0 k) ∧ v i = u ∧ (∀ d, o.dst = some d → d < N) ∧ TP P L N cf E0 v r b (.done U') ∧ EnvV L xs E0 full v ns' env' st' := by
      intro u b hb
      rcases hev.step hN ho h1 h4 u (cf := cf) (w := b) (ih := cSteps P N xs L r) with ⟨y, hy⟩ | ⟨ns1, env1, st1, e1, e2, e3⟩
      · rw [hy] at hb; cases hb
      · rw [e1] at hb
        obtain ⟨v, ns', st', g1, g2, g3⟩ := steps_tp hN r _ _ _ _ ns1 env1 st1 b _ hok' e3 hds' hb
        refine ⟨v, ns', st', fun k hk => ?_, ?_, e2, g2, g3⟩
        · have := g1 k (by rw [has_lor, hk]; rfl)
          rw [this]
          have hne : k ≠ i := by intro e; subst e; rw [h1] at hk; cases hk
          simp [hne]
        · have := g1 i (by rw [has_lor, has_bit]; simp)
          rw [this]; simp
    have yes : (cSh xs (cOp P o.op o.type) ns (cDst N xs o.dst ns (cSteps P N xs L r))).run cf env st U = .go env' U' → ∃ v ns' st', (∀ k, has dn k = true → v k = v0 k) ∧ (∀ d, o.dst = some d → d < N) ∧
        (∃ b, fin cf U ((cOp P o.op o.type).re (opv L E0 v (Mk L i)) U) = .ok (v i) b ∧ TP P L N cf E0 v r b (.done U')) ∧ EnvV L xs E0 full v ns' env' st' := by
      intro hr
      rw [cSh_eq, after_eq] at hr
      obtain ⟨u, b, e1, e2⟩ := aft_go hr
      obtain ⟨v, ns', st', g1, g2, g3, g4, g5⟩ := next u b e2
      refine ⟨v, ns', st', g1, g3, ⟨b, ?_, g4⟩, g5⟩
      rw [g2, ← e1, re_congr (hev.ops h3 g1)]
    cases hg : o.guard with
    | none =>
      rw [hg] at hr
      obtain ⟨v, ns', st', g1, g2, g3, g4⟩ := yes hr
      exact ⟨v, ns', st', g1, ⟨o, ho, g2, .inl ⟨by unfold gdv; rw [hg], g3⟩⟩, g4⟩
    | some gd =>
      rw [hg] at hr
      dsimp only at hr
      cases hq : (cGuard xs L ns gd).run env st with
      | yes =>
        rw [hq] at hr
        obtain ⟨v, ns', st', g1, g2, g3, g4⟩ := yes hr
        exact ⟨v, ns', st', g1, ⟨o, ho, g2, .inl ⟨by rw [← hev.guard h3 g1 hg, hq], g3⟩⟩, g4⟩
      | not =>
        rw [hq] at hr
        obtain ⟨v, ns', st', g1, g2, g3, g4, g5⟩ := next undefV U hr
        exact ⟨v, ns', st', g1, ⟨o, ho, g3, .inr (.inl ⟨by rw [← hev.guard h3 g1 hg, hq], g2, g4⟩)⟩, g5⟩
      | bad => rw [hq] at hr; cases hr
  | .chk i :: r, dn, dw, su, bad, ns, env, st, U, v0, hok, hev, hds, hr => by
    obtain ⟨o, ho, h1, h3, h4, h5, hok'⟩ := hok.chk
    rw [steps_chk N xs L i r ns ho] at hr
    cases hd : o.dst with
    | none => rw [hd] at hr; cases hr
    | some d =>
      rw [hd] at hr
      dsimp only at hr
      rw [guarded_eq] at hr
      have hsl : slot xs ns env st d = v0 i := by
        rw [hev.sl d, hds i o d h1 ho hd]
        dsimp only
        rw [if_pos h1]
      have yes : (cSh xs (cOp P o.op o.type) ns (cAgain xs d ns (cSteps P N xs L r))).run cf env st U = .go env' U' → ∃ v ns' st', (∀ k, has dn k = true → v k = v0 k) ∧
          (∃ b, fin cf U ((cOp P o.op o.type).re (opv L E0 v (Mk L i)) U) = .ok (v i) b ∧ TP P L N cf E0 v r b (.done U')) ∧ EnvV L xs E0 full v ns' env' st' := by
        intro hr
        rw [cSh_eq, after_eq] at hr
        obtain ⟨u, b, e1, e2⟩ := aft_go hr
        have e2 : (Bool.rec (motive := fun _ => Ou) (.no 142) ((cSteps P N xs L r ns).run cf env st b) (eqV u (slot xs ns env st d)) : Ou) = .go env' U' := e2
        rw [if_eq] at e2
        split at e2
        case isFalse => cases e2
        rename_i he
        have he := eqV_eq he
        obtain ⟨v, ns', st', g1, g2, g3⟩ := steps_tp hN r _ _ _ _ ns env st b _ hok' hev hds e2
        refine ⟨v, ns', st', g1, ⟨b, ?_, g2⟩, g3⟩
        rw [g1 i h1, ← hsl, ← he, ← e1, re_congr (hev.ops h3 g1)]
      cases hg : o.guard with
      | none =>
        rw [hg] at hr
        obtain ⟨v, ns', st', g1, g3, g4⟩ := yes hr
        exact ⟨v, ns', st', g1, ⟨o, ho, .inl ⟨by unfold gdv; rw [hg], g3⟩⟩, g4⟩
      | some gd =>
        rw [hg] at hr
        dsimp only at hr
        cases hq : (cGuard xs L ns gd).run env st with
        | yes =>
          rw [hq] at hr
          obtain ⟨v, ns', st', g1, g3, g4⟩ := yes hr
          exact ⟨v, ns', st', g1, ⟨o, ho, .inl ⟨by rw [← hev.guard h3 g1 hg, hq], g3⟩⟩, g4⟩
        | not =>
          rw [hq] at hr
          obtain ⟨v, ns', st', g1, g2, g3⟩ := steps_tp hN r _ _ _ _ ns env st U _ hok' hev hds hr
          exact ⟨v, ns', st', g1, ⟨o, ho, .inr ⟨by rw [← hev.guard h3 g1 hg, hq], g2⟩⟩, g3⟩
        | bad => rw [hq] at hr; cases hr
  | .chkA i :: r, dn, dw, su, bad, ns, env, st, U, v0, hok, hev, hds, hr => by
    obtain ⟨o, ho, h1, h3, h4, hok'⟩ := hok.chkA
    rw [steps_chkA N xs L i r ns ho] at hr
    cases hd : o.dst with
    | none => rw [hd] at hr; cases hr
    | some d =>
      rw [hd] at hr
      have hsl : slot xs ns env st d = v0 i := by
        rw [hev.sl d, hds i o d h1 ho hd]
        dsimp only
        rw [if_pos h1]
      have hr : (cSh xs (cOp P o.op o.type) ns (cRow xs d ns (cSteps P N xs L r) U)).run cf env st U = .go env' U' := hr
      rw [cSh_eq, after_eq] at hr
      obtain ⟨u, b, e1, e2⟩ := aft_go hr
      have e2 : (Bool.rec (motive := fun _ => Ou) (.no 143) ((cSteps P N xs L r ns).run cf env st U) (sameRow b.h u (slot xs ns env st d)) : Ou) = .go env' U' := e2
      rw [if_eq] at e2
      split at e2
      case isFalse => cases e2
      rename_i he
      obtain ⟨v, ns', st', g1, g2, g3⟩ := steps_tp hN r _ _ _ _ ns env st U _ hok' hev hds e2
      refine ⟨v, ns', st', g1, ⟨o, ho, ⟨u, b, ?_, ?_⟩, g2⟩, g3⟩
      · rw [← e1, re_congr (hev.ops h3 g1)]
      · rw [g1 i h1, ← hsl]; exact he

theorem aft_pan {env env' : Env} {k : Kv} {r : Re} {pv : Value} {U' : W} (h : aftCall env k r = .pan pv env' U') : (∃ u b, r = .ok u b ∧ k u b = .pan pv env' U') ∨ r = .ot (.pan pv U') := by
  cases r with
  | ok u b => exact .inl ⟨u, b, rfl, h⟩
  | ot r =>
    cases r with
    | pan v b => cases h; exact .inr rfl
    | _ => cases h

theorem steps_pan {N xs : Nat} (hN : N ≤ 256) {L : List Oper} {cf : CallF} (hnp : ∀ (i : Nat) (o : Oper), L[i]? = some o → cls P o = .wr ∨ ∀ f U pv b, fin cf U ((cOp P o.op o.type).re f U) ≠ .ot (.pan pv b)) (hdN : ∀ (i : Nat) (o : Oper) (d : Tmp), L[i]? = some o → o.dst = some d → d < N) {np rd full : Nat} {E0 : Nat → Value} {pv : Value} {env' : Env} {U' : W} : ∀ (ss : List Stp) (dn dw su bad : Nat) (ns : List Nat) (env : Env) (st : List Value) (U : W) (v0 : Nat → Value),
    Oks P L np rd full ss dn dw su bad → EnvV L xs E0 dn v0 ns env st → (∀ k o d, has dn k = true → L[k]? = some o → o.dst = some d → wof L d = some k) → (cSteps P N xs L ss ns).run cf env st U = .pan pv env' U' →
    ∃ v, (∀ k, has dn k = true → v k = v0 k) ∧ TP P L N cf E0 v ss U (.pan pv U')
  | [], dn, dw, su, bad, ns, env, st, U, v0, hok, hev, hds, hr => by
    obtain ⟨rfl, _⟩ := hok.nil
    cases hr
  | .op i :: r, dn, dw, su, bad, ns, env, st, U, v0, hok, hev, hds, hr => by
    obtain ⟨o, ho, h1, h2, h3, h4, h5, h6⟩ := hok.op
    have hnext : ∃ dw' su' bad', Oks P L np rd full r (Nat.lor dn (bit i)) dw' su' bad' := by
      rcases h6 with ⟨_, _, h⟩ | ⟨_, h⟩ | ⟨_, _, h⟩
      · exact ⟨_, _, _, h⟩
      · exact ⟨_, _, _, h⟩
      · exact ⟨_, _, _, h⟩
    obtain ⟨dw', su', bad', hok'⟩ := hnext
    have hds' : ∀ k o d, has (Nat.lor dn (bit i)) k = true → L[k]? = some o → o.dst = some d → wof L d = some k := by
      intro k o' d hk ho' hd'
      rw [has_lor, has_bit, Bool.or_eq_true, decide_eq_true_eq] at hk
      rcases hk with hk | rfl
      · exact hds k o' d hk ho' hd'
      · rw [ho] at ho'; cases ho'; exact onlyDst_spec h4 hd'
    rw [steps_op N xs L i r ns ho, guarded_eq] at hr
    have next : ∀ (u : Value) (b : W), (cDst N xs o.dst ns (cSteps P N xs L r)).run cf env st u b = .pan pv env' U' → ∃ v, (∀ k, has dn k = true → v k = v0 k) ∧ v i = u ∧ TP P L N cf E0 v r b (.pan pv U') := by
      intro u b hb
      rcases hev.step hN ho h1 h4 u (cf := cf) (w := b) (ih := cSteps P N xs L r) with ⟨y, hy⟩ | ⟨ns1, env1, st1, e1, e2, e3⟩
      · rw [hy] at hb; cases hb
      · rw [e1] at hb
        obtain ⟨v, g1, g2⟩ := steps_pan hN hnp hdN r _ _ _ _ ns1 env1 st1 b _ hok' e3 hds' hb
        refine ⟨v, fun k hk => ?_, ?_, g2⟩
        · have := g1 k (by rw [has_lor, hk]; rfl)
          rw [this]
          have hne : k ≠ i := by intro e; subst e; rw [h1] at hk; cases hk
          simp [hne]
        · have := g1 i (by rw [has_lor, has_bit]; simp)
          rw [this]; simp
    have yes : (∀ v, (∀ k, has dn k = true → v k = v0 k) → gdv L E0 v (Mk L i) o = .yes) → (cSh xs (cOp P o.op o.type) ns (cDst N xs o.dst ns (cSteps P N xs L r))).run cf env st U = .pan pv env' U' → ∃ v, (∀ k, has dn k = true → v k = v0 k) ∧ TP P L N cf E0 v (.op i :: r) U (.pan pv U') := by
      intro hgy hr
      rw [cSh_eq, after_eq] at hr
      rcases aft_pan hr with ⟨u, b, e1, e2⟩ | e1
      · obtain ⟨v, g1, g2, g3⟩ := next u b e2
        refine ⟨v, g1, o, ho, fun d hd => hdN i o d ho hd, .inl ⟨hgy v g1, b, ?_, g3⟩⟩
        rw [g2, ← e1, re_congr (hev.ops h3 g1)]
      · rw [re_congr (hev.ops h3 (v' := v0) (fun _ _ => rfl))] at e1
        rcases hnp i o ho with hw | hn
        · exact ⟨v0, fun _ _ => rfl, o, ho, fun d hd => hdN i o d ho hd, .inr (.inr ⟨hgy v0 fun _ _ => rfl, hw, pv, U', e1, rfl⟩)⟩
        · exact absurd e1 (hn _ _ _ _)
    cases hg : o.guard with
    | none =>
      rw [hg] at hr
      exact yes (fun v _ => by unfold gdv; rw [hg]) hr
    | some gd =>
      rw [hg] at hr
      dsimp only at hr
      cases hq : (cGuard xs L ns gd).run env st with
      | yes =>
        rw [hq] at hr
        exact yes (fun v g1 => by rw [← hev.guard h3 g1 hg, hq]) hr
      | not =>
        rw [hq] at hr
        obtain ⟨v, g1, g2, g3⟩ := next undefV U hr
        exact ⟨v, g1, o, ho, fun d hd => hdN i o d ho hd, .inr (.inl ⟨by rw [← hev.guard h3 g1 hg, hq], g2, g3⟩)⟩
      | bad => rw [hq] at hr; cases hr
  | .chk i :: r, dn, dw, su, bad, ns, env, st, U, v0, hok, hev, hds, hr => by
    obtain ⟨o, ho, h1, h3, h4, h5, hok'⟩ := hok.chk
    rw [steps_chk N xs L i r ns ho] at hr
    cases hd : o.dst with
    | none => rw [hd] at hr; cases hr
    | some d =>
      rw [hd] at hr
      dsimp only at hr
      rw [guarded_eq] at hr
      have hsl : slot xs ns env st d = v0 i := by
        rw [hev.sl d, hds i o d h1 ho hd]
        dsimp only
        rw [if_pos h1]
      have yes : (∀ v, (∀ k, has dn k = true → v k = v0 k) → gdv L E0 v (Mk L i) o = .yes) → (cSh xs (cOp P o.op o.type) ns (cAgain xs d ns (cSteps P N xs L r))).run cf env st U = .pan pv env' U' → ∃ v, (∀ k, has dn k = true → v k = v0 k) ∧ TP P L N cf E0 v (.chk i :: r) U (.pan pv U') := by
        intro hgy hr
        rw [cSh_eq, after_eq] at hr
        rcases aft_pan hr with ⟨u, b, e1, e2⟩ | e1
        · have e2 : (Bool.rec (motive := fun _ => Ou) (.no 142) ((cSteps P N xs L r ns).run cf env st b) (eqV u (slot xs ns env st d)) : Ou) = .pan pv env' U' := e2
          rw [if_eq] at e2
          split at e2
          case isFalse => cases e2
          rename_i he
          have he := eqV_eq he
          obtain ⟨v, g1, g2⟩ := steps_pan hN hnp hdN r _ _ _ _ ns env st b _ hok' hev hds e2
          refine ⟨v, g1, o, ho, .inl ⟨hgy v g1, b, ?_, g2⟩⟩
          rw [g1 i h1, ← hsl, ← he, ← e1, re_congr (hev.ops h3 g1)]
        · rcases hnp i o ho with hw | hn
          · exact absurd hw h4
          · exact absurd e1 (hn _ _ _ _)
      cases hg : o.guard with
      | none =>
        rw [hg] at hr
        exact yes (fun v _ => by unfold gdv; rw [hg]) hr
      | some gd =>
        rw [hg] at hr
        dsimp only at hr
        cases hq : (cGuard xs L ns gd).run env st with
        | yes =>
          rw [hq] at hr
          exact yes (fun v g1 => by rw [← hev.guard h3 g1 hg, hq]) hr
        | not =>
          rw [hq] at hr
          obtain ⟨v, g1, g2⟩ := steps_pan hN hnp hdN r _ _ _ _ ns env st U _ hok' hev hds hr
          exact ⟨v, g1, o, ho, .inr ⟨by rw [← hev.guard h3 g1 hg, hq], g2⟩⟩
        | bad => rw [hq] at hr; cases hr
  | .chkA i :: r, dn, dw, su, bad, ns, env, st, U, v0, hok, hev, hds, hr => by
    obtain ⟨o, ho, h1, h3, h4, hok'⟩ := hok.chkA
    rw [steps_chkA N xs L i r ns ho] at hr
    cases hd : o.dst with
    | none => rw [hd] at hr; cases hr
    | some d =>
      rw [hd] at hr
      have hsl : slot xs ns env st d = v0 i := by
        rw [hev.sl d, hds i o d h1 ho hd]
        dsimp only
        rw [if_pos h1]
      have hr : (cSh xs (cOp P o.op o.type) ns (cRow xs d ns (cSteps P N xs L r) U)).run cf env st U = .pan pv env' U' := hr
      rw [cSh_eq, after_eq] at hr
      rcases aft_pan hr with ⟨u, b, e1, e2⟩ | e1
      · have e2 : (Bool.rec (motive := fun _ => Ou) (.no 143) ((cSteps P N xs L r ns).run cf env st U) (sameRow b.h u (slot xs ns env st d)) : Ou) = .pan pv env' U' := e2
        rw [if_eq] at e2
        split at e2
        case isFalse => cases e2
        rename_i he
        obtain ⟨v, g1, g2⟩ := steps_pan hN hnp hdN r _ _ _ _ ns env st U _ hok' hev hds e2
        refine ⟨v, g1, o, ho, ⟨u, b, ?_, ?_⟩, g2⟩
        · rw [← e1, re_congr (hev.ops h3 g1)]
        · rw [g1 i h1, ← hsl]; exact he
      · rcases hnp i o ho with hw | hn
        · rw [h4] at hw; cases hw
        · exact absurd e1 (hn _ _ _ _)

end Go.Cx
namespace Go.Cx
open Go
variable {P : Program} {dm : Bool} {B : Nat}

def Li (l : Array Bool) (i : Nat) : Prop := l.getD i false = true
theorem li_set {l : Array Bool} {i j : Nat} (hi : i < l.size) : Li (l.setIfInBounds i true) j ↔ j = i ∨ Li l j := by
  unfold Li
  rw [Array.getD_eq_getD_getElem?, Array.getD_eq_getD_getElem?]
  by_cases e : i = j
  · subst e; simp [hi]
  · rw [Array.getElem?_setIfInBounds_ne e]
    constructor
    · exact .inr
    · rintro (h | h)
      · exact absurd h.symm e
      · exact h

def SlO (L : List Oper) (i : Nat) (o : Oper) : Prop := ∀ t ∈ guardD L o.guard (tmpsL o.op.operands.toList), ∀ k, wof L t = some k → has (Mk L i) k = true ∨ (has (Mk L i) k = false ∧ (k = i ∨ has (Mk L k) i = true))

theorem slO_of {L : List Oper} {i : Nat} {o : Oper} {c : Cl} {dn : Nat} (hs : slotsOk L (masks L []) ⟨i, o, c, Mk L i⟩ dn = true) : SlO L i o := by
  intro t ht k hw
  unfold slotsOk at hs
  rw [allL_eq, List.all_eq_true] at hs
  rcases slotOk_spec (hs t ht) hw with ⟨_, h⟩ | ⟨_, h1, h2⟩
  · exact .inl h
  · exact .inr ⟨h1, h2⟩

section look
variable {L : List Oper} {np rd full : Nat}

theorem oks_all : ∀ {ss : List Stp} {dn dw su bad : Nat}, Oks P L np rd full ss dn dw su bad → ∀ {i : Nat} {o : Oper}, L[i]? = some o → has full i = true → has dn i = false →
    elder i o.after.toList = true ∧ ∀ k, has dw k = true → has (Mk L i) k = true
  | [], dn, dw, su, bad, h, i, o, ho, hf, hn => by
    obtain ⟨rfl, _⟩ := h.nil
    rw [hf] at hn; cases hn
  | .op j :: r, dn, dw, su, bad, h, i, o, ho, hf, hn => by
    obtain ⟨o', ho', h1, h2, h3, h4, h5, h6⟩ := h.op
    by_cases e : j = i
    · subst e
      rw [ho] at ho'; cases ho'
      exact ⟨h5, fun k hk => sub?_spec h2 hk⟩
    · have hn' : has (Nat.lor dn (bit j)) i = false := by rw [has_lor, has_bit, hn]; simp [e]
      rcases h6 with ⟨_, _, h⟩ | ⟨_, h⟩ | ⟨_, _, h⟩
      · have := oks_all h ho hf hn'
        exact ⟨this.1, fun k hk => this.2 k (by rw [has_lor, hk]; rfl)⟩
      · exact oks_all h ho hf hn'
      · exact oks_all h ho hf hn'
  | .chk j :: r, dn, dw, su, bad, h, i, o, ho, hf, hn => by
    obtain ⟨o', ho', h1, h3, h4, h5, h⟩ := h.chk
    exact oks_all h ho hf hn
  | .chkA j :: r, dn, dw, su, bad, h, i, o, ho, hf, hn => by
    obtain ⟨o', ho', h1, h3, h4, h⟩ := h.chkA
    exact oks_all h ho hf hn
end look

def Rd (P : Program) (L : List Oper) (E0 v : Nat → Value) (U : W) (i : Nat) : Prop := ∃ o, L[i]? = some o ∧
  (gdv L E0 v (Mk L i) o = .not ∨
   (gdv L E0 v (Mk L i) o = .yes ∧ cls P o ≠ .al ∧ cls P o ≠ .wr ∧ (cOp P o.op o.type).re (opv L E0 v (Mk L i)) U = .ok (v i) U) ∨
   (gdv L E0 v (Mk L i) o = .yes ∧ cls P o = .al ∧ ∃ cs t e mk p cs1 ln1 t1, AlR P o (opv L E0 v (Mk L i)) cs t e mk ∧ v i = mk p ∧ hget U.h p = some (.row cs1 ln1 t1 e true 0 0) ∧ cs1.flatten = cs))

structure Inv (P : Program) (dm : Bool) (B N : Nat) (L : List Oper) (np rd full : Nat) (cf : CallF) (E0 v : Nat → Value) (cs0 : List Frame) (gb : Gh) (Wb : W) (wb : World) (Uend : Fi)
    (listed : Array Bool) (r : List Stp) (dn dw su bad : Nat) (U : W) (g : Gh) (a : Act) (cs : List Frame) (w : World) : Prop where
  tp : TP P L N cf E0 v r U Uend
  ok : Oks P L np rd full r dn dw su bad
  lsz : listed.size = L.length
  l1 : ∀ i, Li listed i → has dn i = true
  l2 : ∀ i, has dw i = true → Li listed i
  l3 : ∀ i, has su i = true → Li listed i
  l4 : ∀ i k, Li listed i → has (Mk L i) k = true → Li listed k
  l5 : ∀ i o, has dn i = true → L[i]? = some o → cls P o = .wr → has dw i = true
  dt : ∀ i o d, has dn i = true → L[i]? = some o → o.dst = some d → d < N
  ws : ∀ i o d, has dn i = true → L[i]? = some o → o.dst = some d → wof L d = some i
  nu : ∀ i o, has dn i = true → L[i]? = some o → gdv L E0 v (Mk L i) o = .not → v i = undefV
  so : ∀ i o, has dn i = true → L[i]? = some o → SlO L i o
  alp : ∀ i o, has dn i = true → L[i]? = some o → cls P o = .al → ∃ cs t e mk p, AlR P o (opv L E0 v (Mk L i)) cs t e mk ∧ v i = mk p ∧ placeOf (v i) = some p ∧ Wb.n ≤ p ∧ p < U.n
  rdy : ∀ i, has dn i = true → ¬ Li listed i → has bad i = false → Rd P L E0 v U i
  sl1 : ∀ i o d, Li listed i → L[i]? = some o → o.dst = some d → RV g (v i) (tmA a d)
  sl0 : ∀ t, (∀ k, wof L t = some k → ¬ Li listed k) → RV g (E0 t) (tmA a t)
  gh : ∀ i o p k, has dn i = true → ¬ Li listed i → L[i]? = some o → cls P o = .al → placeOf (v i) = some p → g p k = none
  dis : ∀ i j oi oj p, has dn i = true → has dn j = true → L[i]? = some oi → L[j]? = some oj → cls P oi = .al → cls P oj = .al → placeOf (v i) = some p → placeOf (v j) = some p → i = j
  ext : Ext gb B Wb.h Wb.n wb g U.h U.n w
  size : N ≤ a.tmps.size
  ds : All2 (DfR g) U.ds a.defers
  cs : CsR dm cs0 U.rc cs

section inv
variable {N : Nat} {L : List Oper} {np rd full : Nat} {cf : CallF} {E0 v : Nat → Value} {cs0 : List Frame} {gb : Gh} {Wb : W} {wb : World} {Uend : Fi}
    {listed : Array Bool} {r : List Stp} {dn dw su bad : Nat} {U : W} {g : Gh} {a : Act} {cs : List Frame} {w : World}

theorem kon_rv (g : Gh) {x : Operand} (h : ∀ t, x ≠ .tmp t) (a : Act) : RV g (kon x) (a.eval x) := by
  cases x with
  | tmp t => exact absurd rfl (h t)
  | const v => exact constV_ok v
  | global k => exact .one (.cell (.base .glob))
  | func f => exact .one (.cell (.func .nil .nil))

theorem Inv.slot (h : Inv P dm B N L np rd full cf E0 v cs0 gb Wb wb Uend listed r dn dw su bad U g a cs w) {i : Nat} {o : Oper} (hM : ∀ k, has (Mk L i) k = true → Li listed k) (hi : ¬ Li listed i) (hso : SlO L i o)
    {t : Nat} (ht : t ∈ guardD L o.guard (tmpsL o.op.operands.toList)) : RV g (opv L E0 v (Mk L i) (.tmp t)) (tmA a t) := by
  show RV g (match wof L t with | some k => if has (Mk L i) k = true then v k else E0 t | none => E0 t) (tmA a t)
  cases hw : wof L t with
  | none => exact h.sl0 t fun k hk => by rw [hw] at hk; cases hk
  | some k =>
    dsimp only
    rcases hso t ht k hw with h1 | ⟨h1, h2⟩
    · rw [if_pos h1]
      obtain ⟨o', g1, g2⟩ := wof_some hw
      exact h.sl1 k o' t (hM k h1) g1 g2
    · rw [if_neg (by rw [h1]; decide)]
      refine h.sl0 t fun k' hk' => ?_
      rw [hw] at hk'; cases hk'
      rcases h2 with rfl | h2
      · exact hi
      · exact fun hl => hi (h.l4 k i hl h2)

noncomputable def opf (L : List Oper) (E0 v : Nat → Value) (m : Nat) (o : Oper) (x : Operand) : Value := match x with
  | .tmp t => if t ∈ tmpsL o.op.operands.toList then opv L E0 v m (.tmp t) else junkV
  | x => kon x

theorem opf_eq (o : Oper) (m : Nat) : ∀ x ∈ o.op.operands.toList, opf L E0 v m o x = opv L E0 v m x := by
  intro x hx
  cases x with
  | tmp t => show (if t ∈ tmpsL o.op.operands.toList then opv L E0 v m (.tmp t) else junkV) = _; rw [if_pos (mem_tmpsL hx)]
  | _ => rfl

theorem Inv.opf (h : Inv P dm B N L np rd full cf E0 v cs0 gb Wb wb Uend listed r dn dw su bad U g a cs w) {i : Nat} {o : Oper} (hM : ∀ k, has (Mk L i) k = true → Li listed k) (hi : ¬ Li listed i) (hso : SlO L i o) :
    ∀ x, RV g (Cx.opf L E0 v (Mk L i) o x) (a.eval x) := by
  intro x
  cases x with
  | tmp t =>
    show RV g (if t ∈ tmpsL o.op.operands.toList then opv L E0 v (Mk L i) (.tmp t) else junkV) (tmA a t)
    split
    · rename_i ht; exact h.slot hM hi hso (guardD_sub t ht)
    · exact junk_rv
  | const c => exact constV_ok c
  | global k => exact .one (.cell (.base .glob))
  | func f => exact .one (.cell (.func .nil .nil))

theorem Inv.wanted (h : Inv P dm B N L np rd full cf E0 v cs0 gb Wb wb Uend listed r dn dw su bad U g a cs w) {ops : Array Oper} (hL : L = ops.toList) {i : Nat} {o : Oper} (hM : ∀ k, has (Mk L i) k = true → Li listed k) (hi : ¬ Li listed i) (hso : SlO L i o) :
    (gdv L E0 v (Mk L i) o = .yes → Region.wanted o (yielded ops a.tmps) = true) ∧ (gdv L E0 v (Mk L i) o = .not → Region.wanted o (yielded ops a.tmps) = false) := by
  unfold gdv
  cases hg : o.guard with
  | none => exact ⟨fun _ => (by unfold Region.wanted; rw [hg]), fun h => (by cases h)⟩
  | some gd =>
    obtain ⟨j, want⟩ := gd
    dsimp only
    cases hq : L[j]? with
    | none => exact ⟨fun h => (by cases h), fun h => (by cases h)⟩
    | some q =>
      dsimp only
      cases hd : q.dst with
      | none => exact ⟨fun h => (by cases h), fun h => (by cases h)⟩
      | some d =>
        have hq' : ops[j]? = some q := by rw [← hq, hL]; simp
        exact wanted_of hg hq' hd (h.slot hM hi hso (by rw [hg]; exact guardD_mem hq hd))

theorem slots_next (hl : ∀ i o d, Li listed i → L[i]? = some o → o.dst = some d → wof L d = some i) (sl1 : ∀ i o d, Li listed i → L[i]? = some o → o.dst = some d → RV g (v i) (tmA a d))
    (sl0 : ∀ t, (∀ k, wof L t = some k → ¬ Li listed k) → RV g (E0 t) (tmA a t)) {g' : Gh} (hg : GLe g g') {i : Nat} {o : Oper} (hi : i < listed.size) (ho : L[i]? = some o) (hw : ∀ d, o.dst = some d → wof L d = some i) (hs : ∀ d, o.dst = some d → d < a.tmps.size)
    {v' : Value} (hv : RV g' (v i) v') (ds : List Deferred) :
    (∀ j o' d, Li (listed.setIfInBounds i true) j → L[j]? = some o' → o'.dst = some d → RV g' (v j) (tmA ({ a with defers := ds }.put o.dst v') d)) ∧
    (∀ t, (∀ k, wof L t = some k → ¬ Li (listed.setIfInBounds i true) k) → RV g' (E0 t) (tmA ({ a with defers := ds }.put o.dst v') t)) := by
  rw [tmA_put hs]
  refine ⟨fun j o' d hj ho' hd => ?_, fun t ht => ?_⟩
  · rcases (li_set hi).1 hj with rfl | hj
    · rw [ho] at ho'; cases ho'
      rw [hd]
      show RV g' (v j) (setT (tmA a) d v' d)
      unfold setT
      rw [if_pos rfl]; exact hv
    · by_cases hji : j = i
      · subst hji
        rw [ho] at ho'; cases ho'
        rw [hd]
        show RV g' (v j) (setT (tmA a) d v' d)
        unfold setT
        rw [if_pos rfl]; exact hv
      · cases hq : o.dst with
        | none => exact (sl1 j o' d hj ho' hd).mono hg
        | some d2 =>
          show RV g' (v j) (setT (tmA a) d2 v' d)
          unfold setT
          rw [if_neg]
          · exact (sl1 j o' d hj ho' hd).mono hg
          · intro e; subst e
            have h1 := hl j o' d hj ho' hd
            have h2 := hw d hq
            rw [h1] at h2; cases h2; exact hji rfl
  · cases hq : o.dst with
    | none => exact (sl0 t fun k hk hlk => ht k hk ((li_set hi).2 (.inr hlk))).mono hg
    | some d2 =>
      show RV g' (E0 t) (setT (tmA a) d2 v' t)
      unfold setT
      rw [if_neg]
      · exact (sl0 t fun k hk hlk => ht k hk ((li_set hi).2 (.inr hlk))).mono hg
      · intro e; subst e
        exact ht i (hw t hq) ((li_set hi).2 (.inl rfl))

theorem Inv.done (h : Inv P dm B N L np rd full cf E0 v cs0 gb Wb wb Uend listed r dn dw su bad U g a cs w) {i : Nat} {o : Oper} (ho : L[i]? = some o) (hdn : has dn i = true) (hM : ∀ k, has (Mk L i) k = true → Li listed k)
    {g' : Gh} {v' : Value} {w' : World} {cs' : List Frame} {ds' : List Deferred} (he : Ext gb B Wb.h Wb.n wb g' U.h U.n w') (hg : GLe g g') (hv : RV g' (v i) v') (hds : All2 (DfR g') U.ds ds') (hcs : CsR dm cs0 U.rc cs')
    (hgh : ∀ j oj p k, has dn j = true → ¬ Li listed j → j ≠ i → L[j]? = some oj → cls P oj = .al → placeOf (v j) = some p → g' p k = none) :
    Inv P dm B N L np rd full cf E0 v cs0 gb Wb wb Uend (listed.setIfInBounds i true) r dn dw su bad U g' ({ a with defers := ds' }.put o.dst v') cs' w' := by
  have hi : i < listed.size := by rw [h.lsz]; exact (List.getElem?_eq_some_iff.1 ho).1
  have hl := slots_next (fun j o' d hj => h.ws j o' d (h.l1 j hj)) h.sl1 h.sl0 hg hi ho (fun d hd => h.ws i o d hdn ho hd) (fun d hd => Nat.lt_of_lt_of_le (h.dt i o d hdn ho hd) h.size) hv ds'
  refine { tp := h.tp, ok := h.ok, lsz := by rw [Array.size_setIfInBounds]; exact h.lsz, l1 := ?_, l2 := fun j hj => (li_set hi).2 (.inr (h.l2 j hj)), l3 := fun j hj => (li_set hi).2 (.inr (h.l3 j hj)), l4 := ?_,
           l5 := h.l5, dt := h.dt, ws := h.ws, nu := h.nu, so := h.so, alp := h.alp, rdy := ?_, sl1 := hl.1, sl0 := hl.2, gh := ?_, dis := h.dis, ext := he, size := by rw [size_put]; exact h.size, ds := ?_, cs := hcs }
  · intro j hj
    rcases (li_set hi).1 hj with rfl | hj
    · exact hdn
    · exact h.l1 j hj
  · intro j k hj hk
    rcases (li_set hi).1 hj with rfl | hj
    · exact (li_set hi).2 (.inr (hM k hk))
    · exact (li_set hi).2 (.inr (h.l4 j k hj hk))
  · exact fun j hj hl => h.rdy j hj fun hl' => hl ((li_set hi).2 (.inr hl'))
  · intro j oj p k hj hl hoj hc hp
    exact hgh j oj p k hj (fun hl' => hl ((li_set hi).2 (.inr hl'))) (fun e => hl ((li_set hi).2 (.inl e))) hoj hc hp
  · cases o.dst <;> exact hds

end inv
end Go.Cx
namespace Go.Cx
open Go
variable {P : Program} {dm : Bool} {B : Nat}

theorem newRow_inv {U b : W} {cs : List Value} {t : TypeId} {e : Nat} {fix : Bool} {mk : Nat → Value} {v : Value} (h : newRow U cs t e fix mk = .ok v b) :
    v = mk U.n ∧ U.n + 1 ≤ 65536 ∧ b = ⟨hset U.h U.n (.row (chop cs) (len cs) t e fix 0 0), U.n + 1, U.ds, U.rc⟩ := by
  obtain ⟨hh, n, ds, rc⟩ := U
  have h : (Bool.rec (motive := fun _ => Re) (no 1) (.ok (mk n) ⟨hset hh n (.row (chop cs) (len cs) t e fix 0 0), Nat.succ n, ds, rc⟩) (Nat.ble (Nat.succ n) top16) : Re) = .ok v b := h
  rw [if_eq] at h
  split at h
  · rename_i hn
    cases h
    exact ⟨rfl, Nat.le_of_ble_eq_true hn, rfl⟩
  · cases h

theorem fin_keeps {cf : CallF} {U b : W} {r : Re} {v : Value} (hk : (∃ v, r = .ok v U) ∨ Stop r) (h : fin cf U r = .ok v b) : r = .ok v U ∧ b = U := by
  rcases hk with ⟨u, rfl⟩ | hk
  · cases h; exact ⟨rfl, rfl⟩
  · cases r with
    | ok _ _ => exact hk.elim
    | ot r => cases r <;> first | exact hk.elim | cases h

theorem gdv_al {L : List Oper} {E0 v : Nat → Value} {m : Nat} {o : Oper} (h : cls P o = .al) : gdv L E0 v m o = .yes := by
  unfold gdv
  rw [(al_ok (P := P) h (fun _ => junkV)).1]

section
variable {N : Nat} {L : List Oper} {np rd full : Nat} {cf : CallF} {E0 v : Nat → Value} {cs0 : List Frame} {gb : Gh} {Wb : W} {wb : World} {Uend : Fi}
    {listed : Array Bool} {dw su : Nat} {g : Gh} {a : Act} {cs : List Frame} {w : World}

theorem dn_cases {dn i j : Nat} (h : has (Nat.lor dn (bit i)) j = true) : has dn j = true ∨ j = i := by
  rw [has_lor, has_bit, Bool.or_eq_true, decide_eq_true_eq] at h
  rcases h with h | h
  · exact .inl h
  · exact .inr h.symm
theorem dn_more {dn i j : Nat} (h : has dn j = true) : has (Nat.lor dn (bit i)) j = true := by rw [has_lor, h]; rfl

def Head (P : Program) (L : List Oper) (r : List Stp) : Prop := r = [] ∨ ∃ k r' o, r = .op k :: r' ∧ L[k]? = some o ∧ cls P o = .wr

theorem Inv.advance (hrd : rd = maskD isRd (dops P (masks L []) L 0)) : ∀ (r : List Stp) (dn bad : Nat) (U : W), Inv P dm B N L np rd full cf E0 v cs0 gb Wb wb Uend listed r dn dw su bad U g a cs w →
    ∃ r' dn' U', Inv P dm B N L np rd full cf E0 v cs0 gb Wb wb Uend listed r' dn' dw su 0 U' g a cs w ∧ Head P L r'
  | [], dn, bad, U, h => by
    obtain ⟨_, rfl⟩ := h.ok.nil
    exact ⟨[], dn, U, h, .inl rfl⟩
  | .op i :: r, dn, bad, U, h => by
    obtain ⟨o, ho, h1, h2, h3, h4, h5, h6⟩ := h.ok.op
    have hli : ¬ Li listed i := fun hl => by have := h.l1 i hl; rw [h1] at this; cases this
    obtain ⟨o', ho', hdN, htp⟩ := h.tp
    rw [ho] at ho'; cases ho'
    have hws : ∀ d, o.dst = some d → wof L d = some i := fun d hd => onlyDst_spec h4 hd
    have hso := slO_of h3
    rcases h6 with ⟨hc, rfl, _⟩ | ⟨hc, hok⟩ | ⟨hc1, hc2, hok⟩
    · exact ⟨_, dn, U, h, .inr ⟨i, r, o, rfl, ho, hc⟩⟩
    · -- a row
      have hgd : gdv L E0 v (Mk L i) o = .yes := gdv_al hc
      rcases htp with ⟨_, b, hfin, htp⟩ | ⟨hgd', _⟩ | ⟨_, hwr, _⟩
      case inr.inl => rw [hgd] at hgd'; cases hgd'
      case inr.inr => rw [hc] at hwr; cases hwr
      rcases (al_ok hc (opv L E0 v (Mk L i))).2 with ⟨cs1, t, e, mk, hal⟩ | hst
      case inr =>
        have hst := hst U
        generalize (cOp P o.op o.type).re (opv L E0 v (Mk L i)) U = q at hst hfin
        exact absurd (fin_keeps (.inr hst) hfin).1 (by intro e; rw [e] at hst; exact hst)
      rw [hal.1 U] at hfin
      have hnr : newRow U cs1 t e true mk = .ok (v i) b := by
        rcases newRow_form U cs1 t e true mk with ⟨b', hb⟩ | hb
        · rw [hb] at hfin ⊢; exact hfin
        · rw [hb] at hfin; cases hfin
      obtain ⟨hv, hn, rfl⟩ := newRow_inv hnr
      obtain ⟨mk', hmk, _⟩ := hal.2
      have hrel := h.ext.rel
      have hn' : U.n < 65536 := hn
      refine Inv.advance hrd r _ _ _ { tp := htp, ok := hok, lsz := h.lsz, l1 := fun j hj => dn_more (h.l1 j hj), l2 := h.l2, l3 := h.l3, l4 := h.l4, l5 := ?_, dt := ?_, ws := ?_, nu := ?_, so := ?_, alp := ?_, rdy := ?_, sl1 := h.sl1, sl0 := h.sl0, gh := ?_, dis := ?_, ext := ⟨rel_add hrel hn (row_at hrel cs1 t e true), ex_add h.ext.ex hrel hn _⟩, size := h.size, ds := h.ds, cs := h.cs }
      · intro j oj hj hoj hcj
        rcases dn_cases hj with hj | rfl
        · exact h.l5 j oj hj hoj hcj
        · rw [ho] at hoj; cases hoj; rw [hc] at hcj; cases hcj
      · intro j oj d hj hoj hd
        rcases dn_cases hj with hj | rfl
        · exact h.dt j oj d hj hoj hd
        · rw [ho] at hoj; cases hoj; exact hdN d hd
      · intro j oj d hj hoj hd
        rcases dn_cases hj with hj | rfl
        · exact h.ws j oj d hj hoj hd
        · rw [ho] at hoj; cases hoj; exact hws d hd
      · intro j oj hj hoj hg
        rcases dn_cases hj with hj | rfl
        · exact h.nu j oj hj hoj hg
        · rw [ho] at hoj; cases hoj; rw [hgd] at hg; cases hg
      · intro j oj hj hoj
        rcases dn_cases hj with hj | rfl
        · exact h.so j oj hj hoj
        · rw [ho] at hoj; cases hoj; exact hso
      · intro j oj hj hoj hcj
        rcases dn_cases hj with hj | rfl
        · obtain ⟨c1, t1, e1, m1, p1, q1, q2, q3, q4, q5⟩ := h.alp j oj hj hoj hcj
          exact ⟨c1, t1, e1, m1, p1, q1, q2, q3, q4, Nat.lt_succ_of_lt q5⟩
        · rw [ho] at hoj; cases hoj
          exact ⟨cs1, t, e, mk, U.n, hal, hv, by rw [hv]; exact hmk.place U.n, h.ext.ex.n, Nat.lt_succ_self _⟩
      · intro j hj hlj hb
        rw [has_lor, Bool.or_eq_false_iff] at hb
        rcases dn_cases hj with hj | rfl
        · obtain ⟨oj, hoj, hR⟩ := h.rdy j hj hlj hb.1
          refine ⟨oj, hoj, ?_⟩
          rcases hR with hR | ⟨r1, r2, r3, r4⟩ | ⟨r1, r2, c1, t1, e1, m1, p1, cs2, ln2, t2, q1, q2, q3, q4⟩
          · exact .inl hR
          · refine .inr (.inl ⟨r1, r2, r3, ?_⟩)
            cases hcj : cls P oj with
            | wr => exact absurd hcj r3
            | al => exact absurd hcj r2
            | pu =>
              rcases pu_ok hcj (opv L E0 v (Mk L j)) with ⟨u, hu⟩ | hu
              · have h8 : _ = _ := hu U
                dsimp only at h8
                rw [r4] at h8; cases h8; exact hu _
              · have h8 := hu U
                dsimp only at h8
                rw [r4] at h8; exact h8.elim
            | ld =>
              have := (ld_ok hcj (opv L E0 v (Mk L j))).2 U.h U.n U.ds U.rc (.row (chop cs1) (len cs1) t e true 0 0) (v j) (hrel.hnone hn') r4
              exact this
            | rd =>
              exfalso
              have h7 := hb.2
              rw [has_sub, has_land, hj, hrd, has_maskL hoj isRd (by rw [hcj]; rfl)] at h7
              have : has su j = false := by
                cases hs : has su j with
                | false => rfl
                | true => exact absurd (h.l3 j hs) hlj
              rw [this] at h7; cases h7
          · obtain ⟨_, _, _, _, p2, _, _, s3, _, s5⟩ := h.alp j oj hj hoj r2
            obtain ⟨mk2, hm2, _⟩ := q1.2
            have hp : placeOf (v j) = some p1 := by rw [q2]; exact hm2.place p1
            rw [s3] at hp; cases hp
            refine .inr (.inr ⟨r1, r2, c1, t1, e1, m1, p1, cs2, ln2, t2, q1, q2, ?_, q4⟩)
            show hget (hset U.h U.n _) p1 = _
            rw [hget_hset' (by omega) hn' (by omega)]; exact q3
        · refine ⟨o, ho, .inr (.inr ⟨hgd, hc, cs1, t, e, mk, U.n, chop cs1, len cs1, t, hal, hv, hget_hset _ _ _, chop_flat cs1⟩)⟩
      · intro j oj p k hj hlj hoj hcj hp
        rcases dn_cases hj with hj | rfl
        · exact h.gh j oj p k hj hlj hoj hcj hp
        · rw [hv, hmk.place] at hp; cases hp; exact hrel.gnone k
      · intro j j' oj oj' p hj hj' hoj hoj' hcj hcj' hp hp'
        rcases dn_cases hj with hj1 | rfl
        · rcases dn_cases hj' with hj2 | rfl
          · exact h.dis j j' oj oj' p hj1 hj2 hoj hoj' hcj hcj' hp hp'
          · obtain ⟨_, _, _, _, p2, _, _, s3, _, s5⟩ := h.alp j oj hj1 hoj hcj
            rw [hp] at s3; cases s3
            rw [hv, hmk.place] at hp'; cases hp'; exact absurd s5 (Nat.lt_irrefl _)
        · rcases dn_cases hj' with hj2 | rfl
          · obtain ⟨_, _, _, _, p2, _, _, s3, _, s5⟩ := h.alp j' oj' hj2 hoj' hcj'
            rw [hp'] at s3; cases s3
            rw [hv, hmk.place] at hp; cases hp; exact absurd s5 (Nat.lt_irrefl _)
          · rfl
    · -- a read
      have hnew : ∀ (htp' : TP P L N cf E0 v r U Uend) (hnu : gdv L E0 v (Mk L i) o = .not → v i = undefV), Rd P L E0 v U i → Inv P dm B N L np rd full cf E0 v cs0 gb Wb wb Uend listed r (Nat.lor dn (bit i)) dw su bad U g a cs w := by
        intro htp' hnu hR
        refine { tp := htp', ok := hok, lsz := h.lsz, l1 := fun j hj => dn_more (h.l1 j hj), l2 := h.l2, l3 := h.l3, l4 := h.l4, l5 := ?_, dt := ?_, ws := ?_, nu := ?_, so := ?_, alp := ?_, rdy := ?_, sl1 := h.sl1, sl0 := h.sl0, gh := ?_, dis := ?_, ext := h.ext, size := h.size, ds := h.ds, cs := h.cs }
        · intro j oj hj hoj hcj
          rcases dn_cases hj with hj | rfl
          · exact h.l5 j oj hj hoj hcj
          · rw [ho] at hoj; cases hoj; exact absurd hcj hc1
        · intro j oj d hj hoj hd
          rcases dn_cases hj with hj | rfl
          · exact h.dt j oj d hj hoj hd
          · rw [ho] at hoj; cases hoj; exact hdN d hd
        · intro j oj d hj hoj hd
          rcases dn_cases hj with hj | rfl
          · exact h.ws j oj d hj hoj hd
          · rw [ho] at hoj; cases hoj; exact hws d hd
        · intro j oj hj hoj hg
          rcases dn_cases hj with hj | rfl
          · exact h.nu j oj hj hoj hg
          · rw [ho] at hoj; cases hoj; exact hnu hg
        · intro j oj hj hoj
          rcases dn_cases hj with hj | rfl
          · exact h.so j oj hj hoj
          · rw [ho] at hoj; cases hoj; exact hso
        · intro j oj hj hoj hcj
          rcases dn_cases hj with hj | rfl
          · exact h.alp j oj hj hoj hcj
          · rw [ho] at hoj; cases hoj; exact absurd hcj hc2
        · intro j hj hlj hb
          rcases dn_cases hj with hj | rfl
          · exact h.rdy j hj hlj hb
          · exact hR
        · intro j oj p k hj hlj hoj hcj hp
          rcases dn_cases hj with hj | rfl
          · exact h.gh j oj p k hj hlj hoj hcj hp
          · rw [ho] at hoj; cases hoj; exact absurd hcj hc2
        · intro j j' oj oj' p hj hj' hoj hoj' hcj hcj' hp hp'
          rcases dn_cases hj with hj | rfl
          · rcases dn_cases hj' with hj' | rfl
            · exact h.dis j j' oj oj' p hj hj' hoj hoj' hcj hcj' hp hp'
            · rw [ho] at hoj'; cases hoj'; exact absurd hcj' hc2
          · rw [ho] at hoj; cases hoj; exact absurd hcj hc2
      rcases htp with ⟨hgd, b, hfin, htp⟩ | ⟨hgd, hu, htp⟩ | ⟨_, hwr, _⟩
      · obtain ⟨hre, rfl⟩ := fin_keeps (keeps_ok hc1 hc2 (opv L E0 v (Mk L i)) U) hfin
        exact Inv.advance hrd r _ _ _ (hnew htp (fun e => by rw [hgd] at e; cases e) ⟨o, ho, .inr (.inl ⟨hgd, hc2, hc1, hre⟩)⟩)
      · exact Inv.advance hrd r _ _ _ (hnew htp (fun _ => hu) ⟨o, ho, .inl hgd⟩)
      · exact absurd hwr hc1
  | .chk i :: r, dn, bad, U, h => by
    obtain ⟨o, ho, h1, h3, h4, h5, hok⟩ := h.ok.chk
    obtain ⟨o', ho', htp⟩ := h.tp
    rw [ho] at ho'; cases ho'
    have hnew : ∀ (htp' : TP P L N cf E0 v r U Uend), Rd P L E0 v U i → Inv P dm B N L np rd full cf E0 v cs0 gb Wb wb Uend listed r dn dw su (sub bad (bit i)) U g a cs w := by
      intro htp' hR
      refine { h with tp := htp', ok := hok, rdy := ?_ }
      intro j hj hlj hb
      rw [has_sub, has_bit] at hb
      by_cases e : i = j
      · subst e; exact hR
      · refine h.rdy j hj hlj ?_
        simpa [e] using hb
    rcases htp with ⟨hgd, b, hfin, htp⟩ | ⟨hgd, htp⟩
    · obtain ⟨hre, rfl⟩ := fin_keeps (keeps_ok h4 h5 (opv L E0 v (Mk L i)) U) hfin
      exact Inv.advance hrd r _ _ _ (hnew htp ⟨o, ho, .inr (.inl ⟨hgd, h5, h4, hre⟩)⟩)
    · exact Inv.advance hrd r _ _ _ (hnew htp ⟨o, ho, .inl hgd⟩)
  | .chkA i :: r, dn, bad, U, h => by
    obtain ⟨o, ho, h1, h3, h4, hok⟩ := h.ok.chkA
    obtain ⟨o', ho', ⟨u, b, hfin, hsame⟩, htp⟩ := h.tp
    rw [ho] at ho'; cases ho'
    obtain ⟨c1, t1, e1, m1, p1, q1, q2, q3, q4, q5⟩ := h.alp i o h1 ho h4
    rw [q1.1 U] at hfin
    have hnr : newRow U c1 t1 e1 true m1 = .ok u b := by
      rcases newRow_form U c1 t1 e1 true m1 with ⟨b', hb⟩ | hb
      · rw [hb] at hfin ⊢; exact hfin
      · rw [hb] at hfin; cases hfin
    obtain ⟨rfl, hn, rfl⟩ := newRow_inv hnr
    obtain ⟨mk2, hm2, _⟩ := q1.2
    obtain ⟨p, q, hq, hp, cs1, ln1, t, cs', ln', t', gen', flo', e, fix, hA, hB, hC⟩ := sameRow_spec hsame
    rw [hm2.place] at hq; cases hq
    rw [q3] at hp; cases hp
    have hB : hget (hset U.h U.n (.row (chop c1) (len c1) t1 e1 true 0 0)) U.n = _ := hB
    rw [hget_hset] at hB
    cases hB
    have hA : hget (hset U.h U.n (.row (chop c1) (len c1) t1 e1 true 0 0)) p1 = _ := hA
    rw [hget_hset' (by omega) (by omega) (by omega)] at hA
    rw [chop_flat] at hC
    have hR : Rd P L E0 v U i := ⟨o, ho, .inr (.inr ⟨gdv_al h4, h4, c1, t1, e1, m1, p1, cs1, ln1, t, q1, q2, hA, hC⟩)⟩
    refine Inv.advance hrd r _ _ _ { h with tp := htp, ok := hok, rdy := ?_ }
    intro j hj hlj hb
    rw [has_sub, has_bit] at hb
    by_cases e : i = j
    · subst e; exact hR
    · refine h.rdy j hj hlj ?_
      simpa [e] using hb

end
end Go.Cx
