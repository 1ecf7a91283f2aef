/- An evaluator of the model's code on abstract states, proved sound (part 2 of 3). -/
import Derived.Test.YtoicjnggljeicaaEa
import Derived.Laws.BytesString
import Derived.Laws.OwnMore
/- Operations: operators, conversions, fields, closures, len, min, max. -/
namespace Go.Ev
variable {L : Type} [LI L]

section
variable {P : Program} {T : Tab} {oD : OrcD L} {U : Nat → Prop} {g : Gh} {B : Nat} {h : Hp L} {w : World} {fresh : Nat} {env : List (Nat × X L)} {a : Act} {o : Oper} {Q : X L × Hp L → Prop}

theorem str_rep {G : Fz} {s : ByteArray} {v : Value} (h : RepI G (.str s : I L) v) : v = .string s := by cases h; rfl

omit [LI L] in
theorem eqT_tab {n : Nat} {t : TypeId} {xs ys : List (C L)} {b : Bool} (h : eqT T n t xs ys = some b) : ∃ i, T t = some i ∧ i.eq = true := by
  cases n with
  | zero => simp only [eqT] at h; cases h
  | succ n =>
    rw [eqT] at h
    split at h
    · rename_i i hi
      cases hh : i.eq with
      | true => exact ⟨i, hi, hh⟩
      | false => rw [hh] at h; cases h
    · cases h

theorem op_binOp (hT : TabOK P T) {op : BinOp} {t t2 : TypeId} {x y : Operand} (ho : o.op = .binOp op t x y t2) (hE : RepE U g env a) (hr : RepH U g B h w) (hq : (evOp T h fresh (opd env) (.binOp op t x y t2)).holds oD Q) : Good P U g B h w fresh a o Q := by
  simp only [evOp] at hq
  have hx := opd_rep hE x
  have hy := opd_rep hE y
  split at hq
  · rename_i xs ys ex ey
    rw [ex] at hx; rw [ey] at hy
    obtain ⟨vx, hvx, hcx⟩ := hx
    obtain ⟨vy, hvy, hcy⟩ := hy
    have main : ∀ b, (cond (match T t with | some i => i.isAgg | none => false) (eqT T 8 t xs ys) none) = some b → (Op.equalIn 10000 t (.agg vx.toArray) (.agg vy.toArray)).run P w = .ok b w ∧ P.eqGuardType P.depth t = false := by
      intro b hb
      cases ht : T t with
      | none => rw [ht] at hb; cases hb
      | some i =>
        rw [ht] at hb
        cases hag : i.isAgg with
        | false => simp only [hag, cond_false] at hb; cases hb
        | true =>
          simp only [hag, cond_true] at hb
          obtain ⟨i', hi', hie⟩ := eqT_tab hb
          rw [ht] at hi'; cases hi'
          refine ⟨?_, (tab_eq hT ht hie).2.1⟩
          have vat : ∀ {cs : List (C L)} {vs : List Value}, All2 (RepC g) cs vs → ValAt g i cs (.agg vs.toArray) := by
            intro cs vs hc
            exact .inl ⟨hag, _, rfl, fun j x _ hj => let ⟨u, h1, h2⟩ := hc.get hj; ⟨u, by simpa using h1, h2⟩⟩
          exact eqT_sound hT 8 9992 w ht hb (vat hcx) (vat hcy)
    have guard : P.eqGuardType P.depth t = false → (eqGuard op t x y (.agg vx.toArray) (.agg vy.toArray)).run P w = .ok () w := by
      intro hg
      unfold eqGuard; split <;> simp [program, Sem.run, hg]
    split at hq
    · rename_i b hb
      obtain ⟨h1, h2⟩ := main b hb
      refine .pureI (v := .bool b) hq ?_ hr .bool
      simp only [execOp, ho, hvx, hvy, Sem.run_bind, guard h2, Result.andThen_ok, run_eql_struct, h1, Sem.run_pure]
    · rename_i b hb
      obtain ⟨h1, h2⟩ := main b hb
      refine .pureI (v := .bool (!b)) hq ?_ hr .bool
      simp only [execOp, ho, hvx, hvy, Sem.run_bind, guard h2, Result.andThen_ok, run_neq_struct, h1, Sem.run_pure]
    · exact hq.elim
  · split at hq
    · rename_i i j hi hj
      have h1 := imOf_rep hx hi
      have h2 := imOf_rep hy hj
      split at hq
      · rename_i p q hp hq'
        exact run_binOp_int ho (intV_rep h1 hp) (intV_rep h2 hq') hr hq
      · split at hq
        · exact run_binOp_str ho (str_rep h1) (str_rep h2) hr hq
        · have base : ∀ {b c : Bool} {v : Value}, a.eval x = .bool b → a.eval y = .bool c → (binOp op t (.bool b) (.bool c)).run P w = .ok v w → (execOp a.eval o).run P w = .ok (.value v) w := by
            intro b c v e1 e2 hv
            simp only [execOp, ho, e1, e2, Sem.run_bind]
            have : (eqGuard op t x y (.bool b) (.bool c)).run P w = .ok () w := by
              unfold eqGuard; split <;> simp
            rw [this]; simp [hv]
          cases hbt : isBoolT T t with
          | false => rw [hbt] at hq; exact hq.elim
          | true =>
            rw [hbt, cond_true] at hq
            have hu : P.underlying t = some .bool := by
              unfold isBoolT at hbt
              split at hbt
              · rename_i i hi
                obtain ⟨info, d, _, h2, h3, _⟩ := tab_info hT hi
                split at hbt
                · rename_i hty
                  rw [h3] at hty
                  cases d <;> simp [descTy] at hty
                  exact h2
                · cases hbt
              · cases hbt
            split at hq
            · rename_i b c hb hc
              refine .pureI (v := .bool (b.1 == c.1)) hq (base (boolV_rep h1 hb) (boolV_rep h2 hc) ?_) hr (rep_mkBool _ _ _)
              simp [binOp, run_equal_bool w t _ _ hu]
            · rename_i b c hb hc
              refine .pureI (v := .bool (!(b.1 == c.1))) hq (base (boolV_rep h1 hb) (boolV_rep h2 hc) ?_) hr (rep_mkBool _ _ _)
              simp [binOp, run_equal_bool w t _ _ hu]
            · exact hq.elim
    · exact hq.elim

theorem op_unOp {op : UnOp} {t : TypeId} {x : Operand} (ho : o.op = .unOp op t x) (hE : RepE U g env a) (hr : RepH U g B h w) (hq : (evOp T h fresh (opd env) (.unOp op t x)).holds oD Q) : Good P U g B h w fresh a o Q := by
  simp only [evOp] at hq
  split at hq
  · rename_i i hi
    have h1 := imOf_rep (opd_rep hE x) hi
    split at hq
    · rename_i p hp
      have e1 := boolV_rep h1 hp
      exact .pureI (v := .bool (!p.1)) hq (by simp [execOp, ho, e1, Op.unary]) hr (rep_mkBool _ _ _)
    · rename_i p hp
      have e1 := intV_rep h1 hp
      exact .pureI (v := .int p.k (p.k.wrap (0 - p.n))) hq (by simp [execOp, ho, e1, Op.unary, Op.intArith]) hr (rep_mkInt _ _ _ _)
    · exact hq.elim
  · exact hq.elim

omit [LI L] in
theorem nth_eq {α : Type} : ∀ (l : List α) (n : Nat), nth l n = l[n]?
  | [], n => by simp [nth]
  | x :: r, 0 => rfl
  | x :: r, n + 1 => by simp [nth, nth_eq r n]

theorem op_extract {x : Operand} {i : Nat} (ho : o.op = .extract x i) (hE : RepE U g env a) (hr : RepH U g B h w) (hq : (evOp T h fresh (opd env) (.extract x i)).holds oD Q) : Good P U g B h w fresh a o Q := by
  simp only [evOp] at hq
  have hx := opd_rep hE x
  have hxi := opd_ids hE x
  split at hq
  · rename_i l hl
    rw [hl] at hx hxi
    obtain ⟨vs, hv, hc⟩ := hx
    split at hq
    · rename_i s hs
      rw [nth_eq] at hs
      obtain ⟨v, h1, h2⟩ := hc.get hs
      refine .pure hq (v := v) ?_ hr h2 fun b hb => hxi b ?_
      · simp [execOp, ho, hv, Instr.extract, h1]
      · simp only [idsX, List.mem_flatMap] at hb ⊢; exact ⟨s, List.mem_of_getElem? hs, hb⟩
    · exact hq.elim
  · exact hq.elim

theorem ptrs_rep {xs : List (X L)} {l : List (Nat × Nat)} {vs : List Value} (h : ptrs xs = some l) (hx : All2 (RepX g) xs vs) : vs = l.map g.p := by
  induction hx generalizing l with
  | nil => simp [ptrs] at h; subst h; rfl
  | cons hr _ ih =>
    unfold ptrs at h
    split at h
    · cases ‹_ = []›
    · rename_i b off r he
      cases he
      split at h
      · rename_i l' hl; cases h
        simp only [RepX, RepS, RepC] at hr
        rw [ih hl, hr]; rfl
      · cases h
    · cases h

omit [LI L] in
theorem ptrs_ids {xs : List (X L)} {l : List (Nat × Nat)} (h : ptrs xs = some l) (hi : ∀ x ∈ xs, ∀ b ∈ idsX x, U b) : ∀ p ∈ l, U p.1 := by
  induction xs generalizing l with
  | nil => simp [ptrs] at h; subst h; simp
  | cons x r ih =>
    unfold ptrs at h
    split at h
    · cases ‹_ = []›
    · rename_i b off r' he
      cases he
      split at h
      · rename_i l' hl; cases h
        intro p hp
        rcases List.mem_cons.1 hp with rfl | hp
        · exact hi (.s (.c (.ptr b off))) (by simp) b (by simp [idsX, idsS, cellsOf, idsC])
        · exact ih hl (fun x hx => hi x (by simp [hx])) p hp
      · cases h
    · cases h

theorem opds_rep (hE : RepE U g env a) (l : List Operand) : All2 (RepX g) (l.map (opd env)) (l.map a.eval) := by
  induction l with
  | nil => exact .nil
  | cons x r ih => exact .cons (opd_rep hE x) ih

theorem op_makeFunc {f : FuncId} {first caps : Array Operand} (ho : o.op = .makeFunc (.func f) first caps) (hE : RepE U g env a) (hr : RepH U g B h w) (hq : (evOp T h fresh (opd env) (.makeFunc (.func f) first caps)).holds oD Q) : Good P U g B h w fresh a o Q := by
  simp only [evOp] at hq
  split at hq
  · rename_i p q hp hq'
    have e1 := ptrs_rep hp (opds_rep hE first.toList)
    have e2 := ptrs_rep hq' (opds_rep hE caps.toList)
    have i1 := ptrs_ids (U := U) hp (by simp only [List.mem_map]; rintro _ ⟨x, _, rfl⟩; exact opd_ids hE x)
    have i2 := ptrs_ids (U := U) hq' (by simp only [List.mem_map]; rintro _ ⟨x, _, rfl⟩; exact opd_ids hE x)
    refine .pure hq (v := .func (.func f) (first.map a.eval) (caps.map a.eval)) (by simp [execOp, ho, Instr.makeFunc]) hr ?_ ?_
    · simp only [RepX, RepS, RepC]
      rw [← e1, ← e2]
      simp only [Value.func.injEq, true_and]
      constructor <;> (apply Array.ext'; simp)
    · intro b hb
      simp only [idsX, idsS, cellsOf, List.flatMap_cons, List.flatMap_nil, List.append_nil, idsC, List.mem_append, List.mem_map] at hb
      rcases hb with ⟨p', hp', rfl⟩ | ⟨p', hp', rfl⟩
      · exact i1 p' hp'
      · exact i2 p' hp'
  · exact hq.elim

theorem shift_rep {c c' : C L} {n : Nat} {v : Value} (hs : shift c n = some c') (hc : RepC g c v) : ∃ k o, v = .pointer (some ⟨k, o, none⟩) ∧ RepC g c' (.pointer (some ⟨k, o + n, none⟩)) ∧ idsC c' = idsC c := by
  unfold shift at hs
  split at hs
  · cases hs; exact ⟨_, _, hc, rfl, rfl⟩
  · cases hs; exact ⟨_, _, hc, by simp [RepC, Nat.add_assoc], rfl⟩
  · cases hs
    obtain ⟨k, p, rfl, h2⟩ := hc
    exact ⟨_, _, rfl, ⟨k, p, by rw [Nat.add_assoc], h2⟩, rfl⟩
  · cases hs

omit [LI L] in
theorem cOf_ids {x : X L} {c : C L} (hc : cOf x = some c) : idsX x = idsC c := by
  unfold cOf at hc; split at hc
  · cases hc; simp [idsX, idsS, cellsOf]
  · cases hc

theorem op_fieldAddr (hT : TabOK P T) {t : TypeId} {x : Operand} {f : Nat} (ho : o.op = .fieldAddr t x f) (hE : RepE U g env a) (hr : RepH U g B h w) (hq : (evOp T h fresh (opd env) (.fieldAddr t x f)).holds oD Q) : Good P U g B h w fresh a o Q := by
  simp only [evOp] at hq
  split at hq
  · rename_i i c hi hc
    split at hq
    · rename_i fs hfs
      split at hq
      · rename_i off ft hf
        cases hz : Nat.beq (sizeT T ft) 0 with
        | true => rw [hz] at hq; exact hq.elim
        | false =>
          rw [hz, cond_false] at hq
          split at hq
          · rename_i c' hs
            obtain ⟨k, p, hv, hR, hids⟩ := shift_rep hs (cOf_rep (opd_rep hE x) hc)
            obtain ⟨info, d, _, h2, h3, _⟩ := tab_info hT hi
            rw [hfs] at h3
            cases d <;> simp [descTy] at h3
            rename_i fa
            subst h3
            rw [nth_eq, List.getElem?_map] at hf
            cases hfa : fa.toList[f]? with
            | none => rw [hfa] at hf; cases hf
            | some fl =>
              rw [hfa] at hf; simp at hf
              obtain ⟨rfl, rfl⟩ := hf
              cases hft : T fl.type with
              | none => simp [sizeT, hft] at hz
              | some fi =>
                have hz' : fi.size ≠ 0 := by
                  intro he; simp [sizeT, hft, he] at hz
                refine .pure hq (v := .pointer (some ⟨k, p + fl.offset, none⟩)) ?_ hr hR ?_
                · have hfa' : fa[f]? = some fl := by simpa using hfa
                  simp [execOp, ho, Instr.fieldAt, run_underlying h2, hfa', hv, Instr.sureAddr, fieldPlace, run_size hT hft, hz', addr_add]
                · intro b hb
                  have : idsX (.s (.c c') : X L) = idsC c' := by simp [idsX, idsS, cellsOf]
                  rw [this, hids, ← cOf_ids hc] at hb
                  exact opd_ids hE x b hb
          · exact hq.elim
      · exact hq.elim
    · exact hq.elim
  · exact hq.elim

end
end Go.Ev

/- Operations: fields, builds, indexes. -/
namespace Go.Ev
variable {L : Type} [LI L]

section
variable {P : Program} {T : Tab} {oD : OrcD L} {U : Nat → Prop} {g : Gh} {B : Nat} {h : Hp L} {w : World} {fresh : Nat} {env : List (Nat × X L)} {a : Act} {o : Oper} {Q : X L × Hp L → Prop}

theorem part_val (hT : TabOK P T) {t : TypeId} {i : TI} (ht : T t = some i) {cs : List (C L)} {vs : List Value} (hc : All2 (RepC g) cs vs) {off : Nat} {s : S L} (hp : part i.isAgg cs off i.size = some s) (w : World) :
    ∃ v, (Go.part t vs.toArray off).run P w = .ok v w ∧ RepS g s v := by
  rw [run_part hT ht]
  rcases part_eq hp with ⟨ha, hle, rfl⟩ | ⟨ha, x, hx, rfl⟩
  · refine ⟨.agg ((vs.drop off).take i.size).toArray, ?_, _, rfl, (hc.drop off).take i.size⟩
    rw [ha]
    simp only [if_true]
    congr 2
    apply Array.ext'
    simp [List.take_drop]
  · obtain ⟨v, hv, hR⟩ := hc.get hx
    refine ⟨v, ?_, hR⟩
    rw [ha]; simp [hv]

theorem op_field (hT : TabOK P T) {t : TypeId} {x : Operand} {f : Nat} (ho : o.op = .field t x f) (hE : RepE U g env a) (hr : RepH U g B h w) (hq : (evOp T h fresh (opd env) (.field t x f)).holds oD Q) : Good P U g B h w fresh a o Q := by
  simp only [evOp] at hq
  have hx := opd_rep hE x
  have hxi := opd_ids hE x
  split at hq
  · rename_i i cs hi hcs
    rw [hcs] at hx hxi
    obtain ⟨vs, hv, hc⟩ := hx
    split at hq
    · rename_i fs hfs
      split at hq
      · rename_i off ft hf
        split at hq
        · rename_i fi hfi
          split at hq
          · rename_i s hs
            obtain ⟨info, d, _, h2, h3, _⟩ := tab_info hT hi
            rw [hfs] at h3
            cases d <;> simp [descTy] at h3
            rename_i fa
            subst h3
            rw [nth_eq, List.getElem?_map] at hf
            cases hfa : fa.toList[f]? with
            | none => rw [hfa] at hf; cases hf
            | some fl =>
              rw [hfa] at hf; simp at hf
              obtain ⟨rfl, rfl⟩ := hf
              obtain ⟨v, hrun, hR⟩ := part_val hT hfi hc hs w
              have hfa' : fa[f]? = some fl := by simpa using hfa
              refine .pure hq (v := v) ?_ hr hR fun b hb => hxi b ?_
              · simp [execOp, ho, Instr.field, run_underlying h2, hfa', hv, asAgg, hrun]
              · exact part_ids hs b hb
          · exact hq.elim
        · exact hq.elim
      · exact hq.elim
    · exact hq.elim
  · exact hq.elim

theorem foldl_set {α : Type} (off : Nat) (ys : List α) : ∀ (k : Nat) (xs : List α), off + k + ys.length ≤ xs.length →
    (ys.zipIdx k).foldl (fun (cs : Array α) (p : α × Nat) => cs.setIfInBounds (off + p.2) p.1) xs.toArray = (xs.take (off + k) ++ ys ++ xs.drop (off + k + ys.length)).toArray := by
  induction ys with
  | nil => intro k xs _; simp
  | cons y r ih =>
    intro k xs hle
    simp only [List.length_cons] at hle
    rw [List.zipIdx_cons, List.foldl_cons]
    have e : (xs.toArray.setIfInBounds (off + k) y) = (xs.set (off + k) y).toArray := by simp
    rw [e, ih (k + 1) (xs.set (off + k) y) (by simp; omega)]
    congr 1
    have h1 : (xs.set (off + k) y).take (off + (k + 1)) = xs.take (off + k) ++ [y] := by
      rw [← Nat.add_assoc, List.take_succ_eq_append_getElem (by simp; omega), List.take_set_of_le (Nat.le_refl _)]
      simp
    have h2 : (xs.set (off + k) y).drop (off + (k + 1) + r.length) = xs.drop (off + k + (r.length + 1)) := by
      rw [List.drop_set_of_lt (by omega)]; congr 1; omega
    rw [h1, h2]
    simp

theorem fill_sound {sizes : Nat → Option (Nat × Nat)} : ∀ {parts : List (Nat × X L)} {vparts : List (Nat × Value)} {cells cs : List (C L)} {vs : List Value}, fillParts sizes cells parts = some cs → All2 (RepC g) cells vs →
    All2 (fun p q => p.1 = q.1 ∧ RepX g p.2 q.2) parts vparts → ∃ vs', Instr.fill sizes vs.toArray vparts = some vs'.toArray ∧ All2 (RepC g) cs vs'
  | [], _, cells, cs, vs, hf, hc, hp => by cases hp; simp [fillParts] at hf; subst hf; exact ⟨vs, rfl, hc⟩
  | (i, x) :: r, _, cells, cs, vs, hf, hc, hp => by
    cases hp with
    | cons h1 h2 =>
      rename_i q qs
      obtain ⟨j, v⟩ := q
      obtain ⟨hij, hx⟩ := h1
      simp only at hij hx; subst hij
      simp only [fillParts] at hf
      split at hf
      · rename_i off n s hs
        cases hcd : (Nat.beq (cellsOf s).length n && Nat.ble (off + n) cells.length && (cellsOf s).all solid) with
        | false => rw [hcd] at hf; cases hf
        | true =>
          rw [hcd, cond_true] at hf
          simp only [Bool.and_eq_true] at hcd
          have hn : (cellsOf s).length = n := Nat.eq_of_beq_eq_true hcd.1.1
          have hle := Nat.le_of_ble_eq_true hcd.1.2
          obtain ⟨us, hu, hcu, _⟩ := RepS.cells hx hcd.2
          have hul : us.length = n := by rw [← hcu.length, hn]
          have hcl := hc.length
          obtain ⟨vs', h3, h4⟩ := fill_sound (vs := vs.take off ++ us ++ vs.drop (off + us.length)) hf (hc.splice hcu off) h2
          refine ⟨vs', ?_, h4⟩
          simp only [Instr.fill, hs, hu]
          have hsz : us.toArray.size = n := by simpa using hul
          have hcond : (us.toArray.size ≠ n || off + us.toArray.size > vs.toArray.size) = false := by simp; omega
          have hfold : (us.toArray.zipIdx.foldl (fun cs (x : Value × Nat) => cs.setIfInBounds (off + x.2) x.1) vs.toArray) = (vs.take off ++ us ++ vs.drop (off + us.length)).toArray := by
            have := foldl_set off us 0 vs (by omega)
            simp only [Nat.add_zero] at this
            rw [← this]
            simp
          rw [if_neg (by simpa using hcond)]
          rw [← h3]
          congr 1
      · cases hf

theorem parts_rep (hE : RepE U g env a) (ps : List (Nat × Operand)) : All2 (fun (p : Nat × X L) (q : Nat × Value) => p.1 = q.1 ∧ RepX g p.2 q.2) (ps.map fun p => (p.1, opd env p.2)) (ps.map fun p => (p.1, a.eval p.2)) := by
  induction ps with
  | nil => exact .nil
  | cons p r ih => exact .cons ⟨rfl, opd_rep hE p.2⟩ ih

omit [LI L] in
theorem fill_ids {sizes : Nat → Option (Nat × Nat)} : ∀ {parts : List (Nat × X L)} {cells cs : List (C L)}, fillParts sizes cells parts = some cs → (∀ b ∈ cells.flatMap idsC, U b) → (∀ p ∈ parts, ∀ b ∈ idsX p.2, U b) → ∀ b ∈ cs.flatMap idsC, U b
  | [], cells, cs, hf, hc, _ => by simp [fillParts] at hf; subst hf; exact hc
  | (i, x) :: r, cells, cs, hf, hc, hp => by
    simp only [fillParts] at hf
    split at hf
    · rename_i off n s hs
      cases hcd : (Nat.beq (cellsOf s).length n && Nat.ble (off + n) cells.length && (cellsOf s).all solid) with
      | false => rw [hcd] at hf; cases hf
      | true =>
        rw [hcd, cond_true] at hf
        refine fill_ids hf ?_ fun p hp' => hp p (by simp [hp'])
        intro b hb
        simp only [Ev.splice, List.flatMap_append, List.mem_append] at hb
        rcases hb with (hb | hb) | hb
        · refine hc b ?_
          simp only [List.mem_flatMap] at hb ⊢
          obtain ⟨x, hx, hm⟩ := hb; exact ⟨x, List.mem_of_mem_take hx, hm⟩
        · exact hp (i, .s s) (by simp) b hb
        · refine hc b ?_
          simp only [List.mem_flatMap] at hb ⊢
          obtain ⟨x, hx, hm⟩ := hb; exact ⟨x, List.mem_of_mem_drop hx, hm⟩
    · cases hf

end
end Go.Ev

/- Operations: builds, indexes. -/
namespace Go.Ev
variable {L : Type} [LI L]

section
variable {P : Program} {T : Tab} {oD : OrcD L} {U : Nat → Prop} {g : Gh} {B : Nat} {h : Hp L} {w : World} {fresh : Nat} {env : List (Nat × X L)} {a : Act} {o : Oper} {Q : X L × Hp L → Prop}

theorem run_places (hT : TabOK P T) (fs : List Field) (hall : ∀ f ∈ fs, hasT T f.type = true) (w : World) :
    (fs.mapM fun (f : Field) => do pure (f.offset, ← sizeOf f.type) : Sem (List (Nat × Nat))).run P w = .ok (fs.map fun f => (f.offset, sizeT T f.type)) w := by
  induction fs generalizing w with
  | nil => simp
  | cons f r ih =>
    have hf := hall f (by simp)
    unfold hasT at hf
    split at hf
    · rename_i i hi
      have hs : sizeT T f.type = i.size := by simp [sizeT, hi]
      simp only [List.mapM_cons, Sem.run_bind, run_size hT hi, ih (fun x hx => hall x (by simp [hx])), Sem.run_pure, Result.andThen_ok, List.map_cons, hs]
    · cases hf

theorem zero_run (hT : TabOK P T) {t : TypeId} {i : TI} (hi : T t = some i) {z : List (C L)} (hz : zeroC i = some z) : ∃ zv vs, (∀ w, (zeroValue t).run P w = .ok zv w) ∧ zv.cells = vs.toArray ∧ All2 (RepC g) z vs ∧ z.flatMap idsC = [] ∧ z.all solid = true := by
  obtain ⟨info, d, h1, _, _, _, _, h6⟩ := tab_info hT hi
  obtain ⟨vs, hvs, rfl, hsol⟩ := zeroC_eq hz
  rw [h6] at hvs
  cases hzz : info.zero with
  | none => rw [hzz] at hvs; cases hvs
  | some zv =>
    rw [hzz] at hvs; simp only [Option.map_some, Option.some.injEq] at hvs
    refine ⟨zv, vs, fun w => by simp [zeroValue, typeInfo, Sem.run, program, h1, hzz], by rw [← hvs], rep_ofCs g vs, by simp [idsC_ofC], hsol⟩

theorem op_build (hT : TabOK P T) {t : TypeId} {parts : Array (Nat × Operand)} (ho : o.op = .build t parts) (hE : RepE U g env a) (hr : RepH U g B h w) (hq : (evOp T h fresh (opd env) (.build t parts)).holds oD Q) : Good P U g B h w fresh a o Q := by
  simp only [evOp] at hq
  split at hq
  · rename_i s hs
    unfold buildS at hs
    split at hs
    · rename_i i hi
      split at hs
      · rename_i z hz
        obtain ⟨info, d, _, h2, h3, _⟩ := tab_info hT hi
        obtain ⟨zv, vs, hzr, hzc, hrz, hzi, _⟩ := zero_run (g := g) hT hi hz
        have hpr := parts_rep hE parts.toList
        have hpi : ∀ p ∈ (parts.toList.map fun p => (p.1, opd env p.2)), ∀ b ∈ idsX p.2, U b := by
          simp only [List.mem_map]; rintro _ ⟨p, _, rfl⟩; exact opd_ids hE p.2
        have hpa : (parts.map fun (x : Nat × Operand) => (x.1, a.eval x.2)).toList = parts.toList.map fun p => (p.1, a.eval p.2) := by simp
        split at hs
        · rename_i fs hfs
          split at hs
          · rename_i cs hcs
            cases hs
            cases hall : fs.all fun p => hasT T p.2 with
            | false => rw [hall] at hcs; cases hcs
            | true =>
              rw [hall, cond_true] at hcs
              rw [hfs] at h3
              cases d <;> simp [descTy] at h3
              rename_i fa
              subst h3
              obtain ⟨vs', hf1, hf2⟩ := fill_sound hcs hrz hpr
              refine .pure hq (v := .agg vs'.toArray) ?_ hr ⟨vs', rfl, hf2⟩ (fill_ids hcs (by rw [hzi]; simp) hpi)
              have hpl := run_places (P := P) hT fa.toList (fun f hf => by
                rw [List.all_eq_true] at hall
                exact hall (f.offset, f.type) (List.mem_map.2 ⟨f, hf, rfl⟩)) w
              have hpl' : (fa.mapM fun (f : Field) => do pure (f.offset, ← sizeOf f.type) : Sem (Array (Nat × Nat))).run P w = .ok (fa.toList.map fun f => (f.offset, sizeT T f.type)).toArray w := by
                rw [Array.mapM_eq_mapM_toList, Sem.run_map, hpl]
                rfl
              have hplace : (fun x : Nat => (fa.toList.map fun f => (f.offset, sizeT T f.type)).toArray[x]?) = placeOf T (fa.toList.map fun f => (f.offset, f.type)) := by
                funext j
                rw [placeOf, nth_eq]
                simp only [List.getElem?_toArray, List.getElem?_map]
                cases fa.toList[j]? <;> rfl
              simp only [execOp, ho, Instr.build, Sem.run_bind, hzr, Result.andThen_ok, run_underlying h2, hpl']
              rw [hplace, hzc, hpa, hf1]
              simp
          · cases hs
        · rename_i n e hfs
          split at hs
          · rename_i cs hcs
            cases hs
            cases hall : hasT T e with
            | false => rw [hall] at hcs; cases hcs
            | true =>
              rw [hall, cond_true] at hcs
              rw [hfs] at h3
              cases d <;> simp [descTy] at h3
              obtain ⟨rfl, rfl⟩ := h3
              obtain ⟨vs', hf1, hf2⟩ := fill_sound hcs hrz hpr
              refine .pure hq (v := .agg vs'.toArray) ?_ hr ⟨vs', rfl, hf2⟩ (fill_ids hcs (by rw [hzi]; simp) hpi)
              unfold hasT at hall
              split at hall
              · rename_i ei hei
                have hs : sizeT T e = ei.size := by simp [sizeT, hei]
                rw [hs] at hf1
                simp only [execOp, ho, Instr.build, Sem.run_bind, hzr, Result.andThen_ok, run_underlying h2, run_size hT hei]
                rw [hzc, hpa, hf1]
                simp
              · cases hall
          · cases hs
        · cases hs
      · cases hs
    · cases hs
  · exact hq.elim

theorem test_holds {R : Type} {known c : Bool} {r : Out L R} {q : R → Prop} (hq : (test known c r).holds oD q) : c = true ∧ r.holds oD q := by
  unfold test at hq
  cases known
  · rcases hq with ⟨h1, h2⟩ | ⟨_, h2⟩
    · exact ⟨h1, h2⟩
    · exact h2.elim
  · cases c
    · exact hq.elim
    · exact ⟨rfl, hq⟩

theorem tries_holds {R : Type} {i : Int} {k : Nat → Out L R} {q : R → Prop} : ∀ {n j : Nat}, (tries i k n j).holds oD q → ∃ m : Nat, j ≤ m ∧ m < j + n ∧ i = (m : Int) ∧ (k m).holds oD q
  | 0, j, hq => hq.elim
  | n + 1, j, hq => by
    rcases hq with ⟨h1, h2⟩ | ⟨_, h2⟩
    · exact ⟨j, Nat.le_refl _, by omega, of_decide_eq_true h1, h2⟩
    · obtain ⟨m, a1, a2, a3, a4⟩ := tries_holds h2
      exact ⟨m, by omega, by omega, a3, a4⟩

theorem place_holds {R : Type} {n : Nat} {i : IntV} {k : Nat → Out L R} {q : R → Prop} (hq : (place n i k).holds oD q) : ∃ m : Nat, m < n ∧ i.n = (m : Int) ∧ (k m).holds oD q := by
  unfold place at hq
  cases hkn : i.known <;> rw [hkn] at hq
  · obtain ⟨m, _, h2, h3, h4⟩ := tries_holds hq
    exact ⟨m, by omega, h3, h4⟩
  · simp only [cond_true] at hq
    cases h0 : decide (0 ≤ i.n) with
    | false => rw [h0] at hq; exact hq.elim
    | true =>
      rw [h0, cond_true] at hq
      cases h1 : decide (i.n < (n : Int)) with
      | false => rw [h1] at hq; exact hq.elim
      | true =>
        rw [h1, cond_true] at hq
        have := of_decide_eq_true h0
        have := of_decide_eq_true h1
        exact ⟨i.n.toNat, by omega, by omega, hq⟩

theorem natOf_rep {x : X L} {v : Value} {n : IntV} (hx : RepX g x v) (hn : natOf x = some n) : v = .int n.k n.n := by
  unfold natOf at hn
  split at hn
  · rename_i i hi; exact intV_rep (imOf_rep hx hi) hn
  · cases hn

theorem op_indexAddr [LLaws L] (hT : TabOK P T) {t : TypeId} {x y : Operand} (ho : o.op = .indexAddr t x y) (hE : RepE U g env a) (hr : RepH U g B h w) (hq : (evOp T h fresh (opd env) (.indexAddr t x y)).holds oD Q) : Good P U g B h w fresh a o Q := by
  simp only [evOp, indexAddrOp] at hq
  split at hq
  · rename_i ti c j hti hc hj
    have hcr := cOf_rep (opd_rep hE x) hc
    have hci := opd_ids hE x
    rw [cOf_ids hc] at hci
    have hy := natOf_rep (opd_rep hE y) hj
    obtain ⟨info, d, _, h2, h3, _⟩ := tab_info hT hti
    split at hq
    · rename_i n e hty
      cases hhe : hasT T e with
      | false => rw [hhe] at hq; exact hq.elim
      | true =>
      rw [hhe, cond_true] at hq
      obtain ⟨m, hm, hjm, hq⟩ := place_holds hq
      split at hq
      · rename_i c' hs
        obtain ⟨k, p, hv, hR, hids⟩ := shift_rep hs hcr
        rw [hty] at h3
        cases d <;> simp [descTy] at h3
        obtain ⟨rfl, rfl⟩ := h3
        have hidX : ∀ b ∈ idsX (.s (.c c') : X L), U b := by
          intro b hb
          have : idsX (.s (.c c') : X L) = idsC c' := by simp [idsX, idsS, cellsOf]
          rw [this, hids] at hb; exact hci b hb
        refine .pure hq (v := .pointer (some ⟨k, p + m * sizeT T e, none⟩)) ?_ hr hR hidX
        cases hte : T e with
        | none => simp [hasT, hte] at hhe
        | some ei =>
          have hsz : sizeT T e = ei.size := by simp [sizeT, hte]
          simp [execOp, ho, Instr.indexAt, hy, asIntOf, run_underlying h2, hv, Instr.sureAddr, run_size hT hte, addr_add, hjm, hsz, hm]
      · exact hq.elim
    · rename_i e hty
      rw [hty] at h3
      cases d <;> simp [descTy] at h3
      subst h3
      -- an index into a slice
      have run : ∀ {l : L} {ad : Option Addr} {cap : Nat} {k q m : Nat}, a.eval x = .slice ad (LI.els l).length cap → Nat.beq (sizeT T e) (LI.sz l) = true → ad = some ⟨k, q, none⟩ → j.n = (m : Int) → m < (LI.els l).length → hasT T e = true →
          (execOp a.eval o).run P w = .ok (.value (.pointer (some ⟨k, q + m * LI.sz l, none⟩))) w := by
        intro l ad cap k q m hv hs had hjm hlt hh
        have hsz := Nat.eq_of_beq_eq_true hs
        unfold hasT at hh
        split at hh
        · rename_i ei hei
          have hsz' : sizeT T e = ei.size := by simp [sizeT, hei]
          rw [hsz'] at hsz
          subst had
          simp [execOp, ho, Instr.indexAt, hy, asIntOf, run_underlying h2, hv, hjm, hlt, run_size hT hei, addr_add, hsz]
        · cases hh
      -- frozen memory
      have frozen : ∀ {l : L}, RepI g.G (.fz l) (a.eval x) → (cond (Nat.beq (sizeT T e) (LI.sz l) && hasT T e) (test j.known (decide (0 ≤ j.n)) (.ix l j.n.toNat fun cs => one (.fp cs 0))) (.fail 224) : Res L).holds oD Q → Good P U g B h w fresh a o Q := by
        intro l hI hq
        cases hcd : (Nat.beq (sizeT T e) (LI.sz l) && hasT T e) with
        | false => rw [hcd] at hq; exact hq.elim
        | true =>
          rw [hcd, cond_true] at hq
          rw [Bool.and_eq_true] at hcd
          obtain ⟨h0, hq⟩ := test_holds hq
          obtain ⟨cs, hcs, hq⟩ := hq
          have h0' := of_decide_eq_true h0
          generalize hv : a.eval x = v at hI
          cases hI with
          | @fz _ ad n cap k q vals hn hc ha hG hx =>
            subst hn
            have hlt : j.n.toNat < (LI.els l).length := (List.getElem?_eq_some_iff.1 hcs).1
            have had := ha (by omega)
            refine .pure hq (v := .pointer (some ⟨k, q + j.n.toNat * LI.sz l, none⟩)) (run hv hcd.1 had (by omega) hlt hcd.2) hr ?_ (by simp [idsX, idsS, cellsOf, idsC])
            exact ⟨k, q + j.n.toNat * LI.sz l, rfl, fun i y hy => ⟨vals j.n.toNat i, hG _ _ cs y hcs hy, hx _ _ cs y hcs hy⟩⟩
      split at hq
      · rename_i b
        simp only [RepC] at hcr
        split at hq
        · rename_i e' l hb
          cases hcd : (Nat.beq (sizeT T e) (LI.sz l) && hasT T e) with
          | false => rw [hcd] at hq; exact hq.elim
          | true =>
            rw [hcd, cond_true] at hq
            rw [Bool.and_eq_true] at hcd
            obtain ⟨h0, hq⟩ := test_holds hq
            obtain ⟨h1, hq⟩ := test_holds hq
            have h0' := of_decide_eq_true h0
            have h1' := of_decide_eq_true h1
            rw [LLaws.len] at h1'
            obtain ⟨xs, hro, hx, hbk⟩ := hr.ent b _ hb
            rcases own_cells hro hx with ⟨_, he⟩ | ⟨k, cap, hv, _, _, _, _, _⟩
            · rw [he] at h1'; simp at h1'; omega
            · have hk : k = g.blk b := hbk k (by rw [hv]; rfl)
              subst hk
              have hsz := Nat.eq_of_beq_eq_true hcd.1
              refine .pure hq (v := .pointer (some ⟨g.blk b, 0 + j.n.toNat * LI.sz l, none⟩)) (run (hcr.trans hv) hcd.1 rfl (by omega) (by omega) hcd.2) hr ?_ ?_
              · simp [RepX, RepS, RepC, hsz]
              · intro d hd
                simp [idsX, idsS, cellsOf, idsC] at hd
                subst hd; exact hci d (by simp [idsC])
        · rename_i e' l tip hb
          exact frozen (by rw [hcr]; exact (hr.ent b _ hb).1) hq
        · exact hq.elim
      · exact frozen hcr hq
      · exact hq.elim
    · exact hq.elim
  · exact hq.elim

end
end Go.Ev

/- Operations: index, len, min, max, conversions. -/
namespace Go.Ev
variable {L : Type} [LI L]

section
variable {P : Program} {T : Tab} {oD : OrcD L} {U : Nat → Prop} {g : Gh} {B : Nat} {h : Hp L} {w : World} {fresh : Nat} {env : List (Nat × X L)} {a : Act} {o : Oper} {Q : X L × Hp L → Prop}

theorem op_index (hT : TabOK P T) {t : TypeId} {x y : Operand} (ho : o.op = .index t x y) (hE : RepE U g env a) (hr : RepH U g B h w) (hq : (evOp T h fresh (opd env) (.index t x y)).holds oD Q) : Good P U g B h w fresh a o Q := by
  simp only [evOp, indexOp] at hq
  have hx := opd_rep hE x
  have hxi := opd_ids hE x
  split at hq
  · rename_i ti cs j hti hcs hj
    rw [hcs] at hx hxi
    obtain ⟨vs, hv, hc⟩ := hx
    have hy := natOf_rep (opd_rep hE y) hj
    obtain ⟨info, d, _, h2, h3, _⟩ := tab_info hT hti
    split at hq
    · rename_i n e hty
      rw [hty] at h3
      cases d <;> simp [descTy] at h3
      obtain ⟨rfl, rfl⟩ := h3
      split at hq
      · rename_i ei hei
        obtain ⟨m, hm, hjm, hq⟩ := place_holds hq
        split at hq
        · rename_i s hs
          obtain ⟨v, hrun, hR⟩ := part_val hT hei hc hs w
          refine .pure hq (v := v) ?_ hr hR fun b hb => hxi b (part_ids hs b hb)
          simp [execOp, ho, Instr.index, hy, asIntOf, run_underlying h2, hv, hjm, hm, run_size hT hei, hrun]
        · exact hq.elim
      · exact hq.elim
    · exact hq.elim
  · rename_i ti s j hti hcs hj
    rw [hcs] at hx
    have hv : a.eval x = .string s := str_rep hx
    have hy := natOf_rep (opd_rep hE y) hj
    obtain ⟨info, d, _, h2, h3, _⟩ := tab_info hT hti
    split at hq
    · rename_i hty
      rw [hty] at h3
      cases d <;> simp [descTy] at h3
      rcases hq with ⟨h0, hq⟩ | ⟨_, hq⟩
      · rcases hq with ⟨h1, hq⟩ | ⟨_, hq⟩
        · have h0' := of_decide_eq_true h0
          have h1' := of_decide_eq_true h1
          have hlt : j.n.toNat < s.size := by omega
          refine .pureI (v := .int .u8 ((s[j.n.toNat]?.getD 0).toNat : Int)) hq ?_ hr .int
          have hsome : s[j.n.toNat]? = some s[j.n.toNat] := by simp [hlt]
          simp [execOp, ho, Instr.index, hy, asIntOf, run_underlying h2, hv, h0', hsome]
        · exact hq.elim
      · exact hq.elim
    · exact hq.elim
  · exact hq.elim

/-- How long a slice value is. -/
theorem listOf_len [LLaws L] (hr : RepH U g B h w) {c : C L} {l : L} {u : Hp L} {v : Value} (hl : listOf h c = some (l, u)) (hc : RepC g c v) : ∃ ad cap, v = .slice ad (LI.els l).length cap ∧ (LI.els l).length ≤ cap := by
  obtain ⟨G', hle, h2, _⟩ := hr.freezeL u (listOf_frz hl)
  have hI := listOf_rep (g := { g with G := G' }) hl (listOf_frz hl) (fun _ h => h) h2 (RepC.mono (U := fun _ => True) (g := g) (g' := { g with G := G' }) ⟨fun _ _ => rfl, fun _ _ => rfl, hle⟩ (fun _ _ => trivial) hc)
  cases hI with
  | fz hn hc _ _ _ => exact ⟨_, _, by rw [hn], by omega⟩

theorem op_len [LLaws L] (hT : TabOK P T) {t : TypeId} {x : Operand} (ho : o.op = .call { callee := .builtin .len, args := #[x], argTypes := #[t] }) (hE : RepE U g env a) (hr : RepH U g B h w) {c : C L} (hc : cOf (opd env x) = some c) (hq : (lenOp T h t c).holds oD Q) : Good P U g B h w fresh a o Q := by
  have hcr := cOf_rep (opd_rep hE x) hc
  unfold lenOp at hq
  split at hq
  · rename_i i hi
    obtain ⟨info, d, _, h2, h3, _⟩ := tab_info hT hi
    have run : ∀ {v : Value}, (Builtin.len_ #[t] o.type #[a.eval x]).run P w = .ok v w → (execOp a.eval o).run P w = .ok (.value v) w := by
      intro v hv
      simp [execOp, ho, resolve, invoke, builtin, hv]
    split at hq
    · rename_i hty
      rw [hty] at h3
      cases d <;> simp [descTy] at h3
      split at hq
      · rename_i s
        have hv := str_rep hcr
        exact .pureI (v := .int .i64 s.size) hq (run (by simp [Builtin.len_, run_underlying h2, hv, goInt])) hr .int
      · exact hq.elim
    · rename_i e hty
      rw [hty] at h3
      cases d <;> simp [descTy] at h3
      subst h3
      cases hn : isNil c with
      | true =>
        rw [hn, cond_true] at hq
        rw [isNil_eq hn] at hcr
        have hv := hcr.nil_val
        exact .pureI (v := .int .i64 0) hq (run (by simp [Builtin.len_, run_underlying h2, hv, goInt])) hr .lit
      | false =>
        rw [hn, cond_false] at hq
        split at hq
        · rename_i l u hl
          obtain ⟨ad, cap, hv, _⟩ := listOf_len hr hl hcr
          rw [LLaws.len] at hq
          exact .pureI (v := .int .i64 ((LI.els l).length : Int)) hq (run (by simp [Builtin.len_, run_underlying h2, hv, goInt])) hr .int
        · exact hq.elim
    · exact hq.elim
  · exact hq.elim

end
end Go.Ev

/- Operations: min, max, conversions, make, append, copy. -/
namespace Go.Ev
variable {L : Type} [LI L]

section
variable {P : Program} {T : Tab} {oD : OrcD L} {U : Nat → Prop} {g : Gh} {B : Nat} {h : Hp L} {w : World} {fresh : Nat} {env : List (Nat × X L)} {a : Act} {o : Oper} {Q : X L × Hp L → Prop}

theorem foldInts_sound {f : Int → Int → Int} {F : Value → Value → Sem Value} (hF : ∀ k x y w, (F (.int k x) (.int k y)).run P w = .ok (.int k (f x y)) w) :
    ∀ {xs : List (X L)} {vs : List Value} {i r : IntV}, foldInts f i xs = some r → All2 (RepX g) xs vs → ∀ w, (vs.foldlM F (.int i.k i.n)).run P w = .ok (.int r.k r.n) w
  | [], _, i, r, hf, hx, w => by cases hx; simp [foldInts] at hf; subst hf; simp
  | x :: xs, _, i, r, hf, hx, w => by
    cases hx with
    | cons h1 h2 =>
      simp only [foldInts] at hf
      split at hf
      · rename_i y hy
        split at hf
        · rename_i b hb
          cases hk : keq i.k b.k with
          | false => rw [hk] at hf; cases hf
          | true =>
            rw [hk, cond_true] at hf
            have hv := intV_rep (imOf_rep h1 hy) hb
            rw [← keq_eq hk] at hv
            subst hv
            have := foldInts_sound hF hf h2 w
            simp only [List.foldlM_cons, Sem.run_bind, hF, Result.andThen_ok]
            exact this
        · cases hf
      · cases hf

theorem op_minmax {x : Operand} {xs : List Operand} {ts : Array TypeId} {b : Builtin} {f : Int → Int → Int} (ho : o.op = .call { callee := .builtin b, args := (x :: xs).toArray, argTypes := ts }) (hb : (b = .min ∧ f = min2) ∨ (b = .max ∧ f = max2)) (hE : RepE U g env a) (hr : RepH U g B h w)
    {i r : IntV} (hi : natOf (opd env x) = some i) (hf : foldInts f i (xs.map (opd env)) = some r) (hq : (oneI (mkInt r.known r.k r.n) : Res L).holds oD Q) : Good P U g B h w fresh a o Q := by
  have hx := natOf_rep (opd_rep hE x) hi
  refine .pureI (v := .int r.k r.n) hq ?_ hr (rep_mkInt _ _ _ _)
  rcases hb with ⟨rfl, rfl⟩ | ⟨rfl, rfl⟩
  · have := foldInts_sound (P := P) (F := Builtin.min2) (fun k x y w => by simp [Builtin.min2, min2]) hf (opds_rep hE xs) w
    simp [execOp, ho, resolve, invoke, builtin, Builtin.min_, hx, this]
  · have := foldInts_sound (P := P) (F := Builtin.max2) (fun k x y w => by simp [Builtin.max2, max2]) hf (opds_rep hE xs) w
    simp [execOp, ho, resolve, invoke, builtin, Builtin.max_, hx, this]

theorem foldl_push (ns : List Int) : ∀ s : ByteArray, ns.foldl (fun r n => r.push (UInt8.ofNat n.toNat)) s = ⟨s.data ++ (ns.map fun n => n.toNat.toUInt8).toArray⟩ := by
  induction ns with
  | nil => intro s; simp
  | cons n r ih =>
    intro s
    rw [List.foldl_cons, ih]
    congr 1
    apply Array.ext'
    simp [ByteArray.push, Nat.toUInt8]

theorem op_convert [LLaws L] (hT : TabOK P T) {src dst : TypeId} {x : Operand} (ho : o.op = .convert src dst x) (hE : RepE U g env a) (hr : RepH U g B h w) (hq : (evOp T h fresh (opd env) (.convert src dst x)).holds oD Q) : Good P U g B h w fresh a o Q := by
  simp only [evOp] at hq
  split at hq
  · rename_i si di c hsi hdi hc
    have hcr := cOf_rep (opd_rep hE x) hc
    obtain ⟨_, d1, _, h2, h3, _⟩ := tab_info hT hsi
    obtain ⟨_, d2, _, k2, k3, _⟩ := tab_info hT hdi
    split at hq
    · rename_i kk k i hs hd
      rw [hs] at h3; rw [hd] at k3
      cases d1 <;> simp [descTy] at h3
      cases d2 <;> simp [descTy] at k3
      subst k3
      split at hq
      · rename_i v hv
        have hx := intV_rep hcr hv
        exact .pureI (v := .int k (k.wrap v.n)) hq (by simp [execOp, ho, hx, convert, run_underlying h2, run_underlying k2, Conv.intToInt]) hr (rep_mkInt _ _ _ _)
      · exact hq.elim
    · rename_i e hs hd
      rw [hs] at h3; rw [hd] at k3
      cases d1 <;> simp [descTy] at h3
      cases d2 <;> simp [descTy] at k3
      subst h3
      cases hbt : isByteT T e with
      | false => rw [hbt] at hq; exact hq.elim
      | true =>
        rw [hbt, cond_true] at hq
        have hu : P.underlying e = some (.int .u8) := by
          unfold isByteT at hbt
          split at hbt
          · rename_i i hi
            obtain ⟨info, d, _, m2, m3, _⟩ := tab_info hT hi
            split at hbt
            · rename_i hty
              rw [m3] at hty
              cases d <;> simp [descTy] at hty
              subst hty; exact m2
            · cases hbt
          · cases hbt
        split at hq
        · rename_i l u hl
          split at hq
          · rename_i s hs'
            obtain ⟨ns, hels, rfl⟩ := LLaws.bytes l s hs'
            obtain ⟨ad, cap, hv, hle⟩ := listOf_len hr hl hcr
            have hlen : (LI.els l).length = ns.length := by rw [hels]; simp
            cases hns : ns with
            | nil =>
              subst hns
              refine .pureI (v := .string ⟨#[]⟩) hq ?_ hr .str
              have hl0 : (LI.els l).length = 0 := by rw [hlen]; rfl
              rw [hl0] at hv
              cases ad with
              | none => simp [execOp, ho, hv, convert, run_underlying h2, run_underlying k2, run_underlying hu, Conv.bytesToString]; rfl
              | some ad =>
                have := run_bytesToString (P := P) w ad 0 cap [] (by simp [loadCells, loadCellsFrom])
                simp [execOp, ho, hv, convert, run_underlying h2, run_underlying k2, run_underlying hu, this]; rfl
            | cons n0 nr =>
              have hsz : LI.sz l = 1 := by
                have := LLaws.size l [.int .u8 n0] (by rw [hels, hns]; simp)
                simpa using this.symm
              obtain ⟨news, hsr⟩ := src_of hr hl (by omega) hcr
              obtain ⟨ad', cap', hv', _, hcell⟩ := hsr.form
              rw [hv] at hv'; cases hv'
              obtain ⟨ad0, rfl, hcells⟩ := hcell (by rw [hlen, hns]; simp)
              have hnews : news = ns.map (Value.int .u8) := by
                have hrep := hsr.rep
                have hfl : (LI.els l).flatten = ns.map (fun n => (.int .u8 n : I L)) := by rw [hels]; clear hels hns hlen hq hs' ; induction ns with | nil => rfl | cons a r ih => simp [ih]
                rw [hfl] at hrep
                clear hcells hcell hsr hfl hq hels hns hlen hs'
                induction ns generalizing news with
                | nil => cases hrep; rfl
                | cons m r ih =>
                  cases hrep with
                  | cons p1 p2 => cases p1; rw [ih _ p2]; rfl
              have hload := run_loadCells_list (P := P) w ad0 news hcells
              have hnl : news.length = (LI.els l).length := by rw [hnews, hlen]; simp
              rw [hnl, hnews] at hload
              have := run_bytesToString (P := P) w ad0 (LI.els l).length cap ns hload
              rw [foldl_push] at this
              refine .pureI (v := .string ⟨(ns.map fun n => n.toNat.toUInt8).toArray⟩) hq ?_ hr .str
              simp [execOp, ho, hv, convert, run_underlying h2, run_underlying k2, run_underlying hu, this]
          · exact hq.elim
        · exact hq.elim
    · exact hq.elim
  · exact hq.elim

end
end Go.Ev

/- Operations: make, append, copy. -/
namespace Go.Ev
variable {L : Type} [LI L]

section
variable {P : Program} {T : Tab} {oD : OrcD L} {U : Nat → Prop} {g : Gh} {B : Nat} {h : Hp L} {w : World} {fresh : Nat} {env : List (Nat × X L)} {a : Act} {o : Oper} {Q : X L × Hp L → Prop}

theorem sliceElem_eq (hT : TabOK P T) {t e : TypeId} (h : sliceElem T t = some e) : P.underlying t = some (.slice e) := by
  unfold sliceElem at h
  split at h
  · rename_i i hi
    split at h
    · rename_i e' hty
      cases h
      obtain ⟨_, d, _, h2, h3, _⟩ := tab_info hT hi
      rw [hty] at h3
      cases d <;> simp [descTy] at h3
      subst h3; exact h2
    · cases h
  · cases h

theorem made_flat (z : Array Value) (n : Nat) (hz : 0 < z.size) : (madeCells z (n * z.size)).toList = (List.replicate n z.toList).flatten := by
  apply List.ext_getElem?
  intro p
  have hu : ∀ c ∈ List.replicate n z.toList, c.length = z.size := by intro c hc; rw [List.eq_of_mem_replicate hc]; simp
  by_cases hp : p < n * z.size
  · have hm : p % z.size < z.size := Nat.mod_lt _ hz
    have hd : p / z.size < n := Nat.div_lt_of_lt_mul (by rw [Nat.mul_comm]; exact hp)
    have h1 : (List.replicate n z.toList)[p / z.size]? = some z.toList := by simp [hd]
    have h2 : z.toList[p % z.size]? = some z[p % z.size] := by simp [hm]
    have h3 := flatten_get hu h1 h2
    rw [Nat.mul_comm, Nat.div_add_mod] at h3
    rw [h3]
    simp [madeCells, hp, hm]
  · have h1 : (madeCells z (n * z.size)).toList.length ≤ p := by simp [madeCells]; omega
    have h2 : (List.replicate n z.toList).flatten.length ≤ p := by rw [flatten_length hu]; simp; omega
    rw [List.getElem?_eq_none h1, List.getElem?_eq_none h2]

theorem All2.replicate_flatten {α β : Type} {R : α → β → Prop} {as : List α} {bs : List β} (h : All2 R as bs) : ∀ n : Nat, All2 R (List.replicate n as).flatten (List.replicate n bs).flatten
  | 0 => .nil
  | n + 1 => by simp only [List.replicate_succ, List.flatten_cons]; exact h.append (All2.replicate_flatten h n)

/-- A new array in a new block. -/
theorem Post.newRow (hr : RepH U g B h w) (hf : ¬ U fresh) {w' : World} {s : Option Addr × Nat × Nat} {e : TypeId} {l : L} {xs : List Value} (hgrow : w.grownBy w' none) (hs : s.1 = some ⟨w.heap.size, 0, none⟩)
    (hrow : w'.ownsRow B e (LI.sz l) (.slice s.1 s.2.1 s.2.2) (LI.els l).length xs) (hxs : RepIs g.G (LI.els l).flatten xs) :
    Post U g B h fresh w (.s (.c (.ar fresh))) [(fresh, .arr e l)] (.slice s.1 s.2.1 s.2.2) w' (g.withRow fresh w.heap.size s) := by
  refine Post.row (u1 := []) hr hf (fun c en hc => .inl hc) (.inr (Nat.le_refl _)) ?_ ⟨hgrow.os, hgrow.tape, hgrow.output, hgrow.size⟩ (fun j hj _ => hgrow.block j hj (by simp)) (by simp [look])
  refine hr.addRow hf hr.base (fun c en hc hO he => Nat.lt_irrefl _ (he ▸ hr.lt_size hc hO)) (fun o v hG => Nat.lt_irrefl _ (cell_lt (hr.fz _ _ _ hG))) (fun j hj _ _ => hgrow.block j hj (by simp)) hgrow.size hrow hxs ?_
  intro j hj
  rw [hs] at hj
  simpa [Value.ownBlock] using hj.symm

theorem op_makeSlice [LLaws L] (hT : TabOK P T) (hTL : TLaws L T) {t : TypeId} {x y : Operand} (ho : o.op = .makeSlice t x y) (hE : RepE U g env a) (hr : RepH U g B h w) (hf : ¬ U fresh) (hq : (evOp T h fresh (opd env) (.makeSlice t x y)).holds oD Q) : Good P U g B h w fresh a o Q := by
  simp only [evOp] at hq
  split at hq
  · rename_i e he
    have ht := sliceElem_eq hT he
    unfold makeOp at hq
    split at hq
    · rename_i n c hn hc
      have hx := natOf_rep (opd_rep hE x) hn
      have hy := natOf_rep (opd_rep hE y) hc
      cases hz : zOk T e with
      | false => rw [hz] at hq; exact hq.elim
      | true =>
        rw [hz, cond_true] at hq
        obtain ⟨info, z, hi, hzz, hzs, hby, hpos, hsize⟩ := zOk_info hT hz
        have reps : ∀ {m : Nat} {l : L}, LI.rep e m = some l → (LI.els l).length = m ∧ LI.sz l = info.size ∧ RepIs g.G (LI.els l).flatten (madeCells z.cells (m * info.size)).toList := by
          intro m l hl
          obtain ⟨i, zl, cs, hti, hzi, hels, hsz, hall⟩ := hTL.rep e m l hl
          have hs2 : sizeT T e = i.size := by simp [sizeT, hti]
          refine ⟨by rw [hels]; simp, by rw [hsz, ← hs2, hsize], ?_⟩
          obtain ⟨info', _, k1, _, _, _, _, k6⟩ := tab_info hT hti
          rw [hi] at k1; cases k1
          rw [k6, hzz] at hzi; simp only [Option.map_some, Option.some.injEq] at hzi
          rw [← hzs, made_flat z.cells m (by omega), hels, hzi]
          refine All2.replicate_flatten ?_ m
          clear hzi hels
          induction hall with
          | nil => exact .nil
          | cons h1 _ ih => exact .cons (h1 _) ih
        cases hsame : sameOpd x y with
        | true =>
          rw [hsame, cond_true] at hq
          have hxy : a.eval y = a.eval x := by
            unfold sameOpd at hsame
            split at hsame
            · rw [Nat.eq_of_beq_eq_true hsame]
            · cases hsame
          obtain ⟨h0, hq⟩ := test_holds hq
          obtain ⟨h1, hq⟩ := test_holds hq
          have h0' := of_decide_eq_true h0
          have h1' : n.n.toNat ≤ 1073741824 := of_decide_eq_true h1
          split at hq
          · rename_i l hl
            obtain ⟨r1, r2, r3⟩ := reps hl
            have hbytes : info.bytes * n.n.toNat ≤ 281474976710656 := Nat.le_trans (Nat.mul_le_mul hby h1') (by decide)
            obtain ⟨w', hrun, hrow, hgrow⟩ := run_make_full (P := P) w B t e info z info.size ht hi hzz rfl n.k n.k n.n.toNat hbytes (by unfold maxLen; omega) hr.base
            have hnn : ((n.n.toNat : Nat) : Int) = n.n := by omega
            rw [hnn] at hrun
            refine .value hq ?_ (Post.newRow (s := (some ⟨w.heap.size, 0, none⟩, n.n.toNat, n.n.toNat)) hr hf hgrow rfl (by rw [r1, r2]; exact hrow) r3)
            simp [execOp, ho, hxy, hx, hrun]
          · exact hq.elim
        | false =>
          rw [hsame, cond_false] at hq
          cases hk : (n.known && decide (n.n = 0)) with
          | false => rw [hk] at hq; exact hq.elim
          | true =>
            rw [hk, cond_true] at hq
            rw [Bool.and_eq_true] at hk
            have hn0 := of_decide_eq_true hk.2
            obtain ⟨h0, hq⟩ := test_holds hq
            obtain ⟨h1, hq⟩ := test_holds hq
            have h0' := of_decide_eq_true h0
            have h1' : c.n.toNat ≤ 1073741824 := of_decide_eq_true h1
            split at hq
            · rename_i l hl
              obtain ⟨r1, r2, r3⟩ := reps hl
              have hbytes : info.bytes * c.n.toNat ≤ 281474976710656 := Nat.le_trans (Nat.mul_le_mul hby h1') (by decide)
              obtain ⟨w', hrun, hrow, hgrow⟩ := run_make_own (P := P) w B t e info z info.size ht hi hzz rfl n.k c.k c.n.toNat hbytes (by unfold maxLen; omega) hr.base
              have hnn : ((c.n.toNat : Nat) : Int) = c.n := by omega
              rw [hnn] at hrun
              rw [Nat.zero_mul] at r3
              refine .value hq ?_ (Post.newRow (s := (some ⟨w.heap.size, 0, none⟩, 0, c.n.toNat)) (xs := []) hr hf hgrow rfl (by rw [r1, r2]; exact hrow) (by simpa [madeCells] using r3))
              simp [execOp, ho, hx, hy, hn0, hrun]
            · exact hq.elim
    · exact hq.elim
  · exact hq.elim

theorem op_append [LLaws L] (hT : TabOK P T) {t e : TypeId} {x y : Operand} (ho : o.op = .call { callee := .builtin .append, args := #[x, y], argTypes := #[t, t] }) (hE : RepE U g env a) (hr : RepH U g B h w) (hf : ¬ U fresh) (he : sliceElem T t = some e)
    (hq : (appendOp T h fresh e (opd env x) (opd env y)).holds oD Q) : Good P U g B h w fresh a o Q := by
  obtain ⟨z, u, hqz, v', w', g', hrun, hp⟩ := appendOp_sound (ty := o.type) hT (sliceElem_eq hT he) hr hf (opd_rep hE x) (opd_rep hE y) hq
  refine .value hqz ?_ hp
  simp [execOp, ho, resolve, invoke, builtin, hrun]

end
end Go.Ev

/- Operations: copy, slices of slices, slice literals. -/
namespace Go.Ev
variable {L : Type} [LI L]

section
variable {P : Program} {T : Tab} {oD : OrcD L} {U : Nat → Prop} {g : Gh} {B : Nat} {h : Hp L} {w : World} {fresh : Nat} {env : List (Nat × X L)} {a : Act} {o : Oper} {Q : X L × Hp L → Prop}

theorem flatten_drop {α : Type} {s : Nat} : ∀ {css : List (List α)} (k : Nat), (∀ c ∈ css, c.length = s) → (css.drop k).flatten = css.flatten.drop (k * s)
  | [], k, _ => by simp
  | c :: r, 0, _ => by simp
  | c :: r, k + 1, hs => by
    have hc : c.length = s := hs c (by simp)
    rw [List.drop_succ_cons, List.flatten_cons, flatten_drop k fun c hc => hs c (by simp [hc]), Nat.succ_mul, Nat.add_comm (k * s) s, ← hc, List.drop_length_add_append]

/-- An array changed in place: what an operation leaves. -/
theorem Post.setArr {x : X L} {v : Value} {w' : World} {b : Nat} {e : TypeId} {l l' : L} (hb : look h b = some (.arr e l)) (hh : RepH U g B ((b, .arr e l') :: h) w') (hx : RepX g x v) (hi : ∀ d ∈ idsX x, U d) (hs : Same w w')
    (hfr : ∀ j, j < w.heap.size → (Owns g b (.arr e l : En L) → j ≠ g.blk b) → w'.heap[j]? = w.heap[j]?) : Post U g B h fresh w x [(b, .arr e l')] v w' g := by
  refine ⟨.refl _ _, hx, fun d hd => .inl (hi d hd), hh.weaken fun _ => .inl, fun _ _ _ hz => .inl hz, ?_, hs, ?_, ?_⟩
  · intro c en hc hO
    rw [List.singleton_append, look_cons] at hc
    refine .inl ?_
    split at hc
    · rename_i hbc; subst hbc; cases hc; exact ⟨b, _, hb, hO, rfl⟩
    · exact ⟨c, en, hc, hO, rfl⟩
  · intro k hk hown
    exact hfr k hk fun hO he => hown b _ hb hO he.symm
  · intro c en hc
    rw [look_cons] at hc
    split at hc
    · rename_i hbc; subst hbc; exact .inr ⟨_, hb⟩
    · simp [look] at hc

theorem op_copy [LLaws L] (hT : TabOK P T) {t e : TypeId} {x y : Operand} (ho : o.op = .call { callee := .builtin .copy, args := #[x, y], argTypes := #[t, t] }) (hE : RepE U g env a) (hr : RepH U g B h w) (he : sliceElem T t = some e)
    (hq : (copyOp T h e (opd env x) (opd env y)).holds oD Q) : Good P U g B h w fresh a o Q := by
  have ht := sliceElem_eq hT he
  unfold copyOp at hq
  split at hq
  · rename_i b l2 hcd hsrc
    have hdx := cOf_rep (opd_rep hE x) hcd
    simp only [RepC] at hdx
    split at hq
    · rename_i e' l hb
      cases hcond : (Nat.beq (sizeT T e) (LI.sz l) && Nat.beq (sizeT T e) (LI.sz l2) && hasT T e && Nat.ble 1 (sizeT T e)) with
      | false => rw [hcond] at hq; exact hq.elim
      | true =>
        rw [hcond, cond_true] at hq
        simp only [Bool.and_eq_true] at hcond
        have hs1 := Nat.eq_of_beq_eq_true hcond.1.1.1
        have hs2 := Nat.eq_of_beq_eq_true hcond.1.1.2
        have hpos := Nat.le_of_ble_eq_true hcond.2
        dsimp only at hq
        split at hq
        · rename_i l' happ
          obtain ⟨hels, hz1, hz2⟩ := LLaws.app _ _ l' happ
          obtain ⟨hsub1, hsz1⟩ := LLaws.sub l2 0 (Nat.min (LI.len l2) (LI.len l))
          obtain ⟨hsub2, hsz2⟩ := LLaws.sub l (Nat.min (LI.len l2) (LI.len l)) (LI.len l)
          rw [LLaws.len, LLaws.len] at *
          generalize hn : Nat.min (LI.els l2).length (LI.els l).length = n at *
          have hn1 : n ≤ (LI.els l2).length := hn ▸ Nat.min_le_left _ _
          have hn2 : n ≤ (LI.els l).length := hn ▸ Nat.min_le_right _ _
          rw [List.drop_zero] at hsub1
          rw [List.take_length] at hsub2
          rw [hsub1, hsub2] at hels
          have hzl : LI.sz l' = LI.sz l := by rw [hz2, hsz2]
          have hll : LI.sz l2 = LI.sz l := by rw [← hs1, hs2]
          obtain ⟨news, hsr⟩ := srcOf_src hr (opd_rep hE y) hsrc (by omega)
          obtain ⟨a2, cap2, hv2, hc2, hcell⟩ := hsr.form
          obtain ⟨xs, hro, hx, hbk⟩ := hr.ent b _ hb
          have hlen' : (LI.els l').length = (LI.els l).length := by rw [hels]; simp; omega
          -- the new values
          have hrep : RepIs g.G (LI.els l').flatten (news.take (n * LI.sz l) ++ xs.drop (n * LI.sz l)) := by
            rw [hels, List.flatten_append, flatten_take n fun c hc => LLaws.size l2 c hc, flatten_drop n fun c hc => LLaws.size l c hc, hll]
            exact (hsr.rep.take _).append (hx.drop _)
          obtain ⟨ei, hei⟩ : ∃ ei, T e = some ei := by
            have := hcond.1.2; unfold hasT at this; split at this
            · exact ⟨_, by assumption⟩
            · cases this
          have hsz : ei.size = LI.sz l := by rw [← hs1]; simp [sizeT, hei]
          have run : ∀ {w' : World} {cells : Array Value}, (Builtin.firstCells ei.size n (a.eval y)).run P w = .ok cells w → (∀ base dl dc, a.eval x = .slice base dl dc → (match base with | some ad => storeCells ad cells.toList | none => pure () : Sem Unit).run P w = .ok () w') → (execOp a.eval o).run P w = .ok (.value (.int .i64 n)) w' := by
            intro w' cells h1 h2
            have hdv : ∃ base dc, a.eval x = .slice base (LI.els l).length dc := by
              rw [hdx]
              rcases own_cells hro hx with ⟨hv, hee⟩ | ⟨k, cap, hv, _⟩
              · exact ⟨none, 0, by rw [hv, hee]; rfl⟩
              · exact ⟨_, _, hv⟩
            obtain ⟨base, dc, hdv⟩ := hdv
            have h2' := h2 base _ dc hdv
            have hmin : Nat.min (LI.els l2).length (LI.els l).length = n := hn
            simp only [execOp, ho, resolve, invoke, builtin, Builtin.copy_]
            simp only [hv2, Builtin.lenOf] at h1 ⊢
            cases base with
            | none =>
              simp only at h2'
              have : w' = w := by simpa using h2'.symm
              subst this
              simp [run_underlying ht, hmin, run_size hT hei, h1, goInt, hdv, hv2]
            | some ad =>
              simp only at h2'
              simp [run_underlying ht, hmin, run_size hT hei, h1, h2', goInt, hdv, hv2]
          by_cases hn0 : n = 0
          · subst hn0
            have hrun := run (w' := w) (cells := #[]) (by
              rw [hv2]; cases a2 <;> simp [Builtin.firstCells, loadCells, loadCellsFrom]) (by
              intro base dl dc _; cases base <;> simp [storeCells])
            simp only [Nat.zero_mul, List.take_zero, List.nil_append, List.drop_zero] at hrep
            have hset := hr.setArr hb (l' := l') (w' := w) hlen' (fun _ _ _ => rfl) (Nat.le_refl _) (by rw [hlen', hzl]; exact hro) hrep
            exact .value hq hrun (Post.setArr hb hset .int (by simp [idsX, idsS, cellsOf, idsC]) (.refl w) (fun _ _ _ => rfl))
          · obtain ⟨ad, had, hcells⟩ := hcell (by omega)
            subst had
            rcases own_cells hro hx with ⟨_, hee⟩ | ⟨k, cap, hv, hcap, hBk, hks, _, hxl⟩
            · rw [hee] at hn2; simp at hn2; omega
            · have hk : k = g.blk b := hbk k (by rw [hv]; rfl)
              subst hk
              obtain ⟨hl1, hrow⟩ := hro
              rcases hrow with ⟨hv0, _⟩ | ⟨k', cap', cur, hv', _, hcur, hnc, hml, hcs, htk⟩
              · rw [hv] at hv0; cases hv0
              · rw [hv] at hv'; cases hv'
                have hmul1 : n * LI.sz l ≤ (LI.els l).length * LI.sz l := Nat.mul_le_mul_right _ hn2
                have hmul2 : n * LI.sz l ≤ (LI.els l2).length * LI.sz l := Nat.mul_le_mul_right _ hn1
                have hnl : news.length = (LI.els l2).length * LI.sz l := by rw [hsr.len, hll]
                have hcurl : xs.length ≤ cur.size := by have := congrArg List.length htk; simp at this; omega
                have htl : (news.take (n * LI.sz l)).length = n * LI.sz l := by simp; omega
                have hload := run_loadCells_list (P := P) w ad (news.take (n * LI.sz l)) (fun j v hj => hcells j v (by
                  rw [List.getElem?_take] at hj; split at hj
                  · exact hj
                  · cases hj))
                rw [htl] at hload
                have hone : ∀ v ∈ news.take (n * LI.sz l), v.oneCell' = true := fun v hv => hsr.rep.one v (List.mem_of_mem_take hv)
                have hst := run_storeCells_at (P := P) (g.blk b) 0 e' (news.take (n * LI.sz l)) 0 cur w hcur (by rw [htl]; omega) hone
                simp only [Nat.add_zero, Nat.zero_add, List.take_zero, List.nil_append, htl] at hst
                have hrun := run (w' := w.setRow (g.blk b) (news.take (n * LI.sz l) ++ cur.toList.drop (n * LI.sz l)).toArray) (cells := (news.take (n * LI.sz l)).toArray) (by
                  rw [hv2, hsz]; simp only [Builtin.firstCells]; exact hload) (by
                  intro base dl dc hbd
                  rw [hdx, hv] at hbd; cases hbd
                  simpa using hst)
                have hOb : Owns g b (.arr e' l : En L) := by show (g.v b).ownBlock ≠ none; rw [hv]; simp [Value.ownBlock]
                have hrow' : (w.setRow (g.blk b) (news.take (n * LI.sz l) ++ cur.toList.drop (n * LI.sz l)).toArray).ownsRow B e' (LI.sz l') (g.v b) (LI.els l').length (news.take (n * LI.sz l) ++ xs.drop (n * LI.sz l)) := by
                  refine ⟨by rw [hlen', hzl]; simp; omega, .inr ⟨g.blk b, cap, _, by rw [hv, hlen'], hBk, setRow_heap w _ _ _ _ _ hcur, by rw [hlen']; exact hcap, hml, by rw [hzl]; simp; omega, ?_⟩⟩
                  rw [hlen', hzl, ← htk]
                  have := take_splice cur.toList (news.take (n * LI.sz l)) ((LI.els l).length * LI.sz l) 0 (by omega) (by simp; omega)
                  simp only [List.take_zero, List.nil_append, Nat.zero_add, htl] at this
                  exact this
                have hset := hr.setArr hb (l' := l') (w' := w.setRow (g.blk b) _) hlen' (fun q _ hne => setRow_other w _ q _ (hne hOb)) (by simp) hrow' hrep
                exact .value hq hrun (Post.setArr hb hset .int (by simp [idsX, idsS, cellsOf, idsC]) ⟨rfl, rfl, rfl, by simp⟩ (fun q _ hne => setRow_other w _ q _ (hne hOb)))
        · exact hq.elim
    · exact hq.elim
  · exact hq.elim

end
end Go.Ev

/- Operations: slices of slices and of strings, slice literals. -/
namespace Go.Ev
variable {L : Type} [LI L]

section
variable {P : Program} {T : Tab} {oD : OrcD L} {U : Nat → Prop} {g : Gh} {B : Nat} {h : Hp L} {w : World} {fresh : Nat} {env : List (Nat × X L)} {a : Act} {o : Oper} {Q : X L × Hp L → Prop}

/-- A prefix of an array: nothing in the world changes. -/
theorem Post.addPre [LLaws L] (hr : RepH U g B h w) (hf : ¬ U fresh) {b0 k : Nat} {e : TypeId} {l0 : L} (hb : look h b0 = some (.arr e l0)) (hk : k ≤ (LI.els l0).length) :
    Post U g B h fresh w (.s (.c (.ar fresh))) [(fresh, .pre b0 k)] (.slice (g.sv b0).1 k (g.sv b0).2.2) w (g.withRow fresh 0 ((g.sv b0).1, k, (g.sv b0).2.2)) := by
  have hle := Gh.withRow_le (g := g) (k := 0) (s := ((g.sv b0).1, k, (g.sv b0).2.2)) hf
  have hU0 := (hr.ids b0 _ hb).1
  have old : ∀ {c en}, look ((fresh, En.pre b0 k) :: h) c = some en → Owns (g.withRow fresh 0 ((g.sv b0).1, k, (g.sv b0).2.2)) c en → look h c = some en ∧ Owns g c en := by
    intro c en hc hO
    rw [look_cons] at hc
    split at hc
    · cases hc; exact hO.elim
    · exact ⟨hc, (Owns.congr hle (hr.ids c en hc).1).1 hO⟩
  refine ⟨hle, by simp [RepX, RepS, RepC, Gh.v, Gh.withRow], by simp [idsX, idsS, cellsOf, idsC], ⟨hr.fz, ?_, ?_, ?_, ?_, ?_, ?_, hr.base⟩, fun _ _ _ hz => .inl hz, ?_, .refl w, fun _ _ _ => rfl, ?_⟩
  · intro c en hc
    rw [List.singleton_append, look_cons] at hc
    split at hc
    · cases hc; trivial
    · exact (hr.ent c en hc).mono hle (hr.ids c en hc).1 (hr.ids c en hc).2
  · intro c en hc
    rw [List.singleton_append, look_cons] at hc
    split at hc
    · rename_i hcf; subst hcf; cases hc; exact ⟨.inr rfl, by simp [idsEn]; exact .inl hU0⟩
    · exact ⟨.inl (hr.ids c en hc).1, fun d hd => .inl ((hr.ids c en hc).2 d hd)⟩
  · intro c c' en en' h1 h2 o1 o2 hne
    obtain ⟨a1, b1⟩ := old h1 o1
    obtain ⟨a2, b2⟩ := old h2 o2
    rw [hle.blk c (hr.ids _ _ a1).1, hle.blk c' (hr.ids _ _ a2).1]
    exact hr.dis c c' en en' a1 a2 b1 b2 hne
  · intro c en h1 o1
    obtain ⟨a1, b1⟩ := old h1 o1
    rw [hle.blk c (hr.ids _ _ a1).1]; exact hr.own c en a1 b1
  · intro c en h1 o1 p v hG
    obtain ⟨a1, b1⟩ := old h1 o1
    rw [hle.blk c (hr.ids _ _ a1).1] at hG
    exact hr.free c en a1 b1 p v hG
  · intro c b1 j hc
    rw [List.singleton_append, look_cons] at hc
    split at hc
    · rename_i hcf; subst hcf; cases hc
      have hlen : (g.sv b0).2.1 = (LI.els l0).length := by
        obtain ⟨xs, ho, _⟩ := hr.ent _ _ hb
        rcases ho.2 with ⟨hv, hn⟩ | ⟨_, _, _, hv, _⟩
        · simp only [Gh.v, Value.slice.injEq] at hv; omega
        · simp only [Gh.v, Value.slice.injEq] at hv; omega
      rw [hle.sv b0 hU0]
      exact ⟨by omega, by simp [Gh.withRow]⟩
    · have hU1 := (hr.ids c _ hc).2 b1 (by simp [idsEn])
      rw [hle.sv c (hr.ids c _ hc).1, hle.sv b1 hU1]
      exact hr.pre c b1 j hc
  · intro c en h1 o1
    rw [List.singleton_append] at h1
    obtain ⟨a1, b1⟩ := old h1 o1
    exact .inl ⟨c, en, a1, b1, (hle.blk c (hr.ids _ _ a1).1).symm⟩
  · intro c en hc
    rw [look_cons] at hc
    split at hc
    · rename_i hcf; exact .inl hcf.symm
    · simp [look] at hc

/-- Freezing, as an operation that yields a frozen value. -/
theorem Post.frozen [LLaws L] (hr : RepH U g B h w) {u : Hp L} (hf : Frz h u) {x : I L} {v : Value} (hx : ∀ G', FzLe g.G G' → RepH U { g with G := G' } B (u ++ h) w → RepI G' x v) : ∃ g', Post U g B h fresh w (.s (.c (.im x))) u v w g' := by
  obtain ⟨G', h1, h2, h3⟩ := hr.freezeL u hf
  exact ⟨{ g with G := G' }, Post.of_freeze (g' := { g with G := G' }) hf rfl rfl h1 h3 h2 (hx G' h1 h2) (by simp [idsX, idsS, cellsOf, idsC]) (.refl w) (fun _ _ => rfl)⟩

theorem bound_run {k : IntKind} {n : Int} {y : Nat} {code : BoundsCode} (h0 : 0 ≤ n) (h1 : n ≤ (y : Int)) (w : World) : (Instr.sliceBound (.int k n) y code).run P w = .ok n.toNat w := by
  simp [Instr.sliceBound, asIntOf, h0, h1]

theorem bounds_run {lo hi : Option Value} {s : Bool} {len cap l m : Nat} (hl : (lo = none ∧ l = 0) ∨ ∃ k n, lo = some (.int k n) ∧ 0 ≤ n ∧ n.toNat = l) (hh : (hi = none ∧ m = len) ∨ ∃ k n, hi = some (.int k n) ∧ 0 ≤ n ∧ n.toNat = m) (h1 : l ≤ m) (h2 : m ≤ cap) (w : World) :
    (Instr.sliceBounds s len cap lo hi none).run P w = .ok (l, m, cap) w := by
  unfold Instr.sliceBounds
  rcases hh with ⟨rfl, rfl⟩ | ⟨k, n, rfl, h0, hn⟩
  · rcases hl with ⟨rfl, rfl⟩ | ⟨k', n', rfl, h0', hn'⟩
    · simp
    · simp [bound_run h0' (show n' ≤ ((m : Nat) : Int) by omega), hn']
  · rcases hl with ⟨rfl, rfl⟩ | ⟨k', n', rfl, h0', hn'⟩
    · simp [bound_run h0 (show n ≤ ((cap : Nat) : Int) by omega), hn]
    · simp [bound_run h0 (show n ≤ ((cap : Nat) : Int) by omega), hn, bound_run h0' (show n' ≤ ((m : Nat) : Int) by omega), hn']

/-- a bound that is there or not -/
def Bd (x : Option Operand) (ρ : Operand → Value) (n : IntV) (dflt : Int) : Prop := (x = none ∧ n.n = dflt) ∨ ∃ p k, x = some p ∧ ρ p = .int k n.n

theorem bd_of (hE : RepE U g env a) {x : Option Operand} {n d : IntV} (hn : (match x.map (opd env) with | some l => natOf l | none => some d) = some n) : Bd x a.eval n d.n := by
  cases x with
  | none => simp at hn; subst hn; exact .inl ⟨rfl, rfl⟩
  | some p => exact .inr ⟨p, _, rfl, natOf_rep (opd_rep hE p) hn⟩

theorem Bd.run {x : Option Operand} {n : IntV} {d : Nat} (h : Bd x a.eval n (d : Int)) (h0 : 0 ≤ n.n) : (x.map a.eval = none ∧ n.n.toNat = d) ∨ ∃ k m, x.map a.eval = some (.int k m) ∧ 0 ≤ m ∧ m.toNat = n.n.toNat := by
  rcases h with ⟨rfl, h⟩ | ⟨p, k, rfl, h⟩
  · exact .inl ⟨rfl, by omega⟩
  · exact .inr ⟨k, n.n, by simp [h], h0, rfl⟩

theorem op_slice [LLaws L] (hT : TabOK P T) {t : TypeId} {x : Operand} {lo hi : Option Operand} (ho : o.op = .slice t x lo hi none) (hE : RepE U g env a) (hr : RepH U g B h w) (hf : ¬ U fresh) (hq : (evOp T h fresh (opd env) (.slice t x lo hi none)).holds oD Q) : Good P U g B h w fresh a o Q := by
  simp only [evOp, sliceOp] at hq
  split at hq
  · rename_i c n hc hn
    have hcr := cOf_rep (opd_rep hE x) hc
    have hlo := bd_of hE hn
    split at hq
    · -- a string
      rename_i s
      have hv : a.eval x = .string s := str_rep hcr
      split at hq
      · rename_i m hm
        have hhi := bd_of hE hm
        cases hst : isStrT T t with
        | false => rw [hst] at hq; exact hq.elim
        | true =>
          rw [hst, cond_true] at hq
          obtain ⟨h0, hq⟩ := test_holds hq
          obtain ⟨h1, hq⟩ := test_holds hq
          obtain ⟨h2, hq⟩ := test_holds hq
          have h0' := of_decide_eq_true h0
          have h1' := of_decide_eq_true h1
          have h2' := of_decide_eq_true h2
          have hu : P.underlying t = some .string := by
            unfold isStrT at hst
            split at hst
            · rename_i i hi'
              obtain ⟨_, d, _, m2, m3, _⟩ := tab_info hT hi'
              split at hst
              · rename_i hty
                rw [m3] at hty
                cases d <;> simp [descTy] at hty
                exact m2
              · cases hst
            · cases hst
          have hb := bounds_run (P := P) (s := false) (len := s.size) (cap := s.size) (l := n.n.toNat) (m := m.n.toNat) (Bd.run (d := 0) hlo h0') (Bd.run hhi (by omega)) (by omega) (by omega) w
          refine .pureI (v := .string (s.extract n.n.toNat m.n.toNat)) hq ?_ hr .str
          simp [execOp, ho, Instr.sliceAt, Instr.slice, run_underlying hu, hv, hb]
      · exact hq.elim
    · split at hq
      · rename_i l u hl
        cases hel : elOk T t l with
        | false => rw [hel] at hq; exact hq.elim
        | true =>
          rw [hel, cond_true] at hq
          obtain ⟨e, he, hsz, hhas⟩ : ∃ e, sliceElem T t = some e ∧ sizeT T e = LI.sz l ∧ hasT T e = true := by
            unfold elOk at hel
            split at hel
            · rename_i e he; rw [Bool.and_eq_true] at hel; exact ⟨e, he, Nat.eq_of_beq_eq_true hel.1, hel.2⟩
            · cases hel
          have hu := sliceElem_eq hT he
          obtain ⟨ei, hei⟩ : ∃ ei, T e = some ei := by
            unfold hasT at hhas; split at hhas
            · exact ⟨_, by assumption⟩
            · cases hhas
          have hszi : ei.size = LI.sz l := by rw [← hsz]; simp [sizeT, hei]
          split at hq
          · rename_i m hm
            have hhi := bd_of hE hm
            obtain ⟨h0, hqa⟩ := test_holds hq
            clear hq
            obtain ⟨h1, hqb⟩ := test_holds hqa
            clear hqa
            obtain ⟨h2, hq⟩ := test_holds hqb
            clear hqb
            have h0' := of_decide_eq_true h0
            have h1' := of_decide_eq_true h1
            have h2' := of_decide_eq_true h2
            rw [LLaws.len] at h2' hhi
            obtain ⟨ad, cap, hv, hcap⟩ := listOf_len hr hl hcr
            have hb := bounds_run (P := P) (s := true) (len := (LI.els l).length) (cap := cap) (l := n.n.toNat) (m := m.n.toNat) (Bd.run (d := 0) hlo h0') (Bd.run hhi (by omega)) (by omega) (by omega) w
            have hrun : (execOp a.eval o).run P w = .ok (.value (.slice (if cap = n.n.toNat then ad else ad.map (·.add (n.n.toNat * LI.sz l))) (m.n.toNat - n.n.toNat) (cap - n.n.toNat))) w := by
              simp [execOp, ho, Instr.sliceAt, Instr.slice, run_underlying hu, hv, hb, run_size hT hei, hszi]
            have frozen : Q (.s (.c (.im (.fz (LI.sub l n.n.toNat m.n.toNat)))), u) → Good P U g B h w fresh a o Q := by
              intro hq
              obtain ⟨g', hp⟩ := Post.frozen (fresh := fresh) hr (listOf_frz hl) (x := .fz (LI.sub l n.n.toNat m.n.toNat)) (v := .slice (if cap = n.n.toNat then ad else ad.map (·.add (n.n.toNat * LI.sz l))) (m.n.toNat - n.n.toNat) (cap - n.n.toNat)) (fun G' hle hR => by
                have hI := listOf_rep (g := { g with G := G' }) hl (listOf_frz hl) (fun _ h => h) hR (RepC.mono (U := fun _ => True) (g := g) (g' := { g with G := G' }) ⟨fun _ _ => rfl, fun _ _ => rfl, hle⟩ (fun _ _ => trivial) hcr)
                rw [hv] at hI
                exact RepI.sub hI (by omega) (by omega) (by omega))
              exact .value hq hrun hp
            unfold sliceDone at hq
            split at hq
            · rename_i b0 hpre
              unfold isPre at hpre
              split at hpre
              · rename_i b1
                split at hpre
                · rename_i e' l0 hb0
                  cases hkn : (n.known && decide (n.n = 0)) with
                  | false => rw [hkn] at hpre; cases hpre
                  | true =>
                    rw [hkn] at hpre; cases hpre
                    rw [Bool.and_eq_true] at hkn
                    have hn0 : n.n = 0 := of_decide_eq_true hkn.2
                    simp only [listOf, hb0, Option.some.injEq, Prod.mk.injEq] at hl
                    obtain ⟨rfl, _⟩ := hl
                    simp only [RepC] at hcr
                    have hgv : g.v b0 = .slice ad (LI.els l0).length cap := by rw [← hcr]; exact hv
                    have e1 : (g.sv b0).1 = ad ∧ (g.sv b0).2.2 = cap := by
                      simp only [Gh.v, Value.slice.injEq] at hgv; exact ⟨hgv.1, hgv.2.2⟩
                    have hp := Post.addPre (k := m.n.toNat) hr hf hb0 (by omega)
                    refine .value hq ?_ hp
                    rw [hrun, hn0, e1.1, e1.2]
                    have : (if cap = (0 : Int).toNat then ad else ad.map (·.add ((0 : Int).toNat * LI.sz l0))) = ad := by
                      split
                      · rfl
                      · cases ad <;> simp [Addr.add]
                    rw [this]; simp
                · cases hpre
              · cases hpre
            · exact frozen hq
          · exact hq.elim
      · cases hnil : isNil c with
        | false => rw [hnil] at hq; exact hq.elim
        | true => rw [hnil, cond_true] at hq; exact hq.elim
  · exact hq.elim

end
end Go.Ev

/- Operations: slice literals. -/
namespace Go.Ev
variable {L : Type} [LI L]

section
variable {P : Program} {T : Tab} {oD : OrcD L} {U : Nat → Prop} {g : Gh} {B : Nat} {h : Hp L} {w : World} {fresh : Nat} {env : List (Nat × X L)} {a : Act} {o : Oper} {Q : X L × Hp L → Prop}

theorem repl_eq {α : Type} (l : List α) : ∀ n, repl l n = (List.replicate n l).flatten
  | 0 => rfl
  | n + 1 => by simp only [repl, repl_eq l n, List.replicate_succ, List.flatten_cons]

theorem chop_flatten {α : Type} {s : Nat} : ∀ (n : Nat) {l : List α}, l.length = n * s → (chop s n l).flatten = l ∧ (chop s n l).length = n
  | 0, l, h => by
    have : l = [] := List.eq_nil_of_length_eq_zero (by simpa using h)
    subst this; exact ⟨rfl, rfl⟩
  | n + 1, l, h => by
    have hs : (n + 1) * s = s + n * s := by rw [Nat.succ_mul]; omega
    obtain ⟨h1, h2⟩ := chop_flatten (s := s) n (l := l.drop s) (by rw [List.length_drop, h, hs]; omega)
    simp only [chop, List.flatten_cons, List.length_cons, h1, h2, List.take_append_drop, and_self]

theorem All2.flatten {α β : Type} {R : α → β → Prop} {as : List (List α)} {bs : List (List β)} (h : All2 (All2 R) as bs) : All2 R as.flatten bs.flatten := by
  induction h with
  | nil => exact .nil
  | cons h _ ih => simp only [List.flatten_cons]; exact h.append ih

theorem op_buildSlice [LLaws L] (hT : TabOK P T) (hTL : TLaws L T) {t : TypeId} {n : Nat} {parts : Array (Nat × Operand)} (ho : o.op = .buildSlice t n parts) (hE : RepE U g env a) (hr : RepH U g B h w) (hf : ¬ U fresh) (hq : (evOp T h fresh (opd env) (.buildSlice t n parts)).holds oD Q) : Good P U g B h w fresh a o Q := by
  simp only [evOp] at hq
  split at hq
  · rename_i e he
    have ht := sliceElem_eq hT he
    unfold buildSliceOp at hq
    split at hq
    · rename_i ei hei
      split at hq
      · rename_i z hz
        split at hq
        · rename_i cs hcs
          split at hq
          · rename_i xs u hxs
            split at hq
            · rename_i l hl
              cases hcd : (zOk T e && Nat.ble (n * ei.size) 16777216) with
              | false => rw [hcd] at hl; cases hl
              | true =>
                rw [hcd, cond_true] at hl
                rw [Bool.and_eq_true] at hcd
                obtain ⟨info, zv, hi, hzz, hzs, hby, hpos, hsize⟩ := zOk_info hT hcd.1
                have hn24 := Nat.le_of_ble_eq_true hcd.2
                have hes : ei.size = info.size := by rw [← hsize]; simp [sizeT, hei]
                obtain ⟨zv', vs, hzr, hzc, hrz, hzi, hsol⟩ := zero_run (g := g) hT hei hz
                have hzv : zv' = zv := by
                  have := hzr w
                  simp [zeroValue, typeInfo, Sem.run, program, hi, hzz] at this
                  exact this.symm
                subst hzv
                have hvl : vs.length = info.size := by rw [← hzs, hzc]; simp
                -- the cells before the parts are laid
                have hrep0 : All2 (RepC g) (repl z n) (madeCells zv'.cells (n * info.size)).toList := by
                  rw [← hzs, made_flat zv'.cells n (by omega), repl_eq, hzc]
                  exact All2.replicate_flatten (by simpa using hrz) n
                have hpr := parts_rep hE parts.toList
                obtain ⟨vs', hf1, hf2⟩ := fill_sound hcs hrep0 hpr
                have hfz := toIs_frz hxs
                obtain ⟨G', hG1, hG2, hG3⟩ := hr.freezeL u hfz
                have hxr : All2 (RepI G') xs vs' := toIs_rep (g := { g with G := G' }) hfz hG2 hxs (fun _ h => h) (RepCs.mono (U := fun _ => True) (g := g) (g' := { g with G := G' }) ⟨fun _ _ => rfl, fun _ _ => rfl, hG1⟩ (fun _ _ => trivial) hf2)
                -- how many cells
                have hlenc : cs.length = n * info.size := by
                  have : ∀ {sizes : Nat → Option (Nat × Nat)} {ps : List (Nat × X L)} {c0 c1 : List (C L)}, fillParts sizes c0 ps = some c1 → c1.length = c0.length := by
                    intro sizes ps
                    induction ps with
                    | nil => intro c0 c1 hh; simp [fillParts] at hh; rw [hh]
                    | cons p r ih =>
                      intro c0 c1 hh
                      obtain ⟨i, x⟩ := p
                      simp only [fillParts] at hh
                      split at hh
                      · rename_i off m s _
                        cases hc' : (Nat.beq (cellsOf s).length m && Nat.ble (off + m) c0.length && (cellsOf s).all solid) with
                        | false => rw [hc'] at hh; cases hh
                        | true =>
                          rw [hc', cond_true] at hh
                          simp only [Bool.and_eq_true] at hc'
                          have e1 := Nat.eq_of_beq_eq_true hc'.1.1
                          have e2 := Nat.le_of_ble_eq_true hc'.1.2
                          rw [ih hh]; simp [Ev.splice]; omega
                      · cases hh
                  rw [this hcs, hrep0.length]; simp [madeCells]
                have hxl : xs.length = n * info.size := by rw [hxr.length, ← hf2.length, hlenc]
                rw [hes] at hl
                obtain ⟨c1, c2⟩ := chop_flatten n hxl
                have hLe := LLaws.mkL e _ l hl
                have hels : (LI.els l).length = n := by rw [← hLe.length, c2]
                have hszl : LI.sz l = info.size := by rw [hTL.mkL e _ l ei hl hei, hes]
                have hrepl : RepIs G' (LI.els l).flatten vs' := by
                  have := hLe.flatten
                  rw [c1] at this
                  exact Le.rep this hxr
                have hv'l : vs'.length = n * info.size := by rw [← hf2.length, hlenc]
                have hn1 : n ≤ 16777216 := Nat.le_trans (Nat.le_mul_of_pos_right n hpos) (by rw [← hes]; exact hn24)
                let w' := w.alloc (.cells vs'.toArray e (0, 0))
                have hrow : w'.ownsRow B e (LI.sz l) (.slice (some ⟨w.heap.size, 0, none⟩) n n) (LI.els l).length vs' := by
                  refine ⟨by rw [hels, hszl, hv'l], .inr ⟨w.heap.size, n, vs'.toArray, by rw [hels], hr.base, heap_alloc_new, by rw [hels]; exact Nat.le_refl _, by unfold maxLen; omega, by rw [hszl]; simpa using hv'l, ?_⟩⟩
                  rw [hels, hszl]; simp [← hv'l]
                have hle1 : GhLe (fun _ => True) g { g with G := G' } := ⟨fun _ _ => rfl, fun _ _ => rfl, hG1⟩
                have hadd := hG2.addRow (w' := w') hf hr.base (fun c en hc hO he' => Nat.lt_irrefl _ (he' ▸ hG2.lt_size hc hO)) (fun p v hG => Nat.lt_irrefl _ (cell_lt (hG2.fz _ _ _ hG))) (fun j hj _ _ => heap_alloc_old hj) (by show w.heap.size ≤ w'.heap.size; rw [size_alloc']; omega) (s := (some ⟨w.heap.size, 0, none⟩, n, n)) hrow hrepl (fun j hj => by simpa [Value.ownBlock] using hj.symm)
                have hle2 := Gh.withRow_le (U := U) (g := { g with G := G' }) (k := w.heap.size) (s := (some ⟨w.heap.size, 0, none⟩, n, n)) hf
                refine .value hq (v := .slice (some ⟨w.heap.size, 0, none⟩) n n) (w' := w') ?_ ⟨(hle1.weaken fun _ _ => trivial).trans hle2, by simp [RepX, RepS, RepC, Gh.v, Gh.withRow], by simp [idsX, idsS, cellsOf, idsC], hadd, fun k p v hG => (hG3 k p v hG).imp id .inl, ?_, ⟨rfl, rfl, rfl, by show w.heap.size ≤ w'.heap.size; rw [size_alloc']; omega⟩, fun k hk _ => heap_alloc_old hk, ?_⟩
                · have hnot : ¬ (n * info.size > 2 ^ 24) := by rw [← hes]; simpa using hn24
                  have hpa : (parts.map fun (x : Nat × Operand) => (x.1, a.eval x.2)).toList = parts.toList.map fun p => (p.1, a.eval p.2) := by simp
                  rw [hes] at hf1
                  have hf1' : Instr.fill (fun i => some (i * info.size, info.size)) (madeCells zv'.cells (n * info.size)) (parts.toList.map fun p => (p.1, a.eval p.2)) = some vs'.toArray := by
                    have : (madeCells zv'.cells (n * info.size)).toList.toArray = madeCells zv'.cells (n * info.size) := by simp
                    rw [← this]; exact hf1
                  simp only [execOp, ho, Instr.buildSlice, Sem.run_bind, run_underlying ht, Result.andThen_ok, run_size hT hei, hes]
                  rw [if_neg hnot]
                  by_cases h0 : n * info.size = 0
                  · rw [if_pos h0]
                    have hm : ((Array.range (n * info.size)).map ((#[] : Array Value)[· % (#[] : Array Value).size]!)) = madeCells zv'.cells (n * info.size) := by simp [h0, madeCells]
                    simp only [Sem.run_bind, Result.andThen_ok, Sem.run_pure, hm, hpa, hf1']
                    simp [newRow, newObj, Sem.run, w']
                  · rw [if_neg h0]
                    have hm : ((Array.range (n * info.size)).map (zv'.cells[· % zv'.cells.size]!)) = madeCells zv'.cells (n * info.size) := rfl
                    simp only [Sem.run_bind, hzr, Result.andThen_ok, Sem.run_pure, hm, hpa, hf1']
                    simp [newRow, newObj, Sem.run, w']
                · intro b en hb hO
                  rw [List.cons_append, look_cons] at hb
                  split at hb
                  · rename_i hbf; subst hbf; right; simp [Gh.withRow]
                  · left
                    have hU := (hG2.ids b en hb).1
                    have hO2 : Owns ({ g with G := G' } : Gh) b en := (Owns.congr hle2 hU).1 hO
                    rcases hfz.at_ hb with k1 | ⟨t', l', k1, rfl⟩
                    · exact ⟨b, en, k1, by cases en <;> exact hO2, by rw [hle2.blk b hU]⟩
                    · exact ⟨b, _, k1, hO2.2, by rw [hle2.blk b hU]⟩
                · intro b en hb
                  rw [look_cons] at hb
                  split at hb
                  · rename_i hbf; exact .inl hbf.symm
                  · obtain ⟨_, _, _, k1⟩ := hfz _ (look_mem hb); exact .inr ⟨_, k1⟩
            · exact hq.elim
          · exact hq.elim
        · exact hq.elim
      · exact hq.elim
    · exact hq.elim
  · exact hq.elim

end
end Go.Ev

/- Every operation that enters no function. -/
namespace Go.Ev
variable {L : Type} [LI L]

section
variable {P : Program} {T : Tab} {oD : OrcD L} {U : Nat → Prop} {g : Gh} {B : Nat} {h : Hp L} {w : World} {fresh : Nat} {env : List (Nat × X L)} {a : Act} {o : Oper} {Q : X L × Hp L → Prop}

theorem map_one {α β : Type} {f : α → β} {l : List α} {y : β} (h : l.map f = [y]) : ∃ x, l = [x] ∧ f x = y := by
  match l, h with
  | [x], h => exact ⟨x, rfl, by simpa using h⟩

theorem map_two {α β : Type} {f : α → β} {l : List α} {y z : β} (h : l.map f = [y, z]) : ∃ x x', l = [x, x'] ∧ f x = y ∧ f x' = z := by
  match l, h with
  | [x, x'], h => exact ⟨x, x', rfl, by simpa using h⟩

theorem arr_of_list {α : Type} {a : Array α} {l : List α} (h : a.toList = l) : a = l.toArray := by rw [← h]

theorem evOp_sound [LLaws L] (hT : TabOK P T) (hTL : TLaws L T) (hE : RepE U g env a) (hr : RepH U g B h w) (hf : ¬ U fresh) (hq : (evOp T h fresh (opd env) o.op).holds oD Q) : Good P U g B h w fresh a o Q := by
  cases hop : o.op with
  | move x => rw [hop] at hq; exact op_move (.inl hop) hE hr hq
  | assign x => rw [hop] at hq; exact op_move (.inr hop) hE hr hq
  | pick c x y => rw [hop] at hq; exact op_pick hop hE hr hq
  | alloc t => rw [hop] at hq; exact op_alloc hT hop hr hf hq
  | box t x => rw [hop] at hq; exact op_box hop hE hr hf hq
  | build t ps => rw [hop] at hq; exact op_build hT hop hE hr hq
  | buildSlice t n ps => rw [hop] at hq; exact op_buildSlice hT hTL hop hE hr hf hq
  | load t x => rw [hop] at hq; exact op_load hT hop hE hr hq
  | store t x y => rw [hop] at hq; exact op_store hT hop hE hr hq
  | nilCheck x => rw [hop] at hq; exact op_nilCheck hop hE hr hq
  | binOp op t x y t2 => rw [hop] at hq; exact op_binOp hT hop hE hr hq
  | unOp op t x => rw [hop] at hq; exact op_unOp hop hE hr hq
  | convert s d x => rw [hop] at hq; exact op_convert hT hop hE hr hq
  | makeFunc fn first caps =>
    rw [hop] at hq
    cases fn with
    | func f => exact op_makeFunc hop hE hr hq
    | _ => exact hq.elim
  | makeSlice t x y => rw [hop] at hq; exact op_makeSlice hT hTL hop hE hr hf hq
  | slice t x lo hi mx =>
    rw [hop] at hq
    cases mx with
    | none => exact op_slice hT hop hE hr hf hq
    | some _ => exact hq.elim
  | fieldAddr t x f => rw [hop] at hq; exact op_fieldAddr hT hop hE hr hq
  | field t x f => rw [hop] at hq; exact op_field hT hop hE hr hq
  | indexAddr t x y => rw [hop] at hq; exact op_indexAddr hT hop hE hr hq
  | index t x y => rw [hop] at hq; exact op_index hT hop hE hr hq
  | extract x i => rw [hop] at hq; exact op_extract hop hE hr hq
  | call c =>
    rw [hop] at hq
    obtain ⟨callee, args, argTypes⟩ := c
    cases callee with
    | value f => exact hq.elim
    | invoke r m => exact hq.elim
    | builtin b =>
      simp only [evOp] at hq
      split at hq
      · rename_i x t hargs hts
        obtain ⟨p, hp, hpx⟩ := map_one hargs
        have e1 := arr_of_list hp
        have e2 := arr_of_list hts
        subst e1; subst e2
        split at hq
        · rename_i c hc
          rw [← hpx] at hc
          exact op_len hT hop hE hr hc hq
        · exact hq.elim
      · rename_i s x t u hargs hts
        obtain ⟨p, p', hp, hp1, hp2⟩ := map_two hargs
        have e1 := arr_of_list hp
        have e2 := arr_of_list hts
        subst e1; subst e2
        cases htu : Nat.beq t u with
        | false => rw [htu] at hq; exact hq.elim
        | true =>
          rw [htu, cond_true] at hq
          have : t = u := Nat.eq_of_beq_eq_true htu
          subst this
          split at hq
          · rename_i e he
            rw [← hp1, ← hp2] at hq
            exact op_append hT hop hE hr hf he hq
          · exact hq.elim
      · rename_i s x t u hargs hts
        obtain ⟨p, p', hp, hp1, hp2⟩ := map_two hargs
        have e1 := arr_of_list hp
        have e2 := arr_of_list hts
        subst e1; subst e2
        cases htu : Nat.beq t u with
        | false => rw [htu] at hq; exact hq.elim
        | true =>
          rw [htu, cond_true] at hq
          have : t = u := Nat.eq_of_beq_eq_true htu
          subst this
          split at hq
          · rename_i e he
            rw [← hp1, ← hp2] at hq
            exact op_copy hT hop hE hr he hq
          · exact hq.elim
      · rename_i x xs hargs
        cases hal : args.toList with
        | nil => rw [hal] at hargs; cases hargs
        | cons p ps =>
          rw [hal] at hargs
          simp only [List.map_cons, List.cons.injEq] at hargs
          have e1 := arr_of_list hal
          subst e1
          split at hq
          · rename_i i hi
            split at hq
            · rename_i r hr'
              rw [← hargs.1] at hi
              rw [← hargs.2] at hr'
              exact op_minmax hop (.inl ⟨rfl, rfl⟩) hE hr hi hr' hq
            · exact hq.elim
          · exact hq.elim
      · rename_i x xs hargs
        cases hal : args.toList with
        | nil => rw [hal] at hargs; cases hargs
        | cons p ps =>
          rw [hal] at hargs
          simp only [List.map_cons, List.cons.injEq] at hargs
          have e1 := arr_of_list hal
          subst e1
          split at hq
          · rename_i i hi
            split at hq
            · rename_i r hr'
              rw [← hargs.1] at hi
              rw [← hargs.2] at hr'
              exact op_minmax hop (.inr ⟨rfl, rfl⟩) hE hr hi hr' hq
            · exact hq.elim
          · exact hq.elim
      · exact hq.elim
  | _ => rw [hop] at hq; exact hq.elim

end
end Go.Ev

/- A call of an oracle: its contract, and what it leaves. -/
namespace Go.Ev
open Go.RowKit
variable {L : Type} [LI L]

/-- The ghost of frozen cells alone. -/
def g0 (G : Fz) : Gh := ⟨fun _ => 0, fun _ => (none, 0, 0), G⟩

/-- The heap's word in a world whose old blocks are the same, with more frozen cells in new blocks. -/
theorem RepH.later {U : Nat → Prop} {g : Gh} {B : Nat} {h : Hp L} {w w' : World} (hr : RepH U g B h w) (hb : Below w.heap.size w w') {G' : Fz} (hle : FzLe g.G G') (hnew : ∀ k o v, G' k o = some v → g.G k o = some v ∨ w.heap.size ≤ k)
    (hs : ∀ k o v, G' k o = some v → w'.cell? ⟨k, o, none⟩ = some v) : RepH U { g with G := G' } B h w' := by
  have hgl : GhLe (fun _ => True) g { g with G := G' } := ⟨fun _ _ => rfl, fun _ _ => rfl, hle⟩
  have own : ∀ {c : Nat} {en : En L}, Owns ({ g with G := G' } : Gh) c en ↔ Owns g c en := fun {c en} => Owns.congr hgl trivial
  refine ⟨hs, ?_, hr.ids, fun b b' e e' h1 h2 o1 o2 => hr.dis b b' e e' h1 h2 (own.1 o1) (own.1 o2), fun b e hb' hO => hr.own b e hb' (own.1 hO), ?_, hr.pre, Nat.le_trans hr.base hb.size⟩
  · intro c en hc
    exact RepEn.mono hgl trivial (fun _ _ => trivial) ((hr.ent c en hc).frame fun hO => hb.block _ (hr.lt_size hc hO))
  · intro b e hb' hO o v hG
    rcases hnew _ _ _ hG with h1 | h1
    · exact hr.free b e hb' (own.1 hO) o v h1
    · exact absurd (hr.lt_size hb' (own.1 hO)) (by have : w.heap.size ≤ g.blk b := h1; omega)

/-- What an oracle's result is, behind the call. -/
def ResOK (k : OrcKind) (G' : Fz) (w w' : World) (rs : List (S L)) (c : Value) : Prop :=
  match k with
  | .keep => RepX (g0 G') (packRes rs) c
  | .pure => RepX (g0 G') (packRes rs) c
  | .fresh e => ∀ l : L, rs = [.c (.im (.fz l))] → ∃ s : Option Addr × Nat × Nat, ∃ xs, c = .slice s.1 s.2.1 s.2.2 ∧ w'.ownsRow w.heap.size e (LI.sz l) c (LI.els l).length xs ∧ RepIs G' (LI.els l).flatten xs ∧ ∀ k o v, c.ownBlock = some k → G' k o = some v → False
  | .sum => False

/-- An oracle's contract. -/
def OrcOK (P : Program) (oD : OrcD L) (f : FuncId) (k : OrcKind) : Prop :=
  ∀ args rs, oD.c f args rs → ∀ (G : Fz) (w : World) (vs : List Value), (∀ k o v, G k o = some v → w.cell? ⟨k, o, none⟩ = some v) → All2 (RepS (g0 G)) args vs →
    Calls P f vs.toArray w fun e w' => ∃ c G', e = .returned c ∧ FzLe G G' ∧ (∀ k o v, G' k o = some v → G k o = some v ∨ w.heap.size ≤ k) ∧ (∀ k o v, G' k o = some v → w'.cell? ⟨k, o, none⟩ = some v) ∧ Below w.heap.size w w' ∧ ResOK k G' w w' rs c

theorem purS_frz {h : Hp L} {s s' : S L} {u : Hp L} (hp : purS h s = some (s', u)) : Frz h u := by
  unfold purS at hp
  split at hp
  · split at hp
    · rename_i ht; cases hp; exact toI_frz ht
    · cases hp
  · split at hp
    · rename_i ht; cases hp; exact toIs_frz ht
    · cases hp

theorem purAll_frz {h : Hp L} : ∀ {xs : List (X L)} {ss : List (S L)} {u : Hp L}, purAll h xs = some (ss, u) → Frz h u
  | [], ss, u, hp => by simp [purAll] at hp; obtain ⟨_, rfl⟩ := hp; exact .nil h
  | .s x :: r, ss, u, hp => by
    simp only [purAll] at hp
    split at hp
    · rename_i h1 h2; cases hp; exact (purS_frz h1).append (purAll_frz h2)
    · cases hp
  | .tup _ :: r, ss, u, hp => by simp [purAll] at hp

theorem rep_g0 {G : Fz} {x : I L} {v : Value} (h : RepI G x v) : RepC (g0 G) (.im x) v := h

theorem purS_rep [LLaws L] {U : Nat → Prop} {g : Gh} {B : Nat} {h u u' : Hp L} {w : World} {s s' : S L} {v : Value} (hp : purS h s = some (s', u)) (hf : Frz h u') (hsub : ∀ p ∈ u, p ∈ u') (hr : RepH U g B (u' ++ h) w) (hs : RepS g s v) : RepS (g0 g.G) s' v := by
  unfold purS at hp
  split at hp
  · split at hp
    · rename_i ht; cases hp
      exact rep_g0 (toI_rep (g := g) ht hf hsub hr hs)
    · cases hp
  · split at hp
    · rename_i ht; cases hp
      obtain ⟨vs, rfl, hc⟩ := hs
      exact ⟨vs, rfl, rep_ims (g := g0 g.G) (toIs_rep hf hr ht hsub hc)⟩
    · cases hp

theorem purAll_rep [LLaws L] {U : Nat → Prop} {g : Gh} {B : Nat} {h u' : Hp L} {w : World} (hf : Frz h u') (hr : RepH U g B (u' ++ h) w) :
    ∀ {xs : List (X L)} {ss : List (S L)} {u : Hp L} {vs : List Value}, purAll h xs = some (ss, u) → (∀ p ∈ u, p ∈ u') → All2 (RepX g) xs vs → All2 (RepS (g0 g.G)) ss vs
  | [], ss, u, vs, hp, _, hx => by simp [purAll] at hp; obtain ⟨rfl, _⟩ := hp; cases hx; exact .nil
  | .s x :: r, ss, u, vs, hp, hsub, hx => by
    simp only [purAll] at hp
    split at hp
    · rename_i h1 h2; cases hp
      cases hx with
      | cons a b => exact .cons (purS_rep h1 hf (fun p hp => hsub p (by simp [hp])) hr a) (purAll_rep hf hr h2 (fun p hp => hsub p (by simp [hp])) b)
    · cases hp
  | .tup _ :: r, ss, u, vs, hp, _, _ => by simp [purAll] at hp

end Go.Ev

/- Operations as steps of a region: simple ones and oracles. -/
namespace Go.Ev
open Go.RowKit
variable {L : Type} [LI L]

section
variable {P : Program} {T : Tab} {oD : OrcD L} {U : Nat → Prop} {g : Gh} {B : Nat} {h : Hp L} {w : World} {fresh : Nat} {env : List (Nat × X L)} {a : Act} {o : Oper} {Q : X L × Hp L → Prop}

/-- A step: where it comes to. -/
def OpWp (P : Program) (U : Nat → Prop) (g : Gh) (B : Nat) (h : Hp L) (w : World) (fresh : Nat) (a : Act) (o : Oper) (Q : X L × Hp L → Prop) : Prop :=
  ∀ Qe, o.wp P a w (fun a' w' => ∃ x u v g', Q (x, u) ∧ a' = a.put o.dst v ∧ Post U g B h fresh w x u v w' g') Qe

theorem Good.wp (hg : Good P U g B h w fresh a o Q) : OpWp P U g B h w fresh a o Q := by
  obtain ⟨x, u, hq, n, v, w', g', hrun, hn, hp⟩ := hg
  intro Qe
  unfold Oper.wp
  rw [hrun]
  rcases hn with rfl | ⟨rfl, rfl⟩
  · exact ⟨x, u, v, g', hq, rfl, hp⟩
  · exact ⟨x, u, undef, g', hq, rfl, hp⟩

/-- a function that is entered when it is called -/
def Enters (P : Program) (f : FuncId) : Prop := ∀ args w, (callFunc f args).run P w = .ok (.enter f args) w

theorem callee_run (hE : RepE U g env a) {f : FuncId} {xs : List (X L)} (hc : callee env o.op = some (f, xs)) (hen : Enters P f) : ∃ vs : List Value, All2 (RepX g) xs vs ∧ (execOp a.eval o).run P w = .ok (.enter f vs.toArray) w ∧ ∀ x ∈ xs, ∀ b ∈ idsX x, U b := by
  unfold callee at hc
  split at hc
  · rename_i fo args ats hop
    split at hc
    · rename_i f' first caps hcl
      cases hc
      have hcr := cOf_rep (opd_rep hE fo) hcl
      have hci := opd_ids hE fo
      rw [cOf_ids hcl] at hci
      simp only [RepC] at hcr
      have ptrsR : ∀ l : List (Nat × Nat), All2 (RepX (L := L) g) (l.map ptrX) (l.map g.p) := by
        intro l
        induction l with
        | nil => exact .nil
        | cons p r ih => exact .cons rfl ih
      refine ⟨first.map g.p ++ args.toList.map a.eval ++ caps.map g.p, ((ptrsR first).append (opds_rep hE args.toList)).append (ptrsR caps), ?_, ?_⟩
      · have e : (first.map g.p).toArray ++ Array.map a.eval args ++ (caps.map g.p).toArray = (first.map g.p ++ args.toList.map a.eval ++ caps.map g.p).toArray := by
          apply Array.ext'; simp
        have e2 : (execOp a.eval o).run P w = (callFunc f ((first.map g.p).toArray ++ Array.map a.eval args ++ (caps.map g.p).toArray)).run P w := by
          simp [execOp, hop, resolve, hcr, Deferred.ofValue, invoke]
        rw [e2, e]
        exact hen _ w
      · intro x hx b hb
        simp only [List.mem_append, List.mem_map] at hx
        rcases hx with (⟨p, hp, rfl⟩ | ⟨y, _, rfl⟩) | ⟨p, hp, rfl⟩
        · simp [ptrX, idsX, idsS, cellsOf, idsC] at hb; subst hb
          exact hci _ (by simp only [idsC, List.mem_append, List.mem_map]; exact .inl ⟨p, hp, rfl⟩)
        · exact opd_ids hE y b hb
        · simp [ptrX, idsX, idsS, cellsOf, idsC] at hb; subst hb
          exact hci _ (by simp only [idsC, List.mem_append, List.mem_map]; exact .inr ⟨p, hp, rfl⟩)
    · cases hc
  · cases hc

end
end Go.Ev

/- A call of an oracle: what it leaves. -/
namespace Go.Ev
open Go.RowKit
variable {L : Type} [LI L]

section
variable {P : Program} {T : Tab} {oD : OrcD L} {U : Nat → Prop} {g : Gh} {B : Nat} {h u : Hp L} {w w' : World} {fresh : Nat} {env : List (Nat × X L)} {a : Act} {o : Oper} {Q : X L × Hp L → Prop}

/-- Frozen, and called. -/
theorem Post.later {G1 G' : Fz} {x : X L} {v : Value} (hf : Frz h u) (hle1 : FzLe g.G G1) (hr1 : RepH U { g with G := G1 } B (u ++ h) w)
    (hnf1 : ∀ k o z, G1 k o = some z → g.G k o = some z ∨ ∃ b e, look h b = some e ∧ Owns g b e ∧ g.blk b = k) (hb : Below w.heap.size w w') (hle : FzLe G1 G')
    (hnew : ∀ k o v, G' k o = some v → G1 k o = some v ∨ w.heap.size ≤ k) (hs : ∀ k o v, G' k o = some v → w'.cell? ⟨k, o, none⟩ = some v)
    (hx : RepX { g with G := G' } x v) (hi : ∀ b ∈ idsX x, U b) : Post U g B h fresh w x u v w' { g with G := G' } ∧ RepH U { g with G := G' } B (u ++ h) w' := by
  have hr2 : RepH U { g with G := G' } B (u ++ h) w' := RepH.later hr1 hb hle hnew hs
  refine ⟨⟨⟨fun _ _ => rfl, fun _ _ => rfl, fun _ _ _ hz => hle _ _ _ (hle1 _ _ _ hz)⟩, hx, fun b hb => .inl (hi b hb), hr2.weaken fun _ => .inl, ?_, ?_, ⟨hb.os, hb.tape, hb.output, hb.size⟩, fun k hk _ => hb.block k hk, ?_⟩, hr2⟩
  · intro k o z hz
    rcases hnew k o z hz with h1 | h1
    · exact (hnf1 k o z h1).imp id .inl
    · exact .inr (.inr h1)
  · intro b e hb' hO
    refine .inl ?_
    rcases hf.at_ hb' with h1 | ⟨t, l, h1, rfl⟩
    · exact ⟨b, e, h1, by cases e <;> exact hO, rfl⟩
    · exact ⟨b, _, h1, hO.2, rfl⟩
  · intro b e hb'
    obtain ⟨t, l, _, h1⟩ := hf _ (look_mem hb')
    exact .inr ⟨_, h1⟩

theorem Post.addRow {g1 : Gh} {e : TypeId} {l : L} {c : Value} {s : Option Addr × Nat × Nat} {xs : List Value} (hf : ¬ U fresh) (hp : Post U g B h fresh w (.s (.c .top)) u undef w' g1) (hh : RepH U g1 B (u ++ h) w')
    (hlt : ∀ b e, look (u ++ h) b = some e → Owns g1 b e → g1.blk b < w.heap.size) (hBw : B ≤ w.heap.size)
    (hc : c = .slice s.1 s.2.1 s.2.2) (hrow : w'.ownsRow w.heap.size e (LI.sz l) c (LI.els l).length xs) (hxs : RepIs g1.G (LI.els l).flatten xs) (hG : ∀ k o v, c.ownBlock = some k → g1.G k o = some v → False) :
    ∃ g', Post U g B h fresh w (.s (.c (.ar fresh))) ((fresh, .arr e l) :: u) c w' g' := by
  subst hc
  let k : Nat := ((Value.slice s.1 s.2.1 s.2.2).ownBlock).getD w'.heap.size
  have hk : w.heap.size ≤ k := by
    show w.heap.size ≤ ((Value.slice s.1 s.2.1 s.2.2).ownBlock).getD w'.heap.size
    cases ho : (Value.slice s.1 s.2.1 s.2.2).ownBlock with
    | none => exact hp.ws.size
    | some j => exact (hrow.lt j ho).1
  have hrow' : w'.ownsRow B e (LI.sz l) (.slice s.1 s.2.1 s.2.2) (LI.els l).length xs := by
    obtain ⟨h1, h2⟩ := hrow
    refine ⟨h1, h2.imp id ?_⟩
    rintro ⟨k, cap, cur, hv, hb, h3⟩
    exact ⟨k, cap, cur, hv, Nat.le_trans hBw hb, h3⟩
  have hh' := RepH.addRow (w' := w') hh hf (k := k) (Nat.le_trans hBw hk) (fun c en hc hO => by have := hlt c en hc hO; omega)
    (fun o v hv => by
      cases ho : (Value.slice s.1 s.2.1 s.2.2).ownBlock with
      | none =>
        have : k = w'.heap.size := by show ((Value.slice s.1 s.2.1 s.2.2).ownBlock).getD w'.heap.size = _; rw [ho]; rfl
        have h2 := cell_lt (hh.fz k o v hv)
        omega
      | some j =>
        have : k = j := by show ((Value.slice s.1 s.2.1 s.2.2).ownBlock).getD w'.heap.size = _; rw [ho]; rfl
        exact hG j o v ho (this ▸ hv))
    (fun _ _ _ _ => rfl) (Nat.le_refl _) hrow' hxs (fun j hj => by show j = ((Value.slice s.1 s.2.1 s.2.2).ownBlock).getD w'.heap.size; rw [hj]; rfl)
  have hle := Gh.withRow_le (g := g1) (k := k) (s := s) hf
  refine ⟨g1.withRow fresh k s, hp.le.trans hle, by simp [RepX, RepS, RepC, Gh.v, Gh.withRow], by simp [idsX, idsS, cellsOf, idsC], hh', hp.nf, ?_, hp.ws, hp.fr, ?_⟩
  · intro b en hb hO
    rw [List.cons_append, look_cons] at hb
    split at hb
    · rename_i hbf; subst hbf
      have : (g1.withRow fresh k s).blk fresh = k := by simp [Gh.withRow]
      rw [this]; exact .inr hk
    · have hU := (hh.ids b en hb).1
      have := hp.nb b en hb ((Owns.congr hle hU).1 hO)
      rw [hle.blk b hU]; exact this
  · intro b en hb
    rw [look_cons] at hb
    split at hb
    · rename_i hbf; exact .inl hbf.symm
    · exact hp.uu b en hb

def allIm (s : S L) : Bool := (cellsOf s).all fun | .im _ => true | _ => false

theorem RepS.ofG {G : Fz} {s : S L} {v : Value} (hg : g.G = G) (hs : allIm s = true) (h : RepS (g0 G) s v) : RepS g s v := by
  cases s with
  | c x =>
    cases x <;> first | (simp [allIm, cellsOf] at hs; done) | skip
    simp only [RepS, RepC] at h ⊢; rw [hg]; exact h
  | agg cs =>
    obtain ⟨vs, hv, hc⟩ := h
    refine ⟨vs, hv, hc.mono fun x u hx hr => ?_⟩
    have := List.all_eq_true.1 hs x hx
    cases x <;> first | (simp at this; done) | skip
    simp only [RepC] at hr ⊢; rw [hg]; exact hr

omit [LI L] in
theorem allIm_ids {s : S L} (hs : allIm s = true) : idsS s = [] := by
  unfold idsS
  rw [List.flatMap_eq_nil_iff]
  intro x hx
  have := List.all_eq_true.1 hs x hx
  cases x <;> first | rfl | (simp at this; done)

theorem RepX.packG {G : Fz} {rs : List (S L)} {v : Value} (hg : g.G = G) (hs : rs.all allIm = true) (h : RepX (g0 G) (packRes rs) v) : RepX g (packRes rs) v ∧ idsX (packRes rs) = [] := by
  unfold packRes at h ⊢
  split at h
  · simp only [List.all_cons, List.all_nil, Bool.and_true] at hs
    exact ⟨RepS.ofG hg hs h, allIm_ids hs⟩
  · obtain ⟨vs, hv, hc⟩ := h
    refine ⟨⟨vs, hv, hc.mono fun x u hx hr => RepS.ofG hg (List.all_eq_true.1 hs x hx) hr⟩, ?_⟩
    show List.flatMap idsS rs = []
    rw [List.flatMap_eq_nil_iff]
    exact fun x hx => allIm_ids (List.all_eq_true.1 hs x hx)

omit [LI L] in
theorem noList_im {s : S L} (hs : noList s = true) : allIm s = true := by
  unfold noList at hs; unfold allIm
  rw [List.all_eq_true] at hs ⊢
  intro x hx
  have := hs x hx
  revert this
  cases x <;> simp
  
theorem RepS.noG {G G' : Fz} {s : S L} {v : Value} (hs : noList s = true) (h : RepS (g0 G) s v) : RepS (g0 G') s v := by
  have key : ∀ (x : I L) (u : Value), (∀ l, x ≠ .fz l) → RepI G x u → RepI G' x u := by
    intro x u hx hr
    cases hr with
    | fz => exact absurd rfl (hx _)
    | val h => exact .val h
    | _ => constructor
  cases s with
  | c x =>
    cases x <;> first | (simp [noList, cellsOf] at hs; done) | skip
    exact key _ _ (fun l hl => by subst hl; simp [noList, cellsOf] at hs) h
  | agg cs =>
    obtain ⟨vs, hv, hc⟩ := h
    refine ⟨vs, hv, hc.mono fun x u hx hr => ?_⟩
    have := List.all_eq_true.1 hs x hx
    cases x <;> first | (simp at this; done) | skip
    exact key _ _ (fun l hl => by subst hl; simp at this) hr

theorem RepX.packN {G G' : Fz} {rs : List (S L)} {v : Value} (hs : rs.all noList = true) (h : RepX (g0 G) (packRes rs) v) : RepX (g0 G') (packRes rs) v := by
  unfold packRes at h ⊢
  split at h
  · simp only [List.all_cons, List.all_nil, Bool.and_true] at hs
    exact RepS.noG hs h
  · obtain ⟨vs, hv, hc⟩ := h
    exact ⟨vs, hv, hc.mono fun x u hx hr => RepS.noG (List.all_eq_true.1 hs x hx) hr⟩

theorem cells_later (hr : RepH U g B h w) (hb : Below w.heap.size w w') : ∀ k o v, g.G k o = some v → w'.cell? ⟨k, o, none⟩ = some v := by
  intro k o v hv
  have h1 := hr.fz k o v hv
  simpa [World.cell?, hb.block k (cell_lt h1)] using h1

theorem orcRes_sound [LLaws L] (hE : RepE U g env a) (hr : RepH U g B h w) (hf : ¬ U fresh) {f : FuncId} {xs : List (X L)} {kd : OrcKind} (hc : callee env o.op = some (f, xs)) (hen : Enters P f) (hO : OrcOK P oD f kd)
    (hq : (orcRes kd f xs h fresh).holds oD Q) : OpWp P U g B h w fresh a o Q := by
  obtain ⟨vs, hvs, hrun, _⟩ := callee_run (w := w) hE hc hen
  intro Qe
  unfold Oper.wp
  rw [hrun, Oper.upon_enter]
  unfold orcRes at hq
  split at hq
  · rename_i ss u hp
    have hfz := purAll_frz hp
    obtain ⟨G1, hle1, hr1, hnf1⟩ := hr.freezeL u hfz
    have hgl : GhLe (fun _ => True) g { g with G := G1 } := ⟨fun _ _ => rfl, fun _ _ => rfl, hle1⟩
    have hargs := purAll_rep (g := { g with G := G1 }) hfz hr1 hp (fun _ h => h) (hvs.mono fun x v hx hr => RepX.mono hgl (fun _ _ => trivial) hr)
    have go : ∀ rs, oD.c f ss rs → (∀ c G' w', FzLe G1 G' → (∀ k o v, G' k o = some v → G1 k o = some v ∨ w.heap.size ≤ k) → (∀ k o v, G' k o = some v → w'.cell? ⟨k, o, none⟩ = some v) → Below w.heap.size w w' → ResOK kd G' w w' rs c →
        ∃ x u g', Q (x, u) ∧ Post U g B h fresh w x u c w' g') → Calls P f vs.toArray w fun
          | .returned v, w'' => ∃ x u v' g', Q (x, u) ∧ a.put o.dst v = a.put o.dst v' ∧ Post U g B h fresh w x u v' w'' g'
          | .panicked chain, w'' => Qe (.panic chain) a w''
          | .outgrown, _ => LetsOut Qe := by
      intro rs hd hk
      refine Calls.mono (hO ss rs hd G1 w vs hr1.fz hargs) ?_
      rintro e w' ⟨c, G', rfl, h1, h2, h3, h4, h5⟩
      obtain ⟨x, u, g', h6, h7⟩ := hk c G' w' h1 h2 h3 h4 h5
      exact ⟨x, u, c, g', h6, rfl, h7⟩
    split at hq
    · obtain ⟨rs, hd, hq⟩ := hq
      refine go rs hd ?_
      intro c G' w' h1 h2 h3 h4 h5
      have hq : Out.holds oD (cond (rs.all allIm) (.ret (packRes rs, u)) (.fail 130)) Q := hq
      cases hall : rs.all allIm with
      | false => rw [hall] at hq; exact hq.elim
      | true =>
        rw [hall] at hq
        have := RepX.packG (g := { g with G := G' }) rfl hall h5
        exact ⟨_, _, _, hq, (Post.later hfz hle1 hr1 hnf1 h4 h1 h2 h3 this.1 (by rw [this.2]; simp)).1⟩
    · obtain ⟨rs, hd, hq⟩ := hq
      refine go rs hd ?_
      intro c G' w' h1 h2 h3 h4 h5
      have hq : Out.holds oD (cond (rs.all noList) (.ret (packRes rs, [])) (.fail 131)) Q := hq
      cases hall : rs.all noList with
      | false => rw [hall] at hq; exact hq.elim
      | true =>
        rw [hall] at hq
        have h6 : RepX (g0 g.G) (packRes rs) c := RepX.packN hall h5
        have := RepX.packG (g := g) rfl (List.all_eq_true.2 fun x hx => noList_im (List.all_eq_true.1 hall x hx)) h6
        exact ⟨_, _, _, hq, (Post.later (G1 := g.G) (G' := g.G) (.nil h) (fun _ _ _ h => h) hr (fun _ _ _ h => .inl h) h4 (fun _ _ _ h => h) (fun _ _ _ h => .inl h) (cells_later hr h4) this.1 (by rw [this.2]; simp)).1⟩
    · rename_i e
      obtain ⟨rs, hd, hq⟩ := hq
      refine go rs hd ?_
      intro c G' w' h1 h2 h3 h4 h5
      simp only [] at hq
      split at hq
      · rename_i l
        obtain ⟨s, xs, hc, hrow, hxs, hG⟩ := h5 l rfl
        cases hfl : LI.flat l with
        | true =>
          rw [hfl] at hq
          obtain ⟨hp, hh⟩ := Post.later (fresh := fresh) (x := .s (.c .top)) (v := undef) (G1 := g.G) (G' := g.G) (.nil h) (fun _ _ _ h => h) hr (fun _ _ _ h => .inl h) h4 (fun _ _ _ h => h) (fun _ _ _ h => .inl h) (cells_later hr h4) trivial (by simp [idsX, idsS, cellsOf, idsC])
          obtain ⟨g', hg'⟩ := Post.addRow hf hp hh (fun b e hb hO => hr.lt_size hb hO) hr.base hc hrow
            (hxs.mono fun x v hx hR => by
              obtain ⟨cs, hcs, hxc⟩ := List.mem_flatten.1 hx
              exact LLaws.flat l hfl cs hcs x hxc _ _ _ hR)
            (fun k o v hk hv => by
              have h6 := cell_lt (hr.fz k o v hv)
              have h7 := (hrow.lt k hk).1
              omega)
          exact ⟨_, _, g', hq, hg'⟩
        | false =>
          rw [hfl] at hq
          obtain ⟨hp, hh⟩ := Post.later (fresh := fresh) (x := .s (.c .top)) (v := undef) hfz hle1 hr1 hnf1 h4 h1 h2 h3 trivial (by simp [idsX, idsS, cellsOf, idsC])
          obtain ⟨g', hg'⟩ := Post.addRow hf hp hh (fun b e hb hO => hr1.lt_size (e := e) hb (by cases e <;> exact hO)) hr.base hc hrow hxs hG
          exact ⟨_, _, g', hq, hg'⟩
      · exact hq.elim
    · exact hq.elim
  · exact hq.elim

end
end Go.Ev

/- From state to state; renaming; a part of the heap by itself, and back. -/
namespace Go.Ev
open Go.RowKit
variable {L : Type} [LI L]

/-- What a piece of code leaves as it was: ids of K mean what they meant; frozen cells stay; blocks that nobody here owned are the same. -/
structure Tr (K : Nat → Prop) (g : Gh) (h : Hp L) (w : World) (g' : Gh) (h' : Hp L) (w' : World) : Prop where
  le : GhLe K g g'
  nf : ∀ k o z, g'.G k o = some z → g.G k o = some z ∨ (∃ b e, look h b = some e ∧ Owns g b e ∧ g.blk b = k) ∨ w.heap.size ≤ k
  nb : ∀ b e, look h' b = some e → Owns g' b e → (∃ c e', look h c = some e' ∧ Owns g c e' ∧ g.blk c = g'.blk b) ∨ w.heap.size ≤ g'.blk b
  ws : Same w w'
  fr : ∀ k, k < w.heap.size → (∀ b e, look h b = some e → Owns g b e → g.blk b ≠ k) → w'.heap[k]? = w.heap[k]?

section
variable {K K' U U1 U2 : Nat → Prop} {g g1 g2 g' : Gh} {B : Nat} {h h1 h2 h' u : Hp L} {w w1 w2 w' : World} {fresh : Nat}

theorem Post.tr {x : X L} {v : Value} (hp : Post U g B h fresh w x u v w' g') : Tr U g h w g' (u ++ h) w' := ⟨hp.le, hp.nf, hp.nb, hp.ws, hp.fr⟩

omit [LI L] in
theorem Tr.refl (K : Nat → Prop) (g : Gh) (h : Hp L) (w : World) : Tr K g h w g h w :=
  ⟨.refl _ _, fun _ _ _ hz => .inl hz, fun b e hb ho => .inl ⟨b, e, hb, ho, rfl⟩, .refl w, fun _ _ _ => rfl⟩

omit [LI L] in
theorem Tr.trans (a : Tr K g h w g1 h1 w1) (b : Tr K' g1 h1 w1 g2 h2 w2) (hk : ∀ x, K x → K' x) : Tr K g h w g2 h2 w2 := by
  refine ⟨a.le.trans (b.le.weaken hk), ?_, ?_, a.ws.trans b.ws, ?_⟩
  · intro k o z hz
    rcases b.nf k o z hz with h1 | ⟨c, e, h1, h2, h3⟩ | h1
    · exact a.nf k o z h1
    · rcases a.nb c e h1 h2 with ⟨c', e', h4, h5, h6⟩ | h4
      · exact .inr (.inl ⟨c', e', h4, h5, h6.trans h3⟩)
      · exact .inr (.inr (h3 ▸ h4))
    · exact .inr (.inr (Nat.le_trans a.ws.size h1))
  · intro c e h1 h2
    rcases b.nb c e h1 h2 with ⟨c', e', h4, h5, h6⟩ | h4
    · rcases a.nb c' e' h4 h5 with ⟨c2, e2, h7, h8, h9⟩ | h7
      · exact .inl ⟨c2, e2, h7, h8, h9.trans h6⟩
      · exact .inr (h6 ▸ h7)
    · exact .inr (Nat.le_trans a.ws.size h4)
  · intro k hk hn
    rw [b.fr k (Nat.lt_of_lt_of_le hk a.ws.size) ?_, a.fr k hk hn]
    intro c e h1 h2 h3
    rcases a.nb c e h1 h2 with ⟨c', e', h4, h5, h6⟩ | h4
    · exact hn c' e' h4 h5 (h6.trans h3)
    · omega

omit [LI L] in
theorem Tr.weaken (a : Tr K g h w g1 h1 w1) (hk : ∀ x, K' x → K x) : Tr K' g h w g1 h1 w1 := ⟨a.le.weaken hk, a.nf, a.nb, a.ws, a.fr⟩

def Gh.ren (g : Gh) (φ : Nat → Nat) : Gh := ⟨fun b => g.blk (φ b), fun b => g.sv (φ b), g.G⟩

variable {φ φ2 : Nat → Nat}

theorem ren_v (b : Nat) : (g.ren φ).v b = g.v (φ b) := rfl
theorem ren_p (p : Nat × Nat) : (g.ren φ).p p = g.p (renP φ p) := rfl

theorem RepC.ren {x : C L} {v : Value} : RepC (g.ren φ) x v ↔ RepC g (renC φ x) v := by
  cases x <;> simp only [RepC, renC, ren_v] <;> try rfl
  simp only [List.map_map]
  have : (Gh.ren g φ).p = g.p ∘ renP φ := funext fun p => ren_p p
  rw [this]

theorem RepCs.ren {cs : List (C L)} {vs : List Value} : All2 (RepC (g.ren φ)) cs vs ↔ All2 (RepC g) (cs.map (renC φ)) vs := by
  constructor
  · intro h
    induction h with
    | nil => exact .nil
    | cons h _ ih => exact .cons (RepC.ren.1 h) ih
  · intro h
    induction cs generalizing vs with
    | nil => cases h; exact .nil
    | cons c cs ih => cases h with | cons a b => exact .cons (RepC.ren.2 a) (ih b)

theorem RepS.ren {x : S L} {v : Value} : RepS (g.ren φ) x v ↔ RepS g (renS φ x) v := by
  cases x with
  | c x => exact RepC.ren
  | agg cs => simp only [RepS, renS, RepCs.ren]

theorem RepSs.ren {cs : List (S L)} {vs : List Value} : All2 (RepS (g.ren φ)) cs vs ↔ All2 (RepS g) (cs.map (renS φ)) vs := by
  constructor
  · intro h
    induction h with
    | nil => exact .nil
    | cons h _ ih => exact .cons (RepS.ren.1 h) ih
  · intro h
    induction cs generalizing vs with
    | nil => cases h; exact .nil
    | cons c cs ih => cases h with | cons a b => exact .cons (RepS.ren.2 a) (ih b)

theorem RepX.ren {x : X L} {v : Value} : RepX (g.ren φ) x v ↔ RepX g (renX φ x) v := by
  cases x with
  | s x => exact RepS.ren
  | tup l => simp only [RepX, renX, RepSs.ren]

omit [LI L] in
theorem idsC_ren (x : C L) : idsC (renC φ x) = (idsC x).map φ := by
  cases x <;> simp [idsC, renC, renP, List.map_map, Function.comp_def]

omit [LI L] in
theorem idsCs_ren (cs : List (C L)) : (cs.map (renC φ)).flatMap idsC = (cs.flatMap idsC).map φ := by
  induction cs with
  | nil => rfl
  | cons c cs ih => simp only [List.map_cons, List.flatMap_cons, idsC_ren, ih, List.map_append]

omit [LI L] in
theorem idsS_ren (x : S L) : idsS (renS φ x) = (idsS x).map φ := by
  cases x with
  | c x => simp [idsS, renS, cellsOf, idsC_ren]
  | agg cs => simpa [idsS, renS, cellsOf] using idsCs_ren cs

omit [LI L] in
theorem idsX_ren (x : X L) : idsX (renX φ x) = (idsX x).map φ := by
  cases x with
  | s x => exact idsS_ren x
  | tup l =>
    simp only [idsX, renX]
    induction l with
    | nil => rfl
    | cons c cs ih => simp only [List.map_cons, List.flatMap_cons, idsS_ren, ih, List.map_append]

omit [LI L] in
theorem idsEn_ren (e : En L) : idsEn (renEn φ e) = (idsEn e).map φ := by
  cases e with
  | var cs t => exact idsCs_ren cs
  | _ => simp [idsEn, renEn]

theorem RepEn.ren {i : Nat} {e : En L} : RepEn (g.ren φ) w B i e ↔ RepEn g w B (φ i) (renEn φ e) := by
  cases e with
  | var cs t => simp only [RepEn, renEn, RepCs.ren]; rfl
  | arr e l => rfl
  | fro e l tip => rfl
  | pre _ _ => rfl
  | dead => rfl

omit [LI L] in
theorem Owns.ren {i : Nat} {e : En L} : Owns (g.ren φ) i e ↔ Owns g (φ i) (renEn φ e) := by
  cases e <;> rfl

/-- A part of the heap, renamed. -/
theorem RepH.sub (hr : RepH U g B h w) (hsub : ∀ i e, look h1 i = some e → look h (φ i) = some (renEn φ e))
    (hinj : ∀ i j e e', look h1 i = some e → look h1 j = some e' → φ i = φ j → i = j) (hid : ∀ i e, look h1 i = some e → U1 i ∧ ∀ c ∈ idsEn e, U1 c) : RepH U1 (g.ren φ) B h1 w := by
  refine ⟨hr.fz, ?_, hid, ?_, ?_, ?_, ?_, hr.base⟩
  · intro i e hi
    exact RepEn.ren.2 (hr.ent _ _ (hsub i e hi))
  · intro i j e e' hi hj o1 o2 hne
    exact hr.dis _ _ _ _ (hsub i e hi) (hsub j e' hj) (Owns.ren.1 o1) (Owns.ren.1 o2) fun hc => hne (hinj i j e e' hi hj hc)
  · intro i e hi ho
    exact hr.own _ _ (hsub i e hi) (Owns.ren.1 ho)
  · intro i e hi ho o v hv
    obtain ⟨t, l, he, hl⟩ := hr.free _ _ (hsub i e hi) (Owns.ren.1 ho) o v hv
    cases e <;> simp only [renEn] at he <;> first | (cases he; exact ⟨_, _, rfl, hl⟩) | cases he
  · intro b b0 k hb
    exact hr.pre _ _ _ (hsub b _ hb)

omit [LI L] in
/-- An owner of the part is one of the whole. -/
theorem sub_owner (hsub : ∀ i e, look h1 i = some e → look h (φ i) = some (renEn φ e)) {c : Nat} {e : En L} (hc : look h1 c = some e) (ho : Owns (g.ren φ) c e) : look h (φ c) = some (renEn φ e) ∧ Owns g (φ c) (renEn φ e) := ⟨hsub c e hc, Owns.ren.1 ho⟩

open Classical in
/-- The ghost behind a summary. -/
noncomputable def Gh.back (g g2 : Gh) (U U2 : Nat → Prop) (φ2 : Nat → Nat) : Gh :=
  ⟨fun b => if U b then g.blk b else if ex : ∃ i, U2 i ∧ φ2 i = b then g2.blk ex.choose else 0,
   fun b => if U b then g.sv b else if ex : ∃ i, U2 i ∧ φ2 i = b then g2.sv ex.choose else (none, 0, 0), g2.G⟩

theorem Gh.back_old (b : Nat) (hb : U b) : (Gh.back g g2 U U2 φ2).blk b = g.blk b ∧ (Gh.back g g2 U U2 φ2).sv b = g.sv b := by
  simp [Gh.back, hb]

theorem Gh.back_new (hle : GhLe K (g.ren φ) g2) (hφ2 : ∀ i, U2 i → (K i ∧ φ2 i = φ i ∧ U (φ i)) ∨ ¬ U (φ2 i)) (hinj : ∀ i j, U2 i → U2 j → φ2 i = φ2 j → i = j) (i : Nat) (hi : U2 i) :
    (Gh.back g g2 U U2 φ2).blk (φ2 i) = g2.blk i ∧ (Gh.back g g2 U U2 φ2).sv (φ2 i) = g2.sv i := by
  rcases hφ2 i hi with ⟨hk, he, hu⟩ | hn
  · have := Gh.back_old (g := g) (g2 := g2) (U2 := U2) (φ2 := φ2) (φ2 i) (he ▸ hu)
    rw [this.1, this.2, he]
    exact ⟨(hle.blk i hk).symm, (hle.sv i hk).symm⟩
  · have ex : ∃ j, U2 j ∧ φ2 j = φ2 i := ⟨i, hi, rfl⟩
    have hc : ex.choose = i := hinj _ _ ex.choose_spec.1 hi ex.choose_spec.2
    simp only [Gh.back, hn, if_false, ex, dif_pos, hc, and_self]

/-- Back from a part to the whole. -/
theorem RepH.back (hr : RepH U g B h w) (R : Nat → Prop) (hsub : ∀ i e, look h1 i = some e → look h (φ i) = some (renEn φ e)) (hR : ∀ i e, look h1 i = some e → R (φ i))
    (tr : Tr K (g.ren φ) h1 w g2 h2 w') (hr2 : RepH U2 g2 B h2 w')
    (hφ2 : ∀ i, U2 i → (K i ∧ φ2 i = φ i ∧ U (φ i)) ∨ ¬ U (φ2 i)) (hinj : ∀ i j, U2 i → U2 j → φ2 i = φ2 j → i = j)
    (hh : ∀ b e', look h' b = some e' → (∃ i e2, b = φ2 i ∧ look h2 i = some e2 ∧ e' = renEn φ2 e2) ∨ (e' = .dead ∧ U b) ∨ (look h b = some e' ∧ ¬ R b)) :
    RepH (fun b => U b ∨ ∃ i, U2 i ∧ b = φ2 i) (Gh.back g g2 U U2 φ2) B h' w' ∧ Tr U g h w (Gh.back g g2 U U2 φ2) h' w' ∧ GhLe U2 g2 ((Gh.back g g2 U U2 φ2).ren φ2) := by
  have old := fun b hb => Gh.back_old (g := g) (g2 := g2) (U := U) (U2 := U2) (φ2 := φ2) b hb
  have new := fun i hi => Gh.back_new (U := U) tr.le hφ2 hinj i hi
  generalize hg' : Gh.back g g2 U U2 φ2 = g' at old new ⊢
  have hG : g'.G = g2.G := by rw [← hg']; rfl
  have le1 : GhLe U g g' := ⟨fun b hb => (old b hb).1, fun b hb => (old b hb).2, fun k o v hv => hG ▸ tr.le.G k o v hv⟩
  have le2 : GhLe U2 g2 (g'.ren φ2) := ⟨fun i hi => (new i hi).1, fun i hi => (new i hi).2, fun k o v hv => by show g'.G k o = _; rw [hG]; exact hv⟩
  -- blocks of what was not handed over
  have apart : ∀ b e, look h b = some e → ¬ R b → Owns g b e → ∀ c e1, look h1 c = some e1 → Owns (g.ren φ) c e1 → g.blk (φ c) ≠ g.blk b := by
    intro b e hb hRb ho c e1 hc hoc
    have := sub_owner hsub hc hoc
    exact hr.dis _ _ _ _ this.1 hb this.2 ho fun he => hRb (he ▸ hR c e1 hc)
  -- owners behind
  have cls : ∀ b e', look h' b = some e' → Owns g' b e' → (∃ i e2, b = φ2 i ∧ look h2 i = some e2 ∧ e' = renEn φ2 e2 ∧ Owns g2 i e2 ∧ g'.blk b = g2.blk i) ∨ (look h b = some e' ∧ ¬ R b ∧ Owns g b e' ∧ g'.blk b = g.blk b) := by
    intro b e' hb ho
    rcases hh b e' hb with ⟨i, e2, hbi, h2i, he⟩ | ⟨he, _⟩ | ⟨hb', hRb⟩
    · have hi := (hr2.ids i e2 h2i).1
      subst hbi; subst he
      exact .inl ⟨i, e2, rfl, h2i, rfl, (Owns.congr le2 hi).1 (Owns.ren.2 ho), (new i hi).1⟩
    · subst he; exact ho.elim
    · have hU := (hr.ids b e' hb').1
      exact .inr ⟨hb', hRb, (Owns.congr le1 hU).1 ho, (old b hU).1⟩
  have nbk : ∀ i e2, look h2 i = some e2 → Owns g2 i e2 → (∃ c e', look h c = some e' ∧ Owns g c e' ∧ g.blk c = g2.blk i ∧ R c) ∨ w.heap.size ≤ g2.blk i := by
    intro i e2 hi ho
    rcases tr.nb i e2 hi ho with ⟨c, e1, hc, hoc, hbc⟩ | hs
    · have := sub_owner hsub hc hoc
      exact .inl ⟨φ c, _, this.1, this.2, hbc, hR c e1 hc⟩
    · exact .inr hs
  refine ⟨⟨?_, ?_, ?_, ?_, ?_, ?_, ?_, hr2.base⟩, ⟨le1, ?_, ?_, tr.ws, ?_⟩, le2⟩
  · intro k o v hv
    exact hr2.fz k o v (hG ▸ hv)
  · intro b e' hb
    rcases hh b e' hb with ⟨i, e2, hbi, h2i, he⟩ | ⟨he, _⟩ | ⟨hb', hRb⟩
    · subst hbi; subst he
      have hi := hr2.ids i e2 h2i
      exact RepEn.ren.1 (RepEn.mono le2 hi.1 hi.2 (hr2.ent i e2 h2i))
    · subst he; trivial
    · have hU := hr.ids b e' hb'
      refine RepEn.mono le1 hU.1 hU.2 ((hr.ent b e' hb').frame fun ho => ?_)
      exact tr.fr _ (hr.lt_size hb' ho) fun c e1 hc hoc => apart b e' hb' hRb ho c e1 hc hoc
  · intro b e' hb
    rcases hh b e' hb with ⟨i, e2, hbi, h2i, he⟩ | ⟨he, hU⟩ | ⟨hb', hRb⟩
    · subst hbi; subst he
      have hi := hr2.ids i e2 h2i
      refine ⟨.inr ⟨i, hi.1, rfl⟩, fun c hc => ?_⟩
      rw [idsEn_ren, List.mem_map] at hc
      obtain ⟨j, hj, rfl⟩ := hc
      exact .inr ⟨j, hi.2 j hj, rfl⟩
    · subst he; exact ⟨.inl hU, by simp [idsEn]⟩
    · have hU := hr.ids b e' hb'
      exact ⟨.inl hU.1, fun c hc => .inl (hU.2 c hc)⟩
  · intro b b' e e' hb hb' ho ho' hne
    rcases cls b e hb ho with ⟨i, e2, hbi, h2i, he, hoi, hki⟩ | ⟨hb1, hRb, ho1, hk1⟩ <;> rcases cls b' e' hb' ho' with ⟨j, e2', hbj, h2j, he', hoj, hkj⟩ | ⟨hb1', hRb', ho1', hk1'⟩
    · rw [hki, hkj]
      exact hr2.dis i j e2 e2' h2i h2j hoi hoj fun hij => hne (by rw [hbi, hbj, hij])
    · rw [hki, hk1']
      rcases nbk i e2 h2i hoi with ⟨c, ec, hc, hoc, hbc, hRc⟩ | hs
      · rw [← hbc]; exact hr.dis c b' ec e' hc hb1' hoc ho1' fun he => hRb' (he ▸ hRc)
      · have := hr.lt_size hb1' ho1'; omega
    · rw [hk1, hkj]
      rcases nbk j e2' h2j hoj with ⟨c, ec, hc, hoc, hbc, hRc⟩ | hs
      · rw [← hbc]; exact hr.dis b c e ec hb1 hc ho1 hoc fun he => hRb (he ▸ hRc)
      · have := hr.lt_size hb1 ho1; omega
    · rw [hk1, hk1']
      exact hr.dis b b' e e' hb1 hb1' ho1 ho1' hne
  · intro b e hb ho
    rcases cls b e hb ho with ⟨i, e2, hbi, h2i, he, hoi, hki⟩ | ⟨hb1, hRb, ho1, hk1⟩
    · rw [hki]; exact hr2.own i e2 h2i hoi
    · rw [hk1]; exact hr.own b e hb1 ho1
  · intro b e hb ho o v hv
    rcases cls b e hb ho with ⟨i, e2, hbi, h2i, he, hoi, hki⟩ | ⟨hb1, hRb, ho1, hk1⟩
    · rw [hki, hG] at hv
      obtain ⟨t, l, he2, hl⟩ := hr2.free i e2 h2i hoi o v hv
      subst he2
      exact ⟨t, l, he, hl⟩
    · rw [hk1, hG] at hv
      rcases tr.nf _ o v hv with h3 | ⟨c, e1, hc, hoc, hbc⟩ | h3
      · exact hr.free b e hb1 ho1 o v h3
      · exact absurd hbc (apart b e hb1 hRb ho1 c e1 hc hoc)
      · have := hr.lt_size hb1 ho1; omega
  · intro b b0 k hb
    rcases hh b _ hb with ⟨i, e2, hbi, h2i, he⟩ | ⟨he, hU⟩ | ⟨hb', hRb⟩
    · cases e2 with
      | pre c k' =>
        simp only [renEn, En.pre.injEq] at he
        obtain ⟨rfl, rfl⟩ := he
        have hi := hr2.ids i _ h2i
        have := hr2.pre i c k h2i
        rw [hbi, (new i hi.1).2, (new c (hi.2 c (by simp [idsEn]))).2]
        exact this
      | _ => simp [renEn] at he
    · cases he
    · have hU := hr.ids b _ hb'
      rw [(old b hU.1).2, (old b0 (hU.2 b0 (by simp [idsEn]))).2]
      exact hr.pre b b0 k hb'
  · intro k o z hz
    rw [hG] at hz
    rcases tr.nf k o z hz with h3 | ⟨c, e1, hc, hoc, hbc⟩ | h3
    · exact .inl h3
    · have := sub_owner hsub hc hoc
      exact .inr (.inl ⟨_, _, this.1, this.2, hbc⟩)
    · exact .inr (.inr h3)
  · intro b e hb ho
    rcases cls b e hb ho with ⟨i, e2, hbi, h2i, he, hoi, hki⟩ | ⟨hb1, hRb, ho1, hk1⟩
    · rw [hki]
      rcases nbk i e2 h2i hoi with ⟨c, ec, hc, hoc, hbc, _⟩ | hs
      · exact .inl ⟨c, ec, hc, hoc, hbc⟩
      · exact .inr hs
    · exact .inl ⟨b, e, hb1, ho1, hk1.symm⟩
  · intro k hk hn
    refine tr.fr k hk fun c e1 hc hoc => ?_
    have := sub_owner hsub hc hoc
    exact hn _ _ this.1 this.2

end
end Go.Ev

/- Carving out a state, and laying it back. -/
namespace Go.Ev
open Go.RowKit
variable {L : Type}

def Lt (n : Nat) : Nat → Prop := fun b => b < n

/-- ids that there were, and new ones -/
def Gr (V : Nat → Prop) (nx n : Nat) : Nat → Prop := fun b => V b ∨ (nx ≤ b ∧ b < n)

theorem Gr.of {V : Nat → Prop} {nx n b : Nat} (h : V b) : Gr V nx n b := .inl h
theorem Gr.lt {V : Nat → Prop} {nx n : Nat} (hV : ∀ b, V b → b < nx) (hn : nx ≤ n) : ∀ b, Gr V nx n b → b < n := fun b h => h.elim (fun h => Nat.lt_of_lt_of_le (hV b h) hn) fun h => h.2
theorem Gr.trans {V : Nat → Prop} {a b c : Nat} (h1 : a ≤ b) (h2 : b ≤ c) : ∀ x, Gr (Gr V a b) b c x → Gr V a c x := by
  rintro x ((h | h) | h)
  · exact .inl h
  · exact .inr ⟨h.1, by omega⟩
  · exact .inr ⟨by omega, h.2⟩
theorem Gr.more {V : Nat → Prop} {a b c : Nat} (h : b ≤ c) : ∀ x, Gr V a b x → Gr V a c x := fun _ hx => hx.imp id fun hx => ⟨hx.1, Nat.lt_of_lt_of_le hx.2 h⟩
theorem Gr.self {V : Nat → Prop} {a : Nat} : ∀ x, Gr V a a x → V x := fun _ hx => hx.elim id fun h => by omega

theorem mem_iff {n : Nat} {l : List Nat} : mem n l = true ↔ n ∈ l := by
  induction l with
  | nil => simp [mem]
  | cons x r ih =>
    simp only [mem, Bool.or_eq_true, ih, List.mem_cons]
    have : Nat.beq x n = true ↔ n = x := by rw [Nat.beq_eq]; exact eq_comm
    rw [this]

theorem subset_iff {a b : List Nat} : subset a b = true ↔ ∀ x ∈ a, x ∈ b := by
  simp [subset, List.all_eq_true, mem_iff]

theorem below_iff {n : Nat} {a : List Nat} : below n a = true ↔ ∀ x ∈ a, x < n := by
  simp only [below, List.all_eq_true, Nat.ble_eq]
  exact ⟨fun h x hx => h x hx, fun h x hx => h x hx⟩

theorem nodup_iff {a : List Nat} : nodup a = true ↔ a.Nodup := by
  induction a with
  | nil => simp [nodup]
  | cons x r ih =>
    simp only [nodup, Bool.and_eq_true, Bool.not_eq_true', ih, List.nodup_cons]
    rw [← Bool.not_eq_true, mem_iff]

theorem idx_spec {b : Nat} {l : List Nat} (h : b ∈ l) : ∀ i, ∃ j, idx b l i = some (i + j) ∧ l[j]? = some b := by
  induction l with
  | nil => simp at h
  | cons x r ih =>
    intro i
    simp only [idx]
    by_cases hx : x = b
    · subst hx; exact ⟨0, by simp, by simp⟩
    · have hb : Nat.beq x b = false := by rw [← Bool.not_eq_true, Nat.beq_eq]; exact hx
      have hm : b ∈ r := by rcases List.mem_cons.1 h with h | h; exact absurd h.symm hx; exact h
      obtain ⟨j, hj, hl⟩ := ih hm (i + 1)
      exact ⟨j + 1, by rw [hb]; simp only [cond_false, hj]; congr 1; omega, by simpa using hl⟩

theorem numAt_spec {b : Nat} {R : List Nat} (h : b ∈ R) : R[numAt R b]? = some b := by
  obtain ⟨j, hj, hl⟩ := idx_spec h 0
  simp only [numAt, hj, Nat.zero_add]; exact hl

/-- the id at a place -/
def at0 (R : List Nat) (i : Nat) : Nat := match nth R i with | some b => b | none => 0

theorem at0_num {b : Nat} {R : List Nat} (h : b ∈ R) : at0 R (numAt R b) = b := by
  simp [at0, nth_eq, numAt_spec h]

theorem restrict_look {h : Hp L} {R : List Nat} {b : Nat} {e : En L} (hb : look (restrict h R) b = some e) : b ∈ R ∧ look h b = some e := by
  induction R with
  | nil => simp [restrict, look] at hb
  | cons x r ih =>
    simp only [restrict, List.filterMap_cons] at hb
    cases hx : look h x with
    | none => simp only [hx] at hb; have := ih hb; exact ⟨by simp [this.1], this.2⟩
    | some e' =>
      simp only [hx] at hb
      rw [look_cons] at hb
      split at hb
      · rename_i hxb; subst hxb; cases hb; exact ⟨by simp, hx⟩
      · have := ih hb; exact ⟨by simp [this.1], this.2⟩

theorem look_restrict {h : Hp L} {R : List Nat} {b : Nat} (hb : b ∈ R) : look (restrict h R) b = look h b := by
  induction R with
  | nil => simp at hb
  | cons x r ih =>
    simp only [restrict, List.filterMap_cons]
    cases hx : look h x with
    | none =>
      simp only []
      rcases List.mem_cons.1 hb with rfl | hm
      · by_cases hr : b ∈ r
        · exact ih hr
        · rw [hx]
          cases hl : look (restrict h r) b with
          | none => exact hl
          | some e => exact absurd (restrict_look hl).1 hr
      · exact ih hm
    | some e =>
      simp only []
      rw [look_cons]
      split
      · rename_i hxb; subst hxb; exact hx.symm
      · rename_i hxb
        rcases List.mem_cons.1 hb with rfl | hm
        · exact absurd rfl hxb
        · exact ih hm

theorem look_renHp {φ : Nat → Nat} {h : Hp L} {b : Nat} {e' : En L} (hinj : ∀ p ∈ h, ∀ q ∈ h, φ p.1 = φ q.1 → p.1 = q.1) (hb : look (renHp φ h) b = some e') : ∃ i e, b = φ i ∧ look h i = some e ∧ e' = renEn φ e := by
  induction h with
  | nil => simp [renHp, look] at hb
  | cons p r ih =>
    obtain ⟨k, e⟩ := p
    simp only [renHp, List.map_cons] at hb
    rw [look_cons] at hb
    split at hb
    · rename_i hk; cases hb; exact ⟨k, e, hk.symm, by simp [look_cons], rfl⟩
    · rename_i hk
      obtain ⟨i, e2, h1, h2, h3⟩ := ih (fun p hp q hq => hinj p (by simp [hp]) q (by simp [hq])) hb
      refine ⟨i, e2, h1, ?_, h3⟩
      rw [look_cons, if_neg, h2]
      intro hki
      exact hk (by rw [h1, hki])

theorem renC_id {φ ψ : Nat → Nat} (x : C L) (h : ∀ b ∈ idsC x, ψ (φ b) = b) : renC ψ (renC φ x) = x := by
  have e : ∀ l : List (Nat × Nat), (∀ p ∈ l, ψ (φ p.1) = p.1) → (l.map (renP φ)).map (renP ψ) = l := by
    intro l hl
    rw [List.map_map]
    conv => rhs; rw [← List.map_id l]
    apply List.map_congr_left
    intro p hp
    simp [renP, hl p hp]
  cases x with
  | ptr b off => simp only [renC]; rw [h b (by simp [idsC])]
  | eptr b i sz off => simp only [renC]; rw [h b (by simp [idsC])]
  | ar b => simp only [renC]; rw [h b (by simp [idsC])]
  | clo f a c =>
    simp only [renC]
    rw [e a fun p hp => h _ (by simp only [idsC, List.mem_append, List.mem_map]; exact .inl ⟨p, hp, rfl⟩), e c fun p hp => h _ (by simp only [idsC, List.mem_append, List.mem_map]; exact .inr ⟨p, hp, rfl⟩)]
  | _ => rfl

theorem renCs_id {φ ψ : Nat → Nat} (cs : List (C L)) (h : ∀ b ∈ cs.flatMap idsC, ψ (φ b) = b) : (cs.map (renC φ)).map (renC ψ) = cs := by
  rw [List.map_map]
  conv => rhs; rw [← List.map_id cs]
  apply List.map_congr_left
  intro c hc
  exact renC_id c fun b hb => h b (List.mem_flatMap.2 ⟨c, hc, hb⟩)

theorem renS_id {φ ψ : Nat → Nat} (x : S L) (h : ∀ b ∈ idsS x, ψ (φ b) = b) : renS ψ (renS φ x) = x := by
  cases x with
  | c x => simp only [renS]; rw [renC_id x (by simpa [idsS, cellsOf] using h)]
  | agg cs => simp only [renS]; rw [renCs_id cs (by simpa [idsS, cellsOf] using h)]

theorem renX_id {φ ψ : Nat → Nat} (x : X L) (h : ∀ b ∈ idsX x, ψ (φ b) = b) : renX ψ (renX φ x) = x := by
  cases x with
  | s x => simp only [renX]; rw [renS_id x h]
  | tup l =>
    simp only [renX]
    congr 1
    rw [List.map_map]
    conv => rhs; rw [← List.map_id l]
    apply List.map_congr_left
    intro c hc
    exact renS_id c fun b hb => h b (List.mem_flatMap.2 ⟨c, hc, hb⟩)

theorem renEn_id {φ ψ : Nat → Nat} (e : En L) (h : ∀ b ∈ idsEn e, ψ (φ b) = b) : renEn ψ (renEn φ e) = e := by
  cases e with
  | var cs t => simp only [renEn]; rw [renCs_id cs h]
  | pre b k => simp only [renEn]; rw [h b (by simp [idsEn])]
  | _ => rfl

/-- What is carved out. -/
structure Carved (φ : Nat → Nat) (R : List Nat) (num : Nat → Nat) (n : Nat) (xs : List (X L)) (h : Hp L) (c : Cst L) : Prop where
  hn : c.n = n
  hxs : c.xs = xs.map (renX num)
  hnum : ∀ b ∈ R, φ (num b) = b
  lt : ∀ b ∈ R, num b < n
  hidx : ∀ x ∈ xs, ∀ b ∈ idsX x, b ∈ R
  at_ : ∀ i e, look c.hp i = some e → φ i ∈ R ∧ i = num (φ i) ∧ look h (φ i) = some (renEn φ e) ∧ ∀ j ∈ idsEn e, j < n

theorem carve_spec {φ : Nat → Nat} {R : List Nat} {num : Nat → Nat} {n : Nat} {xs : List (X L)} {h : Hp L} {c : Cst L} (hc : carve R num n xs h = some c) (hφ : ∀ b ∈ R, φ (num b) = b) : Carved φ R num n xs h c := by
  unfold carve at hc
  cases hb : (nodup (R.map num) && (below n (R.map num) && ((xs.all fun x => subset (idsX x) R) && ((restrict h R).all fun p => subset (idsEn p.2) R)))) with
  | false => rw [hb] at hc; cases hc
  | true =>
    rw [hb] at hc
    cases hc
    simp only [Bool.and_eq_true, List.all_eq_true, below_iff, subset_iff] at hb
    obtain ⟨_, h2, h3, h4⟩ := hb
    have hlt : ∀ b ∈ R, num b < n := fun b hb => h2 _ (List.mem_map.2 ⟨b, hb, rfl⟩)
    refine ⟨rfl, rfl, hφ, hlt, h3, ?_⟩
    intro i e hi
    have hinj : ∀ p ∈ restrict h R, ∀ q ∈ restrict h R, num p.1 = num q.1 → p.1 = q.1 := by
      intro p hp q hq hpq
      have hp' := (restrict_look (look_of_key (d := p.1) (x := p.2) hp).choose_spec).1
      have hq' := (restrict_look (look_of_key (d := q.1) (x := q.2) hq).choose_spec).1
      rw [← hφ _ hp', ← hφ _ hq', hpq]
    obtain ⟨b, e0, hib, hb0, he⟩ := look_renHp hinj hi
    have hbR := restrict_look hb0
    have hids := h4 _ (look_mem hb0)
    subst hib; subst he
    rw [hφ b hbR.1]
    refine ⟨hbR.1, rfl, ?_, ?_⟩
    · rw [renEn_id e0 fun j hj => hφ j (hids j hj)]; exact hbR.2
    · intro j hj
      rw [idsEn_ren, List.mem_map] at hj
      obtain ⟨b', hb', rfl⟩ := hj
      exact hlt b' (hids b' hb')

section
variable [LI L]
variable {φ : Nat → Nat} {R : List Nat} {num : Nat → Nat} {n B : Nat} {xs : List (X L)} {h : Hp L} {c : Cst L} {U : Nat → Prop} {g : Gh} {w : World}

theorem Carved.rep (hc : Carved φ R num n xs h c) (hr : RepH U g B h w) : RepH (Lt n) (g.ren φ) B c.hp w :=
  hr.sub (fun i e hi => (hc.at_ i e hi).2.2.1) (fun i j e e' hi hj hij => by rw [(hc.at_ i e hi).2.1, (hc.at_ j e' hj).2.1, hij])
    (fun i e hi => ⟨by rw [(hc.at_ i e hi).2.1]; exact hc.lt _ (hc.at_ i e hi).1, (hc.at_ i e hi).2.2.2⟩)

theorem Carved.repX (hc : Carved φ R num n xs h c) {x : X L} {v : Value} (hx : x ∈ xs) (hv : RepX g x v) : RepX (g.ren φ) (renX num x) v :=
  RepX.ren.2 (by rw [renX_id x fun b hb => hc.hnum b (hc.hidx x hx b hb)]; exact hv)

omit [LI L] in
theorem Carved.idsLt (hc : Carved φ R num n xs h c) {x : X L} (hx : x ∈ xs) : ∀ b ∈ idsX (renX num x), b < n := by
  intro b hb
  rw [idsX_ren, List.mem_map] at hb
  obtain ⟨b', hb', rfl⟩ := hb
  exact hc.lt b' (hc.hidx x hx b' hb')

theorem Carved.repXs (hc : Carved φ R num n xs h c) {vs : List Value} (hv : All2 (RepX g) xs vs) : All2 (RepX (g.ren φ)) c.xs vs := by
  rw [hc.hxs]
  have : ∀ ys : List (X L), (∀ y ∈ ys, y ∈ xs) → ∀ us, All2 (RepX g) ys us → All2 (RepX (g.ren φ)) (ys.map (renX num)) us := by
    intro ys hys us hu
    induction hu with
    | nil => exact .nil
    | cons a _ ih => exact .cons (hc.repX (hys _ (by simp)) a) (ih fun y hy => hys y (by simp [hy]))
  exact this xs (fun _ h => h) vs hv

omit [LI L] in
theorem trav_look (h : Hp L) : ∀ (k : Nat) (todo acc : List Nat), (∀ b ∈ acc, ∃ e, look h b = some e) → ∀ b ∈ trav h k todo acc, ∃ e, look h b = some e
  | 0, todo, acc, ha, b, hb => ha b hb
  | k + 1, [], acc, ha, b, hb => ha b hb
  | k + 1, c :: r, acc, ha, b, hb => by
    simp only [trav] at hb
    cases hm : mem c acc with
    | true => rw [hm] at hb; exact trav_look h k r acc ha b hb
    | false =>
      rw [hm] at hb
      simp only [cond_false] at hb
      split at hb
      · rename_i e he
        exact trav_look h k _ _ (fun d hd => by rcases List.mem_append.1 hd with h1 | h1; exact ha d h1; simp at h1; exact ⟨e, h1 ▸ he⟩) b hb
      · exact trav_look h k r acc ha b hb

omit [LI L] in
theorem canon_spec (hc : canon xs h = some c) : Carved (at0 (travX h xs [])) (travX h xs []) (numAt (travX h xs [])) (travX h xs []).length xs h c :=
  carve_spec hc fun _ hb => at0_num hb

omit [LI L] in
theorem canon_nodup (hc : canon xs h = some c) : (travX h xs []).Nodup := by
  unfold canon carve at hc
  cases hb : nodup ((travX h xs []).map (numAt (travX h xs []))) with
  | false => rw [hb] at hc; cases hc
  | true => exact (List.Pairwise.of_map _ (fun a b hab he => hab (by rw [he])) (nodup_iff.1 hb))

/-- Back from a summary. -/
theorem sum_back {V : Nat → Prop} {nx : Nat} {kp : List Nat} {d : Cst L} {g2 : Gh} {w' : World} (hV : ∀ b, V b → b < nx) (hr : RepH V g B h w) (hc : canon xs h = some c) (hkp : below (travX h xs []).length kp = true)
    (tr : Tr (fun i => i ∈ kp) (g.ren (at0 (travX h xs []))) c.hp w g2 d.hp w') (hr2 : RepH (Lt d.n) g2 B d.hp w') :
    ∃ g' : Gh, RepH (Gr V nx (nx + d.n)) g' B (sumOut kp (travX h xs []) h nx d).2.1 w' ∧ Tr V g h w g' (sumOut kp (travX h xs []) h nx d).2.1 w' ∧
      (∀ (x : X L) v, (∀ b ∈ idsX x, b < d.n) → RepX g2 x v → RepX g' (renX (backId kp (travX h xs []) nx) x) v) ∧ (∀ x : X L, (∀ b ∈ idsX x, b < d.n) → ∀ b ∈ idsX (renX (backId kp (travX h xs []) nx) x), Gr V nx (nx + d.n) b) := by
  have hs := canon_spec hc
  have hnd := canon_nodup hc
  generalize hRe : travX h xs [] = R at *
  have hRV : ∀ b ∈ R, V b := by
    intro b hb
    rw [← hRe] at hb
    obtain ⟨e, he⟩ := trav_look h _ _ [] (by simp) b hb
    exact (hr.ids b e he).1
  have hRl : ∀ b ∈ R, b < nx := fun b hb => hV b (hRV b hb)
  have hkp' := below_iff.1 hkp
  have hin : ∀ i ∈ kp, ∃ b, R[i]? = some b ∧ backId kp R nx i = b ∧ at0 R i = b ∧ V b := by
    intro i hi
    have hlt := hkp' i hi
    refine ⟨R[i], by simp [hlt], ?_, ?_, hRV _ (by simp)⟩
    · simp [backId, mem_iff.2 hi, nth_eq, hlt]
    · simp [at0, nth_eq, hlt]
  have hout : ∀ i, i ∉ kp → backId kp R nx i = nx + i := by
    intro i hi
    have : mem i kp = false := by rw [← Bool.not_eq_true, mem_iff]; exact hi
    simp [backId, this]
  have hφ2 : ∀ i, Lt d.n i → (i ∈ kp ∧ backId kp R nx i = at0 R i ∧ V (at0 R i)) ∨ ¬ V (backId kp R nx i) := by
    intro i _
    by_cases hi : i ∈ kp
    · obtain ⟨b, h1, h2, h3, h4⟩ := hin i hi
      exact .inl ⟨hi, by rw [h2, h3], by rw [h3]; exact h4⟩
    · exact .inr (by rw [hout i hi]; intro hv; have := hV _ hv; omega)
  have hinj : ∀ i j, Lt d.n i → Lt d.n j → backId kp R nx i = backId kp R nx j → i = j := by
    intro i j _ _ hij
    by_cases hi : i ∈ kp <;> by_cases hj : j ∈ kp
    · obtain ⟨b, h1, h2, _, _⟩ := hin i hi
      obtain ⟨b', h1', h2', _, _⟩ := hin j hj
      have : b = b' := by rw [← h2, ← h2', hij]
      subst this
      have hli := (List.getElem?_eq_some_iff.1 h1)
      have hlj := (List.getElem?_eq_some_iff.1 h1')
      exact (List.getElem_inj hnd).1 (hli.2.trans hlj.2.symm)
    · obtain ⟨b, _, h2, _, h4⟩ := hin i hi
      rw [h2, hout j hj] at hij; have := hV b h4; omega
    · obtain ⟨b, _, h2, _, h4⟩ := hin j hj
      rw [h2, hout i hi] at hij; have := hV b h4; omega
    · rw [hout i hi, hout j hj] at hij; omega
  have hdkey : ∀ p ∈ d.hp, Lt d.n p.1 := fun p hp => let ⟨y, hy⟩ := look_of_key (d := p.1) (x := p.2) hp; (hr2.ids _ _ hy).1
  have hb := RepH.back (h' := (sumOut kp R h nx d).2.1) hr (fun b => b ∈ R) (fun i e hi => (hs.at_ i e hi).2.2.1) (fun i e hi => (hs.at_ i e hi).1) tr hr2 hφ2 hinj (by
    intro b e' hb
    simp only [sumOut] at hb
    rw [List.append_assoc, look_append] at hb
    cases h1 : look (renHp (backId kp R nx) d.hp) b with
    | some x =>
      rw [h1] at hb; cases hb
      exact .inl (look_renHp (fun p hp q hq hpq => hinj _ _ (hdkey p hp) (hdkey q hq) hpq) h1)
    | none =>
      rw [h1] at hb
      simp only [] at hb
      rw [look_append] at hb
      cases h2 : look (R.map fun b => (b, (En.dead : En L))) b with
      | some x =>
        rw [h2] at hb; cases hb
        have := look_mem h2
        simp only [List.mem_map, Prod.mk.injEq] at this
        obtain ⟨b', hb', rfl, rfl⟩ := this
        exact .inr (.inl ⟨rfl, hRV _ hb'⟩)
      | none =>
        rw [h2] at hb
        refine .inr (.inr ⟨hb, fun hR => ?_⟩)
        obtain ⟨y, hy⟩ := look_of_key (l := R.map fun b => (b, (En.dead : En L))) (d := b) (x := .dead) (List.mem_map.2 ⟨b, hR, rfl⟩)
        rw [hy] at h2; cases h2)
  have hlt2 : ∀ i, i < d.n → Gr V nx (nx + d.n) (backId kp R nx i) := by
    intro i hi
    by_cases hk : i ∈ kp
    · obtain ⟨b, _, h2, _, h4⟩ := hin i hk; exact .inl (h2 ▸ h4)
    · exact .inr (by rw [hout i hk]; omega)
  refine ⟨_, hb.1.weaken ?_, hb.2.1, ?_, ?_⟩
  · rintro b (hb | ⟨i, hi, rfl⟩)
    · exact .inl hb
    · exact hlt2 i hi
  · intro x v hx hv
    exact RepX.ren.1 (RepX.mono hb.2.2 hx hv)
  · intro x hx b hb
    rw [idsX_ren, List.mem_map] at hb
    obtain ⟨i, hi, rfl⟩ := hb
    exact hlt2 i (hx i hi)

end
end Go.Ev

/- What every outcome of the evaluator keeps: the heap grows, slots that are not written stay; two ways that meet. -/
namespace Go.Ev
open Go.RowKit
variable {L : Type}

namespace Out
variable {R Q : Type}
def allR : Out L R → (R → Prop) → Prop
  | .ret r, q => q r
  | .br _ a b, q => allR a q ∧ allR b q
  | .ix _ _ k, q => ∀ cs, allR (k cs) q
  | .call _ _ k, q => ∀ rs, allR (k rs) q
  | .sum _ _ k, q => ∀ e d, allR (k e d) q
  | .fail _, _ => True

theorem allR_mono {o : Out L R} {p q : R → Prop} (h : allR o p) (hpq : ∀ r, p r → q r) : allR o q := by
  induction o with
  | ret r => exact hpq r h
  | br c a b iha ihb => exact ⟨iha h.1, ihb h.2⟩
  | ix l i k ih => exact fun cs => ih cs (h cs)
  | call f args k ih => exact fun cs => ih cs (h cs)
  | sum f c k ih => exact fun e d => ih e d (h e d)
  | fail n => trivial

theorem allR_true {o : Out L R} {q : R → Prop} (h : ∀ r, q r) : allR o q := by
  induction o with
  | ret r => exact h r
  | br c a b iha ihb => exact ⟨iha, ihb⟩
  | ix l i k ih => exact fun cs => ih cs
  | call f args k ih => exact fun cs => ih cs
  | sum f c k ih => exact fun e d => ih e d
  | fail n => trivial

theorem allR_bind {o : Out L R} {f : R → Out L Q} {q : Q → Prop} (h : allR o fun r => allR (f r) q) : allR (o.bind f) q := by
  induction o with
  | ret r => exact h
  | br c a b iha ihb => exact ⟨iha h.1, ihb h.2⟩
  | ix l i k ih => exact fun cs => ih cs (h cs)
  | call g args k ih => exact fun cs => ih cs (h cs)
  | sum g c k ih => exact fun e d => ih e d (h e d)
  | fail n => trivial

theorem holds_all [LI L] {oD : OrcD L} {o : Out L R} {p q : R → Prop} (h : holds oD o p) (hq : allR o q) : holds oD o fun r => p r ∧ q r := by
  induction o with
  | ret r => exact ⟨h, hq⟩
  | br c a b iha ihb => exact h.imp (fun x => ⟨x.1, iha x.2 hq.1⟩) (fun x => ⟨x.1, ihb x.2 hq.2⟩)
  | ix l i k ih => obtain ⟨cs, h1, h2⟩ := h; exact ⟨cs, h1, ih cs h2 (hq cs)⟩
  | call f args k ih => obtain ⟨rs, h1, h2⟩ := h; exact ⟨rs, h1, ih rs h2 (hq rs)⟩
  | sum f c k ih => obtain ⟨e, d, h1, h2⟩ := h; exact ⟨e, d, h1, ih e d h2 (hq e d)⟩
  | fail n => exact h
end Out

/-- the heap has grown -/
def ExtH (h : Hp L) (nx : Nat) (r : X L × Hp L × Nat) : Prop := (∃ u, r.2.1 = u ++ h) ∧ nx ≤ r.2.2

structure ExtS (W : List Nat) (s s' : Sx L) : Prop where
  hp : ∃ u, s'.hp = u ++ s.hp
  nx : s.nx ≤ s'.nx
  env : ∀ d x, d ∉ W → look s'.env d = some x → look s.env d = some x

theorem ExtS.refl (W : List Nat) (s : Sx L) : ExtS W s s := ⟨⟨[], rfl⟩, Nat.le_refl _, fun _ _ _ h => h⟩
theorem ExtS.trans {W : List Nat} {a b c : Sx L} (h : ExtS W a b) (k : ExtS W b c) : ExtS W a c := by
  obtain ⟨u, hu⟩ := h.hp
  obtain ⟨v, hv⟩ := k.hp
  exact ⟨⟨v ++ u, by rw [hv, hu, List.append_assoc]⟩, Nat.le_trans h.nx k.nx, fun d x hd hx => h.env d x hd (k.env d x hd hx)⟩
theorem ExtS.weaken {W V : List Nat} {a b : Sx L} (h : ExtS W a b) (k : ∀ d ∈ W, d ∈ V) : ExtS V a b := ⟨h.hp, h.nx, fun d x hd hx => h.env d x (fun hw => hd (k d hw)) hx⟩

theorem look_keepE {env : List (Nat × X L)} {live : List Nat} {d : Nat} {x : X L} (h : look (keepE env live) d = some x) : look env d = some x := by
  induction live with
  | nil => simp [keepE, look] at h
  | cons k r ih =>
    simp only [keepE] at h
    split at h
    · rename_i y hy
      rw [look_cons] at h
      split at h
      · rename_i hk; subst hk; cases h; exact hy
      · exact ih h
    · exact ih h

theorem look_putE {env : List (Nat × X L)} {o : Option Tmp} {y : X L} {d : Nat} {x : X L} (h : look (putE env o y) d = some x) (hd : o ≠ some d) : look env d = some x := by
  cases o with
  | none => exact h
  | some k =>
    simp only [putE] at h
    rw [look_cons] at h
    split at h
    · rename_i hk; subst hk; exact absurd rfl hd
    · exact h

variable [LI L]

/-- a value that says less -/
def LeX (y x : X L) : Prop := (∀ (g : Gh) v, RepX g y v → RepX g x v) ∧ ∀ b ∈ idsX x, b ∈ idsX y

theorem LeX.refl (x : X L) : LeX x x := ⟨fun _ _ h => h, fun _ h => h⟩

/-- a state that says less -/
structure Wk (s r : Sx L) : Prop where
  hp : r.hp = s.hp
  nx : s.nx ≤ r.nx
  env : ∀ d x, look r.env d = some x → ∃ y, look s.env d = some y ∧ LeX y x

theorem Wk.refl (s : Sx L) : Wk s s := ⟨rfl, Nat.le_refl _, fun _ x h => ⟨x, h, .refl x⟩⟩
theorem Wk.trans {a b c : Sx L} (h : Wk a b) (k : Wk b c) : Wk a c :=
  ⟨k.hp.trans h.hp, Nat.le_trans h.nx k.nx, fun d x hx => let ⟨y, hy, l1⟩ := k.env d x hx; let ⟨z, hz, l2⟩ := h.env d y hy; ⟨z, hz, fun g v hv => l1.1 g v (l2.1 g v hv), fun b hb => l2.2 b (l1.2 b hb)⟩⟩

theorem RepE.weak {U V : Nat → Prop} {g : Gh} {e e' : List (Nat × X L)} {a : Act} (h : RepE U g e a) (hw : ∀ d x, look e' d = some x → ∃ y, look e d = some y ∧ LeX y x) (hu : ∀ b, U b → V b) : RepE V g e' a :=
  ⟨fun d x hx => let ⟨y, hy, l⟩ := hw d x hx; let ⟨v, hv, hr⟩ := h.val d y hy; ⟨v, hv, l.1 g v hr⟩, fun d x hx b hb => let ⟨y, hy, l⟩ := hw d x hx; hu b (h.ids d y hy b (l.2 b hb)), h.defers⟩

theorem intV_val {G : Fz} {x : I L} {a : IntV} {v : Value} (h : intV x = some a) (hv : RepI G x v) : v = .int a.k a.n := by
  cases hv <;> simp [intV] at h <;> subst h <;> rfl

theorem boolV_val {G : Fz} {x : I L} {a : Bool × Bool} {v : Value} (h : boolV x = some a) (hv : RepI G x v) : v = .bool a.1 := by
  cases hv <;> simp [boolV] at h <;> subst h <;> rfl

theorem RepI.ofList {G : Fz} {a l : L} {v : Value} (he : LI.els l = LI.els a) (hs : LI.sz l = LI.sz a) (h : RepI G (.fz a) v) : RepI G (.fz l) v := by
  cases h with
  | fz hn hc ha hG hx => exact .fz (by rw [he]; exact hn) hc ha (by rw [he, hs]; exact hG) (by rw [he]; exact hx)

theorem mI_rep [LLaws L] {c : Bool} {x y z : I L} (h : mI c x y = some z) {G : Fz} {v : Value} : (c = true → RepI G x v → RepI G z v) ∧ (c = false → RepI G y v → RepI G z v) := by
  unfold mI at h
  split at h
  · rename_i a b ha hb
    cases hk : keq a.k b.k with
    | false => rw [hk] at h; cases h
    | true =>
      rw [hk] at h; cases h
      have hkk : a.k = b.k := by revert hk; cases a.k <;> cases b.k <;> simp [keq]
      constructor
      · rintro rfl hv; rw [intV_val ha hv]; exact .int
      · rintro rfl hv; rw [intV_val hb hv, ← hkk]; exact .int
  · split at h
    · rename_i a b ha hb
      cases h
      constructor
      · rintro rfl hv; rw [boolV_val ha hv]; exact .bool
      · rintro rfl hv; rw [boolV_val hb hv]; exact .bool
    · split at h
      · cases h
        constructor
        · rintro rfl hv; cases hv; exact .str
        · rintro rfl hv; cases hv; exact .str
      · rename_i a b _ _
        split at h
        · rename_i l hl
          cases h
          obtain ⟨h1, h2⟩ := LLaws.mrg _ _ _ _ hl
          constructor
          · rintro rfl hv; exact hv.ofList h1 h2
          · rintro rfl hv; exact hv.ofList h1 h2
        · cases h
      · cases h

theorem mX_rep [LLaws L] {c : Bool} {x y z : X L} (h : mX c x y = some z) : (c = true → LeX x z) ∧ (c = false → LeX y z) := by
  unfold mX at h
  split at h
  · split at h
    · rename_i hz
      cases h
      exact ⟨fun hc => ⟨fun g v hv => (mI_rep hz).1 hc hv, by simp [idsX, idsS, cellsOf, idsC]⟩, fun hc => ⟨fun g v hv => (mI_rep hz).2 hc hv, by simp [idsX, idsS, cellsOf, idsC]⟩⟩
    · cases h
  · rename_i a b a' b'
    cases hk : (Nat.beq a a' && Nat.beq b b') with
    | false => rw [hk] at h; cases h
    | true =>
      rw [hk] at h; cases h
      simp only [Bool.and_eq_true, Nat.beq_eq] at hk
      obtain ⟨rfl, rfl⟩ := hk
      exact ⟨fun _ => .refl _, fun _ => .refl _⟩
  · cases h

theorem mEnv_rep [LLaws L] {c : Bool} {W : List Nat} {e1 e2 e0 : List (Nat × X L)} (h1 : ∀ d x, d ∉ W → look e1 d = some x → look e0 d = some x) (h2 : ∀ d x, d ∉ W → look e2 d = some x → look e0 d = some x) :
    ∀ {live : List Nat} {m : List (Nat × X L)}, mEnv c W e1 e2 live = some m →
      (∀ d x, look m d = some x → (c = true → ∃ y, look e1 d = some y ∧ LeX y x) ∧ (c = false → ∃ y, look e2 d = some y ∧ LeX y x) ∧ (d ∉ W → look e0 d = some x))
  | [], m, h, d, x, hx => by simp [mEnv] at h; subst h; simp [look] at hx
  | k :: r, m, h, d, x, hx => by
    simp only [mEnv] at h
    split at h
    · rename_i m' hm'
      split at h
      · rename_i x1 x2 hx1 hx2
        cases hw : mem k W with
        | true =>
          rw [hw] at h
          simp only [cond_true] at h
          split at h
          · rename_i z hz
            cases h
            rw [look_cons] at hx
            split at hx
            · rename_i hk; subst hk; cases hx
              exact ⟨fun hc => ⟨x1, hx1, (mX_rep hz).1 hc⟩, fun hc => ⟨x2, hx2, (mX_rep hz).2 hc⟩, fun hd => absurd (mem_iff.1 hw) hd⟩
            · exact mEnv_rep h1 h2 hm' d x hx
          · cases h
        | false =>
          rw [hw] at h
          cases h
          rw [look_cons] at hx
          split at hx
          · rename_i hk; subst hk; cases hx
            have hd : k ∉ W := fun hm => by rw [mem_iff.2 hm] at hw; cases hw
            have e1' := h1 k _ hd hx1
            have e2' := h2 k _ hd hx2
            rw [e1'] at e2'; cases e2'
            exact ⟨fun _ => ⟨_, hx1, .refl _⟩, fun _ => ⟨_, hx2, .refl _⟩, fun _ => e1'⟩
          · exact mEnv_rep h1 h2 hm' d x hx
      · cases h; exact mEnv_rep h1 h2 hm' d x hx
    · cases h

/-- Two ways that meet: what each of them keeps, the meeting keeps. -/
theorem mrg_all [LLaws L] {live W : List Nat} {hl : Nat} {c : Bool} {A Bo : Out L (Sx L)} {s0 : Sx L} (hA : A.allR (ExtS W s0)) (hB : Bo.allR (ExtS W s0)) : (mrg live W hl c A Bo).allR (ExtS W s0) := by
  unfold mrg
  split
  · rename_i s t
    cases hk : (Nat.beq s.hp.length hl && Nat.beq t.hp.length hl) with
    | false => exact ⟨hA, hB⟩
    | true =>
      simp only [cond_true]
      split
      · rename_i m hm
        have hA : ExtS W s0 s := hA
        have hB : ExtS W s0 t := hB
        exact ⟨hA.hp, Nat.le_trans hA.nx (Nat.le_max_left _ _), fun d x hd hx => (mEnv_rep hA.env hB.env hm d x hx).2.2 hd⟩
      · exact ⟨hA, hB⟩
  · exact ⟨hA, hB⟩

theorem mrg_holds [LLaws L] {oD : OrcD L} {live W : List Nat} {c : Bool} {A Bo : Out L (Sx L)} {s0 : Sx L} {h0 : Hp L} (h00 : ∃ u, s0.hp = u ++ h0) (hA : A.allR (ExtS W s0)) (hB : Bo.allR (ExtS W s0)) {Q : Sx L → Prop}
    (h : (mrg live W h0.length c A Bo).holds oD Q) : (c = true ∧ A.holds oD fun s => ∃ r, Q r ∧ Wk s r) ∨ (c = false ∧ Bo.holds oD fun s => ∃ r, Q r ∧ Wk s r) := by
  have plain : ∀ {A Bo : Out L (Sx L)}, (Out.br c A Bo).holds oD Q → (c = true ∧ A.holds oD fun s => ∃ r, Q r ∧ Wk s r) ∨ (c = false ∧ Bo.holds oD fun s => ∃ r, Q r ∧ Wk s r) := by
    intro A Bo h
    exact h.imp (fun x => ⟨x.1, Out.holds_mono x.2 fun r hr => ⟨r, hr, .refl r⟩⟩) (fun x => ⟨x.1, Out.holds_mono x.2 fun r hr => ⟨r, hr, .refl r⟩⟩)
  unfold mrg at h
  split at h
  · rename_i s t
    cases hk : (Nat.beq s.hp.length h0.length && Nat.beq t.hp.length h0.length) with
    | false => rw [hk] at h; exact plain h
    | true =>
      rw [hk] at h
      simp only [cond_true] at h
      split at h
      · rename_i m hm
        have hA : ExtS W s0 s := hA
        have hB : ExtS W s0 t := hB
        simp only [Bool.and_eq_true, Nat.beq_eq] at hk
        have same : ∀ r : Sx L, ExtS W s0 r → r.hp.length = h0.length → r.hp = h0 := by
          intro r hr hlen
          obtain ⟨u, hu⟩ := hr.hp
          obtain ⟨u0, hu0⟩ := h00
          rw [hu, hu0] at hlen ⊢
          simp only [List.length_append] at hlen
          have e1 : u = [] := List.eq_nil_of_length_eq_zero (by omega)
          have e2 : u0 = [] := List.eq_nil_of_length_eq_zero (by omega)
          rw [e1, e2]; rfl
        have e1 := same s hA hk.1
        have e2 := same t hB hk.2
        have h : Q { env := m, hp := s.hp, nx := Nat.max s.nx t.nx } := h
        cases c with
        | true => exact .inl ⟨rfl, _, h, rfl, Nat.le_max_left _ _, fun d x hx => (mEnv_rep hA.env hB.env hm d x hx).1 rfl⟩
        | false => exact .inr ⟨rfl, _, h, by rw [e1, e2], Nat.le_max_right _ _, fun d x hx => (mEnv_rep hA.env hB.env hm d x hx).2.1 rfl⟩
      · exact plain h
  · exact plain h

end Go.Ev

/- A state in its plain form. -/
namespace Go.Ev
open Go.RowKit
variable {L : Type} [LI L]

/-- A state made plain: the world is the same. -/
structure Pre (V : Nat → Prop) (g : Gh) (B : Nat) (h : Hp L) (nx : Nat) (w : World) (h' : Hp L) (n' : Nat) (g' : Gh) : Prop where
  rep : RepH (Gr V nx n') g' B h' w
  tr : Tr V g h w g' h' w
  le : nx ≤ n'
  ext : ∃ u, h' = u ++ h

section
variable {V : Nat → Prop} {g g1 g2 : Gh} {B : Nat} {h h1 h2 : Hp L} {nx n1 n2 : Nat} {w : World}

theorem Pre.refl (hr : RepH V g B h w) : Pre V g B h nx w h nx g := ⟨hr.weaken fun _ => Gr.of, .refl _ _ _ _, Nat.le_refl _, [], rfl⟩

theorem Pre.trans (a : Pre V g B h nx w h1 n1 g1) (b : Pre (Gr V nx n1) g1 B h1 n1 w h2 n2 g2) : Pre V g B h nx w h2 n2 g2 := by
  obtain ⟨u, hu⟩ := a.ext
  obtain ⟨v, hv⟩ := b.ext
  exact ⟨b.rep.weaken (Gr.trans a.le b.le), a.tr.trans b.tr fun _ => Gr.of, Nat.le_trans a.le b.le, v ++ u, by rw [hv, hu, List.append_assoc]⟩

/-- the same variable, read otherwise -/
theorem RepH.revar {U : Nat → Prop} (hr : RepH U g B h w) {b : Nat} {cs cs' : List (C L)} {t : TypeId} (hb : look h b = some (.var cs t)) (hc : ∀ vs, All2 (RepC g) cs vs → All2 (RepC g) cs' vs) (hi : ∀ d ∈ cs'.flatMap idsC, U d) : RepH U g B ((b, .var cs' t) :: h) w := by
  have cls : ∀ c en, look ((b, .var cs' t) :: h) c = some en → (c = b ∧ en = .var cs' t) ∨ (c ≠ b ∧ look h c = some en) := by
    intro c en hc
    rw [look_cons] at hc
    split at hc
    · rename_i he; cases hc; exact .inl ⟨he.symm, rfl⟩
    · rename_i he; exact .inr ⟨fun h => he h.symm, hc⟩
  have own : ∀ c en, look ((b, .var cs' t) :: h) c = some en → Owns g c en → ∃ e', look h c = some e' ∧ Owns g c e' := by
    intro c en hc' ho
    rcases cls c en hc' with ⟨rfl, rfl⟩ | ⟨_, h1⟩
    · exact ⟨_, hb, trivial⟩
    · exact ⟨en, h1, ho⟩
  refine ⟨hr.fz, ?_, ?_, ?_, ?_, ?_, ?_, hr.base⟩
  · intro c en hc'
    rcases cls c en hc' with ⟨rfl, rfl⟩ | ⟨_, h1⟩
    · obtain ⟨vs, h2, h3, h4⟩ := hr.ent _ _ hb
      exact ⟨vs, h2, hc vs h3, h4⟩
    · exact hr.ent c en h1
  · intro c en hc'
    rcases cls c en hc' with ⟨rfl, rfl⟩ | ⟨_, h1⟩
    · exact ⟨(hr.ids _ _ hb).1, hi⟩
    · exact hr.ids c en h1
  · intro c c' e e' h1 h2 o1 o2 hne
    obtain ⟨e1, a1, b1⟩ := own c e h1 o1
    obtain ⟨e2, a2, b2⟩ := own c' e' h2 o2
    exact hr.dis c c' e1 e2 a1 a2 b1 b2 hne
  · intro c e h1 o1
    obtain ⟨e1, a1, b1⟩ := own c e h1 o1
    exact hr.own c e1 a1 b1
  · intro c e h1 o1 o v hv
    rcases cls c e h1 with ⟨rfl, rfl⟩ | ⟨_, h2⟩
    · obtain ⟨t', l, he, _⟩ := hr.free _ _ hb trivial o v hv
      cases he
    · exact hr.free c e h2 o1 o v hv
  · intro c b0 k h1
    rcases cls c _ h1 with ⟨_, he⟩ | ⟨_, h2⟩
    · cases he
    · exact hr.pre c b0 k h2

theorem Pre.revar (hr : RepH V g B h w) {b : Nat} {cs cs' : List (C L)} {t : TypeId} (hb : look h b = some (.var cs t)) (hc : ∀ vs, All2 (RepC g) cs vs → All2 (RepC g) cs' vs) (hi : ∀ d ∈ cs'.flatMap idsC, V d) : Pre V g B h nx w ((b, .var cs' t) :: h) nx g := by
  refine ⟨(hr.revar hb hc hi).weaken fun _ => Gr.of, ⟨.refl _ _, fun _ _ _ hz => .inl hz, ?_, .refl w, fun _ _ _ => rfl⟩, Nat.le_refl _, [_], rfl⟩
  intro c e h1 o1
  rw [look_cons] at h1
  split at h1
  · rename_i he; subst he; exact .inl ⟨b, _, hb, trivial, rfl⟩
  · exact .inl ⟨c, e, h1, o1, rfl⟩

/-- an array of no elements, for a nil slice -/
theorem Pre.addNil [LLaws L] (hV : ∀ b, V b → b < nx) (hr : RepH V g B h w) {e : TypeId} {l : L} (hl : LI.mkL e [] = some l) : ∃ g', Pre V g B h nx w ((nx, .arr e l) :: h) (nx + 1) g' ∧ g'.v nx = .slice none 0 0 := by
  have hels := nil_els hl
  have hf : ¬ V nx := fun hv => Nat.lt_irrefl _ (hV _ hv)
  have hk : ∀ c en, look h c = some en → Owns g c en → g.blk c ≠ w.heap.size := fun c en hc ho => Nat.ne_of_lt (hr.lt_size hc ho)
  have hG : ∀ o v, g.G w.heap.size o = some v → False := fun o v hv => Nat.lt_irrefl _ (cell_lt (hr.fz _ o v hv))
  have hrow : w.ownsRow B e (LI.sz l) (.slice none 0 0) (LI.els l).length [] := ⟨by simp [hels], .inl ⟨rfl, by simp [hels]⟩⟩
  have h1 := RepH.addRow (w' := w) (s := (none, 0, 0)) (xs := []) hr hf (k := w.heap.size) hr.base hk hG (fun _ _ _ _ => rfl) (Nat.le_refl _) hrow (by rw [hels]; exact .nil) (fun j hj => by cases hj)
  have hle := Gh.withRow_le (g := g) (k := w.heap.size) (s := (none, 0, 0)) hf
  refine ⟨g.withRow nx w.heap.size (none, 0, 0), ⟨h1.weaken ?_, ⟨hle, fun _ _ _ hz => .inl hz, ?_, .refl w, fun _ _ _ => rfl⟩, Nat.le_succ _, [_], rfl⟩, by simp [Gh.v, Gh.withRow]⟩
  · rintro b (hb | rfl)
    · exact .inl hb
    · exact .inr ⟨Nat.le_refl _, Nat.lt_succ_self _⟩
  · intro b en hb ho
    rw [look_cons] at hb
    split at hb
    · rename_i he; subst he; exact .inr (by simp [Gh.withRow])
    · have hU := (hr.ids b en hb).1
      exact .inl ⟨b, en, hb, (Owns.congr hle hU).1 ho, (hle.blk b hU).symm⟩

theorem All2.set {α β : Type} {R : α → β → Prop} {as : List α} {bs : List β} (h : All2 R as bs) {i : Nat} {x : α} (hx : ∀ b, bs[i]? = some b → R x b) : All2 R (as.set i x) bs := by
  induction h generalizing i with
  | nil => exact .nil
  | cons a t ih =>
    cases i with
    | zero => exact .cons (hx _ rfl) t
    | succ i => exact .cons a (ih fun b hb => hx b (by simpa using hb))

theorem prom1_sound [LLaws L] (hV : ∀ b, V b → b < nx) (hr : RepH V g B h w) (b off : Nat) (e : TypeId) : ∃ g', Pre V g B h nx w (prom1 b off e (h, nx)).1 (prom1 b off e (h, nx)).2 g' := by
  have same : ∃ g', Pre V g B h nx w h nx g' := ⟨g, .refl hr⟩
  unfold prom1
  simp only []
  split
  · rename_i cs t hb
    split
    · rename_i c hc
      cases hn : isNil c with
      | false => exact same
      | true =>
        simp only [cond_true]
        split
        · rename_i l hl
          have hcn := isNil_eq hn
          obtain ⟨g1, hp, hv⟩ := Pre.addNil hV hr hl
          have hb1 : look ((nx, En.arr e l) :: h) b = some (.var cs t) := by
            rw [look_cons, if_neg]
            · exact hb
            · intro he; have := hV b (hr.ids b _ hb).1; omega
          rw [nth_eq] at hc
          have hids := (hp.rep.ids b _ hb1).2
          refine ⟨g1, hp.trans (Pre.revar (cs' := cs.set off (.ar nx)) hp.rep hb1 ?_ ?_)⟩
          · intro vs hvs
            refine hvs.set fun u hu => ?_
            obtain ⟨u', hu', hR⟩ := hvs.get hc
            rw [hu] at hu'; cases hu'
            rw [hcn] at hR
            simp only [RepC] at hR ⊢
            cases hR
            exact hv.symm
          · intro d hd
            rw [List.mem_flatMap] at hd
            obtain ⟨c', hc', hd⟩ := hd
            rcases List.mem_or_eq_of_mem_set hc' with h1 | h1
            · exact hids d (by simp only [idsEn, List.mem_flatMap]; exact ⟨c', h1, hd⟩)
            · subst h1; simp [idsC] at hd; subst hd
              exact .inr ⟨Nat.le_refl _, Nat.lt_succ_self _⟩
        · exact same
    · exact same
  · exact same

theorem promL_sound [LLaws L] (b : Nat) : ∀ (r : List (Nat × TypeId)) {V : Nat → Prop} {g : Gh} {h : Hp L} {nx : Nat}, (∀ b, V b → b < nx) → RepH V g B h w → ∃ g', Pre V g B h nx w (promL b r (h, nx)).1 (promL b r (h, nx)).2 g'
  | [], _, g, _, _, _, hr => ⟨g, .refl hr⟩
  | (off, e) :: r, V, g, h, nx, hV, hr => by
    obtain ⟨g1, h1⟩ := prom1_sound hV hr b off e
    obtain ⟨g2, h2⟩ := promL_sound b r (Gr.lt hV h1.le) h1.rep
    exact ⟨g2, h1.trans h2⟩

theorem normI_rep {G : Fz} {x : I L} {v : Value} (h : RepI G x v) : RepI G (normI x) v := by
  cases x with
  | lit k n => cases h; exact .int
  | tt => cases h; exact .bool
  | ff => cases h; exact .bool
  | _ => exact h

theorem normC_rep {x : C L} {v : Value} (h : RepC g x v) : RepC g (normC x) v := by
  cases x <;> first | exact normI_rep h | exact h

omit [LI L] in
theorem normC_ids (x : C L) : idsC (normC x) = idsC x := by cases x <;> rfl

theorem normV_sound (hr : RepH V g B h w) (b : Nat) : Pre V g B h nx w (normV b h) nx g := by
  unfold normV
  split
  · rename_i cs t hb
    refine Pre.revar hr hb ?_ ?_
    · intro vs hvs
      clear hb
      induction hvs with
      | nil => exact .nil
      | cons a _ ih => exact .cons (normC_rep a) ih
    · intro d hd
      simp only [List.mem_flatMap, List.mem_map] at hd
      obtain ⟨c, ⟨c', hc', rfl⟩, hd⟩ := hd
      rw [normC_ids] at hd
      exact (hr.ids b _ hb).2 d (by simp only [idsEn, List.mem_flatMap]; exact ⟨c', hc', hd⟩)
  · exact .refl hr

theorem promR_sound [LLaws L] (sl : Sl) : ∀ (r : List Nat) {V : Nat → Prop} {g : Gh} {h : Hp L} {nx : Nat}, (∀ b, V b → b < nx) → RepH V g B h w → ∃ g', Pre V g B h nx w (promR sl r (h, nx)).1 (promR sl r (h, nx)).2 g'
  | [], _, g, _, _, _, hr => ⟨g, .refl hr⟩
  | b :: r, V, g, h, nx, hV, hr => by
    simp only [promR]
    split
    · rename_i cs t hb
      obtain ⟨g1, h1⟩ := promL_sound b (sl t) hV hr
      have h2 := normV_sound (nx := (promL b (sl t) (h, nx)).2) h1.rep b
      have h12 := h1.trans h2
      obtain ⟨g3, h3⟩ := promR_sound sl r (Gr.lt hV h12.le) h12.rep
      exact ⟨g3, h12.trans h3⟩
    · exact promR_sound sl r hV hr

/-- values made plain -/
def XLe (g g' : Gh) (V' : Nat → Prop) (x x' : X L) : Prop := (∀ v, RepX g x v → RepX g' x' v) ∧ ∀ b ∈ idsX x', V' b

theorem fixC_le [LLaws L] (sl : List (Nat × TypeId)) (off : Nat) (c : C L) : (∀ v, RepC g c v → RepC g (fixC sl off c) v) ∧ ∀ b ∈ idsC (fixC sl off c), b ∈ idsC c := by
  unfold fixC
  cases hn : isNil c with
  | false => exact ⟨fun v h => normC_rep h, fun b hb => by simp only [cond_false] at hb; rw [normC_ids] at hb; exact hb⟩
  | true =>
    simp only [cond_true]
    split
    · split
      · rename_i e he l hl
        rw [isNil_eq hn]
        refine ⟨fun v h => ?_, by simp [idsC]⟩
        simp only [RepC] at h ⊢
        cases h
        have hels := nil_els hl
        exact .fz (k := 0) (o := 0) (vals := fun _ _ => undef) (by rw [hels]; rfl) (Nat.le_refl _) (fun h => absurd h (Nat.lt_irrefl _)) (fun i j cs x h => by rw [hels] at h; simp at h) (fun i j cs x h => by rw [hels] at h; simp at h)
      · exact ⟨fun _ h => h, fun _ h => h⟩
    · exact ⟨fun _ h => h, fun _ h => h⟩

theorem fixCs_le [LLaws L] (sl : List (Nat × TypeId)) : ∀ (cs : List (C L)) (off : Nat), (∀ vs, All2 (RepC g) cs vs → All2 (RepC g) (fixCs sl off cs) vs) ∧ ∀ b ∈ (fixCs sl off cs).flatMap idsC, b ∈ cs.flatMap idsC
  | [], _ => ⟨fun _ h => h, fun _ h => h⟩
  | c :: r, off => by
    obtain ⟨h1, h2⟩ := fixC_le (g := g) sl off c
    obtain ⟨h3, h4⟩ := fixCs_le sl r (off + 1)
    refine ⟨fun vs h => ?_, fun b hb => ?_⟩
    · cases h with | cons a t => exact .cons (h1 _ a) (h3 _ t)
    · simp only [fixCs, List.flatMap_cons, List.mem_append] at hb ⊢
      exact hb.imp (h2 b) (h4 b)

theorem fixS_le [LLaws L] (sl : List (Nat × TypeId)) (s : S L) : (∀ v, RepS g s v → RepS g (fixS sl s) v) ∧ ∀ b ∈ idsS (fixS sl s), b ∈ idsS s := by
  cases s with
  | c x =>
    obtain ⟨h1, h2⟩ := fixC_le (g := g) sl 0 x
    exact ⟨h1, by simpa [idsS, cellsOf, fixS] using h2⟩
  | agg cs =>
    obtain ⟨h1, h2⟩ := fixCs_le (g := g) sl cs 0
    exact ⟨fun v h => by obtain ⟨vs, hv, hc⟩ := h; exact ⟨vs, hv, h1 vs hc⟩, by simpa [idsS, cellsOf, fixS] using h2⟩

theorem fixSs_le [LLaws L] (sl : Sl) : ∀ (ts : List TypeId) (l : List (S L)), (∀ vs, All2 (RepS g) l vs → All2 (RepS g) (fixSs sl ts l) vs) ∧ ∀ b ∈ (fixSs sl ts l).flatMap idsS, b ∈ l.flatMap idsS
  | [], l => ⟨fun _ h => by simpa [fixSs] using h, fun _ h => by simpa [fixSs] using h⟩
  | t :: ts, [] => ⟨fun _ h => h, fun _ h => h⟩
  | t :: ts, s :: r => by
    obtain ⟨h1, h2⟩ := fixS_le (g := g) (sl t) s
    obtain ⟨h3, h4⟩ := fixSs_le sl ts r
    refine ⟨fun vs h => ?_, fun b hb => ?_⟩
    · cases h with | cons a t => exact .cons (h1 _ a) (h3 _ t)
    · simp only [fixSs, List.flatMap_cons, List.mem_append] at hb ⊢
      exact hb.imp (h2 b) (h4 b)

theorem fixX_le [LLaws L] (sl : Sl) (ts : List TypeId) (x : X L) : (∀ v, RepX g x v → RepX g (fixX sl ts x) v) ∧ ∀ b ∈ idsX (fixX sl ts x), b ∈ idsX x := by
  cases x with
  | s s =>
    cases ts with
    | nil => exact ⟨fun _ h => h, fun _ h => h⟩
    | cons t ts => exact fixS_le (g := g) (sl t) s
  | tup l =>
    obtain ⟨h1, h2⟩ := fixSs_le (g := g) sl ts l
    exact ⟨fun v h => by obtain ⟨vs, hv, hc⟩ := h; exact ⟨vs, hv, h1 vs hc⟩, h2⟩

/-- lists of values, each made plain -/
inductive XsLe (g g' : Gh) (V' : Nat → Prop) : List (X L) → List (X L) → Prop
  | nil : XsLe g g' V' [] []
  | cons {x x' r r'} (h : XLe g g' V' x x') (t : XsLe g g' V' r r') : XsLe g g' V' (x :: r) (x' :: r')

theorem XsLe.of_le {V' : Nat → Prop} {g' : Gh} (hg : GhLe V g g') (hV' : ∀ b, V b → V' b) : ∀ {xs : List (X L)}, (∀ x ∈ xs, ∀ b ∈ idsX x, V b) → XsLe g g' V' xs xs
  | [], _ => .nil
  | x :: r, h => .cons ⟨fun _ hv => RepX.mono hg (h x (by simp)) hv, fun b hb => hV' b (h x (by simp) b hb)⟩ (XsLe.of_le hg hV' fun y hy => h y (by simp [hy]))

theorem XsLe.trans {V1 V2 : Nat → Prop} (hg : GhLe V1 g1 g2) (hV : ∀ b, V1 b → V2 b) {xs ys : List (X L)} (h : XsLe g g1 V1 xs ys) : XsLe g g2 V2 xs ys := by
  induction h with
  | nil => exact .nil
  | cons a _ ih => exact .cons ⟨fun v hv => RepX.mono hg a.2 (a.1 v hv), fun b hb => hV b (a.2 b hb)⟩ ih

theorem XsLe.fix [LLaws L] {V1 : Nat → Prop} (sl : Sl) {xs ys : List (X L)} (h : XsLe g g1 V1 xs ys) : ∀ ts : List TypeId, XsLe g g1 V1 xs (fixXs sl ts ys) := by
  induction h with
  | nil => intro ts; cases ts <;> exact .nil
  | cons a t ih =>
    intro ts
    cases ts with
    | nil => exact .cons a t
    | cons t0 ts =>
      have := fun x : X L => fixX_le (g := g1) sl [t0] x
      exact .cons ⟨fun v hv => (this _).1 v (a.1 v hv), fun b hb => a.2 b ((this _).2 b hb)⟩ (ih ts)

theorem promX_sound [LLaws L] : ∀ (ts : List (Option TypeId)) (xs : List (X L)) {V : Nat → Prop} {g : Gh} {h : Hp L} {nx : Nat}, (∀ b, V b → b < nx) → RepH V g B h w → (∀ x ∈ xs, ∀ b ∈ idsX x, V b) →
    ∃ g', Pre V g B h nx w (promX ts xs (h, nx)).2.1 (promX ts xs (h, nx)).2.2 g' ∧ XsLe g g' (Gr V nx (promX ts xs (h, nx)).2.2) xs (promX ts xs (h, nx)).1
  | [], xs, V, g, h, nx, hV, hr, hi => by
    simp only [promX]
    exact ⟨g, .refl hr, XsLe.of_le (.refl _ _) (fun _ => Gr.of) hi⟩
  | some e :: ts, [], V, g, h, nx, hV, hr, hi => by simp only [promX]; exact ⟨g, .refl hr, .nil⟩
  | none :: ts, [], V, g, h, nx, hV, hr, hi => by simp only [promX]; exact ⟨g, .refl hr, .nil⟩
  | none :: ts, x :: r, V, g, h, nx, hV, hr, hi => by
    obtain ⟨g1, h1, h2⟩ := promX_sound ts r hV hr fun y hy => hi y (by simp [hy])
    exact ⟨g1, h1, .cons ⟨fun v hv => RepX.mono h1.tr.le (hi x (by simp)) hv, fun b hb => .inl (hi x (by simp) b hb)⟩ h2⟩
  | some e :: ts, x :: r, V, g, h, nx, hV, hr, hi => by
    have keep : ∃ g', Pre V g B h nx w (promX ts r (h, nx)).2.1 (promX ts r (h, nx)).2.2 g' ∧ XsLe g g' (Gr V nx (promX ts r (h, nx)).2.2) (x :: r) (x :: (promX ts r (h, nx)).1) := by
      obtain ⟨g1, h1, h2⟩ := promX_sound ts r hV hr fun y hy => hi y (by simp [hy])
      exact ⟨g1, h1, .cons ⟨fun v hv => RepX.mono h1.tr.le (hi x (by simp)) hv, fun b hb => .inl (hi x (by simp) b hb)⟩ h2⟩
    simp only [promX]
    split
    · rename_i c hc
      cases hn : isNil c with
      | false => exact keep
      | true =>
        simp only [cond_true]
        split
        · rename_i l hl
          obtain ⟨g1, hp, hv⟩ := Pre.addNil hV hr hl
          obtain ⟨g2, h1, h2⟩ := promX_sound ts r (V := Gr V nx (nx + 1)) (g := g1) (h := (nx, .arr e l) :: h) (nx := nx + 1) (Gr.lt hV (Nat.le_succ _)) hp.rep fun y hy b hb => .inl (hi y (by simp [hy]) b hb)
          refine ⟨g2, hp.trans h1, .cons ⟨fun v hx => ?_, fun b hb => ?_⟩ ?_⟩
          · have hr1 := cOf_rep hx hc
            rw [isNil_eq hn] at hr1
            simp only [RepC] at hr1
            cases hr1
            have : RepX g1 (.s (.c (.ar nx)) : X L) (.slice none 0 0) := by simp only [RepX, RepS, RepC]; exact hv.symm
            exact RepX.mono h1.tr.le (fun b hb => by simp [idsX, idsS, cellsOf, idsC] at hb; subst hb; exact .inr ⟨Nat.le_refl _, Nat.lt_succ_self _⟩) this
          · simp [idsX, idsS, cellsOf, idsC] at hb; subst hb
            exact .inr ⟨Nat.le_refl _, Nat.lt_of_lt_of_le (Nat.lt_succ_self _) h1.le⟩
          · have hmono : XsLe g g2 (Gr V nx (promX ts r ((nx, .arr e l) :: h, nx + 1)).2.2) r (promX ts r ((nx, .arr e l) :: h, nx + 1)).1 := by
              have aux : ∀ {xs ys : List (X L)}, (∀ x ∈ xs, ∀ b ∈ idsX x, V b) → XsLe g1 g2 (Gr (Gr V nx (nx + 1)) (nx + 1) (promX ts r ((nx, .arr e l) :: h, nx + 1)).2.2) xs ys → XsLe g g2 (Gr V nx (promX ts r ((nx, .arr e l) :: h, nx + 1)).2.2) xs ys := by
                intro xs ys hxs hle
                induction hle with
                | nil => exact .nil
                | cons a t ih => exact .cons ⟨fun v hv => a.1 v (RepX.mono hp.tr.le (hxs _ (by simp)) hv), fun b hb => Gr.trans (Nat.le_succ _) h1.le b (a.2 b hb)⟩ (ih fun y hy => hxs y (by simp [hy]))
              exact aux (fun y hy => hi y (by simp [hy])) h2
            exact hmono
        · exact keep
    · exact keep

theorem Pre.freeze [LLaws L] (hr : RepH V g B h w) {u : Hp L} (hf : Frz h u) : ∃ G1, Pre V g B h nx w (u ++ h) nx { g with G := G1 } := by
  obtain ⟨G1, h1, h2, h3⟩ := hr.freezeL u hf
  refine ⟨G1, h2.weaken fun _ => Gr.of, ⟨⟨fun _ _ => rfl, fun _ _ => rfl, h1⟩, fun k o z hz => ?_, fun b e hb ho => ?_, .refl w, fun _ _ _ => rfl⟩, Nat.le_refl _, u, rfl⟩
  · rcases h3 k o z hz with h4 | h4
    · exact .inl h4
    · exact .inr (.inl h4)
  · rcases hf.at_ hb with h4 | ⟨e', l, h4, he⟩
    · refine .inl ⟨b, e, h4, ?_, rfl⟩
      cases e <;> exact ho
    · subst he
      exact .inl ⟨b, _, h4, ho.2, rfl⟩

theorem pur1_sound [LLaws L] (sl : Sl) (hV : ∀ b, V b → b < nx) (hr : RepH V g B h w) (b off : Nat) : ∃ g', Pre V g B h nx w (pur1 sl b off h) nx g' := by
  have same : ∃ g', Pre V g B h nx w h nx g' := ⟨g, .refl hr⟩
  unfold pur1
  split
  · rename_i cs t hb
    split
    · rename_i c hc
      split
      · rename_i x u ht
        have hf := toI_frz ht
        obtain ⟨G1, hp⟩ := Pre.freeze (nx := nx) hr hf
        have hb1 : look (u ++ h) b = some (.var cs t) := by
          rw [look_append]
          cases hu : look u b with
          | none => exact hb
          | some e =>
            obtain ⟨e', l, h1, h2, _⟩ := hf.look_of (look_mem hu)
            rw [hb] at h1; cases h1
        rw [nth_eq] at hc
        have hids := (hp.rep.ids b _ hb1).2
        refine ⟨_, hp.trans (Pre.revar (cs' := cs.set off (fixC (sl t) off (.im x))) hp.rep hb1 ?_ ?_)⟩
        · intro vs hvs
          refine hvs.set fun v hv => ?_
          obtain ⟨v', hv', hR⟩ := hvs.get hc
          rw [hv] at hv'; cases hv'
          have hI : RepI G1 x v := toI_rep (g := { g with G := G1 }) ht hf (fun _ h => h) hp.rep hR
          exact (fixC_le (g := { g with G := G1 }) (sl t) off (.im x)).1 v hI
        · intro d hd
          rw [List.mem_flatMap] at hd
          obtain ⟨c', hc', hd⟩ := hd
          rcases List.mem_or_eq_of_mem_set hc' with h1 | h1
          · exact hids d (by simp only [idsEn, List.mem_flatMap]; exact ⟨c', h1, hd⟩)
          · subst h1
            have := (fixC_le (g := g) (sl t) off (.im x)).2 d hd
            simp [idsC] at this
      · exact same
    · exact same
  · exact same

theorem purL_sound [LLaws L] (sl : Sl) (b : Nat) : ∀ (r : List Nat) {V : Nat → Prop} {g : Gh} {h : Hp L} {nx : Nat}, (∀ b, V b → b < nx) → RepH V g B h w → ∃ g', Pre V g B h nx w (purL sl b r h) nx g'
  | [], _, g, _, _, _, hr => ⟨g, .refl hr⟩
  | off :: r, V, g, h, nx, hV, hr => by
    obtain ⟨g1, h1⟩ := pur1_sound sl hV hr b off
    obtain ⟨g2, h2⟩ := purL_sound sl b r (Gr.lt hV h1.le) h1.rep
    exact ⟨g2, h1.trans h2⟩

theorem purR_sound [LLaws L] (sl : Sl) (pv : List (Nat × List Nat)) : ∀ (r : List Nat) {V : Nat → Prop} {g : Gh} {h : Hp L} {nx : Nat}, (∀ b, V b → b < nx) → RepH V g B h w → ∃ g', Pre V g B h nx w (purR sl pv r h) nx g'
  | [], _, g, _, _, _, hr => ⟨g, .refl hr⟩
  | b :: r, V, g, h, nx, hV, hr => by
    simp only [purR]
    split
    · split
      · rename_i offs _
        obtain ⟨g1, h1⟩ := purL_sound sl b offs hV hr
        obtain ⟨g2, h2⟩ := purR_sound sl pv r (Gr.lt hV h1.le) h1.rep
        exact ⟨g2, h1.trans h2⟩
      · exact purR_sound sl pv r hV hr
    · exact purR_sound sl pv r hV hr

theorem RepS.g0_any {G : Fz} {s : S L} {v : Value} (hi : idsS s = []) (ht : (cellsOf s).all (fun c => match c with | .im _ => true | _ => false) = true) {g : Gh} (hG : g.G = G) (h : RepS (g0 G) s v) : RepS g s v := by
  have key : ∀ {c : C L} {v : Value}, (match c with | .im _ => true | _ => false) = true → RepC (g0 G) c v → RepC g c v := by
    intro c v hc hR
    cases c with
    | im x => simp only [RepC] at hR ⊢; rw [hG]; exact hR
    | _ => simp at hc
  cases s with
  | c x => exact key (by simpa [cellsOf] using ht) h
  | agg cs =>
    obtain ⟨vs, hv, hc⟩ := h
    refine ⟨vs, hv, hc.mono fun c v hm hR => key ?_ hR⟩
    exact List.all_eq_true.1 (by simpa [cellsOf] using ht) c hm

omit [LI L] in
theorem ims_all (ys : List (I L)) : (ims ys).all (fun c => match c with | .im _ => true | _ => false) = true := by simp [ims]

theorem purS_im {s s' : S L} {u : Hp L} (hp : purS h s = some (s', u)) : idsS s' = [] ∧ (cellsOf s').all (fun c => match c with | .im _ => true | _ => false) = true := by
  unfold purS at hp
  split at hp
  · split at hp
    · cases hp; exact ⟨by simp [idsS, cellsOf, idsC], by simp [cellsOf]⟩
    · cases hp
  · split at hp
    · rename_i ys u' _
      cases hp
      refine ⟨?_, ims_all ys⟩
      simp [idsS, cellsOf, ims, idsC, List.flatMap_map]
    · cases hp

theorem purAll_im : ∀ {xs : List (X L)} {ss : List (S L)} {u : Hp L}, purAll h xs = some (ss, u) → ∀ s ∈ ss, idsS s = [] ∧ (cellsOf s).all (fun c => match c with | .im _ => true | _ => false) = true
  | [], ss, u, hp => by simp [purAll] at hp; obtain ⟨rfl, _⟩ := hp; simp
  | .s x :: r, ss, u, hp => by
    simp only [purAll] at hp
    split at hp
    · rename_i h1 h2
      cases hp
      intro s hs
      rcases List.mem_cons.1 hs with rfl | hs
      · exact purS_im h1
      · exact purAll_im h2 s hs
    · cases hp
  | .tup _ :: r, ss, u, hp => by simp [purAll] at hp

theorem xs_rep {g : Gh} {l : List (S L)} {vs : List Value} (h : All2 (RepS g) l vs) : All2 (RepX g) (l.map .s) vs := by
  induction h with
  | nil => exact .nil
  | cons a _ ih => exact .cons a ih

theorem purX_sound [LLaws L] (hr : RepH V g B h w) (x : X L) (hi : ∀ b ∈ idsX x, V b) : ∃ g', Pre V g B h nx w (purX x h).2 nx g' ∧ XLe g g' (Gr V nx nx) x (purX x h).1 := by
  have same : ∀ y : X L, (∀ b ∈ idsX y, V b) → ∃ g', Pre V g B h nx w h nx g' ∧ XLe g g' (Gr V nx nx) y y := fun y hy => ⟨g, .refl hr, fun _ h => h, fun b hb => .inl (hy b hb)⟩
  unfold purX
  split
  · rename_i s
    split
    · rename_i y u hp
      have hf := purS_frz hp
      obtain ⟨G1, hpre⟩ := Pre.freeze (nx := nx) hr hf
      obtain ⟨i1, i2⟩ := purS_im hp
      refine ⟨_, hpre, fun v hv => ?_, fun b hb => ?_⟩
      · have h1 : RepS { g with G := G1 } s v := RepS.mono (U := fun _ => True) (g := g) (g' := { g with G := G1 }) ⟨fun _ _ => rfl, fun _ _ => rfl, hpre.tr.le.G⟩ (fun _ _ => trivial) hv
        have h2 := purS_rep (g := { g with G := G1 }) hp hf (fun _ h => h) hpre.rep h1
        exact RepS.g0_any (G := G1) i1 i2 rfl h2
      · simp only [idsX] at hb; rw [i1] at hb; simp at hb
    · exact same _ hi
  · rename_i l
    split
    · rename_i ys u hp
      have hf := purAll_frz hp
      obtain ⟨G1, hpre⟩ := Pre.freeze (nx := nx) hr hf
      have him := purAll_im hp
      refine ⟨_, hpre, fun v hv => ?_, fun b hb => ?_⟩
      · obtain ⟨vs, rfl, hvs⟩ := hv
        have h1 : All2 (RepS { g with G := G1 }) l vs := hvs.mono fun s v _ hR => RepS.mono (U := fun _ => True) (g := g) (g' := { g with G := G1 }) ⟨fun _ _ => rfl, fun _ _ => rfl, hpre.tr.le.G⟩ (fun _ _ => trivial) hR
        have h2 := purAll_rep (g := { g with G := G1 }) hf hpre.rep hp (fun _ h => h) (xs_rep h1)
        exact ⟨vs, rfl, h2.mono fun s v hs hR => RepS.g0_any (G := G1) (him s hs).1 (him s hs).2 rfl hR⟩
      · simp only [idsX, List.mem_flatMap] at hb
        obtain ⟨s, hs, hb⟩ := hb
        rw [(him s hs).1] at hb; simp at hb
    · exact same _ hi

theorem XsLe.pre {V0 V1 : Nat → Prop} {gA gB gC : Gh} {xs ys : List (X L)} (hg : GhLe V0 gA gB) (hi : ∀ x ∈ xs, ∀ b ∈ idsX x, V0 b) (h : XsLe gB gC V1 xs ys) : XsLe gA gC V1 xs ys := by
  induction h with
  | nil => exact .nil
  | cons a t ih => exact .cons ⟨fun v hv => a.1 v (RepX.mono hg (hi _ (by simp)) hv), a.2⟩ (ih fun y hy => hi y (by simp [hy]))

theorem XsLe.comp {V1 V2 : Nat → Prop} {gA gB gC : Gh} {xs ys zs : List (X L)} (h : XsLe gA gB V1 xs ys) (k : XsLe gB gC V2 ys zs) : XsLe gA gC V2 xs zs := by
  induction h generalizing zs with
  | nil => cases k; exact .nil
  | cons a t ih => cases k with | cons b s => exact .cons ⟨fun v hv => b.1 v (a.1 v hv), b.2⟩ (ih s)

theorem XsLe.idsR {V1 : Nat → Prop} {gA gB : Gh} {xs ys : List (X L)} (h : XsLe gA gB V1 xs ys) : ∀ y ∈ ys, ∀ b ∈ idsX y, V1 b := by
  induction h with
  | nil => simp
  | cons a t ih =>
    intro y hy
    rcases List.mem_cons.1 hy with rfl | hy
    · exact a.2
    · exact ih y hy

theorem purXs_sound [LLaws L] : ∀ (ps : List Bool) (xs : List (X L)) {V : Nat → Prop} {g : Gh} {h : Hp L} {nx : Nat}, (∀ b, V b → b < nx) → RepH V g B h w → (∀ x ∈ xs, ∀ b ∈ idsX x, V b) →
    ∃ g', Pre V g B h nx w (purXs ps xs h).2 nx g' ∧ XsLe g g' (Gr V nx nx) xs (purXs ps xs h).1
  | [], xs, V, g, h, nx, hV, hr, hi => by
    cases xs <;> simp only [purXs] <;> exact ⟨g, .refl hr, XsLe.of_le (.refl _ _) (fun _ => Gr.of) hi⟩
  | b :: ps, [], V, g, h, nx, hV, hr, hi => by cases b <;> simp only [purXs] <;> exact ⟨g, .refl hr, .nil⟩
  | false :: ps, x :: r, V, g, h, nx, hV, hr, hi => by
    obtain ⟨g1, h1, h2⟩ := purXs_sound ps r hV hr fun y hy => hi y (by simp [hy])
    simp only [purXs]
    exact ⟨g1, h1, .cons ⟨fun v hv => RepX.mono h1.tr.le (hi x (by simp)) hv, fun b hb => .inl (hi x (by simp) b hb)⟩ h2⟩
  | true :: ps, x :: r, V, g, h, nx, hV, hr, hi => by
    obtain ⟨g1, h1, h2⟩ := purX_sound (nx := nx) hr x (hi x (by simp))
    obtain ⟨g2, h3, h4⟩ := purXs_sound ps r (V := Gr V nx nx) (Gr.lt hV (Nat.le_refl _)) h1.rep fun y hy b hb => .inl (hi y (by simp [hy]) b hb)
    simp only [purXs]
    have hVV : ∀ b, Gr (Gr V nx nx) nx nx b → Gr V nx nx b := fun b hb => Gr.trans (Nat.le_refl _) (Nat.le_refl _) b hb
    refine ⟨g2, h1.trans h3, .cons ⟨fun v hv => RepX.mono h3.tr.le h2.2 (h2.1 v hv), h2.2⟩ ?_⟩
    have h5 := XsLe.pre h1.tr.le (fun y hy => hi y (by simp [hy])) h4
    exact XsLe.trans (V1 := Gr (Gr V nx nx) nx nx) (.refl _ _) hVV h5

theorem prep_sound [LLaws L] (sl : Sl) (sh : Sh) (kp : List Nat) {xs : List (X L)} (hV : ∀ b, V b → b < nx) (hr : RepH V g B h w) (hi : ∀ x ∈ xs, ∀ b ∈ idsX x, V b) :
    ∃ g', Pre V g B h nx w (prep sl sh kp xs h nx).2.1 (prep sl sh kp xs h nx).2.2 g' ∧ XsLe g g' (Gr V nx (prep sl sh kp xs h nx).2.2) xs (prep sl sh kp xs h nx).1 := by
  obtain ⟨g0, h0, h0'⟩ := purXs_sound sh.ps xs hV hr hi
  show ∃ g', Pre V g B h nx w (promR sl (travX (promX sh.pa (purXs sh.ps xs h).1 ((purXs sh.ps xs h).2, nx)).2.1 (promX sh.pa (purXs sh.ps xs h).1 ((purXs sh.ps xs h).2, nx)).1 kp) (purR sl sh.pv (travX (promX sh.pa (purXs sh.ps xs h).1 ((purXs sh.ps xs h).2, nx)).2.1 (promX sh.pa (purXs sh.ps xs h).1 ((purXs sh.ps xs h).2, nx)).1 kp) (promX sh.pa (purXs sh.ps xs h).1 ((purXs sh.ps xs h).2, nx)).2.1, (promX sh.pa (purXs sh.ps xs h).1 ((purXs sh.ps xs h).2, nx)).2.2)).1
    (promR sl (travX (promX sh.pa (purXs sh.ps xs h).1 ((purXs sh.ps xs h).2, nx)).2.1 (promX sh.pa (purXs sh.ps xs h).1 ((purXs sh.ps xs h).2, nx)).1 kp) (purR sl sh.pv (travX (promX sh.pa (purXs sh.ps xs h).1 ((purXs sh.ps xs h).2, nx)).2.1 (promX sh.pa (purXs sh.ps xs h).1 ((purXs sh.ps xs h).2, nx)).1 kp) (promX sh.pa (purXs sh.ps xs h).1 ((purXs sh.ps xs h).2, nx)).2.1, (promX sh.pa (purXs sh.ps xs h).1 ((purXs sh.ps xs h).2, nx)).2.2)).2 g' ∧
    XsLe g g' (Gr V nx (promR sl (travX (promX sh.pa (purXs sh.ps xs h).1 ((purXs sh.ps xs h).2, nx)).2.1 (promX sh.pa (purXs sh.ps xs h).1 ((purXs sh.ps xs h).2, nx)).1 kp) (purR sl sh.pv (travX (promX sh.pa (purXs sh.ps xs h).1 ((purXs sh.ps xs h).2, nx)).2.1 (promX sh.pa (purXs sh.ps xs h).1 ((purXs sh.ps xs h).2, nx)).1 kp) (promX sh.pa (purXs sh.ps xs h).1 ((purXs sh.ps xs h).2, nx)).2.1, (promX sh.pa (purXs sh.ps xs h).1 ((purXs sh.ps xs h).2, nx)).2.2)).2) xs (fixXs sl sh.ts (promX sh.pa (purXs sh.ps xs h).1 ((purXs sh.ps xs h).2, nx)).1)
  generalize (purXs sh.ps xs h).1 = xs1 at *
  generalize (purXs sh.ps xs h).2 = hh1 at *
  have hi1 : ∀ x ∈ xs1, ∀ b ∈ idsX x, Gr V nx nx b := h0'.idsR
  obtain ⟨g1, h1, h2⟩ := promX_sound sh.pa xs1 (Gr.lt hV (Nat.le_refl _)) h0.rep hi1
  generalize (promX sh.pa xs1 (hh1, nx)).1 = ys at *
  generalize (promX sh.pa xs1 (hh1, nx)).2.1 = hh2 at *
  generalize (promX sh.pa xs1 (hh1, nx)).2.2 = n2 at *
  have h01 := h0.trans h1
  obtain ⟨g2, h3⟩ := purR_sound sl sh.pv (travX hh2 ys kp) (Gr.lt hV h01.le) h01.rep
  have h02 := h01.trans h3
  obtain ⟨g3, h4⟩ := promR_sound sl (travX hh2 ys kp) (Gr.lt hV h02.le) h02.rep
  refine ⟨g3, h02.trans h4, ?_⟩
  have k1 : XsLe g g1 (Gr (Gr V nx nx) nx n2) xs ys := h0'.comp h2
  have k2 : XsLe g g1 (Gr V nx n2) xs ys := XsLe.trans (V1 := Gr (Gr V nx nx) nx n2) (.refl _ _) (fun b hb => Gr.trans (Nat.le_refl _) h1.le b hb) k1
  have k3 : XsLe g g2 (Gr V nx n2) xs ys := XsLe.trans h3.tr.le (fun _ h => h) k2
  exact (XsLe.trans h4.tr.le (fun b hb => Gr.more h4.le b hb) k3).fix sl sh.ts

theorem Pre.kill1 (hr : RepH V g B h w) {b : Nat} {e : En L} (hb : look h b = some e) : Pre V g B h nx w ((b, .dead) :: h) nx g := by
  have cls : ∀ c en, look ((b, En.dead) :: h) c = some en → look h c = some en ∨ (en = .dead ∧ ∃ e', look h c = some e') := by
    intro c en hc
    rw [look_cons] at hc
    split at hc
    · rename_i he; cases hc; subst he; exact .inr ⟨rfl, e, hb⟩
    · exact .inl hc
  refine ⟨(hr.kill cls).weaken fun _ => Gr.of, ⟨.refl _ _, fun _ _ _ hz => .inl hz, ?_, .refl w, fun _ _ _ => rfl⟩, Nat.le_refl _, [_], rfl⟩
  intro c en hc ho
  rcases cls c en hc with h1 | ⟨rfl, _⟩
  · exact .inl ⟨c, en, h1, ho, rfl⟩
  · exact ho.elim

theorem bury_sound : ∀ (r : List Nat) {V : Nat → Prop} {h : Hp L} {nx : Nat}, (∀ b, V b → b < nx) → RepH V g B h w → Pre V g B h nx w (bury r h) nx g
  | [], _, _, _, _, hr => .refl hr
  | b :: r, V, h, nx, hV, hr => by
    simp only [bury]
    split
    · rename_i e hb
      cases isArr e with
      | false => exact bury_sound r hV hr
      | true =>
        have h1 := Pre.kill1 (nx := nx) hr hb
        exact h1.trans (bury_sound r (Gr.lt hV h1.le) h1.rep)
    · exact bury_sound r hV hr

theorem ref1_sound [LLaws L] (hV : ∀ b, V b → b < nx) (hr : RepH V g B h w) (b off : Nat) : ∃ g', Pre V g B h nx w (ref1 b off (h, nx)).1 (ref1 b off (h, nx)).2 g' := by
  have same : ∃ g', Pre V g B h nx w h nx g' := ⟨g, .refl hr⟩
  unfold ref1
  simp only []
  split
  · rename_i cs t hb
    split
    · rename_i a hc
      split
      · rename_i e l ha
        have hVa := (hr.ids a _ ha).1
        have hf : ¬ V nx := fun hv => Nat.lt_irrefl _ (hV _ hv)
        have hkill := (Pre.kill1 (nx := nx) hr ha).rep.weaken (V := V) fun b hb => hb.elim id fun h => absurd h.1 (Nat.not_le_of_lt h.2)
        obtain ⟨xs, hrow, hxs, hbk⟩ := hr.ent a _ ha
        have hbne : b ≠ a := by intro he; subst he; rw [hb] at ha; cases ha
        obtain ⟨k, hk1, hk2, hk3, hk4⟩ : ∃ k, B ≤ k ∧ (∀ c en, look ((a, En.dead) :: h) c = some en → Owns g c en → g.blk c ≠ k) ∧ (∀ o v, g.G k o = some v → False) ∧ (∀ j, (Value.slice (g.sv a).1 (g.sv a).2.1 (g.sv a).2.2).ownBlock = some j → j = k) := by
          cases ho : (g.v a).ownBlock with
          | none =>
            refine ⟨w.heap.size, hr.base, fun c en hc hO => ?_, fun o v hv => Nat.lt_irrefl _ (cell_lt (hr.fz _ o v hv)), fun j hj => ?_⟩
            · exact Nat.ne_of_lt (hkill.lt_size hc hO)
            · rw [show (Value.slice (g.sv a).1 (g.sv a).2.1 (g.sv a).2.2) = g.v a from rfl, ho] at hj; cases hj
          | some j0 =>
            have hO : Owns g a (.arr e l : En L) := by simp [Owns, ho]
            refine ⟨g.blk a, hr.own a _ ha hO, fun c en hc hO' he => ?_, fun o v hv => ?_, fun j hj => hbk j hj⟩
            · rw [look_cons] at hc
              split at hc
              · cases hc; exact hO'
              · rename_i hne
                exact hr.dis c a en _ hc ha hO' hO (fun h => hne h.symm) he
            · obtain ⟨t', l', he, _⟩ := hr.free a _ ha hO o v hv
              cases he
        have h1 := RepH.addRow (w' := w) (s := g.sv a) (xs := xs) hkill hf (k := k) hk1 hk2 hk3 (fun _ _ _ _ => rfl) (Nat.le_refl _) hrow hxs hk4
        have hle := Gh.withRow_le (g := g) (k := k) (s := g.sv a) hf
        have hpre : Pre V g B h nx w ((nx, .arr e l) :: (a, .dead) :: h) (nx + 1) (g.withRow nx k (g.sv a)) := by
          refine ⟨h1.weaken ?_, ⟨hle, fun _ _ _ hz => .inl hz, ?_, .refl w, fun _ _ _ => rfl⟩, Nat.le_succ _, [_, _], rfl⟩
          · rintro b (hb | rfl)
            · exact .inl hb
            · exact .inr ⟨Nat.le_refl _, Nat.lt_succ_self _⟩
          · intro c en hc hO
            rw [look_cons] at hc
            split at hc
            · rename_i he; subst he; cases hc
              have hv : (g.withRow nx k (g.sv a)).v nx = g.v a := by simp [Gh.v, Gh.withRow]
              have hO2 : Owns g a (.arr e l : En L) := by simp only [Owns] at hO ⊢; rw [hv] at hO; exact hO
              refine .inl ⟨a, _, ha, hO2, ?_⟩
              simp only [Gh.withRow, if_true]
              simp only [Owns] at hO2
              cases ho : (g.v a).ownBlock with
              | none => exact absurd ho hO2
              | some j => rw [← hbk j ho, hk4 j ho]
            · rw [look_cons] at hc
              split at hc
              · cases hc; exact hO.elim
              · have hU := (hr.ids c en hc).1
                exact .inl ⟨c, en, hc, (Owns.congr hle hU).1 hO, (hle.blk c hU).symm⟩
        have hb1 : look ((nx, En.arr e l) :: (a, .dead) :: h) b = some (.var cs t) := by
          rw [look_cons, if_neg, look_cons, if_neg (fun h => hbne h.symm)]
          · exact hb
          · intro he; have := hV b (hr.ids b _ hb).1; omega
        rw [nth_eq] at hc
        have hids := (hpre.rep.ids b _ hb1).2
        refine ⟨_, hpre.trans (Pre.revar (cs' := cs.set off (.ar nx)) hpre.rep hb1 ?_ ?_)⟩
        · intro vs hvs
          refine hvs.set fun u hu => ?_
          obtain ⟨u', hu', hR⟩ := hvs.get hc
          rw [hu] at hu'; cases hu'
          simp only [RepC] at hR ⊢
          rw [hR]
          simp only [Gh.v, Gh.withRow, if_true]
          rw [if_neg (by intro he; subst he; exact hf hVa)]
        · intro d hd
          rw [List.mem_flatMap] at hd
          obtain ⟨c', hc', hd⟩ := hd
          rcases List.mem_or_eq_of_mem_set hc' with h1 | h1
          · exact hids d (by simp only [idsEn, List.mem_flatMap]; exact ⟨c', h1, hd⟩)
          · subst h1; simp [idsC] at hd; subst hd
            exact .inr ⟨Nat.le_refl _, Nat.lt_succ_self _⟩
      · exact same
    · exact same
  · exact same

theorem refL_sound [LLaws L] (b : Nat) : ∀ (r : List Nat) {V : Nat → Prop} {g : Gh} {h : Hp L} {nx : Nat}, (∀ b, V b → b < nx) → RepH V g B h w → ∃ g', Pre V g B h nx w (refL b r (h, nx)).1 (refL b r (h, nx)).2 g'
  | [], _, g, _, _, _, hr => ⟨g, .refl hr⟩
  | off :: r, V, g, h, nx, hV, hr => by
    obtain ⟨g1, h1⟩ := ref1_sound hV hr b off
    obtain ⟨g2, h2⟩ := refL_sound b r (Gr.lt hV h1.le) h1.rep
    exact ⟨g2, h1.trans h2⟩

theorem refR_sound [LLaws L] (rf : List (Nat × List Nat)) : ∀ (r : List Nat) {V : Nat → Prop} {g : Gh} {h : Hp L} {nx : Nat}, (∀ b, V b → b < nx) → RepH V g B h w → ∃ g', Pre V g B h nx w (refR rf r (h, nx)).1 (refR rf r (h, nx)).2 g'
  | [], _, g, _, _, _, hr => ⟨g, .refl hr⟩
  | b :: r, V, g, h, nx, hV, hr => by
    simp only [refR]
    split
    · split
      · rename_i offs _
        obtain ⟨g1, h1⟩ := refL_sound b offs hV hr
        obtain ⟨g2, h2⟩ := refR_sound rf r (Gr.lt hV h1.le) h1.rep
        exact ⟨g2, h1.trans h2⟩
      · exact refR_sound rf r hV hr
    · exact refR_sound rf r hV hr

theorem prepR_sound [LLaws L] (sl : Sl) (sh : Sh) (kp : List Nat) {x : X L} (hV : ∀ b, V b → b < nx) (hr : RepH V g B h w) (hi : ∀ b ∈ idsX x, V b) :
    ∃ g', Pre V g B h nx w (prepR sl sh kp x h nx).2.1 (prepR sl sh kp x h nx).2.2 g' ∧ XLe g g' (Gr V nx (prepR sl sh kp x h nx).2.2) x (prepR sl sh kp x h nx).1 := by
  have h0 : ∃ g', Pre V g B h nx w (cond (isT sh.ps) (purX x h) (x, h)).2 nx g' ∧ XLe g g' (Gr V nx nx) x (cond (isT sh.ps) (purX x h) (x, h)).1 := by
    cases isT sh.ps with
    | true => exact purX_sound hr x hi
    | false => exact ⟨g, .refl hr, fun _ h => h, fun b hb => .inl (hi b hb)⟩
  obtain ⟨g1, h1, h2⟩ := h0
  unfold prepR
  generalize cond (isT sh.ps) (purX x h) (x, h) = p at *
  obtain ⟨x1, hh1⟩ := p
  simp only at h1 h2 ⊢
  obtain ⟨g2, h3⟩ := purR_sound sl sh.pv (travX hh1 [x1] kp) (Gr.lt hV (Nat.le_refl _)) h1.rep
  have h02 := h1.trans h3
  obtain ⟨g3, h4⟩ := refR_sound sh.rf (travX hh1 [x1] kp) (Gr.lt hV h02.le) h02.rep
  have h03 := h02.trans h4
  generalize hq : refR sh.rf (travX hh1 [x1] kp) (purR sl sh.pv (travX hh1 [x1] kp) hh1, nx) = q at *
  obtain ⟨hh2, n2⟩ := q
  simp only at h4 h03 ⊢
  have h04 : Pre V g B h nx w (cond sh.bu (bury kp hh2) hh2) n2 g3 := by
    cases sh.bu with
    | false => exact h03
    | true => exact h03.trans (bury_sound kp (Gr.lt hV h03.le) h03.rep)
  obtain ⟨g4, h5⟩ := promR_sound sl (travX hh1 [x1] kp) (Gr.lt hV h04.le) h04.rep
  refine ⟨g4, h04.trans h5, fun v hv => ?_, fun b hb => ?_⟩
  · have k1 := h2.1 v hv
    have k2 : RepX g3 x1 v := RepX.mono h4.tr.le h2.2 (RepX.mono h3.tr.le h2.2 k1)
    have k3 : RepX g4 x1 v := RepX.mono h5.tr.le (fun b hb => Gr.more h4.le b (h2.2 b hb)) k2
    exact (fixX_le sl sh.ts x1).1 v k3
  · exact Gr.more h5.le b (Gr.more h4.le b (h2.2 b ((fixX_le (g := g) sl sh.ts x1).2 b hb)))

omit [LI L] in
theorem prom1_ext [LI L] (b off : Nat) (e : TypeId) (s : Hp L × Nat) : (∃ u, (prom1 b off e s).1 = u ++ s.1) ∧ s.2 ≤ (prom1 b off e s).2 := by
  have same : (∃ u, s.1 = u ++ s.1) ∧ s.2 ≤ s.2 := ⟨⟨[], rfl⟩, Nat.le_refl _⟩
  unfold prom1
  split
  · split
    · rename_i c hc
      cases isNil c with
      | false => exact same
      | true =>
        simp only [cond_true]
        split
        · exact ⟨⟨[_, _], rfl⟩, Nat.le_succ _⟩
        · exact same
    · exact same
  · exact same

theorem promL_ext (b : Nat) : ∀ (r : List (Nat × TypeId)) (s : Hp L × Nat), (∃ u, (promL b r s).1 = u ++ s.1) ∧ s.2 ≤ (promL b r s).2
  | [], s => ⟨⟨[], rfl⟩, Nat.le_refl _⟩
  | (off, e) :: r, s => by
    obtain ⟨⟨u, hu⟩, h1⟩ := prom1_ext b off e s
    obtain ⟨⟨v, hv⟩, h2⟩ := promL_ext b r (prom1 b off e s)
    exact ⟨⟨v ++ u, by simp only [promL]; rw [hv, hu, List.append_assoc]⟩, Nat.le_trans h1 h2⟩

theorem promR_ext (sl : Sl) : ∀ (r : List Nat) (s : Hp L × Nat), (∃ u, (promR sl r s).1 = u ++ s.1) ∧ s.2 ≤ (promR sl r s).2
  | [], s => ⟨⟨[], rfl⟩, Nat.le_refl _⟩
  | b :: r, s => by
    simp only [promR]
    split
    · rename_i cs t hb
      obtain ⟨⟨u, hu⟩, h1⟩ := promL_ext b (sl t) s
      have hn : ∃ u', normV b (promL b (sl t) s).1 = u' ++ (promL b (sl t) s).1 := by
        unfold normV
        split
        · exact ⟨[_], rfl⟩
        · exact ⟨[], rfl⟩
      obtain ⟨u', hu'⟩ := hn
      obtain ⟨⟨v, hv⟩, h2⟩ := promR_ext sl r (normV b (promL b (sl t) s).1, (promL b (sl t) s).2)
      exact ⟨⟨v ++ (u' ++ u), by rw [hv]; simp only []; rw [hu', hu]; simp⟩, Nat.le_trans h1 h2⟩
    · exact promR_ext sl r s

theorem promX_ext : ∀ (ts : List (Option TypeId)) (xs : List (X L)) (s : Hp L × Nat), (∃ u, (promX ts xs s).2.1 = u ++ s.1) ∧ s.2 ≤ (promX ts xs s).2.2
  | [], xs, s => by simp only [promX]; exact ⟨⟨[], rfl⟩, Nat.le_refl _⟩
  | some e :: ts, [], s => by simp only [promX]; exact ⟨⟨[], rfl⟩, Nat.le_refl _⟩
  | none :: ts, [], s => by simp only [promX]; exact ⟨⟨[], rfl⟩, Nat.le_refl _⟩
  | none :: ts, x :: r, s => promX_ext ts r s
  | some e :: ts, x :: r, s => by
    simp only [promX]
    split
    · rename_i c hc
      cases isNil c with
      | false => exact promX_ext ts r s
      | true =>
        simp only [cond_true]
        split
        · rename_i l hl
          obtain ⟨⟨u, hu⟩, h1⟩ := promX_ext ts r ((s.2, .arr e l) :: s.1, s.2 + 1)
          exact ⟨⟨u ++ [(s.2, .arr e l)], by simp only [] at hu; rw [hu]; simp⟩, Nat.le_trans (Nat.le_succ _) h1⟩
        · exact promX_ext ts r s
    · exact promX_ext ts r s

theorem pur1_ext (sl : Sl) (b off : Nat) (h : Hp L) : ∃ u, pur1 sl b off h = u ++ h := by
  have same : ∃ u, h = u ++ h := ⟨[], rfl⟩
  unfold pur1
  split
  · split
    · split
      · rename_i x u _; exact ⟨_ :: u, rfl⟩
      · exact same
    · exact same
  · exact same
theorem purL_ext (sl : Sl) (b : Nat) : ∀ (r : List Nat) (h : Hp L), ∃ u, purL sl b r h = u ++ h
  | [], h => ⟨[], rfl⟩
  | off :: r, h => by
    obtain ⟨u, hu⟩ := pur1_ext sl b off h
    obtain ⟨v, hv⟩ := purL_ext sl b r (pur1 sl b off h)
    exact ⟨v ++ u, by simp only [purL]; rw [hv, hu, List.append_assoc]⟩
theorem purR_ext (sl : Sl) (pv : List (Nat × List Nat)) : ∀ (r : List Nat) (h : Hp L), ∃ u, purR sl pv r h = u ++ h
  | [], h => ⟨[], rfl⟩
  | b :: r, h => by
    simp only [purR]
    split
    · split
      · rename_i offs _
        obtain ⟨u, hu⟩ := purL_ext sl b offs h
        obtain ⟨v, hv⟩ := purR_ext sl pv r (purL sl b offs h)
        exact ⟨v ++ u, by rw [hv, hu, List.append_assoc]⟩
      · exact purR_ext sl pv r h
    · exact purR_ext sl pv r h
theorem purX_ext (x : X L) (h : Hp L) : ∃ u, (purX x h).2 = u ++ h := by
  unfold purX
  split
  · split
    · exact ⟨_, rfl⟩
    · exact ⟨[], rfl⟩
  · split
    · exact ⟨_, rfl⟩
    · exact ⟨[], rfl⟩
theorem purXs_ext : ∀ (ps : List Bool) (xs : List (X L)) (h : Hp L), ∃ u, (purXs ps xs h).2 = u ++ h
  | [], xs, h => by cases xs <;> exact ⟨[], rfl⟩
  | b :: ps, [], h => by cases b <;> exact ⟨[], rfl⟩
  | false :: ps, x :: r, h => purXs_ext ps r h
  | true :: ps, x :: r, h => by
    obtain ⟨u, hu⟩ := purX_ext x h
    obtain ⟨v, hv⟩ := purXs_ext ps r (purX x h).2
    exact ⟨v ++ u, by simp only [purXs]; rw [hv, hu, List.append_assoc]⟩

theorem prep_ext (sl : Sl) (sh : Sh) (kp : List Nat) (xs : List (X L)) (h : Hp L) (nx : Nat) : (∃ u, (prep sl sh kp xs h nx).2.1 = u ++ h) ∧ nx ≤ (prep sl sh kp xs h nx).2.2 := by
  obtain ⟨u0, hu0⟩ := purXs_ext sh.ps xs h
  obtain ⟨⟨u, hu⟩, h1⟩ := promX_ext sh.pa (purXs sh.ps xs h).1 ((purXs sh.ps xs h).2, nx)
  obtain ⟨u1, hu1⟩ := purR_ext sl sh.pv (travX (promX sh.pa (purXs sh.ps xs h).1 ((purXs sh.ps xs h).2, nx)).2.1 (promX sh.pa (purXs sh.ps xs h).1 ((purXs sh.ps xs h).2, nx)).1 kp) (promX sh.pa (purXs sh.ps xs h).1 ((purXs sh.ps xs h).2, nx)).2.1
  obtain ⟨⟨v, hv⟩, h2⟩ := promR_ext sl (travX (promX sh.pa (purXs sh.ps xs h).1 ((purXs sh.ps xs h).2, nx)).2.1 (promX sh.pa (purXs sh.ps xs h).1 ((purXs sh.ps xs h).2, nx)).1 kp) (purR sl sh.pv (travX (promX sh.pa (purXs sh.ps xs h).1 ((purXs sh.ps xs h).2, nx)).2.1 (promX sh.pa (purXs sh.ps xs h).1 ((purXs sh.ps xs h).2, nx)).1 kp) (promX sh.pa (purXs sh.ps xs h).1 ((purXs sh.ps xs h).2, nx)).2.1, (promX sh.pa (purXs sh.ps xs h).1 ((purXs sh.ps xs h).2, nx)).2.2)
  refine ⟨⟨v ++ (u1 ++ (u ++ u0)), ?_⟩, Nat.le_trans h1 h2⟩
  show (promR sl _ _).1 = _
  rw [hv]
  simp only []
  rw [hu1, hu]
  simp only []
  rw [hu0]
  simp

end
end Go.Ev

