/- The fast evaluator of code on known values, and that it is sound: part 3. -/
import Derived.Below
import Derived.ProofKit
import Derived.OpenShut
import Derived.Lib.Join
import Derived.Test.YteglbeihabjdiaaGreatKb
namespace Go.Cx
open Go
variable {P : Program} {dm : Bool} {B : Nat}

section
variable {N : Nat} {L : List Oper} {np rd full : Nat} {cf : CallF} {E0 v : Nat → Value} {cs0 : List Frame} {gb : Gh} {Wb : W} {wb : World} {Uend : Fi}
    {listed : Array Bool} {r : List Stp} {dn dw su : Nat} {U : W} {g : Gh} {a : Act} {cs : List Frame} {w : World} {ops : Array Oper}

theorem Inv.ghost {bad : Nat} (h : Inv P dm B N L np rd full cf E0 v cs0 gb Wb wb Uend listed r dn dw su bad U g a cs w) {g' : Gh} {b : W} {w' : World} (he : Ex g U.h U.n w g' b.h b.n w') :
    ∀ j oj p k, has dn j = true → ¬ Li listed j → L[j]? = some oj → cls P oj = .al → placeOf (v j) = some p → g' p k = none := by
  intro j oj p k hj hlj hoj hc hp
  obtain ⟨_, _, _, _, p2, _, _, s3, _, s5⟩ := h.alp j oj hj hoj hc
  rw [hp] at s3; cases s3
  cases hk : g' p k with
  | none => rfl
  | some cp =>
    rcases he.dm p k cp hk with h1 | ⟨k0, cp0, h1⟩
    · omega
    · rw [h.gh j oj p k0 hj hlj hoj hc hp] at h1; cases h1

theorem Inv.old {gB : Gh} {wB : World} (hP : NoNum P) (hcf : CfOk P gB wB cf) (hB : Bs gB wB B gb Wb wb) (h : Inv P dm B N L np rd full cf E0 v cs0 gb Wb wb Uend listed r dn dw su 0 U g a cs w) (hL : L = ops.toList) {i : Nat} {o : Oper} (ho : L[i]? = some o) (hdn : has dn i = true) (hi : ¬ Li listed i)
    (hM : ∀ k, has (Mk L i) k = true → Li listed k) (rest : List Nat) (Q : Exit → Act → List Frame → World → Prop)
    (K : ∀ g' a' cs' w', Inv P dm B N L np rd full cf E0 v cs0 gb Wb wb Uend (listed.setIfInBounds i true) r dn dw su 0 U g' a' cs' w' → At P dm Q ops rest a' cs' w') : At P dm Q ops (i :: rest) a cs w := by
  have ho2 : ops[i]? = some o := by rw [← ho, hL]; simp
  have hso := h.so i o hdn ho
  have hw := h.wanted hL hM hi hso
  obtain ⟨o', ho', hR⟩ := h.rdy i hdn hi (has_zero i)
  rw [ho] at ho'; cases ho'
  rcases hR with hgd | ⟨hgd, h1, h2, hre⟩ | ⟨hgd, hc, c1, t1, e1, m1, p1, cs1, ln1, t, q1, q2, q3, q4⟩
  · refine at_not ho2 (hw.2 hgd) (K g _ cs w ?_)
    have hv : v i = undefV := h.nu i o hdn ho hgd
    exact h.done (ds' := a.defers) ho hdn hM h.ext (GLe.refl g) (by rw [hv]; exact undefV_rv) h.ds h.cs fun j oj p k hj hlj _ hoj hcj hp => h.gh j oj p k hj hlj hoj hcj hp
  · have hstep := op_step (dm := dm) (cs0 := cs0) (f := Cx.opf L E0 v (Mk L i) o) hP hcf (hB.ext h.ext) h.ds h.cs ho2 (hw.1 hgd) (h.opf hM hi hso)
    rw [re_congr (opf_eq o (Mk L i)), hre] at hstep
    refine hstep rest Q fun g' v' w' cs' ds' he hv hds hcs => K g' _ cs' w' ?_
    exact h.done ho hdn hM (h.ext.trans he) he.ex.le hv hds hcs fun j oj p k hj hlj _ hoj hcj hp => h.ghost he.ex j oj p k hj hlj hoj hcj hp
  · -- a row that is made late
    obtain ⟨mk', hmk, hrun⟩ := q1.2
    obtain ⟨cs', t', hcs, hrun⟩ := hrun g (Cx.opf L E0 v (Mk L i) o) a.eval w (opf_eq o (Mk L i)) (h.opf hM hi hso)
    obtain ⟨_, _, _, _, p2, _, _, s3, s4, s5⟩ := h.alp i o hdn ho hc
    have hp : placeOf (v i) = some p1 := by rw [q2]; exact hmk.place p1
    rw [s3] at hp
    have hp : p2 = p1 := Option.some.inj hp
    subst hp
    have hg0 : ∀ k, g p2 k = none := fun k => h.gh i o p2 k hdn hi ho hc s3
    have hrel := h.ext.rel
    have hlim := hrel.lim
    have hpos := (hrel.hdom p2 _ (by omega) q3).1
    obtain ⟨b1, b2, b3, b4, b5⟩ := hrel.obs p2 _ (by omega) q3
    have hlen : c1.length = cs1.flatten.length := by rw [q4]
    refine at_val ho2 (hw.1 hgd) hrun (K (upd g p2 0 ⟨w.heap.size, 0, 0, c1.length, e1, true, .nilIface⟩) _ cs (w.alloc (.cells cs'.toArray t')) ?_)
    have hle := upd_le (cp := ⟨w.heap.size, 0, 0, c1.length, e1, true, .nilIface⟩) (hg0 0)
    refine h.done (ds' := a.defers) ho hdn hM ⟨rel_late hrel hpos s5 hg0 (ob := .cells cs'.toArray t') rfl rfl q3 ?_, ex_late h.ext.ex s4 (hg0 0) rfl rfl rfl rfl rfl⟩ hle (by rw [q2]; exact hmk.rv (upd_same _ _ _ _)) (h.ds.mono fun _ _ x => x.mono hle) h.cs ?_
    · refine ⟨b1, b2, b3, ?_, ?_⟩
      · intro k k' x y hx hy _ _ _
        rcases upd_inv hx with ⟨_, _, rfl⟩ | hx
        · rcases upd_inv hy with ⟨_, _, rfl⟩ | hy
          · rfl
          · rw [hg0] at hy; cases hy
        · rw [hg0] at hx; cases hx
      · intro k cp hk
        rcases upd_inv hk with ⟨_, rfl, rfl⟩ | hk
        · refine ⟨Nat.le_refl _, fun _ => ⟨⟨rfl, Nat.zero_le _, by rw [q4]; exact Nat.le_refl _, rfl, fun _ => rfl, hrel.base, cs'.toArray, t', (0, 0), ?_, fun x _ hx => by omega, ?_, ?_⟩, fun _ => ?_⟩⟩
          · show (w.heap.push (.cells cs'.toArray t'))[w.heap.size]? = _
            simp
          · have := hcs.length; simp; omega
          · intro x _ hx
            have hx : x < c1.length := hx
            obtain ⟨y, y1, y2⟩ := hcs.get (List.getElem?_eq_getElem hx)
            refine ⟨c1[x], y, by rw [q4]; exact List.getElem?_eq_getElem hx, by simpa using y1, y2.mono hle⟩
          · show c1.length = ln1
            rw [hlen]; exact b2.symm
        · rw [hg0] at hk; cases hk
    · intro j oj p k hj hlj hne hoj hcj hpj
      cases hk : upd g p2 0 ⟨w.heap.size, 0, 0, c1.length, e1, true, .nilIface⟩ p k with
      | none => rfl
      | some cp =>
        rcases upd_inv hk with ⟨rfl, _, _⟩ | hk'
        · exact absurd (h.dis j i oj o p hj hdn hoj ho hcj hc hpj s3) hne
        · rw [h.gh j oj p k hj hlj hoj hcj hpj] at hk'; cases hk'

theorem Inv.writer {gB : Gh} {wB : World} {k : Nat} (hP : NoNum P) (hcf : CfOk P gB wB cf) (hB : Bs gB wB B gb Wb wb) (hnp : np = maskD (fun c => (Bool.rec (motive := fun _ => Bool) (Bool.rec (motive := fun _ => Bool) true false (isPu c)) false (isWr c) : Bool)) (dops P (masks L []) L 0))
    (h : Inv P dm B N L np rd full cf E0 v cs0 gb Wb wb Uend listed (.op k :: r) dn dw su 0 U g a cs w) (hL : L = ops.toList) {o : Oper} (ho : L[k]? = some o) (hc : cls P o = .wr)
    (hM : ∀ j, has (Mk L k) j = true → Li listed j) (rest : List Nat) (Q : Exit → Act → List Frame → World → Prop)
    (Kp : ∀ pv b g' w', Uend = .pan pv b → cellV pv = true → Kept g B U w g' b w' → Q (.panic [{ v := pv, recovered := false }]) a cs w')
    (K : ∀ g' a' cs' w' b bad', Inv P dm B N L np rd full cf E0 v cs0 gb Wb wb Uend (listed.setIfInBounds k true) r (Nat.lor dn (bit k)) (Nat.lor dw (bit k)) (Nat.lor su (Mk L k)) bad' b g' a' cs' w' → At P dm Q ops rest a' cs' w') : At P dm Q ops (k :: rest) a cs w := by
  obtain ⟨o', ho', h1, h2, h3, h4, h5, h6⟩ := h.ok.op
  rw [ho] at ho'; cases ho'
  have hok : Oks P L np rd full r (Nat.lor dn (bit k)) (Nat.lor dw (bit k)) (Nat.lor su (Mk L k)) (sub (Nat.land dn np) (Nat.lor su (Mk L k))) := by
    rcases h6 with ⟨_, _, h⟩ | ⟨h7, _⟩ | ⟨h7, _⟩
    · exact h
    · rw [hc] at h7; cases h7
    · exact absurd hc h7
  have hi : ¬ Li listed k := fun hl => by have := h.l1 k hl; rw [h1] at this; cases this
  have ho2 : ops[k]? = some o := by rw [← ho, hL]; simp
  have hks : k < listed.size := by rw [h.lsz]; exact (List.getElem?_eq_some_iff.1 ho).1
  have hso := slO_of h3
  have hw := h.wanted hL hM hi hso
  obtain ⟨o', ho', hdN, htp⟩ := h.tp
  rw [ho] at ho'; cases ho'
  have hws : ∀ d, o.dst = some d → wof L d = some k := fun d hd => onlyDst_spec h4 hd
  have next : ∀ (b : W) (g' : Gh) (v' : Value) (w' : World) (cs' : List Frame) (ds' : List Deferred), TP P L N cf E0 v r b Uend → (gdv L E0 v (Mk L k) o = .not → v k = undefV) → Ext g B U.h U.n w g' b.h b.n w' → RV g' (v k) v' → All2 (DfR g') b.ds ds' → CsR dm cs0 b.rc cs' →
      Inv P dm B N L np rd full cf E0 v cs0 gb Wb wb Uend (listed.setIfInBounds k true) r (Nat.lor dn (bit k)) (Nat.lor dw (bit k)) (Nat.lor su (Mk L k)) (sub (Nat.land dn np) (Nat.lor su (Mk L k))) b g' ({ a with defers := ds' }.put o.dst v') cs' w' := by
    intro b g' v' w' cs' ds' htp' hnu he hv hds hcs
    have hl := slots_next (fun j o' d hj => h.ws j o' d (h.l1 j hj)) h.sl1 h.sl0 he.ex.le hks ho hws (fun d hd => Nat.lt_of_lt_of_le (hdN d hd) h.size) hv ds'
    have hun : ∀ j, ¬ Li (listed.setIfInBounds k true) j → ¬ Li listed j ∧ j ≠ k := fun j hj => ⟨fun hl => hj ((li_set hks).2 (.inr hl)), fun e => hj ((li_set hks).2 (.inl e))⟩
    refine { tp := htp', ok := hok, lsz := by rw [Array.size_setIfInBounds]; exact h.lsz, l1 := ?_, l2 := ?_, l3 := ?_, l4 := ?_, l5 := ?_, dt := ?_, ws := ?_, nu := ?_, so := ?_, alp := ?_, rdy := ?_, sl1 := hl.1, sl0 := hl.2, gh := ?_, dis := ?_, ext := h.ext.trans he, size := by rw [size_put]; exact h.size, ds := ?_, cs := hcs }
    · intro j hj
      rcases (li_set hks).1 hj with rfl | hj
      · rw [has_lor, has_bit]; simp
      · exact dn_more (h.l1 j hj)
    · intro j hj
      rcases dn_cases hj with hj | rfl
      · exact (li_set hks).2 (.inr (h.l2 j hj))
      · exact (li_set hks).2 (.inl rfl)
    · intro j hj
      rw [has_lor, Bool.or_eq_true] at hj
      rcases hj with hj | hj
      · exact (li_set hks).2 (.inr (h.l3 j hj))
      · exact (li_set hks).2 (.inr (hM j hj))
    · intro j q hj hq
      rcases (li_set hks).1 hj with rfl | hj
      · exact (li_set hks).2 (.inr (hM q hq))
      · exact (li_set hks).2 (.inr (h.l4 j q hj hq))
    · intro j oj hj hoj hcj
      rcases dn_cases hj with hj | rfl
      · exact dn_more (h.l5 j oj hj hoj hcj)
      · rw [has_lor, has_bit]; simp
    · intro j oj d hj hoj hd
      rcases dn_cases hj with hj | rfl
      · exact h.dt j oj d hj hoj hd
      · rw [ho] at hoj; cases hoj; exact hdN d hd
    · intro j oj d hj hoj hd
      rcases dn_cases hj with hj | rfl
      · exact h.ws j oj d hj hoj hd
      · rw [ho] at hoj; cases hoj; exact hws d hd
    · intro j oj hj hoj hg
      rcases dn_cases hj with hj | rfl
      · exact h.nu j oj hj hoj hg
      · rw [ho] at hoj; cases hoj; exact hnu hg
    · intro j oj hj hoj
      rcases dn_cases hj with hj | rfl
      · exact h.so j oj hj hoj
      · rw [ho] at hoj; cases hoj; exact hso
    · intro j oj hj hoj hcj
      rcases dn_cases hj with hj | rfl
      · obtain ⟨c1, t1, e1, m1, p1, q1, q2, q3, q4, q5⟩ := h.alp j oj hj hoj hcj
        exact ⟨c1, t1, e1, m1, p1, q1, q2, q3, q4, Nat.lt_of_lt_of_le q5 he.ex.n⟩
      · rw [ho] at hoj; cases hoj; rw [hc] at hcj; cases hcj
    · intro j hj hlj hb
      obtain ⟨hlj, hne⟩ := hun j hlj
      have hj : has dn j = true := by
        rcases dn_cases hj with hj | rfl
        · exact hj
        · exact absurd rfl hne
      rw [has_sub, has_land, hj] at hb
      have hsu : has (Nat.lor su (Mk L k)) j = false := by
        rw [has_lor]
        cases hs : has su j with
        | true => exact absurd (h.l3 j hs) hlj
        | false =>
          cases hm : has (Mk L k) j with
          | true => exact absurd (hM j hm) hlj
          | false => rfl
      rw [hsu] at hb
      have hnpj : has np j = false := by simpa using hb
      obtain ⟨oj, hoj, hR⟩ := h.rdy j hj hlj (has_zero j)
      have hcl : cls P oj = .pu ∨ cls P oj = .wr := by
        cases hcj : cls P oj with
        | pu => exact .inl rfl
        | wr => exact .inr rfl
        | al => exfalso; rw [hnp, has_maskL hoj _ (by rw [hcj]; rfl)] at hnpj; cases hnpj
        | ld => exfalso; rw [hnp, has_maskL hoj _ (by rw [hcj]; rfl)] at hnpj; cases hnpj
        | rd => exfalso; rw [hnp, has_maskL hoj _ (by rw [hcj]; rfl)] at hnpj; cases hnpj
      have hpu : cls P oj = .pu := by
        rcases hcl with hcl | hcl
        · exact hcl
        · exact absurd (h.l2 j (h.l5 j oj hj hoj hcl)) hlj
      refine ⟨oj, hoj, ?_⟩
      rcases hR with hR | ⟨r1, r2, r3, r4⟩ | ⟨r1, r2, _⟩
      · exact .inl hR
      · refine .inr (.inl ⟨r1, r2, r3, ?_⟩)
        rcases pu_ok hpu (opv L E0 v (Mk L j)) with ⟨u, hu⟩ | hu
        · have h8 : _ = _ := hu U
          dsimp only at h8
          rw [r4] at h8; cases h8; exact hu _
        · have h8 := hu U
          dsimp only at h8
          rw [r4] at h8; exact h8.elim
      · rw [hpu] at r2; cases r2
    · intro j oj p q hj hlj hoj hcj hp
      obtain ⟨hlj, hne⟩ := hun j hlj
      rcases dn_cases hj with hj | rfl
      · exact h.ghost he.ex j oj p q hj hlj hoj hcj hp
      · exact absurd rfl hne
    · intro j j' oj oj' p hj hj' hoj hoj' hcj hcj' hp hp'
      rcases dn_cases hj with hj1 | rfl
      · rcases dn_cases hj' with hj2 | rfl
        · exact h.dis j j' oj oj' p hj1 hj2 hoj hoj' hcj hcj' hp hp'
        · rw [ho] at hoj'; cases hoj'; rw [hc] at hcj'; cases hcj'
      · rw [ho] at hoj; cases hoj; rw [hc] at hcj; cases hcj
    · cases o.dst <;> exact hds
  rcases htp with ⟨hgd, b, hfin, htp⟩ | ⟨hgd, hu, htp⟩ | ⟨hgd, _, pv, b, hfin, hF⟩
  · have hstep := op_step (dm := dm) (cs0 := cs0) (f := Cx.opf L E0 v (Mk L k) o) hP hcf (hB.ext h.ext) h.ds h.cs ho2 (hw.1 hgd) (h.opf hM hi hso)
    rw [re_congr (opf_eq o (Mk L k)), hfin] at hstep
    exact hstep rest Q fun g' v' w' cs' ds' he hv hds hcs => K g' _ cs' w' b (sub (Nat.land dn np) (Nat.lor su (Mk L k))) (next b g' v' w' cs' ds' htp (fun e => by rw [hgd] at e; cases e) he hv hds hcs)
  · refine at_not ho2 (hw.2 hgd) (K g _ cs w U (sub (Nat.land dn np) (Nat.lor su (Mk L k))) ?_)
    exact next U g undef w cs a.defers htp (fun _ => hu) (Ext.refl h.ext.rel) (by rw [hu]; exact undefV_rv) h.ds h.cs
  · have hstep := op_step (dm := dm) (cs0 := cs0) (f := Cx.opf L E0 v (Mk L k) o) hP hcf (hB.ext h.ext) h.ds h.cs ho2 (hw.1 hgd) (h.opf hM hi hso)
    rw [re_congr (opf_eq o (Mk L k)), hfin] at hstep
    exact hstep rest Q fun g' w' hv hk => Kp pv b g' w' hF hv hk

end
end Go.Cx
namespace Go.Cx
open Go
variable {P : Program} {dm : Bool} {B : Nat}

def un (l : Array Bool) : Nat := l.toList.count false

theorem count_set : ∀ (l : List Bool) (i : Nat), l[i]? = some false → (l.set i true).count false + 1 = l.count false
  | [], i, h => by simp at h
  | b :: l, 0, h => by
    have : b = false := by simpa using h
    subst this
    simp
  | b :: l, i + 1, h => by
    have ih := count_set l i (by simpa using h)
    rw [List.set_cons_succ, List.count_cons, List.count_cons]
    omega

theorem un_set {l : Array Bool} {i : Nat} (h : l[i]? = some false) : un (l.setIfInBounds i true) + 1 = un l := by
  unfold un
  rw [Array.toList_setIfInBounds]
  exact count_set _ _ (by simpa using h)

theorem elder_spec {i : Nat} {es : List Edge} (h : elder i es = true) : ∀ e ∈ es, bindsG e.ground = true → e.on < i := by
  unfold elder at h
  rw [allL_eq, List.all_eq_true] at h
  intro e he hb
  have h := h e he
  rw [if_eq, if_pos hb] at h
  exact Nat.le_of_ble_eq_true h

section
variable {N : Nat} {L : List Oper} {np rd : Nat} {cf : CallF} {E0 v : Nat → Value} {cs0 : List Frame} {gb : Gh} {Wb : W} {wb : World} {Uend : Fi} {ops : Array Oper} {Q : Exit → Act → List Frame → World → Prop}

theorem li_all {l : Array Bool} (h : ¬ ∃ i, i < l.size ∧ ¬ Li l i) : ∀ i, i < l.size → Li l i := fun i hi => Classical.byContradiction fun hn => h ⟨i, hi, hn⟩

theorem least {p : Nat → Prop} {n : Nat} (h : ∃ i, i < n ∧ p i) : ∃ i, i < n ∧ p i ∧ ∀ j, j < i → ¬ p j := by
  obtain ⟨i, hi, hp⟩ := h
  induction i using Nat.strongRecOn with
  | _ i ih =>
    by_cases hj : ∃ j, j < i ∧ p j
    · obtain ⟨j, h1, h2⟩ := hj
      exact ih j h1 (Nat.lt_trans h1 hi) h2
    · exact ⟨i, hi, hp, fun j h1 h2 => hj ⟨j, h1, h2⟩⟩

theorem draw_go {gB : Gh} {wB : World} (hP : NoNum P) (hcf : CfOk P gB wB cf) (hB : Bs gB wB B gb Wb wb) (hnp : np = maskD (fun c => (Bool.rec (motive := fun _ => Bool) (Bool.rec (motive := fun _ => Bool) true false (isPu c)) false (isWr c) : Bool)) (dops P (masks L []) L 0)) (hrd : rd = maskD isRd (dops P (masks L []) L 0)) (hL : L = ops.toList)
    (hel : ∀ i o, L[i]? = some o → elder i o.after.toList = true)
    (hQ : ∀ listed r dn dw su U g a cs w, Inv P dm B N L np rd (ones L.length) cf E0 v cs0 gb Wb wb Uend listed r dn dw su 0 U g a cs w → Head P L r → (∀ i, i < L.length → Li listed i) → Q .normal a cs w)
    (hQp : ∀ listed r dn dw su U g a cs w, Inv P dm B N L np rd (ones L.length) cf E0 v cs0 gb Wb wb Uend listed r dn dw su 0 U g a cs w → ∀ k o, L[k]? = some o → cls P o = .wr → ¬ Li listed k → ∀ pv b g' w', Uend = .pan pv b → cellV pv = true → Kept g B U w g' b w' → Q (.panic [{ v := pv, recovered := false }]) a cs w') :
    ∀ (fuel t : Nat) (listed : Array Bool) (r : List Stp) (dn dw su : Nat) (U : W) (g : Gh) (a : Act) (cs : List Frame) (w : World), Inv P dm B N L np rd (ones L.length) cf E0 v cs0 gb Wb wb Uend listed r dn dw su 0 U g a cs w → Head P L r → un listed ≤ fuel →
      At P dm Q ops (Region.linearise.go .any ops fuel t listed []) a cs w := by
  intro fuel
  induction fuel with
  | zero =>
    intro t listed r dn dw su U g a cs w h hh hu
    have hall : ∀ i, i < L.length → Li listed i := by
      intro i hi
      refine Classical.byContradiction fun hn => ?_
      have hi' : i < listed.size := by rw [h.lsz]; exact hi
      have : listed[i]? = some false := by
        unfold Li at hn
        rw [Array.getD_eq_getD_getElem?, Array.getElem?_eq_getElem hi'] at hn
        rw [Array.getElem?_eq_getElem hi']
        cases hb : listed[i] with
        | false => rfl
        | true => rw [hb] at hn; exact absurd rfl hn
      have := un_set this
      omega
    show At P dm Q ops [] a cs w
    exact at_nil (hQ listed r dn dw su U g a cs w h hh hall)
  | succ fuel ih =>
    intro t listed r dn dw su U g a cs w h hh hu
    have hsz : listed.size = ops.size := by rw [h.lsz, hL]; simp
    simp only [Region.linearise.go]
    change At P dm Q ops (match (Region.ready .any ops listed)[t % (Region.ready .any ops listed).length]? with
      | some i => Region.linearise.go .any ops fuel (t / (Region.ready .any ops listed).length) (listed.setIfInBounds i true) [i]
      | none => [].reverse) a cs w
    have hready : ∀ i, i ∈ Region.ready .any ops listed ↔ i < ops.size ∧ listed.getD i true = false ∧ ∃ o, ops[i]? = some o ∧ ∀ e ∈ o.after.toList, bindsG e.ground = true → Li listed e.on := by
      intro i
      unfold Region.ready
      rw [List.mem_filter, List.mem_range]
      constructor
      · rintro ⟨h1, h2⟩
        rw [Bool.and_eq_true] at h2
        refine ⟨h1, by simpa using h2.1, ?_⟩
        have h3 := h2.2
        rw [Array.getElem?_eq_getElem h1] at h3
        refine ⟨_, Array.getElem?_eq_getElem h1, fun e he hb => ?_⟩
        have h3 : ops[i].after.all (fun e => !Region.binds .any e || listed.getD e.on false) = true := h3
        rw [Array.all_eq_true'] at h3
        have := h3 e (by simpa using he)
        rw [bindsG_eq, hb] at this
        simpa [Li] using this
      · rintro ⟨h1, h2, o, ho, h3⟩
        refine ⟨h1, ?_⟩
        rw [Bool.and_eq_true]
        refine ⟨by simp [h2], ?_⟩
        rw [ho]
        show o.after.all (fun e => !Region.binds .any e || listed.getD e.on false) = true
        rw [Array.all_eq_true']
        intro e he
        rw [bindsG_eq]
        cases hb : bindsG e.ground with
        | false => rfl
        | true => have := h3 e (by simpa using he) hb; unfold Li at this; rw [this]; rfl
    cases hi : (Region.ready .any ops listed)[t % (Region.ready .any ops listed).length]? with
    | none =>
      have hnil : Region.ready .any ops listed = [] := by
        cases hr : Region.ready .any ops listed with
        | nil => rfl
        | cons x xs =>
          rw [hr] at hi
          have hlt : t % (x :: xs).length < (x :: xs).length := Nat.mod_lt _ (by simp)
          rw [List.getElem?_eq_getElem hlt] at hi
          cases hi
      show At P dm Q ops [] a cs w
      refine at_nil (hQ listed r dn dw su U g a cs w h hh ?_)
      rw [← h.lsz]
      refine li_all fun hex => ?_
      obtain ⟨i, hi1, hi2, hi3⟩ := least hex
      have hio : i < ops.size := by rw [← hsz]; exact hi1
      have ho : ops[i]? = some ops[i] := Array.getElem?_eq_getElem hio
      have hoL : L[i]? = some ops[i] := by rw [hL, ← ho]; simp
      have : i ∈ Region.ready .any ops listed := by
        rw [hready]
        refine ⟨hio, ?_, ops[i], ho, fun e he hb => ?_⟩
        · unfold Li at hi2
          rw [Array.getD_eq_getD_getElem?, Array.getElem?_eq_getElem hi1] at hi2 ⊢
          cases hb : listed[i] with
          | false => rfl
          | true => rw [hb] at hi2; exact absurd rfl hi2
        · have := elder_spec (hel i _ hoL) e he hb
          exact Classical.byContradiction fun hn => hi3 e.on this hn
      rw [hnil] at this; cases this
    | some i =>
      dsimp only
      rw [linearise_go_acc, List.reverse_singleton, List.singleton_append]
      have hmem := List.mem_of_getElem? hi
      obtain ⟨hio, hl0, o, ho, hedge⟩ := (hready i).1 hmem
      have hoL : L[i]? = some o := by rw [hL, ← ho]; simp
      have hil : i < listed.size := by rw [hsz]; exact hio
      have hlf : listed[i]? = some false := by
        rw [Array.getD_eq_getD_getElem?, Array.getElem?_eq_getElem hil] at hl0
        rw [Array.getElem?_eq_getElem hil]
        have : listed[i] = false := hl0
        rw [this]
      have hnl : ¬ Li listed i := by
        unfold Li
        rw [Array.getD_eq_getD_getElem?, hlf]
        simp
      have hM : ∀ k, has (Mk L i) k = true → Li listed k := by
        intro k hk
        obtain ⟨e, he, hb, h3⟩ := (Mk_spec hoL k).1 hk
        have h1 := hedge e he hb
        rcases h3 with rfl | ⟨_, h3⟩
        · exact h1
        · exact h.l4 e.on k h1 h3
      have hu' : un (listed.setIfInBounds i true) ≤ fuel := by have := un_set hlf; omega
      have hfull : has (ones L.length) i = true := by
        rw [has_ones]
        exact decide_eq_true (List.getElem?_eq_some_iff.1 hoL).1
      cases hd : has dn i with
      | true => exact h.old hP hcf hB hL hoL hd hnl hM _ Q fun g' a' cs' w' h' => ih _ _ r dn dw su U g' a' cs' w' h' hh hu'
      | false =>
        rcases hh with rfl | ⟨k, r', ok, rfl, hok, hck⟩
        · obtain ⟨rfl, _⟩ := h.ok.nil
          rw [hfull] at hd; cases hd
        · have hki : k = i := by
            refine Classical.byContradiction fun hne => ?_
            obtain ⟨o', ho', h1, h2, h3, h4, h5, h6⟩ := h.ok.op
            rw [hok] at ho'; cases ho'
            have hn' : has (Nat.lor dn (bit k)) i = false := by rw [has_lor, has_bit, hd]; simp [hne]
            rcases h6 with ⟨_, _, h6⟩ | ⟨h7, _⟩ | ⟨h7, _⟩
            · have := (oks_all h6 hoL hfull hn').2 k (by rw [has_lor, has_bit]; simp)
              have := h.l1 k (hM k this)
              rw [h1] at this; cases this
            · rw [hck] at h7; cases h7
            · exact absurd hck h7
          subst hki
          rw [hoL] at hok; cases hok
          refine h.writer hP hcf hB hnp hL hoL hck hM _ Q (fun pv b g' w' e1 e2 e3 => hQp _ _ _ _ _ _ _ _ _ _ h k o hoL hck hnl pv b g' w' e1 e2 e3) fun g' a' cs' w' b bad' h' => ?_
          obtain ⟨r2, dn2, U2, h2, hh2⟩ := Inv.advance hrd _ _ _ _ h'
          exact ih _ _ r2 dn2 _ _ U2 g' a' cs' w' h2 hh2 hu'

end
end Go.Cx
namespace Go.Cx
open Go
variable {P : Program} {dm : Bool} {B : Nat}

def Goes (P : Program) (dm : Bool) (c : Code) (Q : Exit → Act → List Frame → World → Prop) (a : Act) (cs : List Frame) (w : World) : Prop :=
  ∀ (b : Frame) (k : List Item), (dm = true → b.kind = .deferred ∧ b.roundOf = none) →
    ∃ e a' cs' w', Q e a' cs' w' ∧ Arrives P (lone (b.at a (.code c :: k)) cs w) b k cs' e a' w'

theorem Meets.intro {r : Ou} {X : Prop} (h : (∀ y, r ≠ .no y) → X) : Meets r X := by
  cases r with
  | no y => exact trivial
  | _ => exact h fun y e => by cases e
theorem Meets.elim {r : Ou} {X : Prop} (h : Meets r X) (hn : ∀ y, r ≠ .no y) : X := by
  cases r with
  | no y => exact absurd rfl (hn y)
  | _ => exact h

theorem ext_drew {g : Gh} {U : W} {w : World} (hr : Rel g B U.h U.n w) : Ext g B U.h U.n w g U.h U.n { w with drawn := w.drawn + 1 } :=
  ⟨hr.drew rfl, GLe.refl g, fun _ k cp h => .inr ⟨k, cp, h⟩, Nat.le_refl _, Nat.le_refl _, rfl, rfl, rfl, fun _ _ _ => rfl, fun i k cp hl hg _ => ⟨i, k, cp, hl, hg, rfl⟩⟩

section
variable {N xs : Nat} {cs0 : List Frame} {g0 : Gh} {W0 : W} {w0 : World} {cf : CallF}

theorem junkD_get {wm : Nat} {env : Env} {t : Nat} (ht : t < 256) : ∀ ds : List Dop, (getE t).run (junkD wm ds env) = junkV ∨ ((getE t).run (junkD wm ds env) = (getE t).run env ∧ ∀ d ∈ ds, d.o.dst = some t → sub? wm d.m = true)
  | [] => .inr ⟨rfl, fun _ h => (by cases h)⟩
  | d :: ds => by
    have ih := junkD_get (wm := wm) (env := env) ht ds
    have hw : junkD wm (d :: ds) env = (Bool.rec (motive := fun _ => Env) (Option.rec (motive := fun _ => Env) (junkD wm ds env) (fun t => (Bool.rec (motive := fun _ => Env) (junkD wm ds env) ((putE t).run junkV (junkD wm ds env)) (Nat.ble (Nat.succ t) 256) : Env)) d.o.dst : Env) (junkD wm ds env) (sub? wm d.m) : Env) := rfl
    cases hs : sub? wm d.m with
    | true =>
      rw [hs] at hw
      rw [hw]
      rcases ih with h | ⟨h1, h2⟩
      · exact .inl h
      · refine .inr ⟨h1, fun x hx hd => ?_⟩
        rcases List.mem_cons.1 hx with rfl | hx
        · exact hs
        · exact h2 x hx hd
    | false =>
      rw [hs] at hw
      cases hd : d.o.dst with
      | none =>
        rw [hd] at hw
        rw [hw]
        rcases ih with h | ⟨h1, h2⟩
        · exact .inl h
        · refine .inr ⟨h1, fun x hx hdx => ?_⟩
          rcases List.mem_cons.1 hx with rfl | hx
          · rw [hd] at hdx; cases hdx
          · exact h2 x hx hdx
      | some q =>
        rw [hd] at hw
        dsimp only at hw
        rw [if_eq] at hw
        by_cases h256 : q < 256
        · rw [if_pos (Nat.ble_eq_true_of_le h256)] at hw
          rw [hw]
          by_cases e : t = q
          · subst e
            exact .inl (get_put _ _ _)
          · rw [get_put' ht h256 e]
            rcases ih with h | ⟨h1, h2⟩
            · exact .inl h
            · refine .inr ⟨h1, fun x hx hdx => ?_⟩
              rcases List.mem_cons.1 hx with rfl | hx
              · rw [hd] at hdx; cases hdx; exact absurd rfl e
              · exact h2 x hx hdx
        · rw [if_neg (fun hb => h256 (Nat.le_of_ble_eq_true hb))] at hw
          rw [hw]
          rcases ih with h | ⟨h1, h2⟩
          · exact .inl h
          · refine .inr ⟨h1, fun x hx hdx => ?_⟩
            rcases List.mem_cons.1 hx with rfl | hx
            · rw [hd] at hdx; cases hdx; exact absurd ht h256
            · exact h2 x hx hdx

def NoPn (r : Re) : Prop := (∃ v b, r = .ok v b) ∨ ∃ y, r = no y
theorem NoPn.fin {r : Re} (h : NoPn r) {cf : CallF} {U : W} {pv : Value} {b : W} : fin cf U r ≠ .ot (.pan pv b) := by
  rcases h with ⟨v, b, rfl⟩ | ⟨y, rfl⟩ <;> intro e <;> cases e
theorem loadRe_np (n : Nat) (agg : Bool) (v : Value) (U : W) : NoPn ((loadRe n agg).run v U) := by
  obtain ⟨h, k, ds, rc⟩ := U
  cases agg with
  | true =>
    show NoPn (Option.rec (motive := fun _ => Re) (no 63) (fun a => (Option.rec (motive := fun _ => Re) (no 64) (fun cs => .ok (.agg ⟨cs⟩) ⟨h, k, ds, rc⟩) (rd h a n) : Re)) (asPtr v) : Re)
    cases asPtr v with
    | none => exact .inr ⟨_, rfl⟩
    | some a =>
      dsimp only
      cases rd h a n with
      | none => exact .inr ⟨_, rfl⟩
      | some cs => exact .inl ⟨_, _, rfl⟩
  | false =>
    show NoPn (Option.rec (motive := fun _ => Re) (no 63) (fun a => (Option.rec (motive := fun _ => Re) (no 64) (fun u => .ok u ⟨h, k, ds, rc⟩) (rd1 h a) : Re)) (asPtr v) : Re)
    cases asPtr v with
    | none => exact .inr ⟨_, rfl⟩
    | some a =>
      dsimp only
      cases rd1 h a with
      | none => exact .inr ⟨_, rfl⟩
      | some cs => exact .inl ⟨_, _, rfl⟩
theorem bytesStr_np (U : W) (v : Value) : NoPn (bytesStr U v) := by
  show NoPn (Option.rec (motive := fun _ => Re) (no 59) (fun s => (Nat.rec (motive := fun _ => Re) (.ok (.string ⟨#[]⟩) U) (fun _ _ => (Option.rec (motive := fun _ => Re) (no 59) (fun a => (Option.rec (motive := fun _ => Re) (no 60) (fun cs => (Option.rec (motive := fun _ => Re) (no 61) (fun bs => .ok (.string ⟨⟨bs⟩⟩) U) (bytesOf cs) : Re)) (rdS U.h a 1 s.n) : Re)) s.a : Re)) s.n : Re)) (asSlice v) : Re)
  cases asSlice v with
  | none => exact .inr ⟨_, rfl⟩
  | some s =>
    dsimp only
    cases s.n with
    | zero => exact .inl ⟨_, _, rfl⟩
    | succ n =>
      dsimp only
      cases s.a with
      | none => exact .inr ⟨_, rfl⟩
      | some a =>
        dsimp only
        cases rdS U.h a 1 (n + 1) with
        | none => exact .inr ⟨_, rfl⟩
        | some cs =>
          dsimp only
          cases bytesOf cs with
          | none => exact .inr ⟨_, rfl⟩
          | some bs => exact .inl ⟨_, _, rfl⟩

theorem wr_of {c : Cl} (h : isWr c = true) : c = .wr := by cases c <;> first | rfl | cases h
theorem calm_np {o : Oper} (h : calmK P o = true) : cls P o = .wr ∨ ∀ (cf : CallF) f U pv b, fin cf U ((cOp P o.op o.type).re f U) ≠ .ot (.pan pv b) := by
  unfold calmK at h
  split at h
  · rename_i t x ho
    refine .inr fun cf f U pv b => ?_
    rw [ho]
    show fin cf U (Sh.re (match ti P t with | some i => .s1 x (loadRe i.size i.agg) | none => bad 112) f U) ≠ _
    cases ti P t with
    | none => exact NoPn.fin (.inr ⟨_, rfl⟩)
    | some i => exact (loadRe_np _ _ _ _).fin
  · rename_i x ho
    refine .inr fun cf f U pv b => ?_
    rw [ho]
    exact NoPn.fin (.inl ⟨_, _, rfl⟩)
  · rename_i x ho
    refine .inr fun cf f U pv b => ?_
    rw [ho]
    exact NoPn.fin (.inl ⟨_, _, rfl⟩)
  · rename_i s d x ho
    split at h
    · rename_i e _ _ _ _ hs hd
      split at h
      · rename_i he
        refine .inr fun cf f U pv b => ?_
        rw [ho]
        show fin cf U ((cConv P s d).run (f x) U) ≠ _
        unfold cConv
        rw [hs, hd]
        dsimp only
        rw [he]
        exact (bytesStr_np _ _).fin
      · cases h
    · exact .inl (wr_of h)
  · exact .inl (wr_of h)

theorem draw_core {gB : Gh} {wB : World} (hP : NoNum P) (hcf : CfOk P gB wB cf) (hB : Bs gB wB B g0 W0 w0) (hm : P.follows .mixedOrders = true) {id : Nat} {ops : Array Oper} {env : Env} {U : W} {g : Gh} {a : Act} {cs : List Frame} {w : World} (hs : St P dm B N xs cs0 g0 W0 w0 [] env [] U g a cs w)
    {ss : List Stp} (hOk : Oks P ops.toList (maskD (fun c => (Bool.rec (motive := fun _ => Bool) (Bool.rec (motive := fun _ => Bool) true false (isPu c)) false (isWr c) : Bool)) (dops P (masks ops.toList []) ops.toList 0)) (maskD isRd (dops P (masks ops.toList []) ops.toList 0)) (ones ops.toList.length) ss 0 0 0 0)
    {v : Nat → Value} {F : Fi} (htp : TP P ops.toList N cf (fun t => slot xs [] env [] t) v ss U F) {Q : Exit → Act → List Frame → World → Prop}
    (hQ : ∀ listed r dn dw su U2 g2 a2 cs2 w2, Inv P dm B N ops.toList (maskD (fun c => (Bool.rec (motive := fun _ => Bool) (Bool.rec (motive := fun _ => Bool) true false (isPu c)) false (isWr c) : Bool)) (dops P (masks ops.toList []) ops.toList 0)) (maskD isRd (dops P (masks ops.toList []) ops.toList 0)) (ones ops.toList.length) cf (fun t => slot xs [] env [] t) v cs0 g U w F listed r dn dw su 0 U2 g2 a2 cs2 w2 → Head P ops.toList r → (∀ i, i < ops.toList.length → Li listed i) → Q .normal a2 cs2 w2)
    (hQp : ∀ listed r dn dw su U2 g2 a2 cs2 w2, Inv P dm B N ops.toList (maskD (fun c => (Bool.rec (motive := fun _ => Bool) (Bool.rec (motive := fun _ => Bool) true false (isPu c)) false (isWr c) : Bool)) (dops P (masks ops.toList []) ops.toList 0)) (maskD isRd (dops P (masks ops.toList []) ops.toList 0)) (ones ops.toList.length) cf (fun t => slot xs [] env [] t) v cs0 g U w F listed r dn dw su 0 U2 g2 a2 cs2 w2 → ∀ k o, ops.toList[k]? = some o → cls P o = .wr → ¬ Li listed k → ∀ pv b g' w', F = .pan pv b → cellV pv = true → Kept g2 B U2 w2 g' b w' → Q (.panic [{ v := pv, recovered := false }]) a2 cs2 w') :
    Goes P dm (.region id ops true) Q a cs w := by
  have hel : ∀ i o, ops.toList[i]? = some o → elder i o.after.toList = true := by
    intro i o ho
    refine (oks_all hOk ho ?_ (has_zero i)).1
    rw [has_ones]; exact decide_eq_true (List.getElem?_eq_some_iff.1 ho).1
  intro b k hb
  have hdrew := ext_drew hs.ext.rel
  have hLi0 : ∀ i, ¬ Li (Array.replicate ops.size false) i := by
    intro i hl
    unfold Li at hl
    rw [Array.getD_eq_getD_getElem?, Array.getElem?_replicate] at hl
    split at hl <;> cases hl
  have h0 : Inv P dm B N ops.toList (maskD (fun c => (Bool.rec (motive := fun _ => Bool) (Bool.rec (motive := fun _ => Bool) true false (isPu c)) false (isWr c) : Bool)) (dops P (masks ops.toList []) ops.toList 0)) (maskD isRd (dops P (masks ops.toList []) ops.toList 0)) (ones ops.toList.length) cf (fun t => slot xs [] env [] t) v cs0 g U w F (Array.replicate ops.size false) ss 0 0 0 0 U g a cs { w with drawn := w.drawn + 1 } := by
    have hz : ∀ (i : Nat) {X : Prop}, has 0 i = true → X := fun i X h => by rw [has_zero] at h; cases h
    exact { tp := htp, ok := hOk, lsz := by simp, l1 := fun i hl => absurd hl (hLi0 i), l2 := fun i hi => hz i hi, l3 := fun i hi => hz i hi, l4 := fun i k hl => absurd hl (hLi0 i), l5 := fun i o hi => hz i hi, dt := fun i o d hi => hz i hi, ws := fun i o d hi => hz i hi,
            nu := fun i o hi => hz i hi, so := fun i o hi => hz i hi, alp := fun i o hi => hz i hi, rdy := fun i hi => hz i hi, sl1 := fun i o d hl => absurd hl (hLi0 i), sl0 := fun t _ => slot_ok hs.sl t, gh := fun i o p k hi => hz i hi, dis := fun i j oi oj p hi => hz i hi,
            ext := hdrew, size := hs.size, ds := hs.ds, cs := hs.cs }
  obtain ⟨r1, dn1, U1, h1, hh1⟩ := Inv.advance rfl _ _ _ _ h0
  have hgo : At P dm Q ops (Region.schedule (P.follows .mixedOrders) ops (w.tape w.drawn (.order b.fn id))) a cs { w with drawn := w.drawn + 1 } := by
    simp only [Region.schedule, hm, Bool.true_or, if_true]
    refine draw_go hP hcf (hB.ext hs.ext) rfl rfl rfl hel hQ hQp ops.size _ _ r1 dn1 0 0 U1 g a cs _ h1 hh1 ?_
    unfold un
    rw [Array.toList_replicate, List.count_replicate]
    simp
  obtain ⟨e, a', cs', w', hq, harr⟩ := hgo b k hb
  exact ⟨e, a', cs', w', hq, .of_steps (.one step_region_draw) harr⟩

theorem slot_env {env : Env} {t : Nat} (ht : has xs t = true) (h256 : t < 256) : slot xs [] env [] t = (getE t).run env := by
  unfold slot slotV
  show ((Bool.rec (motive := fun _ => Src) ⟨fun _ _ => junkV⟩ (Bool.rec (motive := fun _ => Src) ⟨fun _ _ => junkV⟩ ⟨fun env _ => (Bx.rec (motive := fun _ => Value) (fun f => f env) (getE t) : Value)⟩ (Nat.ble (Nat.succ t) 256)) (has xs t) : Src).run env []) = _
  rw [ht, show Nat.ble (Nat.succ t) 256 = true from Nat.ble_eq_true_of_le h256]

theorem draw_ok {gB : Gh} {wB : World} (hP : NoNum P) (hcf : CfOk P gB wB cf) (hB : Bs gB wB B g0 W0 w0) (hN : N ≤ 256) (hm : P.follows .mixedOrders = true) {id : Nat} {ops : Array Oper} {env : Env} {U : W} {g : Gh} {a : Act} {cs : List Frame} {w : World} (hs : St P dm B N xs cs0 g0 W0 w0 [] env [] U g a cs w) :
    Meets ((cReg P N xs true ops.toList).run cf env U) (Goes P dm (.region id ops true) (Post P dm B N xs cs0 g0 W0 w0 ((cReg P N xs true ops.toList).run cf env U)) a cs w) := by
  let L := ops.toList
  let ms := masks L []
  let ds := dops P ms L 0
  let np := maskD (fun c => (Bool.rec (motive := fun _ => Bool) (Bool.rec (motive := fun _ => Bool) true false (isPu c)) false (isWr c) : Bool)) ds
  let rd := maskD isRd ds
  let ss := sched np rd ds (Nat.succ (len L)) 0 0 0
  let cal := allL (fun o => (Bool.rec (motive := fun _ => Bool) false (Option.rec (motive := fun _ => Bool) true (fun d => Nat.ble (Nat.succ d) N) o.dst) (calmK P o) : Bool)) L
  have e : (cReg P N xs true ops.toList) = (Bool.rec (motive := fun _ => Bx Run) ⟨fun _ _ _ => .no 146⟩ (Bool.rec (motive := fun _ => Bx Run) ⟨fun cf env w => noPan ((cSteps P N xs L ss []).run cf env [] w)⟩ ⟨fun cf env w => panJ (junkD (maskD isWr ds) ds) env ((cSteps P N xs L ss []).run cf env [] w)⟩ cal) (okS L ms ds np rd (ones (len L)) ss 0 0 0 0) : Bx Run) := rfl
  rw [e]
  cases hok : okS L ms ds np rd (ones (len L)) ss 0 0 0 0 with
  | false => exact trivial
  | true =>
    have hlen : len L = L.length := len_eq L
    rw [hlen] at hok
    have hOk : Oks P L np rd (ones L.length) ss 0 0 0 0 := hok
    have hev0 : EnvV L xs (fun t => slot xs [] env [] t) 0 (fun _ => junkV) [] env [] := by
      refine ⟨fun t ht => (by cases ht), fun t => ?_⟩
      cases wof L t with
      | none => rfl
      | some k => dsimp only; rw [if_neg (by rw [has_zero]; decide)]
    have hds0 : ∀ k o d, has 0 k = true → L[k]? = some o → o.dst = some d → wof L d = some k := fun k o d hk => by rw [has_zero] at hk; cases hk
    have good : ∀ env' U', (cSteps P N xs L ss []).run cf env [] U = .go env' U' → Goes P dm (.region id ops true) (Post P dm B N xs cs0 g0 W0 w0 (.go env' U')) a cs w := by
      intro env' U' hrun
      obtain ⟨v, ns', st', _, htp, hev⟩ := steps_tp hN ss 0 0 0 0 [] env [] U (fun _ => junkV) hOk hev0 hds0 hrun
      refine draw_core hP hcf hB hm hs hOk htp ?_ ?_
      · intro listed r dn dw su U2 g2 a2 cs2 w2 h hh hall
        have hr : r = [] := by
          rcases hh with rfl | ⟨k, r', o, rfl, ho, hc⟩
          · rfl
          · obtain ⟨o', ho', q1, _⟩ := h.ok.op
            have := h.l1 k (hall k (List.getElem?_eq_some_iff.1 ho).1)
            rw [q1] at this; cases this
        subst hr
        have hU : Fi.done U' = Fi.done U2 := h.tp
        cases hU
        refine ⟨rfl, g2, hs.ext.trans h.ext, ⟨fun t ht h256 => ?_, fun i t hi => (by cases hi)⟩, fun t ht => (by cases ht), h.size, h.ds, h.cs⟩
        have hsl := hev.sl t
        have hid : idx t ns' = none := by
          cases hi : idx t ns' with
          | none => rfl
          | some i =>
            have := hev.own t (List.mem_of_getElem? (idx_some hi).1)
            rw [ht] at this; cases this
        have hge : slot xs ns' env' st' t = (getE t).run env' := by
          unfold slot slotV
          rw [hid]
          show ((Bool.rec (motive := fun _ => Src) ⟨fun _ _ => junkV⟩ (Bool.rec (motive := fun _ => Src) ⟨fun _ _ => junkV⟩ ⟨fun env _ => (Bx.rec (motive := fun _ => Value) (fun f => f env) (getE t) : Value)⟩ (Nat.ble (Nat.succ t) 256)) (has xs t) : Src).run env' st') = _
          rw [ht, show Nat.ble (Nat.succ t) 256 = true from Nat.ble_eq_true_of_le h256]
        rw [← hge, hsl]
        cases hw : wof L t with
        | none => exact h.sl0 t fun k hk => by rw [show wof ops.toList t = none from hw] at hk; cases hk
        | some k =>
          dsimp only
          obtain ⟨o, ho, hd⟩ := wof_some hw
          have hkl := (List.getElem?_eq_some_iff.1 ho).1
          rw [if_pos (by rw [has_ones]; exact decide_eq_true hkl)]
          exact h.sl1 k o t (hall k hkl) ho hd
      · intro listed r dn dw su U2 g2 a2 cs2 w2 h k o _ _ _ pv b g' w' hF
        cases hF
    cases hcal : cal with
    | false =>
      show Meets (noPan ((cSteps P N xs L ss []).run cf env [] U)) (Goes P dm (.region id ops true) (Post P dm B N xs cs0 g0 W0 w0 (noPan ((cSteps P N xs L ss []).run cf env [] U))) a cs w)
      cases hrun : (cSteps P N xs L ss []).run cf env [] U with
      | ex _ _ _ => exact trivial
      | ret _ _ => exact trivial
      | pan _ _ _ => exact trivial
      | no _ => exact trivial
      | go env' U' => exact good env' U' hrun
    | true =>
      show Meets (panJ (junkD (maskD isWr ds) ds) env ((cSteps P N xs L ss []).run cf env [] U)) (Goes P dm (.region id ops true) (Post P dm B N xs cs0 g0 W0 w0 (panJ (junkD (maskD isWr ds) ds) env ((cSteps P N xs L ss []).run cf env [] U))) a cs w)
      cases hrun : (cSteps P N xs L ss []).run cf env [] U with
      | ex _ _ _ => exact trivial
      | ret _ _ => exact trivial
      | no _ => exact trivial
      | go env' U' => exact good env' U' hrun
      | pan pv env' U' =>
        show Goes P dm (.region id ops true) (Post P dm B N xs cs0 g0 W0 w0 (.pan pv (junkD (maskD isWr ds) ds env) U')) a cs w
        have hcal : allL (fun o => (Bool.rec (motive := fun _ => Bool) false (Option.rec (motive := fun _ => Bool) true (fun d => Nat.ble (Nat.succ d) N) o.dst) (calmK P o) : Bool)) L = true := hcal
        rw [allL_eq, List.all_eq_true] at hcal
        have hcm : ∀ (i : Nat) (o : Oper), L[i]? = some o → calmK P o = true ∧ ∀ d, o.dst = some d → d < N := by
          intro i o ho
          have h := hcal o (List.mem_of_getElem? ho)
          rw [if_eq] at h
          split at h
          · rename_i h1
            refine ⟨h1, fun d hd => ?_⟩
            rw [hd] at h
            exact Nat.le_of_ble_eq_true h
          · cases h
        obtain ⟨v, _, htp⟩ := steps_pan (cf := cf) hN (fun i o ho => (calm_np (hcm i o ho).1).imp (fun h => h) fun h => h cf) (fun i o d ho hd => (hcm i o ho).2 d hd) ss 0 0 0 0 [] env [] U (fun _ => junkV) hOk hev0 hds0 hrun
        refine draw_core hP hcf hB hm hs hOk htp ?_ ?_
        · intro listed r dn dw su U2 g2 a2 cs2 w2 h hh hall
          have hr : r = [] := by
            rcases hh with rfl | ⟨k, r', o, rfl, ho, hc⟩
            · rfl
            · obtain ⟨o', ho', q1, _⟩ := h.ok.op
              have := h.l1 k (hall k (List.getElem?_eq_some_iff.1 ho).1)
              rw [q1] at this; cases this
          subst hr
          have hU : Fi.pan pv U' = Fi.done U2 := h.tp
          cases hU
        · intro listed r dn dw su U2 g2 a2 cs2 w2 h k o hok' hwr hnl pv b g' w' hF hv hk
          cases hF
          refine ⟨rfl, hv, g', hs.ext.trans (h.ext.trans hk.ext), ⟨fun t ht h256 => ?_, fun i t hi => (by cases hi)⟩, fun t ht => (by cases ht), h.size, ?_, ?_⟩
          · rcases junkD_get (wm := maskD isWr ds) (env := env) h256 ds with hj | ⟨hj, hkp⟩
            · rw [hj]; exact junk_rv
            · rw [hj, ← slot_env (xs := xs) ht h256]
              refine (h.sl0 t fun q hq hlq => ?_).mono hk.ext.ex.le
              obtain ⟨oq, hoq, hdq⟩ := wof_some hq
              have h1 := hkp _ (mem_dops hoq) hdq
              have h2 := sub?_spec h1 (has_maskL hok' isWr (by rw [hwr]; rfl))
              exact hnl (h.l4 q k hlq h2)
          · rw [hk.ds]; exact h.ds.mono fun _ _ x => x.mono hk.ext.ex.le
          · rw [hk.rc]; exact h.cs

theorem region_ok {gB : Gh} {wB : World} (hP : NoNum P) (hcf : CfOk P gB wB cf) (hB : Bs gB wB B g0 W0 w0) (hN : N ≤ 256) (hm : P.follows .mixedOrders = true) {id : Nat} {ops : Array Oper} {draw : Bool} {env : Env} {U : W} {g : Gh} {a : Act} {cs : List Frame} {w : World} (hs : St P dm B N xs cs0 g0 W0 w0 [] env [] U g a cs w) :
    Meets ((cReg P N xs draw ops.toList).run cf env U) (Goes P dm (.region id ops draw) (Post P dm B N xs cs0 g0 W0 w0 ((cReg P N xs draw ops.toList).run cf env U)) a cs w) := by
  cases draw with
  | true => exact draw_ok hP hcf hB hN hm hs
  | false =>
    have h := plain_ops hP hcf hB hN ops ops.toList 0 [] env [] U g a cs w rfl hs
    show Meets ((cOps P N xs ops.toList ops.toList []).run cf env [] U) (Goes P dm (.region id ops false) (Post P dm B N xs cs0 g0 W0 w0 ((cOps P N xs ops.toList ops.toList []).run cf env [] U)) a cs w)
    refine h.mp fun h b k hb => ?_
    have e : List.range' 0 ops.toList.length = List.range ops.size := by rw [List.range_eq_range']; simp
    rw [e] at h
    obtain ⟨e, a', cs', w', hq, harr⟩ := h b k hb
    exact ⟨e, a', cs', w', hq, .of_steps (.one step_region) harr⟩

end
end Go.Cx
namespace Go.Cx
open Go
variable {P : Program} {dm : Bool} {B : Nat}

section
variable {N xs : Nat} {cs0 : List Frame} {g0 : Gh} {W0 : W} {w0 : World} {cf : CallF}

theorem goes_mono {c : Code} {Q Q' : Exit → Act → List Frame → World → Prop} {a : Act} {cs : List Frame} {w : World} (h : Goes P dm c Q a cs w) (hq : ∀ e a cs w, Q e a cs w → Q' e a cs w) : Goes P dm c Q' a cs w :=
  fun b k hb => let ⟨e, a', cs', w', q, r⟩ := h b k hb; ⟨e, a', cs', w', hq _ _ _ _ q, r⟩

theorem stop_ok {why : Nat} {X : Prop} {env : Env} {U : W} : Meets ((stopC why).run cf env U) X := trivial

theorem seq_run (fuel : Nat) (x y : Code) (env : Env) (U : W) : (cCode P fuel N xs (.seq x y)).run cf env U = match (cCode P fuel N xs x).run cf env U with
    | .go env U => (cCode P fuel N xs y).run cf env U
    | r => r := by
  show Ou.rec (motive := fun _ => Ou) ((cCode P fuel N xs y).run cf) Ou.ex Ou.ret Ou.pan Ou.no ((cCode P fuel N xs x).run cf env U) = _
  cases (cCode P fuel N xs x).run cf env U <;> rfl

theorem block_run (fuel id : Nat) (x : Code) (env : Env) (U : W) : (cCode P fuel N xs (.block id x)).run cf env U = match (cCode P fuel N xs x).run cf env U with
    | .ex j env U => if j = id then .go env U else .ex j env U
    | r => r := by
  show Ou.rec (motive := fun _ => Ou) Ou.go (exitIf id) Ou.ret Ou.pan Ou.no ((cCode P fuel N xs x).run cf env U) = _
  cases (cCode P fuel N xs x).run cf env U with
  | ex j env U =>
    show (Bool.rec (motive := fun _ => Ou) (.ex j env U) (.go env U) (Nat.beq j id) : Ou) = _
    rw [if_eq]
    by_cases e : j = id
    · subst e; rw [if_pos (Nat.beq_refl j)]; simp
    · rw [if_neg (fun h => e (Nat.eq_of_beq_eq_true h))]; simp [e]
  | _ => rfl

theorem iter_succ (f : Kn) (n : Nat) (env : Env) (U : W) : iter f (n + 1) env U = match f env U with
    | .go env U => iter f n env U
    | r => r := by
  show Ou.rec (motive := fun _ => Ou) (iter f n) Ou.ex Ou.ret Ou.pan Ou.no (f env U) = _
  cases f env U <;> rfl

def Outs (r : Ou) : Prop := match r with
  | .ex _ _ _ => True
  | .ret _ _ => True
  | .pan _ _ _ => True
  | _ => False

theorem post_not {r : Ou} (hr : Outs r) {a : Act} {cs : List Frame} {w : World} : ¬ Post P dm B N xs cs0 g0 W0 w0 r .normal a cs w := by
  cases r with
  | go _ _ => exact hr.elim
  | no _ => exact hr.elim
  | ex _ _ _ => rintro ⟨e, _⟩; cases e
  | ret _ _ => rintro ⟨e, _⟩; cases e
  | pan _ _ _ => rintro ⟨e, _⟩; cases e

theorem code_ok {gB : Gh} {wB : World} (hP : NoNum P) (hcf : CfOk P gB wB cf) (hB : Bs gB wB B g0 W0 w0) (hN : N ≤ 256) (hm : P.follows .mixedOrders = true) (fuel : Nat) : ∀ (c : Code) (env : Env) (U : W) (g : Gh) (a : Act) (cs : List Frame) (w : World), St P dm B N xs cs0 g0 W0 w0 [] env [] U g a cs w →
    Meets ((cCode P fuel N xs c).run cf env U) (Goes P dm c (Post P dm B N xs cs0 g0 W0 w0 ((cCode P fuel N xs c).run cf env U)) a cs w) := by
  intro c
  induction c with
  | skip => exact fun env U g a cs w hs b k hb => ⟨.normal, a, cs, w, ⟨rfl, g, hs⟩, .one step_skip⟩
  | region id ops draw => exact fun env U g a cs w hs => region_ok hP hcf hB hN hm hs
  | seq x y ihx ihy =>
    intro env U g a cs w hs
    have hx := ihx env U g a cs w hs
    rw [seq_run]
    cases hrx : (cCode P fuel N xs x).run cf env U with
    | no y => exact trivial
    | go env1 U1 =>
      rw [hrx] at hx
      have hx : Goes P dm x (Post P dm B N xs cs0 g0 W0 w0 (.go env1 U1)) a cs w := hx
      dsimp only
      refine Meets.intro fun hn b k hb => ?_
      obtain ⟨e, a1, cs1, w1, ⟨rfl, g1, hs1⟩, harr⟩ := hx b (.code y :: k) hb
      obtain ⟨e2, a2, cs2, w2, hq2, harr2⟩ := (ihy env1 U1 g1 a1 cs1 w1 hs1).elim hn b k hb
      exact ⟨e2, a2, cs2, w2, hq2, .of_steps (.head step_seq harr) harr2⟩
    | ex i env1 U1 =>
      rw [hrx] at hx
      have hx : Goes P dm x (Post P dm B N xs cs0 g0 W0 w0 (.ex i env1 U1)) a cs w := hx
      intro b k hb
      obtain ⟨e, a1, cs1, w1, hq, harr⟩ := hx b (.code y :: k) hb
      refine ⟨e, a1, cs1, w1, hq, .of_steps (.one step_seq) (.pass (x := .code y) rfl (fun _ _ => .inl ?_) harr)⟩
      intro e2; subst e2; exact post_not (r := .ex i env1 U1) trivial hq
    | ret env1 U1 =>
      rw [hrx] at hx
      have hx : Goes P dm x (Post P dm B N xs cs0 g0 W0 w0 (.ret env1 U1)) a cs w := hx
      intro b k hb
      obtain ⟨e, a1, cs1, w1, hq, harr⟩ := hx b (.code y :: k) hb
      refine ⟨e, a1, cs1, w1, hq, .of_steps (.one step_seq) (.pass (x := .code y) rfl (fun _ _ => .inl ?_) harr)⟩
      intro e2; subst e2; exact post_not (r := .ret env1 U1) trivial hq
    | pan v env1 U1 =>
      rw [hrx] at hx
      have hx : Goes P dm x (Post P dm B N xs cs0 g0 W0 w0 (.pan v env1 U1)) a cs w := hx
      intro b k hb
      obtain ⟨e, a1, cs1, w1, hq, harr⟩ := hx b (.code y :: k) hb
      refine ⟨e, a1, cs1, w1, hq, .of_steps (.one step_seq) (.pass (x := .code y) rfl (fun _ _ => .inl ?_) harr)⟩
      intro e2; subst e2; exact post_not (r := .pan v env1 U1) trivial hq
  | cond c x y ihx ihy =>
    intro env U g a cs w hs
    have hc := rdO_ok hs.sl c
    rw [← eval_rho] at hc
    show Meets (Option.rec (motive := fun _ => Ou) (.no 128) (fun b => Bool.rec (motive := fun _ => Ou) ((cCode P fuel N xs y).run cf env U) ((cCode P fuel N xs x).run cf env U) b) (asBool (rdO xs [] env [] c)) : Ou)
      (Goes P dm (.cond c x y) (Post P dm B N xs cs0 g0 W0 w0 (Option.rec (motive := fun _ => Ou) (.no 128) (fun b => Bool.rec (motive := fun _ => Ou) ((cCode P fuel N xs y).run cf env U) ((cCode P fuel N xs x).run cf env U) b) (asBool (rdO xs [] env [] c)) : Ou)) a cs w)
    cases hb : asBool (rdO xs [] env [] c) with
    | none => exact trivial
    | some t =>
      rw [asBool_some hb] at hc
      have he := hc.bool
      cases t with
      | false =>
        refine (ihy env U g a cs w hs).mp fun h b k hb => ?_
        obtain ⟨e, a', cs', w', q, r⟩ := h b k hb
        exact ⟨e, a', cs', w', q, .of_steps (.one (step_cond he)) r⟩
      | true =>
        refine (ihx env U g a cs w hs).mp fun h b k hb => ?_
        obtain ⟨e, a', cs', w', q, r⟩ := h b k hb
        exact ⟨e, a', cs', w', q, .of_steps (.one (step_cond he)) r⟩
  | block id x ihx =>
    intro env U g a cs w hs
    have hx := ihx env U g a cs w hs
    rw [block_run]
    cases hrx : (cCode P fuel N xs x).run cf env U with
    | no y => exact trivial
    | go env1 U1 =>
      rw [hrx] at hx
      have hx : Goes P dm x (Post P dm B N xs cs0 g0 W0 w0 (.go env1 U1)) a cs w := hx
      intro b k hb
      obtain ⟨e, a1, cs1, w1, ⟨rfl, g1, hs1⟩, harr⟩ := hx b (.inBlock id :: k) hb
      exact ⟨.normal, a1, cs1, w1, ⟨rfl, g1, hs1⟩, .head step_block (Steps.trans harr (.one step_inBlock))⟩
    | ex i env1 U1 =>
      rw [hrx] at hx
      have hx : Goes P dm x (Post P dm B N xs cs0 g0 W0 w0 (.ex i env1 U1)) a cs w := hx
      dsimp only
      by_cases hid : i = id
      · rw [if_pos hid]
        intro b k hb
        obtain ⟨e, a1, cs1, w1, ⟨rfl, g1, hs1⟩, harr⟩ := hx b (.inBlock id :: k) hb
        exact ⟨.normal, a1, cs1, w1, ⟨rfl, g1, hs1⟩, .head step_block (harr k (by simp [exitTo, hid]))⟩
      · rw [if_neg hid]
        intro b k hb
        obtain ⟨e, a1, cs1, w1, ⟨rfl, g1, hs1⟩, harr⟩ := hx b (.inBlock id :: k) hb
        refine ⟨.exit i, a1, cs1, w1, ⟨rfl, g1, hs1⟩, fun k' hk => .head step_block (harr k' ?_)⟩
        have : (id == i) = false := by simp; exact fun h => hid h.symm
        simp [exitTo, this, hk]
    | ret env1 U1 =>
      rw [hrx] at hx
      have hx : Goes P dm x (Post P dm B N xs cs0 g0 W0 w0 (.ret env1 U1)) a cs w := hx
      intro b k hb
      obtain ⟨e, a1, cs1, w1, ⟨rfl, g1, hs1⟩, harr⟩ := hx b (.inBlock id :: k) hb
      obtain ⟨todo, hsteps⟩ := harr
      exact ⟨.ret, a1, cs1, w1, ⟨rfl, g1, hs1⟩, todo, .head step_block hsteps⟩
    | pan v env1 U1 =>
      rw [hrx] at hx
      have hx : Goes P dm x (Post P dm B N xs cs0 g0 W0 w0 (.pan v env1 U1)) a cs w := hx
      intro b k hb
      obtain ⟨e, a1, cs1, w1, ⟨rfl, hv, g1, hs1⟩, harr⟩ := hx b (.inBlock id :: k) hb
      obtain ⟨todo, hsteps⟩ := harr
      exact ⟨_, a1, cs1, w1, ⟨rfl, hv, g1, hs1⟩, todo, .head step_block hsteps⟩
  | loop x ihx =>
    have key : ∀ (n : Nat) (env : Env) (U : W) (g : Gh) (a : Act) (cs : List Frame) (w : World), St P dm B N xs cs0 g0 W0 w0 [] env [] U g a cs w →
        Meets (iter ((cCode P fuel N xs x).run cf) n env U) (∀ (b : Frame) (k : List Item), (dm = true → b.kind = .deferred ∧ b.roundOf = none) →
          ∃ e a' cs' w', Post P dm B N xs cs0 g0 W0 w0 (iter ((cCode P fuel N xs x).run cf) n env U) e a' cs' w' ∧ Arrives P (lone (b.at a (.code x :: .inLoop x :: k)) cs w) b k cs' e a' w') := by
      intro n
      induction n with
      | zero => exact fun env U g a cs w hs => trivial
      | succ n ih =>
        intro env U g a cs w hs
        have hx := ihx env U g a cs w hs
        rw [iter_succ]
        cases hrx : (cCode P fuel N xs x).run cf env U with
        | no y => exact trivial
        | go env1 U1 =>
          rw [hrx] at hx
          have hx : Goes P dm x (Post P dm B N xs cs0 g0 W0 w0 (.go env1 U1)) a cs w := hx
          dsimp only
          refine Meets.intro fun hn b k hb => ?_
          obtain ⟨e, a1, cs1, w1, ⟨rfl, g1, hs1⟩, harr⟩ := hx b (.inLoop x :: k) hb
          obtain ⟨e2, a2, cs2, w2, hq2, harr2⟩ := (ih env1 U1 g1 a1 cs1 w1 hs1).elim hn b k hb
          exact ⟨e2, a2, cs2, w2, hq2, .of_steps (Steps.trans harr (.one step_inLoop)) harr2⟩
        | ex i env1 U1 =>
          rw [hrx] at hx
          have hx : Goes P dm x (Post P dm B N xs cs0 g0 W0 w0 (.ex i env1 U1)) a cs w := hx
          intro b k hb
          obtain ⟨e, a1, cs1, w1, hq, harr⟩ := hx b (.inLoop x :: k) hb
          refine ⟨e, a1, cs1, w1, hq, .pass (x := .inLoop x) rfl (fun _ _ => .inl ?_) harr⟩
          intro e2; subst e2; exact post_not (r := .ex i env1 U1) trivial hq
        | ret env1 U1 =>
          rw [hrx] at hx
          have hx : Goes P dm x (Post P dm B N xs cs0 g0 W0 w0 (.ret env1 U1)) a cs w := hx
          intro b k hb
          obtain ⟨e, a1, cs1, w1, hq, harr⟩ := hx b (.inLoop x :: k) hb
          refine ⟨e, a1, cs1, w1, hq, .pass (x := .inLoop x) rfl (fun _ _ => .inl ?_) harr⟩
          intro e2; subst e2; exact post_not (r := .ret env1 U1) trivial hq
        | pan v env1 U1 =>
          rw [hrx] at hx
          have hx : Goes P dm x (Post P dm B N xs cs0 g0 W0 w0 (.pan v env1 U1)) a cs w := hx
          intro b k hb
          obtain ⟨e, a1, cs1, w1, hq, harr⟩ := hx b (.inLoop x :: k) hb
          refine ⟨e, a1, cs1, w1, hq, .pass (x := .inLoop x) rfl (fun _ _ => .inl ?_) harr⟩
          intro e2; subst e2; exact post_not (r := .pan v env1 U1) trivial hq
    intro env U g a cs w hs
    show Meets (iter ((cCode P fuel N xs x).run cf) fuel env U) (Goes P dm (.loop x) (Post P dm B N xs cs0 g0 W0 w0 (iter ((cCode P fuel N xs x).run cf) fuel env U)) a cs w)
    refine (key fuel env U g a cs w hs).mp fun h b k hb => ?_
    obtain ⟨e, a', cs', w', q, r⟩ := h b k hb
    exact ⟨e, a', cs', w', q, .of_steps (.one step_loop) r⟩
  | rangeFunc => exact fun env U g a cs w hs => trivial
  | exit id => exact fun env U g a cs w hs b k hb => ⟨.exit id, a, cs, w, ⟨rfl, g, hs⟩, fun _ hk => .one (step_exit hk)⟩
  | scope => exact fun env U g a cs w hs => trivial
  | label l => exact fun env U g a cs w hs b k hb => ⟨.normal, a, cs, w, ⟨rfl, g, hs⟩, .one step_label⟩
  | goto l => exact fun env U g a cs w hs => trivial
  | ret => exact fun env U g a cs w hs b k hb => ⟨.ret, a, cs, w, ⟨rfl, g, hs⟩, _, .one step_ret⟩
  | refuse why => exact fun env U g a cs w hs => trivial

end
end Go.Cx
namespace Go.Cx
open Go
variable {P : Program} {dm : Bool} {B : Nat}

noncomputable def xsOf (fn : Func) (c : Code) : Nat := outRes fn.results.toList (outCode c 0)

theorem cFn_some {fuel f : Nat} {d : FnC} (h : cFn P fuel f = some d) : ∃ fn c, P.funcs[f]? = some fn ∧ fn.body = some c ∧ fn.ntmps ≤ 256 ∧ d = ⟨cCode P fuel fn.ntmps (xsOf fn c) c, cRes P (xsOf fn c) fn.results.toList⟩ := by
  unfold cFn at h
  rw [fnF_eq] at h
  split at h
  case h_2 => cases h
  rename_i fn hf
  split at h
  case h_2 => cases h
  rename_i c hc
  rw [if_eq] at h
  split at h
  case isFalse => cases h
  rename_i hn
  exact ⟨fn, c, hf, hc, Nat.le_of_ble_eq_true hn, (Option.some.inj h).symm⟩

theorem body_eq (cf : CallF) (fuel f : Nat) (args : List Value) (h : Hp) (n : Nat) (rc : Rc) : (∃ y, evBody P cf fuel f args h n rc = .no y) ∨ ∃ d, args.length ≤ 256 ∧ cFn P fuel f = some d ∧ evBody P cf fuel f args h n rc = d.body.run cf (env0 args 0 env00) ⟨h, n, [], rc⟩ := by
  have e : evBody P cf fuel f args h n rc = (Bool.rec (motive := fun _ => Ou) (.no 149) (Option.rec (motive := fun _ => Ou) (.no 132) (fun d => FnC.rec (motive := fun _ => Ou) (fun b _ => b.run cf (env0 args 0 env00) ⟨h, n, [], rc⟩) d) (cFn P fuel f) : Ou) (Nat.ble (len args) 256) : Ou) := rfl
  rw [e]
  cases hb : Nat.ble (len args) 256 with
  | false => exact .inl ⟨_, rfl⟩
  | true =>
    cases hd : cFn P fuel f with
    | none => exact .inl ⟨_, rfl⟩
    | some d =>
      obtain ⟨b, r⟩ := d
      exact .inr ⟨⟨b, r⟩, by have := Nat.le_of_ble_eq_true hb; rw [len_eq] at this; exact this, rfl, rfl⟩

theorem env0_get : ∀ (args : List Value) (i : Nat) (e : Env) (t : Nat), i + args.length ≤ 256 → t < 256 → (getE t).run (env0 args i e) = if i ≤ t ∧ t < i + args.length then (args[t - i]?).getD junkV else (getE t).run e
  | [], i, e, t, _, _ => by
    show (getE t).run e = _
    rw [if_neg (by simp)]
  | v :: args, i, e, t, h, ht => by
    show (getE t).run (env0 args (i + 1) ((putE i).run v e)) = _
    have h' : i + 1 + args.length ≤ 256 := by simp at h; omega
    rw [env0_get args (i + 1) _ t h' ht]
    by_cases h1 : t = i
    · subst h1
      rw [if_neg (by omega), if_pos (by simp), get_put]
      simp
    · rw [get_put' ht (by omega) h1]
      by_cases h2 : i + 1 ≤ t ∧ t < i + 1 + args.length
      · rw [if_pos h2, if_pos (by simp; omega)]
        have : t - i = (t - (i + 1)) + 1 := by omega
        rw [this]; simp
      · rw [if_neg h2, if_neg (by simp; omega)]

theorem start_sl {g : Gh} {xs : Nat} {args args' : List Value} (ha : All2 (RV g) args args') (hl : args.length ≤ 256) (n : Nat) (ds : List Deferred) :
    SlotR g xs [] (env0 args 0 env00) [] (tmA { tmps := (⟨args'⟩ : Array Value) ++ Array.replicate n undef, defers := ds }) := by
  refine ⟨fun t _ ht => ?_, fun i t hi => (by cases hi)⟩
  rw [env0_get args 0 env00 t (by omega) ht]
  have hll := ha.length
  by_cases h : t < args.length
  · rw [if_pos (by omega)]
    obtain ⟨v', h1, h2⟩ := ha.get (List.getElem?_eq_getElem h)
    rw [Nat.sub_zero, List.getElem?_eq_getElem h]
    have : tmA { tmps := (⟨args'⟩ : Array Value) ++ Array.replicate n undef, defers := ds } t = v' := by
      unfold tmA
      rw [Array.getD_eq_getD_getElem?, Array.getElem?_append_left (by simp; omega)]
      simp [h1]
    rw [this]; exact h2
  · rw [if_neg (by omega), get_env00]
    exact junk_rv

def resF (tmps : Array Value) (r : ResultVar) : Sem Value := match r with
  | .tmp t => Pure.pure (tmps.getD t undef)
  | .cell a t => (do loadVar t (← asAddr (tmps.getD a undef)))
theorem results_eq (fn : Func) (tmps : Array Value) : results fn tmps = (fn.results.mapM (resF tmps) >>= fun vs => Pure.pure (if h : vs.size = 1 then vs[0] else .tuple vs)) := by
  unfold results
  congr

theorem resV_ok {g : Gh} {U : W} {w : World} {xs : Nat} {env : Env} {tmps : Array Value} (hr : Rel g B U.h U.n w) (hs : SlotR g xs [] env [] (fun t => tmps.getD t undef)) {r : ResultVar} {v : Value} (h : (cResV P xs r).run env U.h = some v) :
    ∃ v', (resF tmps r).run P w = .ok v' w ∧ RV g v v' := by
  cases r with
  | tmp t =>
    have h : some (slot xs [] env [] t) = some v := h
    cases h
    exact ⟨_, rfl, slot_ok hs t⟩
  | cell ad t =>
    unfold cResV at h
    dsimp only at h
    split at h
    case h_2 => cases h
    rename_i i hi
    obtain ⟨inf, h1, h2, h3, h4⟩ := ti_some hi
    have hv := slot_ok hs ad
    rw [if_eq] at h
    split at h
    · rename_i hag
      have h : (Option.rec (motive := fun _ => Option Value) none (fun a => Option.rec (motive := fun _ => Option Value) none (fun cs => some (.agg ⟨cs⟩)) (rd U.h a i.size)) (asPtr (slot xs [] env [] ad)) : Option Value) = some v := h
      cases hp : asPtr (slot xs [] env [] ad) with
      | none => rw [hp] at h; cases h
      | some p =>
        rw [hp] at h
        rw [asPtr_some hp] at hv
        obtain ⟨cp, q1, q2, q3⟩ := hv.ptr
        dsimp only at h
        cases hrd : rd U.h p i.size with
        | none => rw [hrd] at h; cases h
        | some cs =>
          rw [hrd] at h
          cases h
          obtain ⟨l', l1, l2, l3⟩ := rd_sound hr hrd q1 q2
          refine ⟨.agg ⟨l'⟩, ?_, .one (.agg l2)⟩
          have := run_loadCells_list (P := P) w ⟨cp.blk, p.off - cp.cut, none⟩ l' l3
          rw [l1, h3] at this
          rw [hag] at h4
          rw [resF, q3]
          simp [asAddr, loadVar, run_agg h2, ← h4, run_size h1, this]
    · rename_i hag
      have hag : i.agg = false := by simpa using hag
      have h : (Option.rec (motive := fun _ => Option Value) none (fun a => rd1 U.h a) (asPtr (slot xs [] env [] ad)) : Option Value) = some v := h
      cases hp : asPtr (slot xs [] env [] ad) with
      | none => rw [hp] at h; cases h
      | some p =>
        rw [hp] at h
        rw [asPtr_some hp] at hv
        obtain ⟨cp, q1, q2, q3⟩ := hv.ptr
        dsimp only at h
        obtain ⟨v', l1, l2⟩ := rd1_sound hr h q1 q2
        refine ⟨v', ?_, .one (.cell l2)⟩
        rw [hag] at h4
        rw [resF, q3]
        simp [asAddr, loadVar, run_agg h2, ← h4, run_load, l1]

theorem res_list {g : Gh} {U : W} {w : World} {xs : Nat} {env : Env} {tmps : Array Value} (hr : Rel g B U.h U.n w) (hs : SlotR g xs [] env [] (fun t => tmps.getD t undef)) : ∀ {l : List ResultVar} {vs : List Value}, (cRes P xs l).run env U.h = some vs →
    ∃ vs', (l.mapM (resF tmps)).run P w = .ok vs' w ∧ All2 (RV g) vs vs'
  | [], vs, h => by
    cases h
    exact ⟨[], rfl, .nil⟩
  | r :: l, vs, h => by
    have h : (Option.rec (motive := fun _ => Option (List Value)) none (fun v => Option.rec (motive := fun _ => Option (List Value)) none (fun l => some (v :: l)) ((cRes P xs l).run env U.h)) ((cResV P xs r).run env U.h) : Option (List Value)) = some vs := h
    cases hv : (cResV P xs r).run env U.h with
    | none => rw [hv] at h; cases h
    | some v =>
      rw [hv] at h
      dsimp only at h
      cases hl : (cRes P xs l).run env U.h with
      | none => rw [hl] at h; cases h
      | some vs1 =>
        rw [hl] at h
        cases h
        obtain ⟨v', g1, g2⟩ := resV_ok hr hs hv
        obtain ⟨vs', g3, g4⟩ := res_list hr hs hl
        refine ⟨v' :: vs', ?_, .cons g2 g4⟩
        rw [List.mapM_cons]
        simp only [Sem.run_bind, g1, g3, Result.andThen_ok, Sem.run_pure]

theorem results_ok {g : Gh} {U : W} {w : World} {xs : Nat} {env : Env} {tmps : Array Value} (hr : Rel g B U.h U.n w) (hs : SlotR g xs [] env [] (fun t => tmps.getD t undef)) {fn : Func} {vs : List Value} (h : (cRes P xs fn.results.toList).run env U.h = some vs) :
    ∃ v', (results fn tmps).run P w = .ok v' w ∧ RV g (packR vs) v' := by
  obtain ⟨vs', h1, h2⟩ := res_list hr hs h
  have h3 : (fn.results.mapM (resF tmps)).run P w = .ok ⟨vs'⟩ w := by
    rw [Array.mapM_eq_mapM_toList]
    show ((List.toArray <$> (fn.results.toList.mapM (resF tmps)) : Sem (Array Value))).run P w = _
    have e : ∀ s : Sem (List Value), (List.toArray <$> s : Sem (Array Value)) = (s >>= fun x => Pure.pure x.toArray) := fun _ => rfl
    rw [e]
    simp only [Sem.run_bind, h1, Result.andThen_ok, Sem.run_pure]
  rw [results_eq, Sem.run_bind, h3, Result.andThen_ok]
  cases h2 with
  | nil => exact ⟨.tuple #[], rfl, .tuple .nil⟩
  | cons hv ht =>
    rename_i v v' l l'
    cases ht with
    | nil => exact ⟨v', rfl, hv⟩
    | cons hv2 ht2 =>
      rename_i v2 v2' l2 l2'
      refine ⟨.tuple ⟨v' :: v2' :: l2'⟩, ?_, ?_⟩
      · simp
      · show RV g (Bool.rec (motive := fun _ => Value) junkV (.tuple ⟨v :: v2 :: l2⟩) (allL noTuple (v :: v2 :: l2)) : Value) _
        rw [if_eq]
        split
        · rename_i hn
          rw [allL_eq, List.all_eq_true] at hn
          have key : ∀ {l l' : List Value}, All2 (RV g) l l' → (∀ x ∈ l, noTuple x = true) → All2 (R1 g) l l' := by
            intro l l' h
            induction h with
            | nil => intro _; exact .nil
            | cons h1 _ ih => intro hx; exact .cons (h1.one_of (hx _ (by simp))) (ih fun x hm => hx x (by simp [hm]))
          exact .tuple (key (.cons hv (.cons hv2 ht2)) hn)
        · exact junk_rv

end Go.Cx
namespace Go.Cx
open Go Go.RowKit
variable {P : Program} {B : Nat}

def RR (g : Gh) (B : Nat) (a : W) (w : World) (re : Re) (e : Ending) (w' : World) : Prop := match re with
  | .ok v b => ∃ v' g', e = .returned v' ∧ RV g' v v' ∧ Kept g B a w g' b w'
  | .ot (.pan v b) => ∃ g', e = .panicked [{ v, recovered := false }] ∧ cellV v = true ∧ Kept g B a w g' b w'
  | _ => False

def Known (re : Re) : Prop := match re with
  | .ok _ _ => True
  | .ot (.pan _ _) => True
  | _ => False

theorem callR_of {g : Gh} {a : W} {w : World} {f : FuncId} {args' : List Value} {re : Re} (h : Known re → Calls P f ⟨args'⟩ w (RR g B a w re)) : CallR P g B a w f args' re := by
  cases re with
  | ok v b => exact h trivial
  | ot r =>
    cases r with
    | pan v b => exact h trivial
    | _ => exact trivial

def RcU (rc : Rc) (u : FrameMode) : Prop := match rc with
  | .idle => u = .returning
  | .pan v => cellV v = true ∧ u = .panicking [{ v, recovered := false }]
  | _ => False

theorem mode_same {c : Frame} {u : FrameMode} (h : c.mode = u) : ({ c with mode := u } : Frame) = c := by subst h; rfl

theorem start_cs {rc : Rc} {u : FrameMode} (h : RcU rc u) {c : Frame} {cs : List Frame} (hc : c.mode = u) : CsR true (c :: cs) rc (c :: cs) := by
  cases rc with
  | off => exact h.elim
  | done v => exact h.elim
  | idle =>
    have h : u = .returning := h
    subst h
    exact ⟨rfl, c, cs, rfl, by rw [mode_same hc]⟩
  | pan v =>
    obtain ⟨hv, rfl⟩ := h
    exact ⟨rfl, hv, c, cs, rfl, by rw [mode_same hc]⟩

section
variable {cf : CallF} {fuel : Nat}

theorem nextD_ok {f : FuncId} {env : Env} {U : W} {ih : Hp → Nat → Rc → Re} (hk : Known (nextD P fuel f env U ih)) :
    resOk P fuel f env U.h = true ∧ U.ds = [] ∧ ((∃ v, U.rc = .done v ∧ nextD P fuel f env U ih = ih U.h U.n .idle) ∨ ((∀ v, U.rc ≠ .done v) ∧ nextD P fuel f env U ih = ih U.h U.n U.rc)) := by
  obtain ⟨h, n, ds, rc⟩ := U
  unfold nextD at hk ⊢
  cases hr : resOk P fuel f env h with
  | false => simp only [hr] at hk; exact hk.elim
  | true =>
    simp only [hr] at hk ⊢
    cases ds with
    | cons _ _ => exact hk.elim
    | nil =>
      refine ⟨trivial, rfl, ?_⟩
      cases rc with
      | done v => exact .inl ⟨v, rfl, rfl⟩
      | off => exact .inr ⟨fun v e => (by cases e), rfl⟩
      | idle => exact .inr ⟨fun v e => (by cases e), rfl⟩
      | pan v => exact .inr ⟨fun v e => (by cases e), rfl⟩

theorem resOk_spec {f : FuncId} {env : Env} {h : Hp} (hr : resOk P fuel f env h = true) {d : FnC} (hd : cFn P fuel f = some d) : ∃ vs, d.res.run env h = some vs := by
  have hr : (Option.rec (motive := fun _ => Bool) false (fun d => Option.rec (motive := fun _ => Bool) false (fun _ => true) (d.res.run env h)) (cFn P fuel f) : Bool) = true := hr
  rw [hd] at hr
  dsimp only at hr
  cases hv : d.res.run env h with
  | none => rw [hv] at hr; cases hr
  | some vs => exact ⟨vs, rfl⟩

theorem all2_nil {α β : Type} {R : α → β → Prop} {l : List β} (h : All2 R [] l) : l = [] := by cases h; rfl

theorem defers_ok2 {gB : Gh} {wB : World} (hP : NoNum P) (hcf : CfOk P gB wB cf) (hm : P.follows .mixedOrders = true) {f : FuncId} {fn : Func} {c : Code} (hf : P.funcs[f]? = some fn) (hc : fn.body = some c) {env : Env} {tmps : Array Value} {g : Gh} {a : W} {w : World} (hB : Bs gB wB B g a w) :
    ∀ (ds : List (FuncId × List Value)) (ds' : List Deferred) (g1 : Gh) (h : Hp) (n : Nat) (rc : Rc) (u : FrameMode) (w1 : World), Ext g B a.h a.n w g1 h n w1 → SlotR g1 (xsOf fn c) [] env [] (fun t => tmps.getD t undef) → All2 (DfR g1) ds ds' → RcU rc u →
      Known (evDefers P cf fuel f env a ds h n rc) → Leaves P fn tmps (RR g B a w (evDefers P cf fuel f env a ds h n rc)) ds' u w1
  | [], ds', g1, h, n, rc, u, w1, he, hs, hd, hu, hk => by
    cases hd
    cases rc with
    | off => exact hu.elim
    | done v => exact hu.elim
    | pan v =>
      obtain ⟨hv, rfl⟩ := hu
      exact ⟨g1, rfl, hv, he, rfl, rfl⟩
    | idle =>
      have hu : u = .returning := hu
      subst hu
      have hk : Known (retRe P fuel f env h n a) := hk
      show ∃ v, (results fn tmps).run P w1 = .ok v w1 ∧ RR g B a w (retRe P fuel f env h n a) (.returned v) w1
      have e : retRe P fuel f env h n a = (Option.rec (motive := fun _ => Re) (no 133) (fun d => Option.rec (motive := fun _ => Re) (no 134) (fun l => .ok (packR l) ⟨h, n, a.ds, a.rc⟩) (d.res.run env h)) (cFn P fuel f) : Re) := rfl
      rw [e] at hk ⊢
      cases hd : cFn P fuel f with
      | none => rw [hd] at hk; exact hk.elim
      | some d =>
        rw [hd] at hk
        obtain ⟨fn', c', q1, q2, q3, rfl⟩ := cFn_some hd
        rw [hf] at q1; cases q1
        rw [hc] at q2; cases q2
        dsimp only at hk ⊢
        cases hv : (cRes P (xsOf fn c) fn.results.toList).run env h with
        | none => rw [hv] at hk; exact hk.elim
        | some vs =>
          obtain ⟨v', h1, h2⟩ := results_ok (U := ⟨h, n, a.ds, a.rc⟩) he.rel hs hv
          exact ⟨v', h1, v', g1, rfl, h2, he, rfl, rfl⟩
  | d :: ds, ds', g1, h, n, rc, u, w1, he, hs, hd, hu, hk => by
    cases hd with
    | cons hd1 hds =>
    rename_i d' ds'
    obtain ⟨xs, ys, ks, rfl, ha⟩ := hd1
    have e : evDefers P cf fuel f env a (d :: ds) h n rc = (match evBody P cf fuel d.1 d.2 h n rc with
      | .go env' w => nextD P fuel d.1 env' w (evDefers P cf fuel f env a ds)
      | .ret env' w => nextD P fuel d.1 env' w (evDefers P cf fuel f env a ds)
      | .pan v _ w => (match w.ds, w.rc with | [], .idle => evDefers P cf fuel f env a ds w.h w.n (.pan v) | _, _ => no 136)
      | .no why => no why
      | _ => no 137) := rfl
    rw [e] at hk ⊢
    rcases body_eq (P := P) cf fuel d.1 d.2 h n rc with ⟨y, hy⟩ | ⟨dd, hlen, hdd, hbody⟩
    · rw [hy] at hk; exact hk.elim
    obtain ⟨fn2, c2, q1, q2, q3, rfl⟩ := cFn_some hdd
    have hbd : bodied P d.1 = none := by unfold bodied; rw [fnF_eq, q1]; dsimp only; rw [q2]
    have hinv : (invoke (.fn (.func d.1) ⟨ks⟩) ⟨xs ++ ys⟩).run P w1 = .ok (.enter d.1 ⟨xs ++ (ys ++ ks)⟩) w1 := by
      have e2 : ((⟨xs ++ ys⟩ : Array Value) ++ ⟨ks⟩) = ⟨xs ++ (ys ++ ks)⟩ := by apply Array.ext'; simp
      show (callFunc d.1 ((⟨xs ++ ys⟩ : Array Value) ++ ⟨ks⟩)).run P w1 = _
      rw [e2]
      exact callFunc_enter hP hbd _ w1
    have hur : u ≠ .run := by
      cases rc with
      | off => exact hu.elim
      | done v => exact hu.elim
      | idle => have hu : u = .returning := hu; subst hu; intro e; cases e
      | pan v => obtain ⟨_, rfl⟩ := hu; intro e; cases e
    refine leaves_cons hur hinv ?_
    refine callsD_of_wpS q1 q2 fun c0 cs hmode => ?_
    have hst : St P true B fn2.ntmps (xsOf fn2 c2) (c0 :: cs) g1 ⟨h, n, [], rc⟩ w1 [] (env0 d.2 0 env00) [] ⟨h, n, [], rc⟩ g1 { tmps := (⟨xs ++ (ys ++ ks)⟩ : Array Value) ++ Array.replicate (fn2.ntmps - (⟨xs ++ (ys ++ ks)⟩ : Array Value).size) undef, defers := [] } (c0 :: cs) w1 :=
      ⟨Ext.refl he.rel, start_sl ha hlen _ _, fun _ h => (by cases h), by simp; omega, .nil, start_cs hu hmode⟩
    have hgo := code_ok (cf := cf) hP hcf (hB.ext (b := ⟨h, n, [], rc⟩) he) q3 hm fuel c2 _ _ _ _ _ _ hst
    rw [hbody] at hk ⊢
    dsimp only at hgo hk ⊢
    intro b k hb hro
    have fin1 : ∀ (env2 : Env) (U : W) (g2 : Gh) (a2 : Act) (cs2 : List Frame) (w2 : World), St P true B fn2.ntmps (xsOf fn2 c2) (c0 :: cs) g1 ⟨h, n, [], rc⟩ w1 [] env2 [] U g2 a2 cs2 w2 → Known (nextD P fuel d.1 env2 U (evDefers P cf fuel f env a ds)) →
        a2.defers = [] ∧ ∃ u', cs2 = { c0 with mode := u' } :: cs ∧ ∃ v, (results fn2 a2.tmps).run P w2 = .ok v w2 ∧ Leaves P fn tmps (RR g B a w (nextD P fuel d.1 env2 U (evDefers P cf fuel f env a ds))) ds' (settle u') w2 := by
      intro env2 U g2 a2 cs2 w2 hs2 hk2
      obtain ⟨n1, n2, n3⟩ := nextD_ok hk2
      have hdef : a2.defers = [] := by have := hs2.ds; rw [n2] at this; exact all2_nil this
      obtain ⟨vs, hvs⟩ := resOk_spec n1 hdd
      obtain ⟨v', r1, _⟩ := results_ok hs2.ext.rel (tmps := a2.tmps) hs2.sl hvs
      have hext := he.trans hs2.ext
      have hs' := hs.mono hs2.ext.ex.le
      have hds' : All2 (DfR g2) ds ds' := hds.mono fun _ _ h => h.mono hs2.ext.ex.le
      refine ⟨hdef, ?_⟩
      have hcs2 := hs2.cs
      rcases n3 with ⟨pv, h3, h4⟩ | ⟨h3, h4⟩
      · rw [h4] at hk2 ⊢
        rw [h3] at hcs2
        obtain ⟨_, c1, r2, e1, e2⟩ := hcs2
        cases e1
        exact ⟨_, e2, v', r1, defers_ok2 hP hcf hm hf hc hB ds ds' g2 U.h U.n .idle .returning w2 hext hs' hds' rfl hk2⟩
      · rw [h4] at hk2 ⊢
        cases hrc : U.rc with
        | off => rw [hrc] at hcs2; exact absurd hcs2.1 (by intro e; cases e)
        | done pv => exact absurd hrc (h3 pv)
        | idle =>
          rw [hrc] at hcs2 hk2
          obtain ⟨_, c1, r2, e1, e2⟩ := hcs2
          cases e1
          exact ⟨_, e2, v', r1, defers_ok2 hP hcf hm hf hc hB ds ds' g2 U.h U.n .idle .returning w2 hext hs' hds' rfl hk2⟩
        | pan pv =>
          rw [hrc] at hcs2 hk2
          obtain ⟨_, hpv, c1, r2, e1, e2⟩ := hcs2
          cases e1
          exact ⟨_, e2, v', r1, defers_ok2 hP hcf hm hf hc hB ds ds' g2 U.h U.n (.pan pv) _ w2 hext hs' hds' ⟨hpv, rfl⟩ hk2⟩
    cases hr : (cCode P fuel fn2.ntmps (xsOf fn2 c2) c2).run cf (env0 d.2 0 env00) ⟨h, n, [], rc⟩ with
    | no y => rw [hr] at hk; exact hk.elim
    | ex i env2 U => rw [hr] at hk; exact hk.elim
    | go env2 U =>
      rw [hr] at hgo hk
      obtain ⟨e, a2, cs2, w2, ⟨rfl, g2, hs2⟩, harr⟩ := hgo b k (fun _ => ⟨hb, hro⟩)
      obtain ⟨f1, u', f2, v', f3, f4⟩ := fin1 env2 U g2 a2 cs2 w2 hs2 hk
      exact ⟨.normal, a2, cs2, w2, ⟨f1, u', f2, v', f3, f4⟩, harr⟩
    | ret env2 U =>
      rw [hr] at hgo hk
      obtain ⟨e, a2, cs2, w2, ⟨rfl, g2, hs2⟩, harr⟩ := hgo b k (fun _ => ⟨hb, hro⟩)
      obtain ⟨f1, u', f2, v', f3, f4⟩ := fin1 env2 U g2 a2 cs2 w2 hs2 hk
      exact ⟨.ret, a2, cs2, w2, ⟨f1, u', f2, v', f3, f4⟩, harr⟩
    | pan pv env2 U =>
      rw [hr] at hgo hk
      obtain ⟨e, a2, cs2, w2, ⟨rfl, hpv, g2, hs2⟩, harr⟩ := hgo b k (fun _ => ⟨hb, hro⟩)
      obtain ⟨h2, n2, ds2, rc2⟩ := U
      cases ds2 with
      | cons _ _ => exact hk.elim
      | nil =>
        cases rc2 with
        | off => exact hk.elim
        | pan _ => exact hk.elim
        | done _ => exact hk.elim
        | idle =>
          have hk : Known (evDefers P cf fuel f env a ds h2 n2 (.pan pv)) := hk
          have hdef : a2.defers = [] := all2_nil hs2.ds
          obtain ⟨_, c1, r2, e1, e2⟩ := hs2.cs
          cases e1
          refine ⟨.panic [{ v := pv, recovered := false }], a2, cs2, w2, ⟨hdef, _, e2, ?_⟩, harr⟩
          exact defers_ok2 hP hcf hm hf hc hB ds ds' g2 h2 n2 (.pan pv) _ w2 (he.trans hs2.ext) (hs.mono hs2.ext.ex.le) (hds.mono fun _ _ h => h.mono hs2.ext.ex.le) ⟨hpv, rfl⟩ hk

noncomputable def ending (P : Program) (cf : CallF) (fuel : Nat) (f : FuncId) (a : W) (r : Ou) : Re := match r with
  | .go env U => evDefers P cf fuel f env a U.ds U.h U.n .idle
  | .ret env U => evDefers P cf fuel f env a U.ds U.h U.n .idle
  | .pan v env U => evDefers P cf fuel f env a U.ds U.h U.n (.pan v)
  | .no why => wrong f why
  | _ => no 139

theorem fn_end {gB : Gh} {wB : World} (hP : NoNum P) (hm : P.follows .mixedOrders = true) (hcf : CfOk P gB wB cf) {f : FuncId} {fn : Func} {c : Code} (q1 : P.funcs[f]? = some fn) (q2 : fn.body = some c) {args' : List Value} {g : Gh} {a : W} {w : World} (hB : Bs gB wB B g a w) {r : Ou}
    (hgo : ∀ cs, Meets r (Goes P false c (Post P false B fn.ntmps (xsOf fn c) cs g ⟨a.h, a.n, [], .off⟩ w r) { tmps := (⟨args'⟩ : Array Value) ++ Array.replicate (fn.ntmps - (⟨args'⟩ : Array Value).size) undef, defers := [] } cs w)) :
    CallR P g B a w f args' (ending P cf fuel f a r) := by
  refine callR_of fun hk => ?_
  refine calls_of_wp_defers q1 q2 ?_
  intro b k cs
  have hgo := hgo cs
  have same : ∀ {rc' : Rc} {cs2 : List Frame}, CsR false cs rc' cs2 → cs2 = cs := by
    intro rc' cs2 hc
    cases rc' with
    | off => exact hc.2
    | idle => exact absurd hc.1 (by intro e; cases e)
    | pan _ => exact absurd hc.1 (by intro e; cases e)
    | done _ => exact absurd hc.1 (by intro e; cases e)
  cases r with
  | no y => unfold ending wrong at hk; exact hk.elim
  | ex i env2 U => exact hk.elim
  | go env2 U =>
    obtain ⟨e, a2, cs2, w2, ⟨rfl, g2, hs2⟩, harr⟩ := hgo b k (fun e => by cases e)
    rw [same hs2.cs] at harr
    exact ⟨.normal, a2, w2, defers_ok2 hP hcf hm q1 q2 hB U.ds a2.defers g2 U.h U.n .idle .returning w2 hs2.ext hs2.sl hs2.ds rfl hk, harr⟩
  | ret env2 U =>
    obtain ⟨e, a2, cs2, w2, ⟨rfl, g2, hs2⟩, harr⟩ := hgo b k (fun e => by cases e)
    rw [same hs2.cs] at harr
    exact ⟨.ret, a2, w2, defers_ok2 hP hcf hm q1 q2 hB U.ds a2.defers g2 U.h U.n .idle .returning w2 hs2.ext hs2.sl hs2.ds rfl hk, harr⟩
  | pan pv env2 U =>
    obtain ⟨e, a2, cs2, w2, ⟨rfl, hpv, g2, hs2⟩, harr⟩ := hgo b k (fun e => by cases e)
    rw [same hs2.cs] at harr
    exact ⟨.panic [{ v := pv, recovered := false }], a2, w2, defers_ok2 hP hcf hm q1 q2 hB U.ds a2.defers g2 U.h U.n (.pan pv) _ w2 hs2.ext hs2.sl hs2.ds ⟨hpv, rfl⟩ hk, harr⟩

theorem fn_start {fn : Func} {c : Code} {args args' : List Value} {g : Gh} {h : Hp} {n : Nat} {w : World} (hr : Rel g B h n w) (ha : All2 (RV g) args args') (hlen : args.length ≤ 256) (cs : List Frame) :
    St P false B fn.ntmps (xsOf fn c) cs g ⟨h, n, [], .off⟩ w [] (env0 args 0 env00) [] ⟨h, n, [], .off⟩ g { tmps := (⟨args'⟩ : Array Value) ++ Array.replicate (fn.ntmps - (⟨args'⟩ : Array Value).size) undef, defers := [] } cs w :=
  ⟨Ext.refl hr, start_sl ha hlen _ _, fun _ h => (by cases h), by simp; omega, .nil, ⟨rfl, rfl⟩⟩

theorem fn1_ok {gB : Gh} {wB : World} (hP : NoNum P) (hm : P.follows .mixedOrders = true) (hcf : CfOk P gB wB cf) : CfOk P gB wB (evFn1 P cf fuel) := by
  intro f args args' g B a w hB ha
  have hr := hB.rel
  obtain ⟨h, n, ds, rc⟩ := a
  have e : evFn1 P cf fuel f args ⟨h, n, ds, rc⟩ = ending P cf fuel f ⟨h, n, ds, rc⟩ (evBody P cf fuel f args h n .off) := by
    show Ou.rec (motive := fun _ => Re) (endRe P cf fuel f ⟨h, n, ds, rc⟩ .idle) (fun _ _ _ => no 139) (endRe P cf fuel f ⟨h, n, ds, rc⟩ .idle) (fun v env w' => endRe P cf fuel f ⟨h, n, ds, rc⟩ (.pan v) env w') (wrong f) (evBody P cf fuel f args h n .off) = _
    cases evBody P cf fuel f args h n .off <;> rfl
  rw [e]
  rcases body_eq (P := P) cf fuel f args h n .off with ⟨y, hy⟩ | ⟨dd, hlen, hdd, hbody⟩
  · rw [hy]; exact callR_of fun hk => by unfold ending wrong at hk; exact hk.elim
  obtain ⟨fn, c, q1, q2, q3, rfl⟩ := cFn_some hdd
  refine fn_end hP hm hcf q1 q2 hB fun cs => ?_
  rw [hbody]
  exact code_ok (cf := cf) (W0 := ⟨h, n, [], .off⟩) hP hcf ⟨hB.gle, hB.wle, hB.ble, hB.rel⟩ q3 hm fuel c _ _ _ _ _ _ (fn_start hr ha hlen cs)

theorem evFn_ok {gB : Gh} {wB : World} (hP : NoNum P) (hm : P.follows .mixedOrders = true) (fuel : Nat) : ∀ depth, CfOk P gB wB (evFn P fuel depth)
  | 0 => fun _ _ _ _ _ _ _ _ _ => trivial
  | depth + 1 => fn1_ok hP hm (evFn_ok hP hm fuel depth)

noncomputable def evO (P : Program) (fuel : Nat) (orc : FuncId → List Value → Option Value) (depth : Nat) : CallF :=
  Nat.rec (motive := fun _ => CallF) (fun _ _ _ => no 140) (fun _ ih f args w => Option.rec (motive := fun _ => Re) (evFn1 P ih fuel f args w) (fun v => .ok v w) (orc f args)) depth

theorem rel_grow {g : Gh} {h : Hp} {n : Nat} {w w' : World} (hr : Rel g B h n w) (hb : Below w.heap.size w w') : Ext g B h n w g h n w' := by
  refine ⟨⟨hr.pos, hr.lim, Nat.le_trans hr.base hb.size, hr.dom, hr.hdom, ?_, hr.dis, fun i k cp hl hg => Nat.lt_of_lt_of_le (hr.lt i k cp hl hg) hb.size, hr.low⟩,
    GLe.refl g, fun _ k cp h => .inr ⟨k, cp, h⟩, Nat.le_refl _, hb.size, hb.os, hb.tape, hb.output, fun b hlt _ => hb.block b hlt, fun i k cp hl hg _ => ⟨i, k, cp, hl, hg, rfl⟩⟩
  intro i o hi ho
  exact (hr.obs i o hi ho).stay (GLe.refl g) (fun _ _ h => h) fun k cp hg hf => hb.block _ (hr.lt i k cp ⟨hi, o, ho, hf⟩ hg)

def OrcOk (P : Program) (gB : Gh) (wB : World) (orc : FuncId → List Value → Option Value) : Prop := ∀ (f : FuncId) (args args' : List Value) (v : Value), orc f args = some v → ∀ (g : Gh) (w : World), GLe gB g → Below wB.heap.size wB w → All2 (RV g) args args' →
  Calls P f ⟨args'⟩ w fun e w' => Below w.heap.size w w' ∧ ∃ v', e = .returned v' ∧ RV g v v'

theorem evO_ok {gB : Gh} {wB : World} {orc : FuncId → List Value → Option Value} (hP : NoNum P) (hm : P.follows .mixedOrders = true) (ho : OrcOk P gB wB orc) (fuel : Nat) : ∀ depth, CfOk P gB wB (evO P fuel orc depth)
  | 0 => fun _ _ _ _ _ _ _ _ _ => trivial
  | depth + 1 => by
    intro f args args' g B a w hB ha
    have hr := hB.rel
    show CallR P g B a w f args' (Option.rec (motive := fun _ => Re) (evFn1 P (evO P fuel orc depth) fuel f args a) (fun v => .ok v a) (orc f args) : Re)
    cases he : orc f args with
    | none => exact fn1_ok hP hm (evO_ok hP hm ho fuel depth) f args args' g B a w hB ha
    | some v =>
      refine (ho f args args' v he g w hB.gle hB.wle ha).mono ?_
      rintro e w' ⟨hb, v', rfl, hv⟩
      exact ⟨v', g, rfl, hv, rel_grow hr hb, rfl, rfl⟩

end
end Go.Cx
namespace Go.Cx
open Go Go.RowKit
variable {P : Program}

noncomputable def w02 : W := ⟨hp0, 2, [], .off⟩

theorem rel_start {gB : Gh} (hg : ∀ i k cp, gB i k = some cp → i = 1) (w : World) : Rel gB w.heap.size hp0 2 w := by
  have hn : ∀ {i k : Nat}, ¬ Live hp0 i k := by
    rintro i k ⟨_, o, h, _⟩
    rw [hget_hp0] at h; cases h
  refine ⟨by decide, by decide, Nat.le_refl _, fun i k cp h => by have := hg i k cp h; omega, fun i o _ h => ?_, fun i o _ h => ?_, fun i i' k k' c c' _ h => absurd h hn, fun i k c h => absurd h hn, fun i k c h => absurd h hn⟩
  · rw [hget_hp0] at h; cases h
  · rw [hget_hp0] at h; cases h

theorem kept_below {gB g' : Gh} {w w' : World} {b : W} (h : Kept gB w.heap.size w02 w g' b w') : Below w.heap.size w w' := by
  obtain ⟨hx, _, _⟩ := h
  refine ⟨hx.ex.os, hx.ex.tape, hx.ex.output, hx.ex.size, fun k hk => hx.ex.fr k hk fun i j cp hl _ => ?_⟩
  obtain ⟨_, o, h, _⟩ := hl
  have h : hget hp0 i = some o := h
  rw [hget_hp0] at h; cases h

noncomputable def isB (t : Bool) (r : Re) : Bool := match r with
  | .ok (.bool b) _ => Bool.rec (motive := fun _ => Bool) (Bool.rec (motive := fun _ => Bool) true false t) t b
  | _ => false
theorem isB_spec {t : Bool} {r : Re} (h : isB t r = true) : ∃ b, r = .ok (.bool t) b := by
  unfold isB at h
  split at h
  · rename_i u b
    cases u <;> cases t <;> first | exact ⟨b, rfl⟩ | cases h
  · cases h

theorem call_of {gB : Gh} {f : FuncId} {args' : List Value} {w : World} {t : Bool} {r : Re} (h : CallR P gB w.heap.size w02 w f args' r) (hr : isB t r = true) : Calls P f ⟨args'⟩ w fun e w' => e = .returned (.bool t) ∧ Below w.heap.size w w' := by
  obtain ⟨b, rfl⟩ := isB_spec hr
  refine Calls.mono (show Calls P f ⟨args'⟩ w _ from h) ?_
  rintro e w' ⟨v', g', rfl, hv, hk⟩
  rw [hv.bool]
  exact ⟨rfl, kept_below hk⟩

noncomputable def preSeq (P : Program) (fuel N xs : Nat) (cf : CallF) : Nat → Code → Env → W → Ou :=
  Nat.rec (motive := fun _ => Code → Env → W → Ou) (fun _ env U => .go env U)
    (fun _ ih c env U => match c with
      | .seq x y => Ou.rec (motive := fun _ => Ou) (ih y) (fun _ _ _ => .no 151) (fun _ _ => .no 151) (fun _ _ _ => .no 151) Ou.no ((cCode P fuel N xs x).run cf env U)
      | _ => .no 151)
def dropSeq : Nat → Code → Code :=
  Nat.rec (motive := fun _ => Code → Code) (fun c => c) (fun _ ih c => match c with | .seq _ y => ih y | _ => .skip)

def symG (l : List Value) : Gh := fun i k => if i = 1 then (match l[k]? with | some v => some ⟨0, 0, 0, 0, 0, false, v⟩ | none => none) else none
theorem symG_one (l : List Value) : ∀ i k cp, symG l i k = some cp → i = 1 := by
  intro i k cp h
  unfold symG at h
  split at h
  · assumption
  · cases h
theorem symG_rv {l : List Value} {k : Nat} {v : Value} (h : l[k]? = some v) : RV (symG l) (.complex .f32 k 2) v := by
  have : symG l 1 k = some ⟨0, 0, 0, 0, 0, false, v⟩ := by unfold symG; rw [if_pos rfl, h]
  exact .one (R1.sym this)
theorem sym_inv {l : List Value} {g : Gh} (hg : GLe (symG l) g) {k : Nat} {v v' : Value} (hv : l[k]? = some v) (h : RV g (.complex .f32 k 2) v') : v' = v := by
  have h1 : symG l 1 k = some ⟨0, 0, 0, 0, 0, false, v⟩ := by unfold symG; rw [if_pos rfl, hv]
  have h2 := hg _ _ _ h1
  cases h with
  | one h =>
    cases h with
    | cell h =>
      cases h with
      | base h => cases h; rename_i h; cases h
      | sym h3 _ => rw [h2] at h3; cases h3; rfl
    | sym h3 => rw [h2] at h3; cases h3; rfl

noncomputable def isSym (k : Nat) (v : Value) : Bool := match v with
  | .complex .f32 i 2 => Nat.beq i k
  | _ => false
theorem isSym_spec {k : Nat} {v : Value} (h : isSym k v = true) : v = .complex .f32 k 2 := by
  unfold isSym at h
  split at h
  · rw [Nat.eq_of_beq_eq_true h]
  · cases h
noncomputable def subE (t k : Nat) (v : Value) (env : Env) : Env := Bool.rec (motive := fun _ => Env) env ((putE t).run v env) (isSym k ((getE t).run env))

theorem subE_sl {l : List Value} {g : Gh} (hg : GLe (symG l) g) {xs : Nat} {env : Env} {tm : Nat → Value} (h : SlotR g xs [] env [] tm) {t k : Nat} {v : Value} (ht : has xs t = true) (hb : t < 256) (hv : l[k]? = some v) (hs : RV g v v) : SlotR g xs [] (subE t k v env) [] tm := by
  unfold subE
  cases hc : isSym k ((getE t).run env) with
  | false => exact h
  | true =>
    have h1 := h.out t ht hb
    rw [isSym_spec hc] at h1
    have := sym_inv hg hv h1
    have hp := h.put (fun _ h => (by cases h)) ht hb (v := v) (v' := v) hs
    refine ⟨fun q hq hq2 => ?_, fun i q hi => (by cases hi)⟩
    have := hp.out q hq hq2
    by_cases e : q = t
    · subst e
      rw [← ‹tm q = v›] at this ⊢
      simpa [setT] using this
    · simpa [setT, e] using this

section stages
variable {fuel depth : Nat} {f : FuncId} {fn : Func} {c : Code} {l : List Value} {wB : World}

noncomputable def stage (P : Program) (fuel depth : Nat) (fn : Func) (c : Code) (o : FuncId → List Value → Option Value) (k0 k : Nat) (env : Env) (U : W) : Ou :=
  preSeq P fuel fn.ntmps (xsOf fn c) (evO P fuel o depth) k (dropSeq k0 c) env U
noncomputable def lawEnd (P : Program) (fuel depth : Nat) (f : FuncId) (fn : Func) (c : Code) (o : FuncId → List Value → Option Value) (k : Nat) (env : Env) (U : W) : Re :=
  ending P (evO P fuel o depth) fuel f w02 ((cCode P fuel fn.ntmps (xsOf fn c) (dropSeq k c)).run (evO P fuel o depth) env U)

def Wins (P : Program) (fuel depth : Nat) (f : FuncId) (fn : Func) (c : Code) (l : List Value) (wB : World) (k0 : Nat) (env : Env) (U : W) : Prop :=
  ∃ o r, OrcOk P (symG l) wB o ∧ isB true (ending P (evO P fuel o depth) fuel f w02 r) = true ∧ ∀ (B : Nat) (cs0 : List Frame) (g0 : Gh) (W0 : W) (w0 : World) (g : Gh) (a : Act) (cs : List Frame) (w : World), Bs (symG l) wB B g0 W0 w0 →
    St P false B fn.ntmps (xsOf fn c) cs0 g0 W0 w0 [] env [] U g a cs w → Goes P false (dropSeq k0 c) (Post P false B fn.ntmps (xsOf fn c) cs0 g0 W0 w0 r) a cs w

theorem not_no {o : FuncId → List Value → Option Value} {r : Ou} (h : isB true (ending P (evO P fuel o depth) fuel f w02 r) = true) : ∀ y, r ≠ .no y := by
  intro y e
  subst e
  cases h

theorem Wins.fin (hP : NoNum P) (hm : P.follows .mixedOrders = true) (q3 : fn.ntmps ≤ 256) {k0 : Nat} {env : Env} {U : W} {o : FuncId → List Value → Option Value} (ho : OrcOk P (symG l) wB o) (h : isB true (lawEnd P fuel depth f fn c o k0 env U) = true) : Wins P fuel depth f fn c l wB k0 env U := by
  refine ⟨o, _, ho, h, fun B cs0 g0 W0 w0 g a cs w hB hs => ?_⟩
  exact (code_ok hP (evO_ok hP hm ho fuel depth) hB q3 hm fuel (dropSeq k0 c) _ _ _ _ _ _ hs).elim (not_no h)

theorem Wins.sub {k0 : Nat} {env : Env} {U : W} {t k : Nat} {v : Value} (ht : has (xsOf fn c) t = true) (hb : t < 256) (hv : l[k]? = some v) (hs : ∀ g, RV g v v) (h : Wins P fuel depth f fn c l wB k0 (subE t k v env) U) : Wins P fuel depth f fn c l wB k0 env U := by
  obtain ⟨o, r, ho, hr, hg⟩ := h
  refine ⟨o, r, ho, hr, fun B cs0 g0 W0 w0 g a cs w hB hst => hg B cs0 g0 W0 w0 g a cs w hB ?_⟩
  exact { hst with sl := subE_sl (hB.gle.trans hst.ext.ex.le) hst.sl ht hb hv (hs g) }

theorem drop_succ : ∀ (k : Nat) (c x y : Code), dropSeq k c = .seq x y → dropSeq (k + 1) c = y
  | 0, c, x, y, h => by
    have h : c = .seq x y := h
    subst h; rfl
  | k + 1, c, x, y, h => by
    cases c with
    | seq p q => exact drop_succ k q x y h
    | _ => cases h

theorem Wins.stage (hP : NoNum P) (hm : P.follows .mixedOrders = true) (q3 : fn.ntmps ≤ 256) {o : FuncId → List Value → Option Value} (ho : OrcOk P (symG l) wB o) : ∀ (k k0 : Nat) (env env1 : Env) (U U1 : W), Cx.stage P fuel depth fn c o k0 k env U = .go env1 U1 → Wins P fuel depth f fn c l wB (k0 + k) env1 U1 → Wins P fuel depth f fn c l wB k0 env U
  | 0, k0, env, env1, U, U1, h1, h => by cases h1; exact h
  | k + 1, k0, env, env1, U, U1, h1, h => by
    unfold Cx.stage at h1
    cases hc : dropSeq k0 c with
    | seq x y =>
      rw [hc] at h1
      have h1 : Ou.rec (motive := fun _ => Ou) (preSeq P fuel fn.ntmps (xsOf fn c) (evO P fuel o depth) k y) (fun _ _ _ => .no 151) (fun _ _ => .no 151) (fun _ _ _ => .no 151) Ou.no ((cCode P fuel fn.ntmps (xsOf fn c) x).run (evO P fuel o depth) env U) = .go env1 U1 := h1
      cases hr : (cCode P fuel fn.ntmps (xsOf fn c) x).run (evO P fuel o depth) env U with
      | go env2 U2 =>
        rw [hr] at h1
        have hy := drop_succ k0 c x y hc
        have h2 : Cx.stage P fuel depth fn c o (k0 + 1) k env2 U2 = .go env1 U1 := by unfold Cx.stage; rw [hy]; exact h1
        have e : k0 + (k + 1) = k0 + 1 + k := by omega
        rw [e] at h
        obtain ⟨o2, r, ho2, hr2, hg⟩ := Wins.stage hP hm q3 ho k (k0 + 1) env2 env1 U2 U1 h2 h
        refine ⟨o2, r, ho2, hr2, fun B cs0 g0 W0 w0 g a cs w hB hst => ?_⟩
        have hx := code_ok hP (evO_ok hP hm ho fuel depth) hB q3 hm fuel x _ _ _ _ _ _ hst
        rw [hr] at hx
        have hx : Goes P false x (Post P false B fn.ntmps (xsOf fn c) cs0 g0 W0 w0 (.go env2 U2)) a cs w := hx
        rw [hc]
        intro b kk hb
        obtain ⟨e, a1, cs1, w1, ⟨rfl, g1, hs1⟩, harr⟩ := hx b (.code y :: kk) hb
        have hy2 := hg B cs0 g0 W0 w0 g1 a1 cs1 w1 hB hs1
        rw [hy] at hy2
        obtain ⟨e2, a2, cs2, w2, hq2, harr2⟩ := hy2 b kk hb
        exact ⟨e2, a2, cs2, w2, hq2, .of_steps (.head step_seq harr) harr2⟩
      | ex _ _ _ => rw [hr] at h1; cases h1
      | ret _ _ => rw [hr] at h1; cases h1
      | pan _ _ _ => rw [hr] at h1; cases h1
      | no _ => rw [hr] at h1; cases h1
    | _ => rw [hc] at h1; cases h1

theorem Wins.calls (hP : NoNum P) (hm : P.follows .mixedOrders = true) (q1 : P.funcs[f]? = some fn) (q2 : fn.body = some c) {args args' : List Value} (hl : args.length ≤ 256) (ha : All2 (RV (symG l)) args args') (h : Wins P fuel depth f fn c l wB 0 (env0 args 0 env00) w02) :
    Calls P f ⟨args'⟩ wB fun e w' => e = .returned (.bool true) ∧ Below wB.heap.size wB w' := by
  obtain ⟨o, r, ho, hr, hg⟩ := h
  refine call_of (gB := symG l) ?_ hr
  have hB : Bs (symG l) wB wB.heap.size (symG l) w02 wB := ⟨GLe.refl _, Below.refl _ _, Nat.le_refl _, rel_start (symG_one l) wB⟩
  refine fn_end hP hm (evO_ok hP hm ho fuel depth) q1 q2 hB fun cs => Meets.of ?_
  exact hg wB.heap.size cs _ _ wB _ _ cs wB hB (fn_start (P := P) (fn := fn) (c := c) (rel_start (symG_one l) wB) ha hl cs)

end stages
end Go.Cx
namespace Go.Cx
open Go Go.RowKit Go.ChangeShapes Go.WideShapes Go.ChangeAt

section
variable {H : Type} {enc : TypeId × Value → H} {P : Program}

theorem trodAll_stays (hl : laidOutB P = true) {W W' : World} (hb : Below W.heap.size W W') {sp : Nat → Bool} : ∀ {ts : List TypeId} {vs : List Value} {ds : List (DataW H)} {ps : List MemPlace}, (∀ t ∈ ts, P.readableRec t = true ∧ t < P.types.size) →
    (∀ p ∈ ps, p.block < W.heap.size ∧ sp p.block = true) → DataW.TrodAll enc P W 0 (fun _ => true) true ts vs ds ps → DataW.TrodAll enc P W' 0 sp true ts vs ds ps
  | [], [], [], _, _, _, h => h
  | [], [], _ :: _, _, _, _, h => h.elim
  | [], _ :: _, [], _, _, _, h => h.elim
  | [], _ :: _, _ :: _, _, _, _, h => h.elim
  | _ :: _, [], [], _, _, _, h => h.elim
  | _ :: _, [], _ :: _, _, _, _, h => h.elim
  | _ :: _, _ :: _, [], _, _, _, h => h.elim
  | t :: ts, v :: vs, d :: ds, ps, hr, hps, h => by
    obtain ⟨p, q, h1, h2, rfl⟩ := h
    refine ⟨p, q, ?_, trodAll_stays hl hb (fun t ht => hr t (by simp [ht])) (fun x hx => hps x (by simp [hx])) h2, rfl⟩
    exact WideElems.Trod_stays hl (hr t (by simp)).1 (hr t (by simp)).2 h1 (fun x hx => hb.same (hps x (by simp [hx])).1) (fun x hx => (hps x (by simp [hx])).2)

theorem post_of_below {f : Func} {s : ChangeSpec} {apart fresh handsOn again : Bool} {W W' : World} {args : Array Value} {v : Value} {ds gs : List (DataW H)} {before pa pv : List MemPlace}
    (hW : DataW.Whole enc P f.params.toList s.vars apart W args.toList ds gs before)
    (hres : ∀ (b : Nat) (sp : Nat → Bool) (hd : Bool), DataW.TrodAll enc P W' b sp hd f.resultTypes.toList (v.resultList f.resultTypes.size) (s.fn H (ds ++ gs)).results [])
    (hargs : ∀ sp : Nat → Bool, (∀ p ∈ before, sp p.block = true) → DataW.TrodAll enc P W' 0 sp true f.params.toList args.toList (s.fn H (ds ++ gs)).args pa)
    (hvars : ∀ sp : Nat → Bool, (∀ p ∈ before, sp p.block = true) → DataW.TrodVars enc P W' sp s.vars (s.fn H (ds ++ gs)).vars pv)
    (hps : before = pa ++ pv) (hb : Below W.heap.size W W')
    (hok : ∀ (j : Nat) (t : TypeId) (r : Value), f.resultTypes[j]? = some t → (v.resultList f.resultTypes.size)[j]? = some r → Value.okWide P W' .any 0 t r) :
    s.post enc P f apart fresh handsOn again W args v W' := by
  have hlt : ∀ p ∈ before, p.block < W.heap.size := fun p hp => hW.lt p hp
  have hold : ∀ p ∈ before, (fun b => decide (b < W.heap.size)) p.block = true := fun p hp => by simpa using hlt p hp
  refine ⟨ds, gs, before, [], pa, pv, hW, hres _ _ _, hargs _ hold, hvars _ hold, World.keptBut_mono (fun p hp => ⟨hp, ?_⟩) (hb.frame (· ∈ before)), fun _ => ?_⟩
  · rw [hps, List.mem_append] at hp
    exact Or.inr hp
  · obtain ⟨_, _, _, _, _, hz, hn⟩ := hW
    refine ⟨hok, _, _, ([] ++ pa) ++ pv, ⟨[] ++ pa, pv, trodAll_append (hargs _ (fun _ _ => rfl)) (hres _ _ _), hvars _ (fun _ _ => rfl), rfl, ?_, ?_⟩, ?_⟩
    · intro b off hp
      have hin : MemPlace.cell b off ∈ before := by rw [hps]; simpa using hp
      rw [hb.frozen (hlt _ hin)]
      exact hz b off hin
    · intro ha
      have := hn ha
      rw [hps] at this
      simpa using this
    · intro p hp _
      rw [hps]
      simpa using hp

theorem law_post {f : Func} {s : ChangeSpec} {apart fresh handsOn again : Bool} {W W' : World} {args : Array Value} {ds gs : List (DataW H)} {before : List MemPlace} {tb : TypeId}
    (hl : laidOutB P = true) (hr : ∀ t ∈ f.params.toList, P.readableRec t = true ∧ t < P.types.size) (hv : s.vars = []) (hres : f.resultTypes = #[tb]) (htb : P.underlying tb = some .bool)
    (hfn : ∀ ds : List (DataW H), ds.length = f.params.size → s.fn H ds = { results := [.lit (.bool true)], args := ds })
    (hW : DataW.Whole enc P f.params.toList s.vars apart W args.toList ds gs before) (hb : Below W.heap.size W W') : s.post enc P f apart fresh handsOn again W args (.bool true) W' := by
  have hW' := hW
  obtain ⟨p, q, hA, hV, hpq, hfz, hnd⟩ := hW
  have hV2 := hV
  rw [hv] at hV2
  obtain ⟨rfl, rfl⟩ := trodVars_none hV2
  have hlen : ∀ {ts : List TypeId} {vs : List Value} {ds : List (DataW H)} {ps : List MemPlace}, DataW.TrodAll enc P W 0 (fun _ => true) true ts vs ds ps → ds.length = ts.length := by
    intro ts
    induction ts with
    | nil => intro vs ds ps h; match vs, ds, h with | [], [], _ => rfl
    | cons t ts ih =>
      intro vs ds ps h
      match vs, ds, h with
      | v :: vs, d :: ds, ⟨_, _, _, h2, _⟩ => simp [ih h2]
  have hdl : ds.length = f.params.size := by have := hlen hA; simpa using this
  have hfd := hfn ds hdl
  have hlt : ∀ x ∈ before, x.block < W.heap.size := fun x hx => hW'.lt x hx
  subst hpq
  refine post_of_below (pa := p) (pv := []) hW' ?_ ?_ ?_ rfl hb (ok_one hres rfl (okWide_bool_mk htb true))
  · intro b sp hd
    rw [List.append_nil, hfd, hres]
    exact trodAll_mk1 (shut_bool htb true)
  · intro sp hsp
    rw [List.append_nil, hfd]
    exact trodAll_stays hl hb hr (fun x hx => ⟨hlt x (by simpa using hx), hsp x (by simpa using hx)⟩) hA
  · intro sp _
    rw [List.append_nil, hfd, hv]
    exact rfl
end
end Go.Cx
namespace Go.Cx
open Go Go.RowKit
variable {P : Program}

section
variable {B : Nat} {fuel : Nat}

noncomputable def evH (P : Program) (fuel : Nat) (orc : FuncId → List Value → W → Option Re) (depth : Nat) : CallF :=
  Nat.rec (motive := fun _ => CallF) (fun _ _ _ => no 140) (fun _ ih f args w => Option.rec (motive := fun _ => Re) (evFn1 P ih fuel f args w) (fun r => r) (orc f args w)) depth

def OrcOkH (P : Program) (gB : Gh) (wB : World) (orc : FuncId → List Value → W → Option Re) : Prop := ∀ (f : FuncId) (args args' : List Value) (r : Re) (g : Gh) (B : Nat) (a : W) (w : World), orc f args a = some r → Bs gB wB B g a w → All2 (RV g) args args' → CallR P g B a w f args' r

theorem evH_ok {gB : Gh} {wB : World} {orc : FuncId → List Value → W → Option Re} (hP : NoNum P) (hm : P.follows .mixedOrders = true) (ho : OrcOkH P gB wB orc) (fuel : Nat) : ∀ depth, CfOk P gB wB (evH P fuel orc depth)
  | 0 => fun _ _ _ _ _ _ _ _ _ => trivial
  | depth + 1 => by
    intro f args args' g B a w hB ha
    show CallR P g B a w f args' (Option.rec (motive := fun _ => Re) (evFn1 P (evH P fuel orc depth) fuel f args a) (fun r => r) (orc f args a) : Re)
    cases he : orc f args a with
    | none => exact fn1_ok hP hm (evH_ok hP hm ho fuel depth) f args args' g B a w hB ha
    | some r => exact ho f args args' r g B a w he hB ha

theorem callR_val {gB : Gh} {wB : World} {g : Gh} {a : W} {w : World} {f : FuncId} {args' : List Value} {v : Value} (hB : Bs gB wB B g a w) (h : Calls P f ⟨args'⟩ w fun e w' => Below w.heap.size w w' ∧ ∃ v', e = .returned v' ∧ RV g v v') : CallR P g B a w f args' (.ok v a) := by
  refine Calls.mono h ?_
  rintro e w' ⟨hb, v', rfl, hv⟩
  exact ⟨v', g, rfl, hv, rel_grow hB.rel hb, rfl, rfl⟩

noncomputable def joinL (sep : List UInt8) (l : List Value) : Option (List UInt8) :=
  List.rec (motive := fun _ => Option (List UInt8)) (some []) (fun v r ih => match v with
    | .string ⟨⟨b⟩⟩ => match r with | [] => some b | _ => match ih with | some t => some (b ++ (sep ++ t)) | none => none
    | _ => none) l
noncomputable def orcJoin (f : FuncId) : FuncId → List Value → W → Option Re := fun f' args w =>
  Bool.rec (motive := fun _ => Option Re) none (match args with
    | [.slice (some a) (.succ n) _, .string ⟨⟨sep⟩⟩] => match rd w.h a (Nat.succ n) with
      | some l => match joinL sep l with | some t => Bool.rec (motive := fun _ => Option Re) none (some (.ok (.string ⟨⟨t⟩⟩) w)) (Nat.ble t.length 1000000 && Nat.ble n 1000000) | none => none
      | none => none
    | _ => none) (Nat.beq f' f)

theorem joinL_eq {sep : List UInt8} : ∀ {l : List Value} {t : List UInt8}, joinL sep l = some t → ∃ xs : List ByteArray, l = xs.map Value.string ∧ t = Lib.join (xs.map (·.data.toList)) sep
  | [], t, h => by cases h; exact ⟨[], rfl, rfl⟩
  | v :: r, t, h => by
    cases v with
    | string s =>
      obtain ⟨⟨b⟩⟩ := s
      cases r with
      | nil =>
        have h : some b = some t := h
        rw [Option.some.inj h]
        exact ⟨[⟨⟨t⟩⟩], rfl, (Lib.join_one _ _).symm⟩
      | cons u r =>
        have h : (match joinL sep (u :: r) with | some t => some (b ++ (sep ++ t)) | none => none) = some t := h
        cases hj : joinL sep (u :: r) with
        | none => rw [hj] at h; cases h
        | some t' =>
          rw [hj] at h
          cases h
          obtain ⟨xs, e1, e2⟩ := joinL_eq hj
          cases xs with
          | nil => cases e1
          | cons x xs =>
            refine ⟨⟨⟨b⟩⟩ :: x :: xs, by rw [e1]; rfl, ?_⟩
            rw [e2]
            simp [Lib.join, List.intercalate]
    | _ => cases h

theorem all2_str {g : Gh} : ∀ {xs : List ByteArray} {l' : List Value}, All2 (RC g) (xs.map Value.string) l' → l' = xs.map Value.string
  | [], _, h => by cases h; rfl
  | x :: xs, _, h => by
    cases h with
    | cons h1 h2 =>
      rw [all2_str h2]
      have : ∀ {v}, RC g (.string x) v → v = .string x := by
        intro v h
        cases h with
        | base h => cases h; rfl
      rw [this h1]; rfl

theorem orcJoin_ok {gB : Gh} {wB : World} {f : FuncId}
    (hJ : ∀ (bk o c : Nat) (xs : List ByteArray) (sep : ByteArray) (w : World), (∀ (j : Nat) x, xs[j]? = some x → w.cell? ⟨bk, o + j, none⟩ = some (.string x)) → bk < w.heap.size → xs.length ≤ 140737488355328 → xs.length ≤ c →
      (Lib.join (xs.map (·.data.toList)) sep.data.toList).length ≤ 281474976710656 →
      Calls P f #[.slice (some ⟨bk, o, none⟩) xs.length c, .string sep] w fun e w' => e = .returned (.string ⟨(Lib.join (xs.map (·.data.toList)) sep.data.toList).toArray⟩) ∧ Below w.heap.size w w') : OrcOkH P gB wB (orcJoin f) := by
  intro f' args args' r g B a w he hB ha
  unfold orcJoin at he
  cases hf : Nat.beq f' f with
  | false => rw [hf] at he; cases he
  | true =>
    rw [hf] at he
    have := Nat.eq_of_beq_eq_true hf
    subst this
    dsimp only at he
    split at he
    · rename_i ad n c sep
      split at he
      · rename_i l hrd
        split at he
        · rename_i t hj
          cases hb : (Nat.ble t.length 1000000 && Nat.ble n 1000000) with
          | false => rw [hb] at he; cases he
          | true =>
            rw [hb] at he
            cases he
            rw [Bool.and_eq_true] at hb
            have b1 := Nat.le_of_ble_eq_true hb.1
            have b2 := Nat.le_of_ble_eq_true hb.2
            cases ha with
            | cons h1 ha =>
              cases ha with
              | cons h2 ha =>
                cases ha
                have h1 := h1.slice
                have h2 := h2.string
                subst h2
                obtain ⟨xs, rfl, rfl⟩ := joinL_eq hj
                cases h1 with
                | same h => have := (cellV_slice h).2.1; cases this
                | slice hg hc hn hl hal =>
                  rename_i i o s cp a'
                  obtain ⟨l', e1, e2, e3⟩ := rd_sound hB.rel hrd hg hc
                  have e2 := all2_str e2
                  subst e2
                  have hxl : xs.length = Nat.succ n := by simpa using e1
                  rcases hal with hz | rfl
                  · omega
                  · have hcell : ∀ (j : Nat) x, xs[j]? = some x → w.cell? ⟨cp.blk, (o - cp.cut) + j, none⟩ = some (.string x) := by
                      intro j x hx
                      have := e3 j (.string x) (by simp [hx])
                      have e : (⟨cp.blk, o - cp.cut, none⟩ : Addr).add j = ⟨cp.blk, o - cp.cut + j, none⟩ := by
                        cases j <;> simp [Addr.add]
                      rw [e] at this
                      exact this
                    have hlt : cp.blk < w.heap.size := by
                      have h0 : ∃ x, xs[0]? = some x := ⟨xs[0]'(by omega), List.getElem?_eq_getElem (by omega)⟩
                      obtain ⟨x, hx⟩ := h0
                      have hc := hcell 0 x hx
                      unfold World.cell? at hc
                      split at hc
                      · rename_i hb
                        exact (Array.getElem?_eq_some_iff.1 hb).1
                      · cases hc
                    have := hJ cp.blk (o - cp.cut) (c + cp.ext) xs ⟨⟨sep⟩⟩ w hcell hlt (by omega) (by omega) (Nat.le_trans b1 (by omega))
                    rw [hxl] at this
                    refine callR_val hB (this.mono ?_)
                    rintro e w' ⟨rfl, hb⟩
                    exact ⟨hb, _, rfl, RV.self rfl⟩
        · cases he
      · cases he
    · cases he
end
end Go.Cx
namespace Go.Cx
open Go

def reG (g : Gh) (p : Nat → Nat) : Gh := fun i k => g (p i) k

noncomputable def sameAd (p : Nat → Nat) (a b : Addr) : Bool := Nat.beq (p a.block) b.block && (Nat.beq a.off b.off && Nat.beq (genOf a.spot) (genOf b.spot))
noncomputable def sameI (p : Nat → Nat) (a b : Value) : Bool := match a, b with
  | .pointer (some x), .pointer (some y) => sameAd p x y
  | .slice (some x) n c, .slice (some y) m d => sameAd p x y && (Nat.beq n m && (Nat.beq c d && (Nat.beq x.block 0 || !(Nat.beq y.block 0))))
  | .map (some x), .map (some y) => Nat.beq (p x) y
  | .chan (some x), .chan (some y) => Nat.beq (p x) y
  | .pointer (some _), _ => false
  | .slice (some _) _ _, _ => false
  | .map (some _), _ => false
  | .chan (some _), _ => false
  | a, b => eqC a b
noncomputable def sameIL (p : Nat → Nat) : List Value → List Value → Bool
  | [], [] => true
  | x :: l, y :: m => sameI p x y && sameIL p l m
  | _, _ => false
noncomputable def sameC (Q : Value → Value → Bool) (p : Nat → Nat) (a b : Value) : Bool := match a, b with
  | .func (.func k) xs ys, .func (.func k') xs' ys' => Nat.beq k k' && (sameIL p xs.toList xs'.toList && sameIL p ys.toList ys'.toList)
  | .complex .f32 k 2, .complex .f32 k' 2 => Nat.beq k k'
  | a, b => sameI p a b || Q a b
noncomputable def q0 : Value → Value → Bool := fun _ _ => false
noncomputable def sameL (Q : Value → Value → Bool) (p : Nat → Nat) : List Value → List Value → Bool
  | [], [] => true
  | x :: l, y :: m => sameC Q p x y && sameL Q p l m
  | _, _ => false
noncomputable def sameLL (Q : Value → Value → Bool) (p : Nat → Nat) : List (List Value) → List (List Value) → Bool
  | [], [] => true
  | x :: l, y :: m => sameL Q p x y && sameLL Q p l m
  | _, _ => false
noncomputable def sameV (Q : Value → Value → Bool) (p : Nat → Nat) (a b : Value) : Bool := match a, b with
  | .complex .f32 0 1, _ => true
  | .agg xs, .agg ys => sameL Q p xs.toList ys.toList
  | .tuple ⟨[]⟩, .tuple ⟨[]⟩ => true
  | a, b => sameC Q p a b
noncomputable def sameO (Q : Value → Value → Bool) (p : Nat → Nat) (a b : Ob) : Bool := match a, b with
  | .row cs ln _ e fix gen flo, .row cs' ln' _ e' fix' gen' flo' => sameLL Q p cs cs' && (Nat.beq ln ln' && (Nat.beq e e' && ((fix == fix') && (Nat.beq gen gen' && Nat.beq flo flo'))))
  | _, _ => false

def isCellV (v : Value) : Bool := match v with
  | .agg _ => false
  | .tuple _ => false
  | .complex .f32 _ 1 => false
  | _ => true

section
variable {g : Gh} {p : Nat → Nat} {Q : Value → Value → Bool}

structure QOk (Q : Value → Value → Bool) (g : Gh) (p : Nat → Nat) : Prop where
  rc : ∀ a b x, Q a b = true → RC g b x → RC (reG g p) a x
  cell : ∀ a b, Q a b = true → isCellV b = true
  sym : ∀ a k cp, Q a (.complex .f32 k 2) = true → g 1 k = some cp → R1 (reG g p) a cp.val
theorem q0_ok : QOk q0 g p := ⟨fun _ _ _ h => (by cases h), fun _ _ h => (by cases h), fun _ _ _ h => (by cases h)⟩

theorem genOf_zero {s : Option Nat} (h : genOf s = 0) : s = none := by
  cases s with
  | none => rfl
  | some k => cases h

theorem sameAd_spec {a b : Addr} (h : sameAd p a b = true) : p a.block = b.block ∧ a.off = b.off ∧ genOf a.spot = genOf b.spot := by
  unfold sameAd at h
  simp only [Bool.and_eq_true] at h
  exact ⟨Nat.eq_of_beq_eq_true h.1, Nat.eq_of_beq_eq_true h.2.1, Nat.eq_of_beq_eq_true h.2.2⟩

theorem sameI_ri {a b x : Value} (h : sameI p a b = true) (hr : RI g b x) : RI (reG g p) a x := by
  unfold sameI at h
  split at h
  · rename_i x1 y
    obtain ⟨h1, h2, h3⟩ := sameAd_spec h
    obtain ⟨i, o, s⟩ := x1
    obtain ⟨i', o', s'⟩ := y
    dsimp only at h1 h2 h3
    subst h1 h2
    cases hr with
    | same hc => cases hc
    | ptr hg hc => exact .ptr (by unfold reG; rw [h3]; exact hg) hc
  · rename_i x1 n c y m d
    simp only [Bool.and_eq_true, Bool.or_eq_true, Bool.not_eq_true'] at h
    obtain ⟨h0, hn, hc, hz⟩ := h
    obtain ⟨h1, h2, h3⟩ := sameAd_spec h0
    have hn := Nat.eq_of_beq_eq_true hn
    have hc := Nat.eq_of_beq_eq_true hc
    subst hn hc
    obtain ⟨i, o, s⟩ := x1
    obtain ⟨i', o', s'⟩ := y
    dsimp only at h1 h2 h3 hz
    subst h2
    cases hr with
    | same hc => cases hc
    | slice hg hc hn hl ha => exact .slice (by unfold reG; rw [h1, h3]; exact hg) hc hn hl ha
    | slice0 =>
      rcases hz with hz | hz
      · have := Nat.eq_of_beq_eq_true hz
        subst this
        have := genOf_zero h3
        subst this
        exact .slice0
      · cases hz
  · rename_i x1 y
    have := Nat.eq_of_beq_eq_true h
    subst this
    cases hr with
    | same hc => cases hc
    | map hg => exact .map hg
  · rename_i x1 y
    have := Nat.eq_of_beq_eq_true h
    subst this
    cases hr with
    | same hc => cases hc
    | chan hg => exact .chan hg
  · cases h
  · cases h
  · cases h
  · cases h
  · rename_i n1 n2 n3 n4 n5 n6 n7 n8
    have := eqC_eq h
    subst this
    cases hr with
    | same hc => exact .same hc
    | ptr hg hc => exact (n1 _ rfl).elim
    | slice hg hc hn hl ha => exact (n2 _ _ _ rfl).elim
    | slice0 => exact (n2 _ _ _ rfl).elim
    | map hg => exact (n3 _ rfl).elim
    | chan hg => exact (n4 _ rfl).elim
    | glob => exact .glob

def isSimp (v : Value) : Bool := match v with
  | .agg _ => false
  | .tuple _ => false
  | .iface _ _ => false
  | .func _ _ _ => false
  | .complex .f32 _ 0 => true
  | .complex _ _ _ => false
  | _ => true
theorem eqC_simp {a b : Value} (h : eqC a b = true) (hb : isSimp b = false) : False := by
  have e := eqC_eq h
  subst e
  unfold eqC at h
  split at h
  all_goals first | cases hb | cases h
theorem sameI_simp {a b : Value} (h : sameI p a b = true) (hb : isSimp b = false) : False := by
  unfold sameI at h
  split at h
  all_goals first | cases hb | cases h | exact eqC_simp h hb

theorem sameI_ra {a b x : Value} (h : sameI p a b = true) (hr : RA g b x) : RA (reG g p) a x := by
  cases hr with
  | one hr => exact .one (sameI_ri h hr)
  | agg => exact (sameI_simp h rfl).elim
  | iface => exact (sameI_simp h rfl).elim
theorem sameIL_ra : ∀ {l m l' : List Value}, sameIL p l m = true → All2 (RA g) m l' → All2 (RA (reG g p)) l l'
  | [], [], _, _, h => by cases h; exact .nil
  | [], _ :: _, _, h, _ => by cases h
  | _ :: _, [], _, h, _ => by cases h
  | a :: l, b :: m, _, h, hr => by
    unfold sameIL at h
    rw [Bool.and_eq_true] at h
    cases hr with
    | cons h1 h2 => exact .cons (sameI_ra h.1 h1) (sameIL_ra h.2 h2)

theorem sameC_ri (hQ : QOk Q g p) (hp : p 1 = 1) {a b x : Value} (h : sameC Q p a b = true) (hr : RC g b x) : RC (reG g p) a x := by
  unfold sameC at h
  split at h
  · rename_i k xs ys k' xs' ys'
    simp only [Bool.and_eq_true] at h
    obtain ⟨h1, h2, h3⟩ := h
    have := Nat.eq_of_beq_eq_true h1
    subst this
    cases hr with
    | base hr => cases hr; rename_i hc; cases hc
    | func ha hb => exact .func (a := xs.toList) (b := ys.toList) (sameIL_ra h2 ha) (sameIL_ra h3 hb)
  · rename_i k k'
    have := Nat.eq_of_beq_eq_true h
    subst this
    cases hr with
    | base hr => cases hr; rename_i hc; cases hc
    | sym hg h1 => exact .sym (by unfold reG; rw [hp]; exact hg) h1
  · rename_i n1 n2
    rw [Bool.or_eq_true] at h
    rcases h with h | h
    case inr => exact hQ.rc _ _ _ h hr
    cases hr with
    | base hr => exact .base (sameI_ri h hr)
    | func ha hb => exact (sameI_simp h rfl).elim
    | sym hg h1 => exact (sameI_simp h rfl).elim
    | lin => exact (sameI_simp h rfl).elim
    | iface hl => exact (sameI_simp h rfl).elim

theorem sameL_spec : ∀ {l m : List Value}, sameL Q p l m = true → l.length = m.length ∧ ∀ (x : Nat) (v : Value), m[x]? = some v → ∃ u, l[x]? = some u ∧ sameC Q p u v = true
  | [], [], _ => ⟨rfl, fun x v h => by simp at h⟩
  | [], _ :: _, h => by cases h
  | _ :: _, [], h => by cases h
  | a :: l, b :: m, h => by
    unfold sameL at h
    rw [Bool.and_eq_true] at h
    obtain ⟨h1, h2⟩ := sameL_spec h.2
    refine ⟨by simp [h1], fun x v hx => ?_⟩
    cases x with
    | zero => simp at hx; subst hx; exact ⟨a, rfl, h.1⟩
    | succ x => simpa using h2 x v (by simpa using hx)

theorem sameL_append : ∀ {l m l' m' : List Value}, sameL Q p l m = true → sameL Q p l' m' = true → sameL Q p (l ++ l') (m ++ m') = true
  | [], [], _, _, _, h => h
  | [], _ :: _, _, _, h, _ => by cases h
  | _ :: _, [], _, _, h, _ => by cases h
  | a :: l, b :: m, l', m', h, h' => by
    unfold sameL at h
    rw [Bool.and_eq_true] at h
    show (sameC Q p a b && sameL Q p (l ++ l') (m ++ m')) = true
    rw [h.1, sameL_append h.2 h']; rfl

theorem sameLL_flat : ∀ {l m : List (List Value)}, sameLL Q p l m = true → sameL Q p l.flatten m.flatten = true
  | [], [], _ => rfl
  | [], _ :: _, h => by cases h
  | _ :: _, [], h => by cases h
  | a :: l, b :: m, h => by
    unfold sameLL at h
    rw [Bool.and_eq_true] at h
    rw [List.flatten_cons, List.flatten_cons]
    exact sameL_append h.1 (sameLL_flat h.2)

theorem sameLL_wf : ∀ {l m : List (List Value)}, sameLL Q p l m = true → Wf m → Wf l
  | [], [], _, _ => trivial
  | [], _ :: _, h, _ => by cases h
  | _ :: _, [], h, _ => by cases h
  | [a], [b], h, hw => by
    unfold sameLL at h
    rw [Bool.and_eq_true] at h
    have := (sameL_spec h.1).1
    obtain ⟨h1, h2⟩ := hw
    exact ⟨by omega, fun e => h2 (List.eq_nil_of_length_eq_zero (by rw [← this, e]; rfl))⟩
  | [a], b :: c :: m, h, hw => by
    unfold sameLL at h
    rw [Bool.and_eq_true] at h
    cases h.2
  | a :: c :: l, [b], h, hw => by
    unfold sameLL at h
    rw [Bool.and_eq_true] at h
    cases h.2
  | a :: c :: l, b :: d :: m, h, hw => by
    unfold sameLL at h
    rw [Bool.and_eq_true] at h
    have := (sameL_spec h.1).1
    exact ⟨by rw [this]; exact hw.1, sameLL_wf h.2 hw.2⟩

theorem notC (hQ : QOk Q g p) {a b : Value} (h : sameC Q p a b = true) (hb : isCellV b = true → False) : False := by
  unfold sameC at h
  split at h
  · exact hb rfl
  · exact hb rfl
  · rename_i b _ _
    rw [Bool.or_eq_true] at h
    rcases h with h | h
    case inr => exact hb (hQ.cell _ _ h)
    unfold sameI at h
    split at h
    all_goals first
      | exact hb rfl
      | cases h
      | skip
    have e := eqC_eq h
    subst e
    unfold eqC at h
    split at h
    all_goals first | exact hb rfl | cases h
theorem symC (hQ : QOk Q g p) (hp : p 1 = 1) {a : Value} {k : Nat} {cp : Cp} (h : sameC Q p a (.complex .f32 k 2) = true) (hg : g 1 k = some cp) : R1 (reG g p) a cp.val := by
  unfold sameC at h
  split at h
  · rename_i e; cases e
  · rename_i e
    cases e
    have := Nat.eq_of_beq_eq_true h
    subst this
    exact .sym (by unfold reG; rw [hp]; exact hg)
  · rw [Bool.or_eq_true] at h
    rcases h with h | h
    · exact (sameI_simp h rfl).elim
    · exact hQ.sym _ _ _ h hg

theorem sameV_rv (hQ : QOk Q g p) (hp : p 1 = 1) {a b x : Value} (h : sameV Q p a b = true) (hr : RV g b x) : RV (reG g p) a x := by
  unfold sameV at h
  split at h
  · exact junk_rv
  · rename_i xs ys
    obtain ⟨h1, h2⟩ := sameL_spec h
    cases hr with
    | one hr =>
      cases hr with
      | cell hr =>
        cases hr with
        | base hr => cases hr; rename_i hc; cases hc
      | agg hl =>
        rename_i l l'
        refine .one (.agg (l := xs.toList) ?_)
        refine All2.of_get (by rw [h1, ← hl.length]) fun i u v hu hv => ?_
        obtain ⟨b, hb⟩ : ∃ b, l[i]? = some b := by
          have : i < l.length := by rw [hl.length]; exact (List.getElem?_eq_some_iff.1 hv).1
          exact ⟨_, List.getElem?_eq_getElem this⟩
        obtain ⟨u', hu', hs⟩ := h2 i b hb
        rw [hu] at hu'
        cases hu'
        obtain ⟨v2, hv2, hrc⟩ := hl.get hb
        rw [hv] at hv2
        cases hv2
        exact sameC_ri hQ hp hs hrc
  · rw [hr.unit]
    exact .tuple .nil
  · rename_i n1 n2 n3
    have key : ∀ {y}, RC g b y → RC (reG g p) a y := fun hy => sameC_ri hQ hp h hy
    cases hr with
    | one hr =>
      cases hr with
      | cell hr => exact .one (.cell (key hr))
      | agg hl => exact (notC hQ h (by intro hc; cases hc)).elim
      | junk => exact (notC hQ h (by intro hc; cases hc)).elim
      | sym hg => exact .one (symC hQ hp h hg)
    | tuple hl => exact (notC hQ h (by intro hc; cases hc)).elim

theorem sameO_spec (hQ : QOk Q g p) (hp : p 1 = 1) {w : World} {B i : Nat} {a b : Ob} (h : sameO Q p a b = true) (hb : ObAt g w B (p i) b) : ObAt (reG g p) w B i a ∧ floor a = floor b := by
  unfold sameO at h
  split at h
  · rename_i cs ln t e fix gen flo cs' ln' t' e' fix' gen' flo'
    simp only [Bool.and_eq_true, beq_iff_eq] at h
    obtain ⟨h0, h1, h2, h3, h4, h5⟩ := h
    have h1 := Nat.eq_of_beq_eq_true h1
    have h2 := Nat.eq_of_beq_eq_true h2
    have h4 := Nat.eq_of_beq_eq_true h4
    have h5 := Nat.eq_of_beq_eq_true h5
    subst h1 h2 h3 h4 h5
    refine ⟨?_, rfl⟩
    obtain ⟨k1, k2, k3, k4, k5⟩ := hb
    obtain ⟨hl, hc⟩ := sameL_spec (sameLL_flat h0)
    refine ⟨sameLL_wf h0 k1, by rw [hl]; exact k2, k3, fun k k' c c' hk hk' => k4 k k' c c' hk hk', fun k cp hk => ⟨(k5 k cp hk).1, fun hf => ⟨?_, ((k5 k cp hk).2 hf).2⟩⟩⟩
    obtain ⟨q1, q2, q3, q4, q5, q6, vec, tt, fr, r1, r2, r3, r4⟩ := ((k5 k cp hk).2 hf).1
    refine ⟨q1, q2, by rw [hl]; exact q3, q4, q5, q6, vec, tt, fr, r1, r2, r3, fun x hx1 hx2 => ?_⟩
    obtain ⟨v, v', e1, e2, e3⟩ := r4 x hx1 hx2
    obtain ⟨u, hu, hs⟩ := hc x v e1
    exact ⟨u, v', hu, e2, sameC_ri hQ hp hs e3⟩
  · cases h

end

noncomputable def bld (l : List (Nat × Ob)) : Hp := List.rec (motive := fun _ => Hp) hp0 (fun x _ ih => hset ih x.1 x.2) l

theorem bld_mem : ∀ {l : List (Nat × Ob)} {i : Nat} {o : Ob}, i < 65536 → (∀ x ∈ l, x.1 < 65536) → hget (bld l) i = some o → (i, o) ∈ l
  | [], i, o, _, _, h => by
    have h : hget hp0 i = some o := h
    rw [hget_hp0] at h; cases h
  | (j, ob) :: l, i, o, hi, hl, h => by
    have h : hget (hset (bld l) j ob) i = some o := h
    by_cases e : i = j
    · subst e
      rw [hget_hset] at h
      cases h
      exact List.mem_cons_self
    · rw [hget_hset' hi (hl (j, ob) List.mem_cons_self) e] at h
      exact List.mem_cons_of_mem _ (bld_mem hi (fun x hx => hl x (List.mem_cons_of_mem _ hx)) h)

noncomputable def chkL (Q : Value → Value → Bool) (p : Nat → Nat) (n : Nat) (h : Hp) (l : List (Nat × Ob)) : Nat → Bool :=
  List.rec (motive := fun _ => Nat → Bool) (fun _ => true) (fun x _ ih last =>
    Nat.ble 1 x.1 && (Nat.ble (Nat.succ x.1) n && (Nat.ble (Nat.succ (p x.1)) 65536 && (Nat.ble (Nat.succ last) (p x.1) && (Option.rec (motive := fun _ => Bool) false (fun o => sameO Q p x.2 o) (hget h (p x.1)) && ih (p x.1)))))) l

theorem chkL_cons {Q : Value → Value → Bool} {p : Nat → Nat} {n : Nat} {h : Hp} {x : Nat × Ob} {l : List (Nat × Ob)} {last : Nat} (hc : chkL Q p n h (x :: l) last = true) :
    0 < x.1 ∧ x.1 < n ∧ p x.1 < 65536 ∧ last < p x.1 ∧ (∃ o, hget h (p x.1) = some o ∧ sameO Q p x.2 o = true) ∧ chkL Q p n h l (p x.1) = true := by
  have hc : (Nat.ble 1 x.1 && (Nat.ble (Nat.succ x.1) n && (Nat.ble (Nat.succ (p x.1)) 65536 && (Nat.ble (Nat.succ last) (p x.1) && (Option.rec (motive := fun _ => Bool) false (fun o => sameO Q p x.2 o) (hget h (p x.1)) && chkL Q p n h l (p x.1)))))) = true := hc
  simp only [Bool.and_eq_true] at hc
  obtain ⟨h1, h2, h0, h3, h4, h5⟩ := hc
  refine ⟨Nat.le_of_ble_eq_true h1, Nat.le_of_ble_eq_true h2, Nat.le_of_ble_eq_true h0, Nat.le_of_ble_eq_true h3, ?_, h5⟩
  cases ho : hget h (p x.1) with
  | none => rw [ho] at h4; cases h4
  | some o => rw [ho] at h4; exact ⟨o, rfl, h4⟩

theorem chkL_spec {Q : Value → Value → Bool} {p : Nat → Nat} {n : Nat} {h : Hp} : ∀ {l : List (Nat × Ob)} {last : Nat}, chkL Q p n h l last = true →
    (∀ x ∈ l, 0 < x.1 ∧ x.1 < n ∧ p x.1 < 65536 ∧ last < p x.1 ∧ ∃ o, hget h (p x.1) = some o ∧ sameO Q p x.2 o = true) ∧ ∀ x ∈ l, ∀ y ∈ l, x.1 ≠ y.1 → p x.1 ≠ p y.1
  | [], _, _ => ⟨fun _ hx => absurd hx List.not_mem_nil, fun _ hx => absurd hx List.not_mem_nil⟩
  | x :: l, last, hc => by
    obtain ⟨h1, h2, h0, h3, h4, h5⟩ := chkL_cons hc
    obtain ⟨i1, i2⟩ := chkL_spec h5
    refine ⟨fun y hy => ?_, fun y hy z hz hne => ?_⟩
    · rcases List.mem_cons.1 hy with rfl | hy
      · exact ⟨h1, h2, h0, h3, h4⟩
      · obtain ⟨a, b, c0, c, d⟩ := i1 y hy
        exact ⟨a, b, c0, by omega, d⟩
    · rcases List.mem_cons.1 hy with e1 | hy2 <;> rcases List.mem_cons.1 hz with e2 | hz2
      · exact absurd (by rw [e1, e2]) hne
      · have := (i1 z hz2).2.2.2.1; rw [e1]; omega
      · have := (i1 y hy2).2.2.2.1; rw [e2]; omega
      · exact i2 y hy2 z hz2 hne

section
variable {g g0 : Gh} {Q : Value → Value → Bool} {p : Nat → Nat} {B n n' base : Nat} {h : Hp} {w w0 : World} {l : List (Nat × Ob)}

theorem live_old (hQ : QOk Q g p) (hp : p 1 = 1) (hr : Rel g B h n w) (hn : n' ≤ 65536) (hc : chkL Q p n' h l 0 = true) {i k : Nat} (hl : Live (bld l) i k) : (∃ o, (i, o) ∈ l) ∧ Live h (p i) k := by
  obtain ⟨hi, o, ho, hf⟩ := hl
  obtain ⟨c1, c2⟩ := chkL_spec hc
  have hm := bld_mem hi (fun x hx => by have := (c1 x hx).2.1; omega) ho
  obtain ⟨_, _, hp', _, o', ho', hs⟩ := c1 _ hm
  exact ⟨⟨o, hm⟩, hp', o', ho', by rw [← (sameO_spec (B := B) (w := w) (g := g) hQ hp hs (hr.obs _ _ hp' ho')).2]; exact hf⟩

theorem rel_cut' (hQ : QOk Q g p) (hp : p 1 = 1) (hp0 : p 0 = 0) (hpn : ∀ i k cp, g (p i) k = some cp → i < n') (hr : Rel g B h n w) (h0 : 0 < n') (hn : n' ≤ 65536) (hc : chkL Q p n' h l 0 = true) : Rel (reG g p) B (bld l) n' w := by
  obtain ⟨c1, c2⟩ := chkL_spec hc
  have hmem : ∀ {i o}, i < 65536 → hget (bld l) i = some o → (i, o) ∈ l := fun hi ho => bld_mem hi (fun x hx => by have := (c1 x hx).2.1; omega) ho
  refine ⟨h0, hn, hr.base, fun i k cp hg => ?_, fun i o hi ho => ?_, fun i o hi ho => ?_, fun i i' k k' cp cp' hne hl hl' hg hg' => ?_, fun i k cp hl hg => hr.lt _ _ _ (live_old hQ hp hr hn hc hl).2 hg, fun i k cp hl hg => hr.low _ _ _ (live_old hQ hp hr hn hc hl).2 hg⟩
  · have hg : g (p i) k = some cp := hg
    have hd := (hr.dom _ _ _ hg).1
    constructor
    · rcases Nat.eq_zero_or_pos i with rfl | h
      · rw [hp0] at hd; omega
      · exact h
    · exact hpn i k cp hg
  · have := c1 _ (hmem hi ho)
    exact ⟨this.1, this.2.1⟩
  · obtain ⟨_, _, hp', _, o', ho', hs⟩ := c1 _ (hmem hi ho)
    exact (sameO_spec hQ hp hs (hr.obs _ _ hp' ho')).1
  · obtain ⟨⟨o, hm⟩, hl1⟩ := live_old hQ hp hr hn hc hl
    obtain ⟨⟨o', hm'⟩, hl2⟩ := live_old hQ hp hr hn hc hl'
    exact hr.dis _ _ _ _ _ _ (c2 _ hm _ hm' hne) hl1 hl2 hg hg'

theorem rel_cut (hQ : QOk Q g p) (hp : p 1 = 1) (hp0 : p 0 = 0) (hpn : ∀ i, n' ≤ i → p i = 0) (hr : Rel g B h n w) (h0 : 0 < n') (hn : n' ≤ 65536) (hc : chkL Q p n' h l 0 = true) : Rel (reG g p) B (bld l) n' w :=
  rel_cut' hQ hp hp0 (fun i k cp hg => by
    have hd := (hr.dom _ _ _ hg).1
    rcases Nat.lt_or_ge i n' with h | h
    · exact h
    · rw [hpn i h] at hd; omega) hr h0 hn hc

theorem ext_cut (hQ : QOk Q g p) (hp : p 1 = 1) (hp0 : p 0 = 0) (hpb : ∀ i, i < base → p i = i) (hpn : ∀ i, n' ≤ i → p i = 0) {h0 : Hp} (hx : Ext g0 B h0 base w0 g h n w) (hd0 : ∀ i k cp, g0 i k = some cp → i < base) (hb : 0 < base) (hbn : base ≤ n') (hn : n' ≤ 65536) (hc : chkL Q p n' h l 0 = true) :
    Ext g0 B h0 base w0 (reG g p) (bld l) n' w := by
  have hr := hx.rel
  refine ⟨rel_cut hQ hp hp0 hpn hr (by omega) hn hc, ⟨fun i k cp hg => ?_, fun i k cp hg => ?_, hbn, hx.ex.size, hx.ex.os, hx.ex.tape, hx.ex.output, hx.ex.fr, fun i k cp hl hg hlt => ?_⟩⟩
  · show g (p i) k = some cp
    rw [hpb i (hd0 i k cp hg)]
    exact hx.ex.le _ _ _ hg
  · by_cases hi : base ≤ i
    · exact .inl hi
    · have hg : g (p i) k = some cp := hg
      rw [hpb i (by omega)] at hg
      exact hx.ex.dm _ _ _ hg
  · exact hx.ex.nw _ _ _ (live_old hQ hp hr hn hc hl).2 hg hlt

end

noncomputable def chkE (Q : Value → Value → Bool) (p : Nat → Nat) (xs : Nat) (env' env : Env) (m : Nat) : Bool :=
  Nat.rec (motive := fun _ => Bool) true (fun t ih => (Bool.rec (motive := fun _ => Bool) true (sameV Q p ((getE t).run env') ((getE t).run env)) (has xs t)) && ih) m

theorem chkE_spec {Q : Value → Value → Bool} {p : Nat → Nat} {xs : Nat} {env' env : Env} : ∀ {m : Nat}, chkE Q p xs env' env m = true → ∀ t, t < m → has xs t = true → sameV Q p ((getE t).run env') ((getE t).run env) = true
  | 0, _, t, ht, _ => absurd ht (Nat.not_lt_zero t)
  | m + 1, h, t, ht, hx => by
    have h : ((Bool.rec (motive := fun _ => Bool) true (sameV Q p ((getE m).run env') ((getE m).run env)) (has xs m) : Bool) && chkE Q p xs env' env m) = true := h
    rw [Bool.and_eq_true] at h
    by_cases e : t = m
    · subst e
      rw [hx] at h
      exact h.1
    · exact chkE_spec h.2 t (by omega) hx

noncomputable def cutOk (Q : Value → Value → Bool) (base xs : Nat) (p : Nat → Nat) (n' : Nat) (l : List (Nat × Ob)) (env' env : Env) (U : W) : Bool :=
  Nat.ble 2 base && (Nat.ble base n' && (Nat.ble n' 65536 && (U.ds.isEmpty && (chkL Q p n' U.h l 0 && chkE Q p xs env' env 256))))

noncomputable def piF (base n' : Nat) (t : Hp) (i : Nat) : Nat :=
  Bool.rec (motive := fun _ => Nat) i (Bool.rec (motive := fun _ => Nat) 0 (match hget t i with | some (.iter _ j) => j | _ => 0) (Nat.ble (Nat.succ i) n')) (Nat.ble base i)

theorem piF_low {base n' : Nat} {t : Hp} {i : Nat} (h : i < base) : piF base n' t i = i := by
  unfold piF
  cases hb : Nat.ble base i with
  | false => rfl
  | true => have := Nat.le_of_ble_eq_true hb; omega
theorem piF_high {base n' : Nat} {t : Hp} {i : Nat} (h : base ≤ i) (hn : n' ≤ i) : piF base n' t i = 0 := by
  unfold piF
  rw [Nat.ble_eq_true_of_le h]
  cases hb : Nat.ble (Nat.succ i) n' with
  | false => rfl
  | true => have := Nat.le_of_ble_eq_true hb; omega

theorem St.cut {P : Program} {Q : Value → Value → Bool} {B N xs : Nat} {dm : Bool} {cs0 : List Frame} {g0 : Gh} {W0 : W} {w0 : World} {env env' : Env} {U : W} {g : Gh} {a : Act} {cs : List Frame} {w : World} {t : Hp} {n' : Nat} {l : List (Nat × Ob)}
    (hs : St P dm B N xs cs0 g0 W0 w0 [] env [] U g a cs w) (hr0 : Rel g0 B W0.h W0.n w0) (hQ : QOk Q g (piF W0.n n' t)) (hc : cutOk Q W0.n xs (piF W0.n n' t) n' l env' env U = true) :
    St P dm B N xs cs0 g0 W0 w0 [] env' [] ⟨bld l, n', [], U.rc⟩ (reG g (piF W0.n n' t)) a cs w := by
  unfold cutOk at hc
  simp only [Bool.and_eq_true] at hc
  obtain ⟨h1, h2, h3, h4, h5, h6⟩ := hc
  have h1 := Nat.le_of_ble_eq_true h1
  have h2 := Nat.le_of_ble_eq_true h2
  have h3 := Nat.le_of_ble_eq_true h3
  have hp1 : piF W0.n n' t 1 = 1 := piF_low (by omega)
  have hp0 : piF W0.n n' t 0 = 0 := piF_low (by omega)
  have hds : U.ds = [] := List.isEmpty_iff.1 h4
  refine ⟨ext_cut hQ hp1 hp0 (fun i hi => piF_low hi) (fun i hi => piF_high (by omega) hi) hs.ext (fun i k cp hg => (hr0.dom i k cp hg).2) (by omega) h2 h3 h5, ⟨fun t ht ht2 => ?_, fun i t hi => by cases hi⟩, hs.own, hs.size, ?_, hs.cs⟩
  · exact sameV_rv hQ hp1 (chkE_spec h6 t ht2 ht) (hs.sl.out t ht ht2)
  · have := hs.ds
    rw [hds] at this
    rw [all2_nil this]
    exact .nil

end Go.Cx
namespace Go.Cx
open Go Go.RowKit
variable {P : Program}

structure Cxt where
  N : Nat
  xs : Nat
  gB : Gh
  wB : World
  W0 : W

section
variable {K : Cxt}

def Ends (P : Program) (K : Cxt) (c : Code) (env : Env) (U : W) (R : Ou → Prop) : Prop :=
  ∃ r, R r ∧ (∀ y, r ≠ .no y) ∧ ∀ (B : Nat) (cs0 : List Frame) (g0 : Gh) (w0 : World) (g : Gh) (a : Act) (cs : List Frame) (w : World), Bs K.gB K.wB B g0 K.W0 w0 →
    St P false B K.N K.xs cs0 g0 K.W0 w0 [] env [] U g a cs w → Goes P false c (Post P false B K.N K.xs cs0 g0 K.W0 w0 r) a cs w

def EndsL (P : Program) (K : Cxt) (x : Code) (env : Env) (U : W) (R : Ou → Prop) : Prop :=
  ∃ r, R r ∧ (∀ y, r ≠ .no y) ∧ ∀ (B : Nat) (cs0 : List Frame) (g0 : Gh) (w0 : World) (g : Gh) (a : Act) (cs : List Frame) (w : World), Bs K.gB K.wB B g0 K.W0 w0 →
    St P false B K.N K.xs cs0 g0 K.W0 w0 [] env [] U g a cs w → ∀ (b : Frame) (k : List Item),
      ∃ e a' cs' w', Post P false B K.N K.xs cs0 g0 K.W0 w0 r e a' cs' w' ∧ Arrives P (lone (b.at a (.code x :: .inLoop x :: k)) cs w) b k cs' e a' w'

variable {env env' : Env} {U U' : W} {R : Ou → Prop} {x y : Code}

theorem Ends.eval (hP : NoNum P) (hm : P.follows .mixedOrders = true) (hN : K.N ≤ 256) {cf : CallF} (hcf : CfOk P K.gB K.wB cf) {fuel : Nat} {c : Code} {r : Ou} (h : (cCode P fuel K.N K.xs c).run cf env U = r) (hn : ∀ y, r ≠ .no y) (hR : R r) : Ends P K c env U R := by
  subst h
  exact ⟨_, hR, hn, fun B cs0 g0 w0 g a cs w hB hs => (code_ok hP hcf hB hN hm fuel c env U g a cs w hs).elim hn⟩

theorem Ends.cut {c : Code} {Q : Value → Value → Bool} {t : Hp} {n' : Nat} {l : List (Nat × Ob)} (hQ : ∀ g, GLe K.gB g → QOk Q g (piF K.W0.n n' t)) (hc : cutOk Q K.W0.n K.xs (piF K.W0.n n' t) n' l env' env U = true) (h : Ends P K c env' ⟨bld l, n', [], U.rc⟩ R) : Ends P K c env U R := by
  obtain ⟨r, h1, h2, h3⟩ := h
  exact ⟨r, h1, h2, fun B cs0 g0 w0 g a cs w hB hs => h3 B cs0 g0 w0 _ a cs w hB (hs.cut hB.rel (hQ g (hB.gle.trans hs.ext.ex.le)) hc)⟩
theorem EndsL.cut {Q : Value → Value → Bool} {t : Hp} {n' : Nat} {l : List (Nat × Ob)} (hQ : ∀ g, GLe K.gB g → QOk Q g (piF K.W0.n n' t)) (hc : cutOk Q K.W0.n K.xs (piF K.W0.n n' t) n' l env' env U = true) (h : EndsL P K x env' ⟨bld l, n', [], U.rc⟩ R) : EndsL P K x env U R := by
  obtain ⟨r, h1, h2, h3⟩ := h
  exact ⟨r, h1, h2, fun B cs0 g0 w0 g a cs w hB hs => h3 B cs0 g0 w0 _ a cs w hB (hs.cut hB.rel (hQ g (hB.gle.trans hs.ext.ex.le)) hc)⟩

def Then (R : Ou → Prop) (X : Env → W → Prop) (r : Ou) : Prop := match r with
  | .go e U => X e U
  | .no _ => False
  | r => R r

theorem Then.out {R : Ou → Prop} {X : Env → W → Prop} {r : Ou} (h : Then R X r) : (∃ e U, r = .go e U ∧ X e U) ∨ (Outs r ∧ R r) := by
  cases r with
  | go e U => exact .inl ⟨e, U, rfl, h⟩
  | no y => exact h.elim
  | _ => exact .inr ⟨trivial, h⟩

theorem Ends.seq (h : Ends P K x env U (Then R fun e U => Ends P K y e U R)) : Ends P K (.seq x y) env U R := by
  obtain ⟨r, h1, h2, h3⟩ := h
  rcases h1.out with ⟨e1, U1, rfl, r2, k1, k2, k3⟩ | ⟨ho, hr⟩
  · refine ⟨r2, k1, k2, fun B cs0 g0 w0 g a cs w hB hs b k hb => ?_⟩
    obtain ⟨e, a1, cs1, w1, ⟨rfl, g1, hs1⟩, harr⟩ := h3 B cs0 g0 w0 g a cs w hB hs b (.code y :: k) hb
    obtain ⟨e2, a2, cs2, w2, hq2, harr2⟩ := k3 B cs0 g0 w0 g1 a1 cs1 w1 hB hs1 b k hb
    exact ⟨e2, a2, cs2, w2, hq2, .of_steps (.head step_seq harr) harr2⟩
  · refine ⟨r, hr, h2, fun B cs0 g0 w0 g a cs w hB hs b k hb => ?_⟩
    obtain ⟨e, a1, cs1, w1, hq, harr⟩ := h3 B cs0 g0 w0 g a cs w hB hs b (.code y :: k) hb
    refine ⟨e, a1, cs1, w1, hq, .of_steps (.one step_seq) (.pass (x := .code y) rfl (fun _ _ => .inl ?_) harr)⟩
    intro e2; subst e2; exact post_not ho hq

theorem EndsL.step (h : Ends P K x env U (Then R fun e U => EndsL P K x e U R)) : EndsL P K x env U R := by
  obtain ⟨r, h1, h2, h3⟩ := h
  rcases h1.out with ⟨e1, U1, rfl, r2, k1, k2, k3⟩ | ⟨ho, hr⟩
  · refine ⟨r2, k1, k2, fun B cs0 g0 w0 g a cs w hB hs b k => ?_⟩
    obtain ⟨e, a1, cs1, w1, ⟨rfl, g1, hs1⟩, harr⟩ := h3 B cs0 g0 w0 g a cs w hB hs b (.inLoop x :: k) (fun e => by cases e)
    obtain ⟨e2, a2, cs2, w2, hq2, harr2⟩ := k3 B cs0 g0 w0 g1 a1 cs1 w1 hB hs1 b k
    exact ⟨e2, a2, cs2, w2, hq2, .of_steps (Steps.trans harr (.one step_inLoop)) harr2⟩
  · refine ⟨r, hr, h2, fun B cs0 g0 w0 g a cs w hB hs b k => ?_⟩
    obtain ⟨e, a1, cs1, w1, hq, harr⟩ := h3 B cs0 g0 w0 g a cs w hB hs b (.inLoop x :: k) (fun e => by cases e)
    refine ⟨e, a1, cs1, w1, hq, .pass (x := .inLoop x) rfl (fun _ _ => .inl ?_) harr⟩
    intro e2; subst e2; exact post_not ho hq

theorem Ends.loop (h : EndsL P K x env U R) : Ends P K (.loop x) env U R := by
  obtain ⟨r, h1, h2, h3⟩ := h
  refine ⟨r, h1, h2, fun B cs0 g0 w0 g a cs w hB hs b k hb => ?_⟩
  obtain ⟨e, a', cs', w', q, r⟩ := h3 B cs0 g0 w0 g a cs w hB hs b k
  exact ⟨e, a', cs', w', q, .of_steps (.one step_loop) r⟩

def OutOf (id : Nat) (R : Ou → Prop) (r : Ou) : Prop := match r with
  | .go e U => R (.go e U)
  | .ex i e U => if i = id then R (.go e U) else R (.ex i e U)
  | r => R r

theorem Ends.block {id : Nat} (h : Ends P K x env U (OutOf id R)) : Ends P K (.block id x) env U R := by
  obtain ⟨r, h1, h2, h3⟩ := h
  cases r with
  | no y => exact absurd rfl (h2 y)
  | go env1 U1 =>
    refine ⟨_, h1, h2, fun B cs0 g0 w0 g a cs w hB hs b k hb => ?_⟩
    obtain ⟨e, a1, cs1, w1, ⟨rfl, g1, hs1⟩, harr⟩ := h3 B cs0 g0 w0 g a cs w hB hs b (.inBlock id :: k) hb
    exact ⟨.normal, a1, cs1, w1, ⟨rfl, g1, hs1⟩, .head step_block (Steps.trans harr (.one step_inBlock))⟩
  | ex i env1 U1 =>
    by_cases hid : i = id
    · have h1 : (if i = id then R (.go env1 U1) else R (.ex i env1 U1)) := h1
      rw [if_pos hid] at h1
      refine ⟨_, h1, fun y e => (by cases e), fun B cs0 g0 w0 g a cs w hB hs b k hb => ?_⟩
      obtain ⟨e, a1, cs1, w1, ⟨rfl, g1, hs1⟩, harr⟩ := h3 B cs0 g0 w0 g a cs w hB hs b (.inBlock id :: k) hb
      exact ⟨.normal, a1, cs1, w1, ⟨rfl, g1, hs1⟩, .head step_block (harr k (by simp [exitTo, hid]))⟩
    · have h1 : (if i = id then R (.go env1 U1) else R (.ex i env1 U1)) := h1
      rw [if_neg hid] at h1
      refine ⟨_, h1, h2, fun B cs0 g0 w0 g a cs w hB hs b k hb => ?_⟩
      obtain ⟨e, a1, cs1, w1, ⟨rfl, g1, hs1⟩, harr⟩ := h3 B cs0 g0 w0 g a cs w hB hs b (.inBlock id :: k) hb
      refine ⟨.exit i, a1, cs1, w1, ⟨rfl, g1, hs1⟩, fun k' hk => .head step_block (harr k' ?_)⟩
      have : (id == i) = false := by simp; exact fun h => hid h.symm
      simp [exitTo, this, hk]
  | ret env1 U1 =>
    refine ⟨_, h1, h2, fun B cs0 g0 w0 g a cs w hB hs b k hb => ?_⟩
    obtain ⟨e, a1, cs1, w1, ⟨rfl, g1, hs1⟩, harr⟩ := h3 B cs0 g0 w0 g a cs w hB hs b (.inBlock id :: k) hb
    obtain ⟨todo, hsteps⟩ := harr
    exact ⟨.ret, a1, cs1, w1, ⟨rfl, g1, hs1⟩, todo, .head step_block hsteps⟩
  | pan v env1 U1 =>
    refine ⟨_, h1, h2, fun B cs0 g0 w0 g a cs w hB hs b k hb => ?_⟩
    obtain ⟨e, a1, cs1, w1, ⟨rfl, hv, g1, hs1⟩, harr⟩ := h3 B cs0 g0 w0 g a cs w hB hs b (.inBlock id :: k) hb
    obtain ⟨todo, hsteps⟩ := harr
    exact ⟨_, a1, cs1, w1, ⟨rfl, hv, g1, hs1⟩, todo, .head step_block hsteps⟩

theorem Ends.mono {c : Code} {R' : Ou → Prop} (h : Ends P K c env U R) (hr : ∀ r, R r → R' r) : Ends P K c env U R' := by
  obtain ⟨r, h1, h2, h3⟩ := h
  exact ⟨r, hr r h1, h2, h3⟩

theorem Ends.cond {c : Operand} {t : Bool} (hc : asBool ((opd K.xs [] c).run env []) = some t) (h : Ends P K (if t then x else y) env U R) : Ends P K (.cond c x y) env U R := by
  obtain ⟨r, h1, h2, h3⟩ := h
  refine ⟨r, h1, h2, fun B cs0 g0 w0 g a cs w hB hs b k hb => ?_⟩
  have hr := rdO_ok hs.sl c
  rw [← eval_rho] at hr
  have hr : RV g ((opd K.xs [] c).run env []) (a.eval c) := hr
  rw [asBool_some hc] at hr
  have he := hr.bool
  have h4 := h3 B cs0 g0 w0 g a cs w hB hs
  cases t with
  | false =>
    obtain ⟨e, a', cs', w', q, r⟩ := h4 b k hb
    exact ⟨e, a', cs', w', q, .of_steps (.one (step_cond he)) r⟩
  | true =>
    obtain ⟨e, a', cs', w', q, r⟩ := h4 b k hb
    exact ⟨e, a', cs', w', q, .of_steps (.one (step_cond he)) r⟩

theorem Ends.sub {c : Code} {l : List Value} (hl : K.gB = symG l) {t k : Nat} {v : Value} (ht : has K.xs t = true) (hb : t < 256) (hv : l[k]? = some v) (hs : ∀ g, RV g v v) (h : Ends P K c (subE t k v env) U R) : Ends P K c env U R := by
  obtain ⟨r, h1, h2, h3⟩ := h
  refine ⟨r, h1, h2, fun B cs0 g0 w0 g a cs w hB hst => h3 B cs0 g0 w0 g a cs w hB ?_⟩
  exact { hst with sl := subE_sl (hl ▸ hB.gle.trans hst.ext.ex.le) hst.sl ht hb hv (hs g) }

end

section
variable {fuel : Nat} {f : FuncId} {fn : Func} {c : Code} {l : List Value} {wB : World}

theorem Ends.calls (hP : NoNum P) (hm : P.follows .mixedOrders = true) (q1 : P.funcs[f]? = some fn) (q2 : fn.body = some c) {args args' : List Value} (hl : args.length ≤ 256) (ha : All2 (RV (symG l)) args args') {cf : CallF} (hcf : CfOk P (symG l) wB cf)
    (h : Ends P ⟨fn.ntmps, xsOf fn c, symG l, wB, w02⟩ c (env0 args 0 env00) w02 (fun r => isB true (ending P cf fuel f w02 r) = true)) :
    Calls P f ⟨args'⟩ wB fun e w' => e = .returned (.bool true) ∧ Below wB.heap.size wB w' := by
  obtain ⟨r, hr, hn, hg⟩ := h
  refine call_of (gB := symG l) ?_ hr
  have hB : Bs (symG l) wB wB.heap.size (symG l) w02 wB := ⟨GLe.refl _, Below.refl _ _, Nat.le_refl _, rel_start (symG_one l) wB⟩
  refine fn_end hP hm hcf q1 q2 hB fun cs => Meets.of ?_
  exact hg wB.heap.size cs _ wB _ _ cs wB hB (fn_start (P := P) (fn := fn) (c := c) (rel_start (symG_one l) wB) ha hl cs)

end
end Go.Cx
namespace Go.Cx
open Go
noncomputable section

def addrI (v : Value) : List Nat := match v with
  | .pointer (some a) => [a.block]
  | .slice (some a) _ _ => [a.block]
  | .map (some i) => [i]
  | .chan (some i) => [i]
  | _ => []
def addrIL (l : List Value) (r : List Nat) : List Nat := List.rec (motive := fun _ => List Nat) r (fun v _ ih => app (addrI v) ih) l
def addrC (v : Value) : List Nat := match v with
  | .func _ a b => addrIL a.toList (addrIL b.toList [])
  | v => addrI v
def addrL (l : List Value) (r : List Nat) : List Nat := List.rec (motive := fun _ => List Nat) r (fun v _ ih => app (addrC v) ih) l
def adrV (v : Value) (r : List Nat) : List Nat := match v with
  | .agg xs => addrL xs.toList r
  | v => app (addrC v) r
def markO (j : Nat) : Ob := .iter ⟨#[]⟩ j
def cellsO (o : Ob) : List Value := match o with
  | .row cs _ _ _ _ _ _ => flat cs
  | _ => []
def reach (h : Hp) (fuel : Nat) : List Nat → Hp → Hp :=
  Nat.rec (motive := fun _ => List Nat → Hp → Hp) (fun _ m => m)
    (fun _ ih st m => List.rec (motive := fun _ => Hp) m (fun i st _ => Option.rec (motive := fun _ => Hp) (Option.rec (motive := fun _ => Hp) (ih st m) (fun o => ih (addrL (cellsO o) st) (hset m i (markO 0))) (hget h i)) (fun _ => ih st m) (hget m i)) st) fuel
def marked (m : Hp) (n : Nat) : List Nat → List Nat :=
  Nat.rec (motive := fun _ => List Nat → List Nat) (fun l => l) (fun i ih l => ih (Option.rec (motive := fun _ => List Nat) l (fun _ => i :: l) (hget m i))) n
def table (l : List Nat) : Nat → Hp → Hp := List.rec (motive := fun _ => Nat → Hp → Hp) (fun _ t => t) (fun i _ ih j t => ih (Nat.succ j) (hset t j (markO i))) l
def table' (l : List Nat) : Nat → Hp → Hp := List.rec (motive := fun _ => Nat → Hp → Hp) (fun _ t => t) (fun i _ ih j t => ih (Nat.succ j) (hset t i (markO j))) l
def atT (t : Hp) (i : Nat) : Nat := match hget t i with | some (.iter _ j) => j | _ => 0
def slotsOf (xs : Nat) (m : Nat) : List Nat := Nat.rec (motive := fun _ => List Nat) [] (fun t ih => Bool.rec (motive := fun _ => List Nat) ih (app ih [t]) (has xs t)) m
def roots (ts : List Nat) (env : Env) : List Nat := List.rec (motive := fun _ => List Nat) [] (fun t _ ih => adrV ((getE t).run env) ih) ts
def olds (xs : Nat) (env : Env) (U : W) : List Nat := marked (reach U.h 1000000 (roots (slotsOf xs 256) env) hp0) U.n []

def numD (fuel : Nat) : Nat → List Nat := Nat.rec (motive := fun _ => Nat → List Nat) (fun _ => []) (fun _ ih x => Bool.rec (motive := fun _ => List Nat) (Nat.mod x 4096 :: ih (Nat.div x 4096)) [] (Nat.beq x 0)) fuel
def kindD (k : IntKind) : Nat := match k with | .i8 => 0 | .i16 => 1 | .i32 => 2 | .i64 => 3 | .u8 => 4 | .u16 => 5 | .u32 => 6 | .u64 => 7
def encI (t : Hp) (v : Value) : List Nat := match v with
  | .int .i64 (.ofNat x) => Bool.rec (motive := fun _ => List Nat) (67 :: len (numD 40 x) :: numD 40 x) [Nat.mul 8 x] (Nat.ble x 511)
  | .int .u8 (.ofNat x) => [Nat.add (Nat.mul 8 x) 1]
  | .int .i64 (.negSucc x) => [75, x]
  | .int k (.ofNat x) => 107 :: kindD k :: len (numD 40 x) :: numD 40 x
  | .pointer (some ⟨b, 0, none⟩) => [Nat.add (Nat.mul 8 (atT t b)) 2]
  | .pointer (some a) => [83, atT t a.block, a.off, genOf a.spot]
  | .slice (some a) n c => [Nat.add (Nat.mul 8 (atT t a.block)) 4, a.off, genOf a.spot, n, c]
  | .bool false => [3]
  | .bool true => [11]
  | .pointer none => [19]
  | .slice none _ _ => [27]
  | .map none => [35]
  | .chan none => [43]
  | .nilFunc => [51]
  | .nilIface => [59]
  | .string s => Nat.add (Nat.mul 8 s.size) 5 :: mapL (fun b => UInt8.toNat b) s.data.toList
  | .complex .f32 k 2 => [91, k]
  | .complex .f32 k 0 => [115, k]
  | .complex .f32 _ _ => [99]
  | _ => [7]
def encIL (t : Hp) (l : List Value) (r : List Nat) : List Nat := List.rec (motive := fun _ => List Nat) r (fun v _ ih => app (encI t v) ih) l
def encC (t : Hp) (v : Value) : List Nat := match v with
  | .func (.func k) a b => 131 :: k :: len a.toList :: encIL t a.toList (len b.toList :: encIL t b.toList [])
  | v => encI t v
def encL (t : Hp) (l : List Value) (r : List Nat) : List Nat := List.rec (motive := fun _ => List Nat) r (fun v _ ih => app (encC t v) ih) l
def encV (t : Hp) (v : Value) (r : List Nat) : List Nat := match v with
  | .agg xs => Nat.add (Nat.mul 8 (len xs.toList)) 6 :: encL t xs.toList r
  | .tuple ⟨[]⟩ => 123 :: r
  | v => app (encC t v) r
def encO (t : Hp) (o : Ob) (r : List Nat) : List Nat := match o with
  | .row cs ln ty e fix gen flo => ty :: e :: (Bool.rec (motive := fun _ => Nat) 0 1 fix) :: gen :: flo :: ln :: encL t (flat cs) r
  | _ => 4095 :: r
def encH (t : Hp) (h : Hp) (l : List Nat) (r : List Nat) : List Nat := List.rec (motive := fun _ => List Nat) r (fun i _ ih => Option.rec (motive := fun _ => List Nat) (4094 :: ih) (fun o => atT t i :: encO t o ih) (hget h i)) l
def encE (t : Hp) (env : Env) (ts : List Nat) (r : List Nat) : List Nat := List.rec (motive := fun _ => List Nat) r (fun s _ ih => encV t ((getE s).run env) ih) ts
def names (base : Nat) (l : List Nat) : Nat → List (Nat × Nat) := List.rec (motive := fun _ => Nat → List (Nat × Nat)) (fun _ => []) (fun i _ ih j => Bool.rec (motive := fun _ => List (Nat × Nat)) ((i, i) :: ih j) ((j, i) :: ih (Nat.succ j)) (Nat.ble base i)) l
def tabF (l : List (Nat × Nat)) : Hp → Hp := List.rec (motive := fun _ => Hp → Hp) (fun t => t) (fun p _ ih t => ih (hset t p.1 (markO p.2))) l
def tabB (l : List (Nat × Nat)) : Hp → Hp := List.rec (motive := fun _ => Hp → Hp) (fun t => t) (fun p _ ih t => ih (hset t p.2 (markO p.1))) l
def topOf (base : Nat) (l : List (Nat × Nat)) : Nat := List.rec (motive := fun _ => Nat) base (fun p _ ih => Nat.max (Nat.succ p.1) ih) l
def encS (base xs : Nat) (env : Env) (U : W) : List Nat := (fun l => (fun q => (fun t => topOf base q :: len l :: encE t env (slotsOf xs 256) (encH t U.h l [])) (tabB q hp0)) (names base l base)) (olds xs env U)
def numOf (l : List Nat) : Nat := List.rec (motive := fun _ => Nat) 0 (fun d _ ih => Nat.add d (Nat.mul 4096 ih)) l
def encN (base xs : Nat) (env : Env) (U : W) : Nat := numOf (app (encS base xs env U) [1])

def digN (fuel : Nat) : Nat → List Nat := Nat.rec (motive := fun _ => Nat → List Nat) (fun _ => []) (fun _ ih x => Bool.rec (motive := fun _ => List Nat) (Nat.mod x 4096 :: ih (Nat.div x 4096)) [] (Nat.ble x 1)) fuel
def takeD (n : Nat) : List Nat → List Nat × List Nat := Nat.rec (motive := fun _ => List Nat → List Nat × List Nat) (fun l => ([], l)) (fun _ ih l => match l with | [] => ([], []) | d :: r => match ih r with | (a, b) => (d :: a, b)) n
def kindN (d : Nat) : IntKind := match d with | 0 => .i8 | 1 => .i16 | 2 => .i32 | 3 => .i64 | 4 => .u8 | 5 => .u16 | 6 => .u32 | _ => .u64
def spot (d : Nat) : Option Nat := match d with | 0 => none | k + 1 => some k
def decX (x : Nat) (r : List Nat) : Value × List Nat := match x, r with
  | 0, r => (.bool false, r)
  | 1, r => (.bool true, r)
  | 2, r => (.pointer none, r)
  | 3, r => (.slice none 0 0, r)
  | 4, r => (.map none, r)
  | 5, r => (.chan none, r)
  | 6, r => (.nilFunc, r)
  | 7, r => (.nilIface, r)
  | 8, n :: r => match takeD n r with | (a, b) => (.int .i64 (.ofNat (numOf a)), b)
  | 9, d :: r => (.int .i64 (.negSucc d), r)
  | 10, b :: o :: s :: r => (.pointer (some ⟨b, o, spot s⟩), r)
  | 11, k :: r => (.complex .f32 k 2, r)
  | 12, r => (.complex .f32 0 1, r)
  | 13, k :: n :: r => match takeD n r with | (a, b) => (.int (kindN k) (.ofNat (numOf a)), b)
  | 14, k :: r => (.complex .f32 k 0, r)
  | 15, r => (.tuple #[], r)
  | _, r => (.nilFunc, r)
def decI (l : List Nat) : Value × List Nat := match l with
  | [] => (.nilFunc, [])
  | d :: r => match Nat.mod d 8, r with
    | 0, r => (.int .i64 (.ofNat (Nat.div d 8)), r)
    | 1, r => (.int .u8 (.ofNat (Nat.div d 8)), r)
    | 2, r => (.pointer (some ⟨Nat.div d 8, 0, none⟩), r)
    | 3, r => decX (Nat.div d 8) r
    | 4, o :: s :: n :: c :: r => (.slice (some ⟨Nat.div d 8, o, spot s⟩) n c, r)
    | 5, r => match takeD (Nat.div d 8) r with | (a, b) => (.string ⟨⟨mapL UInt8.ofNat a⟩⟩, b)
    | _, r => (.nilFunc, r)
def decIL (n : Nat) : List Nat → List Value × List Nat := Nat.rec (motive := fun _ => List Nat → List Value × List Nat) (fun l => ([], l)) (fun _ ih l => match decI l with | (v, r) => match ih r with | (a, b) => (v :: a, b)) n
def decF (l : List Nat) : Value × List Nat := match l with
  | k :: n :: r => (match decIL n r with
    | (a, m :: r) => (match decIL m r with | (b, r) => (.func (.func k) ⟨a⟩ ⟨b⟩, r))
    | (a, []) => (.func (.func k) ⟨a⟩ #[], []))
  | _ => (.nilFunc, [])
def decC (l : List Nat) : Value × List Nat := match l with
  | [] => (.nilFunc, [])
  | d :: r => Bool.rec (motive := fun _ => Value × List Nat) (decI (d :: r)) (decF r) (Nat.beq d 131)
def decL (n : Nat) : List Nat → List Value × List Nat := Nat.rec (motive := fun _ => List Nat → List Value × List Nat) (fun l => ([], l)) (fun _ ih l => match decC l with | (v, r) => match ih r with | (a, b) => (v :: a, b)) n
def decV (l : List Nat) : Value × List Nat := match l with
  | [] => (.nilFunc, [])
  | d :: r => Bool.rec (motive := fun _ => Value × List Nat) (decC (d :: r)) (match decL (Nat.div d 8) r with | (a, b) => (.agg ⟨a⟩, b)) (Nat.beq (Nat.mod d 8) 6)
def decE (ts : List Nat) : List Nat → Env × List Nat := List.rec (motive := fun _ => List Nat → Env × List Nat) (fun l => (env00, l)) (fun t _ ih l => match decV l with | (v, r) => match ih r with | (e, b) => ((putE t).run v e, b)) ts
def decO (l : List Nat) : Ob × List Nat := match l with
  | t :: e :: f :: g :: fl :: n :: r => match decL n r with | (a, b) => (.row (chop a) n t e (Nat.beq f 1) g fl, b)
  | _ => (.iter ⟨#[]⟩ 0, [])
def decH (n : Nat) : List Nat → List (Nat × Ob) := Nat.rec (motive := fun _ => List Nat → List (Nat × Ob)) (fun _ => []) (fun _ ih l => match l with | j :: l => (match decO l with | (o, r) => (j, o) :: ih r) | [] => []) n
def decS (xs : Nat) (x : Nat) : Env × List (Nat × Ob) × Nat := match digN 1000000 x with
  | m :: n :: r => match decE (slotsOf xs 256) r with | (e, b) => (e, decH n b, m)
  | _ => (env00, [], 0)

def envD (xs x : Nat) : Env := (decS xs x).1
def lD (xs x : Nat) : List (Nat × Ob) := (decS xs x).2.1
def nD (xs x : Nat) : Nat := (decS xs x).2.2
def WD (xs x : Nat) : W := ⟨bld (lD xs x), nD xs x, [], .off⟩
def isQ (Q : Value → Value → Bool) (base xs x : Nat) (env : Env) (U : W) : Bool := cutOk Q base xs (piF base (nD xs x) (tabF (names base (olds xs env U) base) hp0)) (nD xs x) (lD xs x) (envD xs x) env U && (match U.rc with | .off => true | _ => false)
def isN (base xs x : Nat) (env : Env) (U : W) : Bool := cutOk q0 base xs (piF base (nD xs x) (tabF (names base (olds xs env U) base) hp0)) (nD xs x) (lD xs x) (envD xs x) env U && (match U.rc with | .off => true | _ => false)

variable {P : Program} {K : Cxt} {env : Env} {U : W} {R : Ou → Prop}
theorem Ends.num {c : Code} {x : Nat} (h : isN K.W0.n K.xs x env U = true) (he : Ends P K c (envD K.xs x) (WD K.xs x) R) : Ends P K c env U R := by
  unfold isN at h
  rw [Bool.and_eq_true] at h
  refine Ends.cut (fun _ _ => q0_ok) h.1 ?_
  have : U.rc = .off := by
    have h2 := h.2
    split at h2
    · assumption
    · cases h2
  rw [this]
  exact he
theorem EndsL.num {c : Code} {x : Nat} (h : isN K.W0.n K.xs x env U = true) (he : EndsL P K c (envD K.xs x) (WD K.xs x) R) : EndsL P K c env U R := by
  unfold isN at h
  rw [Bool.and_eq_true] at h
  refine EndsL.cut (fun _ _ => q0_ok) h.1 ?_
  have : U.rc = .off := by
    have h2 := h.2
    split at h2
    · assumption
    · cases h2
  rw [this]
  exact he

theorem Ends.numQ {Q : Value → Value → Bool} (hQ : ∀ g p, GLe K.gB g → p 1 = 1 → QOk Q g p) (hb1 : 1 < K.W0.n) {c : Code} {x : Nat} (h : isQ Q K.W0.n K.xs x env U = true) (he : Ends P K c (envD K.xs x) (WD K.xs x) R) : Ends P K c env U R := by
  unfold isQ at h
  rw [Bool.and_eq_true] at h
  refine Ends.cut (fun g hg => hQ g _ hg (piF_low hb1)) h.1 ?_
  have : U.rc = .off := by
    have h2 := h.2
    split at h2
    · assumption
    · cases h2
  rw [this]
  exact he

theorem Ends.pre (hP : NoNum P) (hm : P.follows .mixedOrders = true) (hN : K.N ≤ 256) {cf : CallF} (hcf : CfOk P K.gB K.wB cf) {fuel : Nat} : ∀ (k : Nat) {c : Code} {env env1 : Env} {U U1 : W}, preSeq P fuel K.N K.xs cf k c env U = .go env1 U1 → Ends P K (dropSeq k c) env1 U1 R → Ends P K c env U R
  | 0, c, env, env1, U, U1, h, he => by cases h; exact he
  | k + 1, c, env, env1, U, U1, h, he => by
    cases c with
    | seq x y =>
      have h : Ou.rec (motive := fun _ => Ou) (preSeq P fuel K.N K.xs cf k y) (fun _ _ _ => .no 151) (fun _ _ => .no 151) (fun _ _ _ => .no 151) Ou.no ((cCode P fuel K.N K.xs x).run cf env U) = .go env1 U1 := h
      cases hr : (cCode P fuel K.N K.xs x).run cf env U with
      | go env2 U2 =>
        rw [hr] at h
        exact Ends.seq (Ends.eval hP hm hN hcf hr (fun y e => by cases e) (Ends.pre hP hm hN hcf k h he))
      | ex _ _ _ => rw [hr] at h; cases h
      | ret _ _ => rw [hr] at h; cases h
      | pan _ _ _ => rw [hr] at h; cases h
      | no _ => rw [hr] at h; cases h
    | _ => cases h


theorem Ends.eval' (hP : NoNum P) (hm : P.follows .mixedOrders = true) {N xs : Nat} {gB : Gh} {wB : World} {W0 : W} (hN : N ≤ 256) {cf : CallF} (hcf : CfOk P gB wB cf) {fuel : Nat} {c : Code} {r : Ou} (h : (cCode P fuel N xs c).run cf env U = r) (hn : ∀ y, r ≠ .no y) (hR : R r) : Ends P ⟨N, xs, gB, wB, W0⟩ c env U R :=
  Ends.eval (K := ⟨N, xs, gB, wB, W0⟩) hP hm hN hcf h hn hR
theorem Ends.pre' (hP : NoNum P) (hm : P.follows .mixedOrders = true) {N xs : Nat} {gB : Gh} {wB : World} {W0 : W} (hN : N ≤ 256) {cf : CallF} (hcf : CfOk P gB wB cf) {fuel : Nat} (k : Nat) {c : Code} {env env1 : Env} {U U1 : W} (h : preSeq P fuel N xs cf k c env U = .go env1 U1) (he : Ends P ⟨N, xs, gB, wB, W0⟩ (dropSeq k c) env1 U1 R) : Ends P ⟨N, xs, gB, wB, W0⟩ c env U R :=
  Ends.pre (K := ⟨N, xs, gB, wB, W0⟩) hP hm hN hcf k h he
theorem Ends.sub' {N xs : Nat} {wB : World} {W0 : W} {c : Code} {l : List Value} {t k : Nat} {v : Value} (ht : has xs t = true) (hb : t < 256) (hv : l[k]? = some v) (hs : ∀ g, RV g v v) (h : Ends P ⟨N, xs, symG l, wB, W0⟩ c (subE t k v env) U R) : Ends P ⟨N, xs, symG l, wB, W0⟩ c env U R :=
  Ends.sub (K := ⟨N, xs, symG l, wB, W0⟩) rfl ht hb hv hs h
theorem Ends.block2 {N xs : Nat} {gB : Gh} {wB : World} {W0 : W} {x y : Code} {id : Nat} (h : Ends P ⟨N, xs, gB, wB, W0⟩ x env U (OutOf id (Then R fun e U => Ends P ⟨N, xs, gB, wB, W0⟩ y e U R))) : Ends P ⟨N, xs, gB, wB, W0⟩ (.seq (.block id x) y) env U R :=
  Ends.seq (Ends.block h)
theorem Ends.num' {N xs base : Nat} {gB : Gh} {wB : World} {W0 : W} {c : Code} {x : Nat} (hb : W0.n = base) (h : isN base xs x env U = true) (he : Ends P ⟨N, xs, gB, wB, W0⟩ c (envD xs x) (WD xs x) R) : Ends P ⟨N, xs, gB, wB, W0⟩ c env U R :=
  Ends.num (K := ⟨N, xs, gB, wB, W0⟩) (hb ▸ h) he
theorem EndsL.num' {N xs base : Nat} {gB : Gh} {wB : World} {W0 : W} {c : Code} {x : Nat} (hb : W0.n = base) (h : isN base xs x env U = true) (he : EndsL P ⟨N, xs, gB, wB, W0⟩ c (envD xs x) (WD xs x) R) : EndsL P ⟨N, xs, gB, wB, W0⟩ c env U R :=
  EndsL.num (K := ⟨N, xs, gB, wB, W0⟩) (hb ▸ h) he

end
end Go.Cx
namespace Go.Cx
open Go Go.RowKit
variable {P : Program}

section
variable {gB : Gh} {wB : World} {f : FuncId} {args : List Value} {l l' : List (Nat × Ob)} {n n' : Nat} {v : Value}

def CallS (P : Program) (gB : Gh) (wB : World) (f : FuncId) (args : List Value) (l : List (Nat × Ob)) (n : Nat) (v : Value) (l' : List (Nat × Ob)) (n' : Nat) : Prop :=
  ∀ (args' : List Value) (g : Gh) (B : Nat) (w : World), Bs gB wB B g ⟨bld l, n, [], .off⟩ w → All2 (RV g) args args' →
    Calls P f ⟨args'⟩ w fun e w' => ∃ v' g', e = .returned v' ∧ RV g' v v' ∧ Ext g B (bld l) n w g' (bld l') n' w'

theorem CallS.of (hP : NoNum P) (hm : P.follows .mixedOrders = true) {fn : Func} {c : Code} (q1 : P.funcs[f]? = some fn) (q2 : fn.body = some c) (hl : args.length ≤ 256) {cf : CallF} {fuel : Nat} (hcf : CfOk P gB wB cf)
    (h : Ends P ⟨fn.ntmps, xsOf fn c, gB, wB, ⟨bld l, n, [], .off⟩⟩ c (env0 args 0 env00) ⟨bld l, n, [], .off⟩ (fun r => ending P cf fuel f ⟨bld l, n, [], .off⟩ r = .ok v ⟨bld l', n', [], .off⟩)) : CallS P gB wB f args l n v l' n' := by
  intro args' g B w hB ha
  obtain ⟨r, hr, hn, hg⟩ := h
  have hc : CallR P g B ⟨bld l, n, [], .off⟩ w f args' (ending P cf fuel f ⟨bld l, n, [], .off⟩ r) :=
    fn_end hP hm hcf q1 q2 hB fun cs => Meets.of (hg B cs g w _ _ cs w hB (fn_start (P := P) (fn := fn) (c := c) hB.rel ha hl cs))
  rw [hr] at hc
  refine Calls.mono (show Calls P f ⟨args'⟩ w _ from hc) ?_
  rintro e w' ⟨v', g', h1, h2, h3⟩
  exact ⟨v', g', h1, h2, h3.ext⟩

noncomputable def eqVs : List Value → List Value → Bool
  | [], [] => true
  | x :: l, y :: m => eqV x y && eqVs l m
  | _, _ => false
theorem eqVs_eq : ∀ {l m : List Value}, eqVs l m = true → l = m
  | [], [], _ => rfl
  | [], _ :: _, h => by cases h
  | _ :: _, [], h => by cases h
  | x :: l, y :: m, h => by
    unfold eqVs at h
    rw [Bool.and_eq_true] at h
    rw [eqV_eq h.1, eqVs_eq h.2]

noncomputable def orcS (f : FuncId) (args : List Value) (l : List (Nat × Ob)) (n : Nat) (v : Value) (l' : List (Nat × Ob)) (n' : Nat) : FuncId → List Value → W → Option Re := fun f' args' U =>
  Bool.rec (motive := fun _ => Option Re) none (Bool.rec (motive := fun _ => Option Re) none (some (.ok v ⟨bld l', n', U.ds, U.rc⟩)) (eqVs args' args && (Nat.beq U.n n && (Nat.ble 2 n && chkL q0 (fun i => i) n U.h l 0)))) (Nat.beq f' f)

theorem reG_id (g : Gh) : reG g (fun i => i) = g := rfl

theorem orcS_ok (h : CallS P gB wB f args l n v l' n') : OrcOkH P gB wB (orcS f args l n v l' n') := by
  intro f' args1 args' r g B a w he hB ha
  unfold orcS at he
  cases hf : Nat.beq f' f with
  | false => rw [hf] at he; cases he
  | true =>
    rw [hf] at he
    have := Nat.eq_of_beq_eq_true hf
    subst this
    cases hc : (eqVs args1 args && (Nat.beq a.n n && (Nat.ble 2 n && chkL q0 (fun i => i) n a.h l 0))) with
    | false => rw [hc] at he; cases he
    | true =>
      rw [hc] at he
      cases he
      simp only [Bool.and_eq_true] at hc
      obtain ⟨h1, h2, h3, h4⟩ := hc
      have := eqVs_eq h1
      subst this
      have h2 := Nat.eq_of_beq_eq_true h2
      have h3 := Nat.le_of_ble_eq_true h3
      have hr := hB.rel
      have hrel : Rel g B (bld l) n w := rel_cut' (g := g) (p := fun i => i) q0_ok rfl rfl (fun i k cp hg => by rw [← h2]; exact (hr.dom i k cp hg).2) hr (by omega) (by rw [← h2]; exact hr.lim) h4
      have hlive : ∀ {i k}, Live (bld l) i k → Live a.h i k := fun hl => (live_old (g := g) (B := B) (n := a.n) (w := w) (n' := n) (p := fun i => i) q0_ok rfl hr (by rw [← h2]; exact hr.lim) h4 hl).2
      refine Calls.mono (h args' g B w ⟨hB.gle, hB.wle, hB.ble, hrel⟩ ha) ?_
      rintro e w' ⟨v', g', e1, e2, e3⟩
      refine ⟨v', g', e1, e2, ⟨⟨e3.rel, ⟨e3.ex.le, fun i k cp hg => by rw [h2]; exact e3.ex.dm i k cp hg, by rw [h2]; exact e3.ex.n, e3.ex.size, e3.ex.os, e3.ex.tape, e3.ex.output, fun b hb hn => e3.ex.fr b hb fun i k cp hl hg => hn i k cp (hlive hl) hg, fun i k cp hl hg hlt => ?_⟩⟩, rfl, rfl⟩⟩
      obtain ⟨i0, k0, cp0, q1, q2, q3⟩ := e3.ex.nw i k cp hl hg hlt
      exact ⟨i0, k0, cp0, hlive q1, q2, q3⟩

noncomputable def orc2 (o o' : FuncId → List Value → W → Option Re) : FuncId → List Value → W → Option Re := fun f args U =>
  Option.rec (motive := fun _ => Option Re) (o' f args U) some (o f args U)
theorem orc2_ok {o o' : FuncId → List Value → W → Option Re} (h : OrcOkH P gB wB o) (h' : OrcOkH P gB wB o') : OrcOkH P gB wB (orc2 o o') := by
  intro f args args' r g B a w he hB ha
  unfold orc2 at he
  cases ho : o f args a with
  | none => rw [ho] at he; exact h' f args args' r g B a w he hB ha
  | some r' => rw [ho] at he; cases he; exact h f args args' r g B a w ho hB ha
noncomputable def orcV (o : FuncId → List Value → Option Value) : FuncId → List Value → W → Option Re := fun f args U =>
  Option.rec (motive := fun _ => Option Re) none (fun v => some (.ok v U)) (o f args)
theorem orcV_ok {o : FuncId → List Value → Option Value} (h : OrcOk P gB wB o) : OrcOkH P gB wB (orcV o) := by
  intro f args args' r g B a w he hB ha
  unfold orcV at he
  cases ho : o f args with
  | none => rw [ho] at he; cases he
  | some v =>
    rw [ho] at he; cases he
    exact callR_val hB (h f args args' v ho g w hB.gle hB.wle ha)

end

noncomputable def pat (k : Nat) : Nat → Nat → Nat := Nat.rec (motive := fun _ => Nat → Nat → Nat) (fun _ x => x) (fun _ ih p x =>
  (fun n m q => Nat.add (Nat.mod x (Nat.pow 4096 n)) (Nat.mul (Nat.pow 4096 n) (Nat.add (Nat.mod q (Nat.pow 4096 m)) (Nat.mul (Nat.pow 4096 m) (ih (Nat.div q (Nat.pow 4096 m)) (Nat.div x (Nat.pow 4096 (Nat.add n (Nat.mod (Nat.div p 16777216) 4096)))))))))
    (Nat.mod p 4096) (Nat.mod (Nat.div p 4096) 4096) (Nat.div p 68719476736)) k
end Go.Cx
namespace Go.Cx
open Go Go.RowKit
variable {P : Program}

noncomputable def putS (t k : Nat) (env : Env) : Env := (putE t).run (.complex .f32 k 2) env

theorem putS_sl {l : List Value} {g : Gh} (hg : GLe (symG l) g) {xs : Nat} {env : Env} {tm : Nat → Value} (h : SlotR g xs [] env [] tm) {t k : Nat} {v : Value} (ht : has xs t = true) (hb : t < 256) (hv : l[k]? = some v) (he : (getE t).run env = v) (hf : free v = true) : SlotR g xs [] (putS t k env) [] tm := by
  unfold putS
  have h1 := h.out t ht hb
  rw [he] at h1
  have hx : tm t = v := h1.of_free hf
  have hp := h.put (fun _ h => (by cases h)) ht hb (v := .complex .f32 k 2) (v' := v) ((symG_rv hv).mono hg)
  refine ⟨fun q hq hq2 => ?_, fun i q hi => (by cases hi)⟩
  have := hp.out q hq hq2
  by_cases e : q = t
  · subst e
    rw [hx]
    simpa [setT] using this
  · simpa [setT, e] using this

section
variable {K : Cxt} {env : Env} {U : W} {R : Ou → Prop}
theorem Ends.unsub {c : Code} {l : List Value} (hl : K.gB = symG l) {t k : Nat} {v : Value} (ht : has K.xs t = true) (hb : t < 256) (hv : l[k]? = some v) (he : (getE t).run env = v) (hf : free v = true) (h : Ends P K c (putS t k env) U R) : Ends P K c env U R := by
  obtain ⟨r, h1, h2, h3⟩ := h
  refine ⟨r, h1, h2, fun B cs0 g0 w0 g a cs w hB hst => h3 B cs0 g0 w0 g a cs w hB ?_⟩
  exact { hst with sl := putS_sl (hl ▸ hB.gle.trans hst.ext.ex.le) hst.sl ht hb hv he hf }
theorem EndsL.unsub {c : Code} {l : List Value} (hl : K.gB = symG l) {t k : Nat} {v : Value} (ht : has K.xs t = true) (hb : t < 256) (hv : l[k]? = some v) (he : (getE t).run env = v) (hf : free v = true) (h : EndsL P K c (putS t k env) U R) : EndsL P K c env U R := by
  obtain ⟨r, h1, h2, h3⟩ := h
  refine ⟨r, h1, h2, fun B cs0 g0 w0 g a cs w hB hst => h3 B cs0 g0 w0 g a cs w hB ?_⟩
  exact { hst with sl := putS_sl (hl ▸ hB.gle.trans hst.ext.ex.le) hst.sl ht hb hv he hf }
theorem EndsL.sub {c : Code} {l : List Value} (hl : K.gB = symG l) {t k : Nat} {v : Value} (ht : has K.xs t = true) (hb : t < 256) (hv : l[k]? = some v) (hs : ∀ g, RV g v v) (h : EndsL P K c (subE t k v env) U R) : EndsL P K c env U R := by
  obtain ⟨r, h1, h2, h3⟩ := h
  refine ⟨r, h1, h2, fun B cs0 g0 w0 g a cs w hB hst => h3 B cs0 g0 w0 g a cs w hB ?_⟩
  exact { hst with sl := subE_sl (hl ▸ hB.gle.trans hst.ext.ex.le) hst.sl ht hb hv (hs g) }
end
theorem unsubE_sl {l : List Value} {g : Gh} (hg : GLe (symG l) g) {xs : Nat} {env env' : Env} {tm : Nat → Value} (h : SlotR g xs [] env [] tm) {t k : Nat} {v : Value} (ht : has xs t = true) (hb : t < 256) (hv : l[k]? = some v) (he : (getE t).run env = v) (hf : free v = true)
    (he' : (getE t).run env' = .complex .f32 k 2) (ho : ∀ q, q < 256 → q ≠ t → (getE q).run env' = (getE q).run env) : SlotR g xs [] env' [] tm := by
  have h1 := h.out t ht hb
  rw [he] at h1
  have hx : tm t = v := h1.of_free hf
  refine ⟨fun q hq hq2 => ?_, fun i q hi => (by cases hi)⟩
  by_cases e : q = t
  · subst e
    rw [hx, he']
    exact (symG_rv hv).mono hg
  · rw [ho q hq2 e]
    exact h.out q hq hq2
theorem Ends.unsubE {N xs : Nat} {wB : World} {W0 : W} {env env' : Env} {U : W} {R : Ou → Prop} {c : Code} {l : List Value} {t k : Nat} {v : Value} (ht : has xs t = true) (hb : t < 256) (hv : l[k]? = some v) (he : (getE t).run env = v) (hf : free v = true)
    (he' : (getE t).run env' = .complex .f32 k 2) (ho : ∀ q, q < 256 → q ≠ t → (getE q).run env' = (getE q).run env) (h : Ends P ⟨N, xs, symG l, wB, W0⟩ c env' U R) : Ends P ⟨N, xs, symG l, wB, W0⟩ c env U R := by
  obtain ⟨r, h1, h2, h3⟩ := h
  refine ⟨r, h1, h2, fun B cs0 g0 w0 g a cs w hB hst => h3 B cs0 g0 w0 g a cs w hB ?_⟩
  exact { hst with sl := unsubE_sl (hB.gle.trans hst.ext.ex.le) hst.sl ht hb hv he hf he' ho }
theorem Ends.unsub' {N xs : Nat} {wB : World} {W0 : W} {env : Env} {U : W} {R : Ou → Prop} {c : Code} {l : List Value} {t k : Nat} {v : Value} (ht : has xs t = true) (hb : t < 256) (hv : l[k]? = some v) (he : (getE t).run env = v) (hf : free v = true) (h : Ends P ⟨N, xs, symG l, wB, W0⟩ c (putS t k env) U R) : Ends P ⟨N, xs, symG l, wB, W0⟩ c env U R :=
  Ends.unsub (K := ⟨N, xs, symG l, wB, W0⟩) rfl ht hb hv he hf h
end Go.Cx
namespace Go.Cx
open Go Go.RowKit
variable {P : Program}

noncomputable def hdel (h : Hp) (n : Nat) : Hp := (setH n).run none h

theorem hget_hdel (h : Hp) (n : Nat) : hget (hdel h n) n = none := by
  rw [hget_eq]
  unfold hdel getH setH
  show (get16 Ho _).run ((get16 (N16 Ho) _).run ((get16 (N16 (N16 Ho)) _).run ((get16 (N16 (N16 (N16 Ho))) _).run ((upd16 (N16 (N16 (N16 Ho))) _).run _ h)))) = _
  rw [get_upd]
  show (get16 Ho _).run ((get16 (N16 Ho) _).run ((get16 (N16 (N16 Ho)) _).run ((upd16 (N16 (N16 Ho)) _).run _ _))) = _
  rw [get_upd]
  show (get16 Ho _).run ((get16 (N16 Ho) _).run ((upd16 (N16 Ho) _).run _ _)) = _
  rw [get_upd]
  exact get_upd _ _ _

theorem hget_hdel' {m n : Nat} (hm : m < 65536) (hn : n < 65536) (h : m ≠ n) (w : Hp) : hget (hdel w n) m = hget w m := by
  rw [hget_eq, hget_eq]
  unfold hdel getH setH
  show (get16 Ho _).run ((get16 (N16 Ho) _).run ((get16 (N16 (N16 Ho)) _).run ((get16 (N16 (N16 (N16 Ho))) _).run ((upd16 (N16 (N16 (N16 Ho))) _).run _ w)))) = (get16 Ho _).run ((get16 (N16 Ho) _).run ((get16 (N16 (N16 Ho)) _).run ((get16 (N16 (N16 (N16 Ho))) _).run w)))
  have e1 : ∀ k : Nat, Nat.div k 4096 = k / 4096 := fun _ => rfl
  have e2 : ∀ k : Nat, Nat.mod (Nat.div k 256) 16 = k / 256 % 16 := fun _ => rfl
  have e3 : ∀ k : Nat, Nat.mod (Nat.div k 16) 16 = k / 16 % 16 := fun _ => rfl
  have e4 : ∀ k : Nat, Nat.mod k 16 = k % 16 := fun _ => rfl
  rw [e1, e1, e2, e2, e3, e3, e4, e4]
  by_cases h1 : m / 4096 = n / 4096
  · rw [h1, get_upd]
    show (get16 Ho _).run ((get16 (N16 Ho) _).run ((get16 (N16 (N16 Ho)) _).run ((upd16 (N16 (N16 Ho)) _).run _ _))) = _
    by_cases h2 : m / 256 % 16 = n / 256 % 16
    · rw [h2, get_upd]
      show (get16 Ho _).run ((get16 (N16 Ho) _).run ((upd16 (N16 Ho) _).run _ _)) = _
      by_cases h3 : m / 16 % 16 = n / 16 % 16
      · rw [h3, get_upd]
        exact get_upd' (dig_ne (by omega) (by omega) (by omega)) _ _
      · rw [get_upd' (dig_ne (by omega) (by omega) h3)]
    · rw [get_upd' (dig_ne (by omega) (by omega) h2)]
  · rw [get_upd' (dig_ne (by omega) (by omega) h1)]

noncomputable def frm (h : Hp) (l l' : List (Nat × Ob)) : Hp :=
  List.rec (motive := fun _ => Hp) (List.rec (motive := fun _ => Hp) h (fun x _ ih => hdel ih x.1) l) (fun x _ ih => hset ih x.1 x.2) l'

theorem del_get {h : Hp} {i : Nat} {o : Ob} (hi : i < 65536) : ∀ {l : List (Nat × Ob)}, (∀ x ∈ l, x.1 < 65536) → hget (frm h l []) i = some o → (∀ x ∈ l, x.1 ≠ i) ∧ hget h i = some o
  | [], _, e => ⟨fun _ hx => absurd hx List.not_mem_nil, e⟩
  | (j, ob) :: l, hl, e => by
    have e : hget (hdel (frm h l []) j) i = some o := e
    by_cases hj : i = j
    · subst hj; rw [hget_hdel] at e; cases e
    · rw [hget_hdel' hi (hl (j, ob) List.mem_cons_self) hj] at e
      obtain ⟨a, b⟩ := del_get hi (fun x hx => hl x (List.mem_cons_of_mem _ hx)) e
      refine ⟨fun x hx => ?_, b⟩
      rcases List.mem_cons.1 hx with rfl | hx
      · exact fun q => hj q.symm
      · exact a x hx

theorem frm_get {h : Hp} {l : List (Nat × Ob)} {i : Nat} {o : Ob} (hi : i < 65536) (hl : ∀ x ∈ l, x.1 < 65536) : ∀ {l' : List (Nat × Ob)}, (∀ x ∈ l', x.1 < 65536) → hget (frm h l l') i = some o → hget (bld l') i = some o ∨ (∀ x ∈ l, x.1 ≠ i) ∧ hget h i = some o
  | [], _, e => .inr (del_get hi hl e)
  | (j, ob) :: l', hl', e => by
    have e : hget (hset (frm h l l') j ob) i = some o := e
    show hget (hset (bld l') j ob) i = some o ∨ _
    by_cases hj : i = j
    · subst hj; rw [hget_hset] at e ⊢; exact .inl e
    · have hj2 := hl' (j, ob) List.mem_cons_self
      rw [hget_hset' hi hj2 hj] at e ⊢
      exact frm_get hi hl (fun x hx => hl' x (List.mem_cons_of_mem _ hx)) e

noncomputable def tabP (l : List (Nat × Ob)) : Hp := List.rec (motive := fun _ => Hp) hp0 (fun x _ ih => hset ih x.1 (.iter ⟨#[]⟩ x.1)) l
theorem tabP_get {i : Nat} {o : Ob} (hi : i < 65536) : ∀ {l : List (Nat × Ob)}, (∀ x ∈ l, x.1 < 65536) → hget (tabP l) i = some o → o = .iter ⟨#[]⟩ i ∧ ∃ x ∈ l, x.1 = i
  | [], _, e => by
    have e : hget hp0 i = some o := e
    rw [hget_hp0] at e; cases e
  | (j, ob) :: l, hl, e => by
    have e : hget (hset (tabP l) j (.iter ⟨#[]⟩ j)) i = some o := e
    by_cases hj : i = j
    · subst hj; rw [hget_hset] at e; cases e; exact ⟨rfl, _, List.mem_cons_self, rfl⟩
    · rw [hget_hset' hi (hl (j, ob) List.mem_cons_self) hj] at e
      obtain ⟨a, x, b, c⟩ := tabP_get hi (fun x hx => hl x (List.mem_cons_of_mem _ hx)) e
      exact ⟨a, x, List.mem_cons_of_mem _ b, c⟩

noncomputable def pL (l : List (Nat × Ob)) (n : Nat) : Nat → Nat := piF 2 n (tabP l)

theorem pL_or {l : List (Nat × Ob)} {n i : Nat} (hl : ∀ x ∈ l, x.1 < 65536) (hn : n ≤ 65536) (h2 : 2 ≤ i) : (pL l n i = i ∧ i < n ∧ ∃ x ∈ l, x.1 = i) ∨ pL l n i = 0 := by
  rcases Nat.lt_or_ge i n with h | h
  · unfold pL piF
    rw [Nat.ble_eq_true_of_le h2, Nat.ble_eq_true_of_le (show i.succ ≤ n from h)]
    show ((match hget (tabP l) i with | some (.iter _ j) => j | _ => 0) = i ∧ _) ∨ (match hget (tabP l) i with | some (.iter _ j) => j | _ => 0) = 0
    cases ho : hget (tabP l) i with
    | none => exact .inr rfl
    | some o =>
      obtain ⟨rfl, hx⟩ := tabP_get (by omega) hl ho
      exact .inl ⟨rfl, h, hx⟩
  · exact .inr (piF_high h2 h)

noncomputable def sameVs (p : Nat → Nat) : List Value → List Value → Bool
  | [], [] => true
  | x :: l, y :: m => sameV q0 p x y && sameVs p l m
  | _, _ => false
theorem sameVs_rv {g : Gh} {p : Nat → Nat} (hp : p 1 = 1) : ∀ {l m l' : List Value}, sameVs p l m = true → All2 (RV g) m l' → All2 (RV (reG g p)) l l'
  | [], [], _, _, h => by cases h; exact .nil
  | [], _ :: _, _, h, _ => by cases h
  | _ :: _, [], _, h, _ => by cases h
  | x :: l, y :: m, _, h, hr => by
    unfold sameVs at h
    rw [Bool.and_eq_true] at h
    cases hr with
    | cons h1 h2 => exact .cons (sameV_rv q0_ok hp h.1 h1) (sameVs_rv hp h.2 h2)

noncomputable def chkP (p : Nat → Nat) (n : Nat) (l' : List (Nat × Ob)) : Bool :=
  List.rec (motive := fun _ => Bool) true (fun x _ ih => Nat.ble (Nat.succ x.1) 65536 && ((Nat.ble n x.1 || Nat.beq (p x.1) x.1) && ih)) l'
theorem chkP_spec {p : Nat → Nat} {n : Nat} : ∀ {l' : List (Nat × Ob)}, chkP p n l' = true → ∀ x ∈ l', x.1 < 65536 ∧ (n ≤ x.1 ∨ p x.1 = x.1)
  | [], _, _, hx => absurd hx List.not_mem_nil
  | y :: l', h, x, hx => by
    have h : (Nat.ble (Nat.succ y.1) 65536 && ((Nat.ble n y.1 || Nat.beq (p y.1) y.1) && chkP p n l')) = true := h
    simp only [Bool.and_eq_true, Bool.or_eq_true] at h
    obtain ⟨h1, h2, h3⟩ := h
    rcases List.mem_cons.1 hx with rfl | hx
    · exact ⟨Nat.le_of_ble_eq_true h1, h2.imp Nat.le_of_ble_eq_true Nat.eq_of_beq_eq_true⟩
    · exact chkP_spec h3 x hx

noncomputable def noOb (h : Hp) (i : Nat) : Bool := Option.rec (motive := fun _ => Bool) true (fun _ => false) (hget h i)
theorem noOb_spec {h : Hp} {i : Nat} (e : noOb h i = true) : hget h i = none := by
  unfold noOb at e
  cases ho : hget h i with
  | none => rfl
  | some o => rw [ho] at e; cases e

noncomputable def orcF (f : FuncId) (args : List Value) (l : List (Nat × Ob)) (n : Nat) (v : Value) (l' : List (Nat × Ob)) (n' : Nat) : FuncId → List Value → W → Option Re := fun f' args' U =>
  Bool.rec (motive := fun _ => Option Re) none (Bool.rec (motive := fun _ => Option Re) none ((fun p =>
    Bool.rec (motive := fun _ => Option Re) none (some (.ok v ⟨frm U.h l l', n', U.ds, U.rc⟩)) (sameVs p args args' && (noOb U.h 1 && (chkL q0 p n U.h l 0 && chkP p n l')))) (pL l n)) (Nat.beq U.n n && Nat.ble 2 n)) (Nat.beq f' f)

section
variable {wB : World} {f : FuncId} {args : List Value} {l l' : List (Nat × Ob)} {n n' : Nat} {v : Value} {T : List Value}

theorem frame {g g' : Gh} {B : Nat} {a : W} {w w' : World} (hr : Rel g B a.h a.n w) (h2 : a.n = n) (h3 : 2 ≤ n) (h4 : noOb a.h 1 = true) (h5 : chkL q0 (pL l n) n a.h l 0 = true) (h6 : chkP (pL l n) n l' = true)
    (hx : Ext (reG g (pL l n)) B (bld l) n w g' (bld l') n' w') : ∃ g2, GLe g' g2 ∧ Ext g B a.h a.n w g2 (frm a.h l l') n' w' := by
  subst h2
  have hlim := hr.lim
  have hp1 : pL l a.n 1 = 1 := piF_low (by omega)
  have hp0 : pL l a.n 0 = 0 := piF_low (by omega)
  have hm := chkP_spec h6
  have hl : ∀ x ∈ l, x.1 < 65536 := fun x hx => by have := ((chkL_spec h5).1 x hx).2.1; omega
  have hl' : ∀ x ∈ l', x.1 < 65536 := fun x hx => (hm x hx).1
  have h1 := noOb_spec h4
  have live : ∀ {i k}, Live (bld l) i k → (∃ o, (i, o) ∈ l) ∧ Live a.h i k := fun {i k} hv => by
    obtain ⟨⟨o, q1⟩, q2⟩ := live_old q0_ok hp1 hr hlim h5 hv
    refine ⟨⟨o, q1⟩, ?_⟩
    have hd := (chkL_spec h5).1 _ q1
    rcases Nat.lt_or_ge i 2 with hi | hi
    · obtain rfl : i = 1 := by have := hd.1; simp only at this; omega
      rw [hp1] at q2; exact q2
    · rcases pL_or hl hlim hi with ⟨e, _⟩ | e
      · rw [e] at q2; exact q2
      · have := hd.2.2.2.1; simp only at this; omega
  have old : ∀ {i k cp}, reG g (pL l a.n) i k = some cp → g i k = some cp ∧ (i = 1 ∨ ∃ x ∈ l, x.1 = i) := fun {i k cp} hg => by
    have hg : g (pL l a.n i) k = some cp := hg
    have hd := (hr.dom _ _ _ hg).1
    rcases Nat.lt_or_ge i 2 with hi | hi
    · rcases Nat.eq_zero_or_pos i with rfl | h0
      · rw [hp0] at hd; omega
      · obtain rfl : i = 1 := by omega
        rw [hp1] at hg; exact ⟨hg, .inl rfl⟩
    · rcases pL_or hl hlim hi with ⟨e, _, ex⟩ | e
      · rw [e] at hg; exact ⟨hg, .inr ex⟩
      · rw [e] at hd; omega
  have old' : ∀ {i k cp}, pL l a.n i = i → g i k = some cp → reG g (pL l a.n) i k = some cp := fun {i k cp} e hg => by
    show g (pL l a.n i) k = some cp
    rw [e]; exact hg
  let D : Nat → Prop := fun i => a.n ≤ i ∨ pL l a.n i = i
  have hD : ∀ {i}, D i → i < a.n → i = 0 ∨ i = 1 ∨ ∃ x ∈ l, x.1 = i := fun {i} hd hi => by
    rcases hd with hd | hd
    · omega
    · rcases Nat.lt_or_ge i 2 with h | h
      · omega
      · rcases pL_or hl hlim h with ⟨_, _, ex⟩ | e
        · exact .inr (.inr ex)
        · omega
  let g2 : Gh := fun i k => open Classical in if D i then g' i k else g i k
  have g2t : ∀ {i}, D i → ∀ k, g2 i k = g' i k := fun hd k => if_pos hd
  have g2f : ∀ {i}, ¬ D i → ∀ k, g2 i k = g i k := fun hd k => if_neg hd
  have le1 : GLe g' g2 := fun i k cp hg => by
    by_cases hd : D i
    · rw [g2t hd]; exact hg
    · rcases hx.ex.dm i k cp hg with h | ⟨k0, cp0, h⟩
      · exact absurd (.inl h) hd
      · exfalso
        have h : g (pL l a.n i) k0 = some cp0 := h
        have hd0 := (hr.dom _ _ _ h).1
        rcases Nat.lt_or_ge i 2 with hi | hi
        · exact hd (.inr (piF_low hi))
        · rcases pL_or hl hlim hi with ⟨e, _⟩ | e
          · exact hd (.inr e)
          · rw [e] at hd0; omega
  have le2 : GLe g g2 := fun i k cp hg => by
    by_cases hd : D i
    · rw [g2t hd]
      rcases hd with h | h
      · have := (hr.dom _ _ _ hg).2; omega
      · exact hx.ex.le _ _ _ (old' h hg)
    · rw [g2f hd]; exact hg
  have memD : ∀ {i o}, hget (bld l') i = some o → i < 65536 → D i := fun {i o} ho hi => (hm _ (bld_mem hi hl' ho)).2
  have two : ∀ {i k}, Live (frm a.h l l') i k → (Live (bld l') i k ∧ D i) ∨ ((∀ x ∈ l, x.1 ≠ i) ∧ Live a.h i k ∧ ¬ D i) := fun {i k} hv => by
    obtain ⟨hi, o, ho, hf⟩ := hv
    rcases frm_get hi hl hl' ho with h | ⟨h, h'⟩
    · exact .inl ⟨⟨hi, o, h, hf⟩, memD h hi⟩
    · refine .inr ⟨h, ⟨hi, o, h', hf⟩, fun hd => ?_⟩
      have hb := hr.hdom i o hi h'
      rcases hD hd hb.2 with e | e | ⟨x, q1, q2⟩
      · omega
      · subst e; rw [h1] at h'; cases h'
      · exact h x q1 q2
  have stay : ∀ {i k cp}, (∀ x ∈ l, x.1 ≠ i) → Live a.h i k → g i k = some cp → w'.heap[cp.blk]? = w.heap[cp.blk]? := fun {i k cp} hn hv hg => by
    refine hx.ex.fr cp.blk (hr.lt _ _ _ hv hg) fun i' k' cp' hv' hg' => ?_
    obtain ⟨⟨o, q1⟩, q2⟩ := live hv'
    exact hr.dis _ _ _ _ _ _ (fun e => hn _ q1 e) q2 hv (old hg').1 hg
  have hr' := hx.rel
  have hsz := hx.ex.size
  refine ⟨g2, le1, ⟨⟨hr'.pos, hr'.lim, hr'.base, fun i k cp hg => ?_, fun i o hi ho => ?_, fun i o hi ho => ?_, fun i i' k k' cp cp' hne hv hv' hg hg' => ?_, fun i k cp hv hg => ?_, fun i k cp hv hg => ?_⟩,
    ⟨le2, fun i k cp hg => ?_, hx.ex.n, hsz, hx.ex.os, hx.ex.tape, hx.ex.output, fun b hb hn => hx.ex.fr b hb fun i k cp hv hg => hn i k cp (live hv).2 (old hg).1, fun i k cp hv hg hlt => ?_⟩⟩⟩
  · by_cases hd : D i
    · rw [g2t hd] at hg; exact hr'.dom _ _ _ hg
    · rw [g2f hd] at hg
      have := hr.dom _ _ _ hg
      have := hx.ex.n
      omega
  · rcases frm_get hi hl hl' ho with h | ⟨_, h⟩
    · exact hr'.hdom i o hi h
    · have := hr.hdom i o hi h
      have := hx.ex.n
      omega
  · rcases frm_get hi hl hl' ho with h | ⟨hn, h⟩
    · have hd := memD h hi
      exact (hr'.obs i o hi h).stay le1 (fun k cp hk => by rw [g2t hd] at hk; exact hk) (fun _ _ _ _ => rfl)
    · have hd : ¬ D i := by
        intro hd
        rcases hD hd (hr.hdom i o hi h).2 with e | e | ⟨x, q1, q2⟩
        · have := (hr.hdom i o hi h).1; omega
        · subst e; rw [h1] at h; cases h
        · exact hn x q1 q2
      exact (hr.obs i o hi h).stay le2 (fun k cp hk => by rw [g2f hd] at hk; exact hk) (fun k cp hk hf => stay hn ⟨hi, o, h, hf⟩ hk)
  · rcases two hv with ⟨a1, a2⟩ | ⟨a1, a2, a3⟩ <;> rcases two hv' with ⟨b1, b2⟩ | ⟨b1, b2, b3⟩
    · rw [g2t a2] at hg; rw [g2t b2] at hg'
      exact hr'.dis _ _ _ _ _ _ hne a1 b1 hg hg'
    · rw [g2t a2] at hg; rw [g2f b3] at hg'
      have hb := hr.lt _ _ _ b2 hg'
      rcases Nat.lt_or_ge cp.blk w.heap.size with hc | hc
      · obtain ⟨i0, k0, cp0, q1, q2, q3⟩ := hx.ex.nw _ _ _ a1 hg hc
        obtain ⟨⟨o, r1⟩, r2⟩ := live q1
        have := hr.dis _ _ _ _ _ _ (fun e => b1 _ r1 e) r2 b2 (old q2).1 hg'
        omega
      · omega
    · rw [g2f a3] at hg; rw [g2t b2] at hg'
      have hb := hr.lt _ _ _ a2 hg
      rcases Nat.lt_or_ge cp'.blk w.heap.size with hc | hc
      · obtain ⟨i0, k0, cp0, q1, q2, q3⟩ := hx.ex.nw _ _ _ b1 hg' hc
        obtain ⟨⟨o, r1⟩, r2⟩ := live q1
        have := hr.dis _ _ _ _ _ _ (fun e => a1 _ r1 e) r2 a2 (old q2).1 hg
        omega
      · omega
    · rw [g2f a3] at hg; rw [g2f b3] at hg'
      exact hr.dis _ _ _ _ _ _ hne a2 b2 hg hg'
  · rcases two hv with ⟨a1, a2⟩ | ⟨a1, a2, a3⟩
    · rw [g2t a2] at hg; exact hr'.lt _ _ _ a1 hg
    · rw [g2f a3] at hg
      have := hr.lt _ _ _ a2 hg
      omega
  · rcases two hv with ⟨a1, a2⟩ | ⟨a1, a2, a3⟩
    · rw [g2t a2] at hg; exact hr'.low _ _ _ a1 hg
    · rw [g2f a3] at hg; exact hr.low _ _ _ a2 hg
  · by_cases hd : D i
    · rw [g2t hd] at hg
      rcases hx.ex.dm i k cp hg with h | ⟨k0, cp0, h⟩
      · exact .inl h
      · exact .inr ⟨k0, cp0, (old h).1⟩
    · rw [g2f hd] at hg; exact .inr ⟨k, cp, hg⟩
  · rcases two hv with ⟨a1, a2⟩ | ⟨a1, a2, a3⟩
    · rw [g2t a2] at hg
      obtain ⟨i0, k0, cp0, q1, q2, q3⟩ := hx.ex.nw _ _ _ a1 hg hlt
      exact ⟨i0, k0, cp0, (live q1).2, (old q2).1, q3⟩
    · rw [g2f a3] at hg; exact ⟨i, k, cp, a2, hg, rfl⟩

theorem orcF_ok (h : CallS P (symG T) wB f args l n v l' n') : OrcOkH P (symG T) wB (orcF f args l n v l' n') := by
  intro f' args1 args' r g B a w he hB ha
  unfold orcF at he
  cases hf : Nat.beq f' f with
  | false => rw [hf] at he; cases he
  | true =>
    rw [hf] at he
    have := Nat.eq_of_beq_eq_true hf
    subst this
    cases hn : (Nat.beq a.n n && Nat.ble 2 n) with
    | false => rw [hn] at he; cases he
    | true =>
      rw [hn] at he
      rw [Bool.and_eq_true] at hn
      have h2 := Nat.eq_of_beq_eq_true hn.1
      have h3 := Nat.le_of_ble_eq_true hn.2
      cases hc : (sameVs (pL l n) args args1 && (noOb a.h 1 && (chkL q0 (pL l n) n a.h l 0 && chkP (pL l n) n l'))) with
      | false => dsimp only at he; rw [hc] at he; cases he
      | true =>
        dsimp only at he
        rw [hc] at he
        cases he
        simp only [Bool.and_eq_true] at hc
        obtain ⟨h1, h4, h5, h6⟩ := hc
        have hr := hB.rel
        have hp1 : pL l n 1 = 1 := piF_low (by omega)
        have hp0 : pL l n 0 = 0 := piF_low (by omega)
        have hlim : n ≤ 65536 := by rw [← h2]; exact hr.lim
        have hrel : Rel (reG g (pL l n)) B (bld l) n w := rel_cut (g := g) q0_ok hp1 hp0 (fun i hi => piF_high (by omega) hi) hr (by omega) hlim h5
        have hgle : GLe (symG T) (reG g (pL l n)) := fun i k cp hg => by
          have := symG_one T i k cp hg
          subst this
          show g (pL l n 1) k = some cp
          rw [hp1]; exact hB.gle _ _ _ hg
        refine Calls.mono (h args' (reG g (pL l n)) B w ⟨hgle, hB.wle, hB.ble, hrel⟩ (sameVs_rv hp1 h1 ha)) ?_
        rintro e w' ⟨v', g', e1, e2, e3⟩
        obtain ⟨g2, q1, q2⟩ := frame hr h2 h3 h4 h5 h6 e3
        exact ⟨v', g2, e1, e2.mono q1, ⟨q2, rfl, rfl⟩⟩

end
end Go.Cx
namespace Go.Cx
open Go Go.RowKit
variable {P : Program}

structure ChkP (Q : Value → Value → Bool) (p : Nat → Nat) (n : Nat) (h : Hp) (l : List (Nat × Ob)) : Prop where
  each : ∀ x ∈ l, 0 < x.1 ∧ x.1 < n ∧ p x.1 < 65536 ∧ ∃ o, hget h (p x.1) = some o ∧ sameO Q p x.2 o = true
  inj : ∀ x ∈ l, ∀ y ∈ l, x.1 ≠ y.1 → p x.1 ≠ p y.1

noncomputable def chkM (Q : Value → Value → Bool) (p q : Nat → Nat) (n : Nat) (h : Hp) (l : List (Nat × Ob)) : Bool :=
  List.rec (motive := fun _ => Bool) true (fun x _ ih => (fun i => Nat.ble 1 x.1 && (Nat.ble (Nat.succ x.1) n && (Nat.ble (Nat.succ i) 65536 && (Nat.beq (q i) x.1 && (Option.rec (motive := fun _ => Bool) false (fun o => sameO Q p x.2 o) (hget h i) && ih))))) (p x.1)) l

theorem chkM_spec {Q : Value → Value → Bool} {p q : Nat → Nat} {n : Nat} {h : Hp} : ∀ {l : List (Nat × Ob)}, chkM Q p q n h l = true → ∀ x ∈ l, 0 < x.1 ∧ x.1 < n ∧ p x.1 < 65536 ∧ q (p x.1) = x.1 ∧ ∃ o, hget h (p x.1) = some o ∧ sameO Q p x.2 o = true
  | [], _, _, hx => absurd hx List.not_mem_nil
  | y :: l, hc, x, hx => by
    have hc : (Nat.ble 1 y.1 && (Nat.ble (Nat.succ y.1) n && (Nat.ble (Nat.succ (p y.1)) 65536 && (Nat.beq (q (p y.1)) y.1 && (Option.rec (motive := fun _ => Bool) false (fun o => sameO Q p y.2 o) (hget h (p y.1)) && chkM Q p q n h l))))) = true := hc
    simp only [Bool.and_eq_true] at hc
    obtain ⟨h1, h2, h3, h4, h5, h6⟩ := hc
    rcases List.mem_cons.1 hx with rfl | hx
    · refine ⟨Nat.le_of_ble_eq_true h1, Nat.le_of_ble_eq_true h2, Nat.le_of_ble_eq_true h3, Nat.eq_of_beq_eq_true h4, ?_⟩
      cases ho : hget h (p x.1) with
      | none => rw [ho] at h5; cases h5
      | some o => rw [ho] at h5; exact ⟨o, rfl, h5⟩
    · exact chkM_spec h6 x hx
theorem chkM_p {Q : Value → Value → Bool} {p q : Nat → Nat} {n : Nat} {h : Hp} {l : List (Nat × Ob)} (hc : chkM Q p q n h l = true) : ChkP Q p n h l :=
  ⟨fun x hx => by obtain ⟨a, b, c, _, d⟩ := chkM_spec hc x hx; exact ⟨a, b, c, d⟩, fun x hx y hy hne e => hne (by rw [← (chkM_spec hc x hx).2.2.2.1, e, (chkM_spec hc y hy).2.2.2.1])⟩

section
variable {g : Gh} {Q : Value → Value → Bool} {p : Nat → Nat} {B n n' : Nat} {h : Hp} {w : World} {l : List (Nat × Ob)}

theorem live_oldP (hQ : QOk Q g p) (hp : p 1 = 1) (hr : Rel g B h n w) (hn : n' ≤ 65536) (hc : ChkP Q p n' h l) {i k : Nat} (hl : Live (bld l) i k) : (∃ o, (i, o) ∈ l) ∧ Live h (p i) k := by
  obtain ⟨hi, o, ho, hf⟩ := hl
  have hm := bld_mem hi (fun x hx => by have := (hc.each x hx).2.1; omega) ho
  obtain ⟨_, _, hp', o', ho', hs⟩ := hc.each _ hm
  exact ⟨⟨o, hm⟩, hp', o', ho', by rw [← (sameO_spec (B := B) (w := w) (g := g) hQ hp hs (hr.obs _ _ hp' ho')).2]; exact hf⟩

theorem rel_cutP (hQ : QOk Q g p) (hp : p 1 = 1) (hp0 : p 0 = 0) (hpn : ∀ i, n' ≤ i → p i = 0) (hr : Rel g B h n w) (h0 : 0 < n') (hn : n' ≤ 65536) (hc : ChkP Q p n' h l) : Rel (reG g p) B (bld l) n' w := by
  have hmem : ∀ {i o}, i < 65536 → hget (bld l) i = some o → (i, o) ∈ l := fun hi ho => bld_mem hi (fun x hx => by have := (hc.each x hx).2.1; omega) ho
  refine ⟨h0, hn, hr.base, fun i k cp hg => ?_, fun i o hi ho => ?_, fun i o hi ho => ?_, fun i i' k k' cp cp' hne hl hl' hg hg' => ?_, fun i k cp hl hg => hr.lt _ _ _ (live_oldP hQ hp hr hn hc hl).2 hg, fun i k cp hl hg => hr.low _ _ _ (live_oldP hQ hp hr hn hc hl).2 hg⟩
  · have hg : g (p i) k = some cp := hg
    have hd := (hr.dom _ _ _ hg).1
    constructor
    · rcases Nat.eq_zero_or_pos i with rfl | h
      · rw [hp0] at hd; omega
      · exact h
    · rcases Nat.lt_or_ge i n' with h | h
      · exact h
      · rw [hpn i h] at hd; omega
  · have := hc.each _ (hmem hi ho)
    exact ⟨this.1, this.2.1⟩
  · obtain ⟨_, _, hp', o', ho', hs⟩ := hc.each _ (hmem hi ho)
    exact (sameO_spec hQ hp hs (hr.obs _ _ hp' ho')).1
  · obtain ⟨⟨o, hm⟩, hl1⟩ := live_oldP hQ hp hr hn hc hl
    obtain ⟨⟨o', hm'⟩, hl2⟩ := live_oldP hQ hp hr hn hc hl'
    exact hr.dis _ _ _ _ _ _ (hc.inj _ hm _ hm' hne) hl1 hl2 hg hg'
end

noncomputable def walk (h : Hp) (fuel : Nat) : List Nat → Hp → List Nat :=
  Nat.rec (motive := fun _ => List Nat → Hp → List Nat) (fun _ _ => []) (fun _ ih st m => List.rec (motive := fun _ => List Nat) [] (fun i r _ =>
    Option.rec (motive := fun _ => List Nat) (Option.rec (motive := fun _ => List Nat) (ih r m) (fun o => i :: ih (addrL (cellsO o) r) (hset m i (markO 0))) (hget h i)) (fun _ => ih r m) (hget m i)) st) fuel

noncomputable def isoW (x i : Nat) (U : W) : Bool := (fun nm => (fun n => (fun p => Nat.ble 2 n && (Nat.ble n 65536 && (chkM q0 p (atT (tabB nm hp0)) n U.h (lD 1 x) && sameV q0 p ((getE 0).run (envD 1 x)) (.pointer (some ⟨i, 0, none⟩))))) (piF 2 n (tabF nm hp0))) (nD 1 x)) (names 2 (walk U.h 1000000 [i] hp0) 2)

noncomputable def rootN (v : Value) : Nat := match v with | .pointer (some ⟨i, 0, none⟩) => i | _ => 0
def AtS (x : Nat) (w0 : World) (v : Value) (w : World) : Prop := ∃ g, Bs (symG []) w0 w0.heap.size g (WD 1 x) w ∧ RV g ((getE 0).run (envD 1 x)) v

theorem symG_nil (i k : Nat) : symG [] i k = none := by
  unfold symG
  split <;> rfl

theorem AtS.iso {x i : Nat} {w0 w : World} {v : Value} {g : Gh} {U : W} (hB : Bs (symG []) w0 w0.heap.size g U w) (hv : RV g (.pointer (some ⟨i, 0, none⟩)) v) (h : isoW x i U = true) : AtS x w0 v w := by
  unfold isoW at h
  simp only [Bool.and_eq_true] at h
  obtain ⟨h1, h2, h3, h4⟩ := h
  have h1 := Nat.le_of_ble_eq_true h1
  have h2 := Nat.le_of_ble_eq_true h2
  generalize hp : piF 2 (nD 1 x) (tabF (names 2 (walk U.h 1000000 [i] hp0) 2) hp0) = p at h3 h4
  have hp1 : p 1 = 1 := by rw [← hp]; exact piF_low (by omega)
  have hp0' : p 0 = 0 := by rw [← hp]; exact piF_low (by omega)
  have hpn : ∀ i, nD 1 x ≤ i → p i = 0 := fun i hi => by rw [← hp]; exact piF_high (by omega) hi
  exact ⟨reG g p, ⟨fun i k cp hg => (by rw [symG_nil] at hg; cases hg), hB.wle, hB.ble, rel_cutP q0_ok hp1 hp0' hpn hB.rel (show 0 < nD 1 x by omega) h2 (chkM_p h3)⟩, sameV_rv q0_ok hp1 h4 hv⟩

noncomputable def isoR (v : Value) (y i : Nat) (r : Re) : Bool := match r with | .ok u U => eqV u v && isoW y i U | _ => false

theorem AtS.call {cf : CallF} {x y i : Nat} {w0 w : World} {f : FuncId} {u v : Value} {args : List Value} (hcf : CfOk P (symG []) w0 cf) (hx : (getE 0).run (envD 1 x) = .pointer (some ⟨i, 0, none⟩)) (hA : ∀ g, All2 (RV g) args args)
    (hf : free v = true) (h : isoR v y i (cf f ((getE 0).run (envD 1 x) :: args) (WD 1 x)) = true) (hw : AtS x w0 u w) : Calls P f ⟨u :: args⟩ w fun e w' => e = .returned v ∧ AtS y w0 u w' := by
  obtain ⟨g, hB, hv⟩ := hw
  have hc := hcf f ((getE 0).run (envD 1 x) :: args) (u :: args) g w0.heap.size (WD 1 x) w hB (.cons hv (hA g))
  unfold isoR at h
  split at h
  · rename_i v1 U he
    rw [he] at hc
    rw [Bool.and_eq_true] at h
    have := eqV_eq h.1
    subst this
    refine Calls.mono (show Calls P f ⟨u :: args⟩ w _ from hc) ?_
    rintro e w' ⟨v', g', rfl, h1, h2⟩
    rw [h1.of_free hf]
    refine ⟨rfl, AtS.iso (g := g') (U := U) (hB.ext h2.ext) ?_ h.2⟩
    rw [← hx]
    exact hv.mono h2.ext.ex.le
  · cases h
end Go.Cx
namespace Go.Cx
open Go Go.RowKit
variable {P : Program}

noncomputable def isoV (x i : Nat) (av' av : List Value) (U : W) : Bool := (fun nm => (fun n => (fun p => Nat.ble 2 n && (Nat.ble n 65536 && (chkM q0 p (atT (tabB nm hp0)) n U.h (lD 1 x) && sameVs p av' av))) (piF 2 n (tabF nm hp0))) (nD 1 x)) (names 2 (walk U.h 1000000 [i] hp0) 2)

def AtV (x : Nat) (w0 : World) (av bv : List Value) (w : World) : Prop := ∃ (g : Gh) (B : Nat), Bs (symG []) w0 B g (WD 1 x) w ∧ All2 (RV g) av bv

theorem AtV.iso {x i B : Nat} {w0 w : World} {av av' bv : List Value} {g : Gh} {U : W} (hB : Bs (symG []) w0 B g U w) (hv : All2 (RV g) av bv) (h : isoV x i av' av U = true) : AtV x w0 av' bv w := by
  unfold isoV at h
  simp only [Bool.and_eq_true] at h
  obtain ⟨h1, h2, h3, h4⟩ := h
  have h1 := Nat.le_of_ble_eq_true h1
  have h2 := Nat.le_of_ble_eq_true h2
  generalize hp : piF 2 (nD 1 x) (tabF (names 2 (walk U.h 1000000 [i] hp0) 2) hp0) = p at h3 h4
  have hp1 : p 1 = 1 := by rw [← hp]; exact piF_low (by omega)
  have hp0' : p 0 = 0 := by rw [← hp]; exact piF_low (by omega)
  have hpn : ∀ i, nD 1 x ≤ i → p i = 0 := fun i hi => by rw [← hp]; exact piF_high (by omega) hi
  exact ⟨reG g p, B, ⟨fun i k cp hg => (by rw [symG_nil] at hg; cases hg), hB.wle, hB.ble, rel_cutP q0_ok hp1 hp0' hpn hB.rel (show 0 < nD 1 x by omega) h2 (chkM_p h3)⟩, sameVs_rv hp1 h4 hv⟩

noncomputable def isoC (y i : Nat) (av' av : List Value) (r : Re) : Bool := match r with | .ok v U => isoV y i av' (app av [v]) U | _ => false

theorem AtV.call {cf : CallF} {x y i : Nat} {w0 w : World} {f : FuncId} {av av' bv args args' : List Value} (hcf : CfOk P (symG []) w0 cf) (hA : ∀ g, All2 (RV g) av bv → All2 (RV g) args args')
    (h : isoC y i av' av (cf f args (WD 1 x)) = true) (hw : AtV x w0 av bv w) : Calls P f ⟨args'⟩ w fun e w' => ∃ v', e = .returned v' ∧ AtV y w0 av' (bv ++ [v']) w' := by
  obtain ⟨g, B, hB, hv⟩ := hw
  have hc := hcf f args args' g B (WD 1 x) w hB (hA g hv)
  unfold isoC at h
  split at h
  · rename_i v1 U he
    rw [he] at hc
    refine Calls.mono (show Calls P f ⟨args'⟩ w _ from hc) ?_
    rintro e w' ⟨v', g', rfl, h1, h2⟩
    rw [app_eq] at h
    exact ⟨v', rfl, AtV.iso (g := g') (U := U) (hB.ext h2.ext) ((hv.mono fun _ _ q => q.mono h2.ext.ex.le).append (.cons h1 .nil)) h⟩
  · cases h

theorem AtV.last {x : Nat} {w0 w : World} {av bv : List Value} {u v : Value} (h : AtV x w0 (av ++ [u]) (bv ++ [v]) w) (hl : av.length = bv.length) (hf : free u = true) : v = u ∧ AtV x w0 av bv w := by
  obtain ⟨g, B, hB, hv⟩ := h
  have key : ∀ {av bv : List Value}, av.length = bv.length → All2 (RV g) (av ++ [u]) (bv ++ [v]) → All2 (RV g) av bv ∧ RV g u v := by
    intro av
    induction av with
    | nil => intro bv hl h; cases bv with
      | nil => cases h with | cons h _ => exact ⟨.nil, h⟩
      | cons _ _ => cases hl
    | cons a av ih => intro bv hl h; cases bv with
      | nil => cases hl
      | cons b bv => cases h with | cons h1 h2 => obtain ⟨q1, q2⟩ := ih (by simpa using hl) h2; exact ⟨.cons h1 q1, q2⟩
  obtain ⟨h1, h2⟩ := key hl hv
  exact ⟨h2.of_free hf, g, B, hB, h1⟩

theorem CallS.at {f : FuncId} {args : List Value} {v v1 : Value} {l' : List (Nat × Ob)} {n' y i : Nat} (h : ∀ wB, CallS P (symG []) wB f args [] 2 v l' n') (hA : ∀ g, All2 (RV g) args args) (hy : isoV y i [v1] [v] ⟨bld l', n', [], .off⟩ = true) (w : World) :
    Calls P f ⟨args⟩ w fun e w' => ∃ v', e = .returned v' ∧ AtV y w [v1] [v'] w' := by
  have hB : Bs (symG []) w w.heap.size (symG []) w02 w := ⟨GLe.refl _, Below.refl _ _, Nat.le_refl _, rel_start (symG_one _) w⟩
  refine Calls.mono (h w args (symG []) w.heap.size w hB (hA _)) ?_
  rintro e w' ⟨v', g', rfl, h1, h2⟩
  exact ⟨v', rfl, AtV.iso (g := g') (U := ⟨bld l', n', [], .off⟩) (hB.ext h2) (.cons h1 .nil) hy⟩
theorem CallS.val {f : FuncId} {args : List Value} {v : Value} {l' : List (Nat × Ob)} {n' : Nat} (h : ∀ wB, CallS P (symG []) wB f args [] 2 v l' n') (hA : ∀ g, All2 (RV g) args args) (hf : free v = true) (w : World) :
    Calls P f ⟨args⟩ w fun e w' => e = .returned v ∧ Below w.heap.size w w' := by
  have hB : Bs (symG []) w w.heap.size (symG []) w02 w := ⟨GLe.refl _, Below.refl _ _, Nat.le_refl _, rel_start (symG_one _) w⟩
  refine Calls.mono (h w args (symG []) w.heap.size w hB (hA _)) ?_
  rintro e w' ⟨v', g', rfl, h1, h2⟩
  rw [h1.of_free hf]
  exact ⟨rfl, (hB.ext (b := ⟨bld l', n', [], .off⟩) h2).wle⟩
theorem AtV.base {x : Nat} {w0 w w' : World} {av bv : List Value} (h : AtV x w av bv w') (hb : Below w0.heap.size w0 w) : AtV x w0 av bv w' := by
  obtain ⟨g, B, hB, hv⟩ := h
  refine ⟨g, B, ⟨hB.gle, ⟨hB.wle.os.trans hb.os, hB.wle.tape.trans hb.tape, hB.wle.output.trans hb.output, Nat.le_trans hb.size hB.wle.size, fun k hk => ?_⟩, Nat.le_trans hb.size hB.ble, hB.rel⟩, hv⟩
  rw [hB.wle.block k (Nat.lt_of_lt_of_le hk hb.size)]
  exact hb.block k hk
theorem AtV.drew {x : Nat} {w0 w : World} {av bv : List Value} (h : AtV x w0 av bv w) : AtV x w0 av bv w.drew := by
  obtain ⟨g, B, hB, hv⟩ := h
  exact ⟨g, B, ⟨hB.gle, ⟨hB.wle.os, hB.wle.tape, hB.wle.output, hB.wle.size, hB.wle.block⟩, hB.ble, hB.rel.drew rfl⟩, hv⟩
theorem AtV.fst {x : Nat} {w0 w : World} {a b : Value} {av bv : List Value} (h : AtV x w0 (a :: av) (b :: bv) w) : AtV x w0 [a] [b] w := by
  obtain ⟨g, B, hB, hv⟩ := h
  cases hv with
  | cons h1 _ => exact ⟨g, B, hB, .cons h1 .nil⟩
theorem AtV.val {x : Nat} {w0 w : World} {a b u v : Value} (h : AtV x w0 [a, u] [b, v] w) (hf : free u = true) : v = u := by
  obtain ⟨g, B, hB, hv⟩ := h
  cases hv with
  | cons _ h2 => cases h2 with
    | cons h3 _ => exact h3.of_free hf
theorem AtV.below {x : Nat} {w0 w : World} {av bv : List Value} (h : AtV x w0 av bv w) : Below w0.heap.size w0 w := by
  obtain ⟨g, B, hB, _⟩ := h
  exact hB.wle
theorem AtV.third {x : Nat} {w0 w : World} {a b c d u v : Value} (h : AtV x w0 [a, c, u] [b, d, v] w) : AtV x w0 [a, u] [b, v] w := by
  obtain ⟨g, B, hB, hv⟩ := h
  cases hv with
  | cons h1 h2 => cases h2 with
    | cons _ h3 => exact ⟨g, B, hB, .cons h1 h3⟩
end Go.Cx
namespace Go.Cx
open Go Go.RowKit
variable {P : Program}

noncomputable def lastV (P : Program) (xs : Nat) (fn : Func) (r : Ou) : Bool := match r with
  | .ret e U => (match (cRes P xs fn.results.toList).run e U.h with | some [v] => eqV v (.bool true) | _ => false) && U.ds.isEmpty
  | _ => false

theorem wp_last {gB g : Gh} {B : Nat} {fn : Func} {c : Code} {xs : Nat} {env : Env} {U : W} {a : Act} {w wB : World} {cf : CallF} {fuel : Nat} (hP : NoNum P) (hm : P.follows .mixedOrders = true) (hcf : CfOk P gB wB cf) (hN : fn.ntmps ≤ 256)
    (hB : Bs gB wB B g U w) (hd0 : U.ds = []) (hr0 : U.rc = .off) (hs : SlotR g xs [] env [] (tmA a)) (hsz : fn.ntmps ≤ a.tmps.size) (hd : a.defers = [])
    (h : lastV P xs fn ((cCode P fuel fn.ntmps xs c).run cf env U) = true) : c.wp P (bodyPost P fn fun e w' => e = .returned (.bool true) ∧ Below wB.heap.size wB w') a w := by
  intro b k cs
  have hst : St P false B fn.ntmps xs cs g U w [] env [] U g a cs w := ⟨Ext.refl hB.rel, hs, fun _ h => (by cases h), hsz, by rw [hd0, hd]; exact .nil, by rw [hr0]; exact ⟨rfl, rfl⟩⟩
  have hgo := code_ok hP hcf hB hN hm fuel c env U g a cs w hst
  generalize hr : (cCode P fuel fn.ntmps xs c).run cf env U = r at h hgo
  unfold lastV at h
  split at h
  · rename_i e1 U1
    rw [Bool.and_eq_true] at h
    obtain ⟨h1, h2⟩ := h
    have hgo : Goes P false c (Post P false B fn.ntmps xs cs g U w (.ret e1 U1)) a cs w := hgo
    obtain ⟨e, a2, cs2, w2, ⟨rfl, g2, hs2⟩, harr⟩ := hgo b k (fun e => by cases e)
    have same : cs2 = cs := by
      have hc := hs2.cs
      cases hrc : U1.rc with
      | off => rw [hrc] at hc; exact hc.2
      | idle => rw [hrc] at hc; exact absurd hc.1 (by intro e; cases e)
      | pan _ => rw [hrc] at hc; exact absurd hc.1 (by intro e; cases e)
      | done _ => rw [hrc] at hc; exact absurd hc.1 (by intro e; cases e)
    rw [same] at harr
    refine ⟨.ret, a2, w2, ?_, harr⟩
    have hds : a2.defers = [] := by
      have := hs2.ds
      rw [List.isEmpty_iff.1 h2] at this
      exact all2_nil this
    split at h1
    · rename_i v hv
      have := eqV_eq h1
      subst this
      obtain ⟨v', r1, r2⟩ := results_ok (U := U1) hs2.ext.rel (tmps := a2.tmps) hs2.sl hv
      have hb : v' = .bool true := (show RV g2 (.bool true) v' from r2).bool
      subst hb
      exact ⟨hds, _, r1, rfl, (hB.ext hs2.ext).wle⟩
    · cases h1
  · cases h
theorem slots2 {g : Gh} {xs : Nat} {v0 v1 : Value} {a : Act} {i j : Nat} (hi : i < 256) (hj : j < 256) (hij : i ≠ j) (h1 : RV g v0 (tmA a i)) (h2 : RV g v1 (tmA a j)) : SlotR g xs [] ((putE i).run v0 ((putE j).run v1 env00)) [] (tmA a) := by
  refine ⟨fun t _ ht => ?_, fun i t h => (by cases h)⟩
  by_cases e : t = i
  · subst e; rw [get_put]; exact h1
  · rw [get_put' ht hi e]
    by_cases e2 : t = j
    · subst e2; rw [get_put]; exact h2
    · rw [get_put' ht hj e2, get_env00]; exact junk_rv
end Go.Cx
namespace Go.Cx
open Go Go.RowKit
variable {P : Program}

def AtW (l : List Value) (U : W) (w0 : World) (av bv : List Value) (w : World) : Prop := ∃ (g : Gh) (B : Nat), Bs (symG l) w0 B g U w ∧ All2 (RV g) av bv

theorem AtW.run {cf : CallF} {l av bv args args' : List Value} {U U1 : W} {v : Value} {w0 w : World} {f : FuncId} (hcf : CfOk P (symG l) w0 cf) (hA : ∀ g, GLe (symG l) g → All2 (RV g) av bv → All2 (RV g) args args')
    (h : cf f args U = .ok v U1) (hw : AtW l U w0 av bv w) : Calls P f ⟨args'⟩ w fun e w' => ∃ v', e = .returned v' ∧ AtW l U1 w0 (av ++ [v]) (bv ++ [v']) w' := by
  obtain ⟨g, B, hB, hv⟩ := hw
  have hc := hcf f args args' g B U w hB (hA g hB.gle hv)
  rw [h] at hc
  refine Calls.mono (show Calls P f ⟨args'⟩ w _ from hc) ?_
  rintro e w' ⟨v', g', rfl, h1, h2⟩
  exact ⟨v', rfl, g', B, hB.ext h2.ext, (hv.mono fun _ _ q => q.mono h2.ext.ex.le).append (.cons h1 .nil)⟩

noncomputable def isoT (n : Nat) (lo : List (Nat × Ob)) (i : Nat) (av' av : List Value) (U : W) : Bool := (fun nm => (fun p => Nat.ble 2 n && (Nat.ble n 65536 && (chkM q0 p (atT (tabB nm hp0)) n U.h lo && sameVs p av' av))) (piF 2 n (tabF nm hp0))) (names 2 (walk U.h 1000000 [i] hp0) 2)

theorem AtW.iso {n i : Nat} {lo : List (Nat × Ob)} {l av av' bv : List Value} {U : W} {w0 w : World} (hw : AtW l U w0 av bv w) (h : isoT n lo i av' av U = true) : AtW l ⟨bld lo, n, [], .off⟩ w0 av' bv w := by
  obtain ⟨g, B, hB, hv⟩ := hw
  unfold isoT at h
  simp only [Bool.and_eq_true] at h
  obtain ⟨h1, h2, h3, h4⟩ := h
  have h1 := Nat.le_of_ble_eq_true h1
  have h2 := Nat.le_of_ble_eq_true h2
  generalize hp : piF 2 n (tabF (names 2 (walk U.h 1000000 [i] hp0) 2) hp0) = p at h3 h4
  have hp1 : p 1 = 1 := by rw [← hp]; exact piF_low (by omega)
  have hp0' : p 0 = 0 := by rw [← hp]; exact piF_low (by omega)
  have hpn : ∀ i, n ≤ i → p i = 0 := fun i hi => by rw [← hp]; exact piF_high (by omega) hi
  refine ⟨reG g p, B, ⟨fun i k cp hg => ?_, hB.wle, hB.ble, rel_cutP q0_ok hp1 hp0' hpn hB.rel (show 0 < n by omega) h2 (chkM_p h3)⟩, sameVs_rv hp1 h4 hv⟩
  have e := symG_one l i k cp hg
  subst e
  show g (p 1) k = some cp
  rw [hp1]
  exact hB.gle _ _ _ hg

theorem Rel.congr {g : Gh} {B n : Nat} {h h' : Hp} {w : World} (hr : Rel g B h n w) (e : ∀ i, i < 65536 → hget h' i = hget h i) : Rel g B h' n w := by
  have hl : ∀ {i k}, Live h' i k → Live h i k := fun ⟨h1, o, h2, h3⟩ => ⟨h1, o, by rw [← e _ h1]; exact h2, h3⟩
  exact ⟨hr.pos, hr.lim, hr.base, hr.dom, fun i o hi ho => hr.hdom i o hi (by rw [← e i hi]; exact ho), fun i o hi ho => hr.obs i o hi (by rw [← e i hi]; exact ho),
    fun i i' k k' cp cp' hne h1 h2 => hr.dis i i' k k' cp cp' hne (hl h1) (hl h2), fun i k cp h1 => hr.lt i k cp (hl h1), fun i k cp h1 => hr.low i k cp (hl h1)⟩

theorem hget_set {h : Hp} {q i : Nat} {o : Ob} (hi : i < 65536) (hq : q < 65536) : hget (hset h q o) i = if i = q then some o else hget h i := by
  split
  · rename_i e; subst e; exact hget_hset h i o
  · rename_i e; exact hget_hset' hi hq e h o

theorem rel_obj {g : Gh} {B n q : Nat} {h : Hp} {w : World} {o o' : Ob} (hr : Rel g B h n w) (hq : q < 65536) (ho : hget h q = some o) (hf : floor o' = floor o) (hob : ObAt g w B q o') : Rel g B (hset h q o') n w := by
  have hl : ∀ {i k}, Live (hset h q o') i k → Live h i k := by
    rintro i k ⟨h1, o1, h2, h3⟩
    rw [hget_set h1 hq] at h2
    split at h2
    · rename_i e; subst e; cases h2; exact ⟨h1, o, ho, by rw [← hf]; exact h3⟩
    · exact ⟨h1, o1, h2, h3⟩
  refine ⟨hr.pos, hr.lim, hr.base, hr.dom, fun i o1 hi h1 => ?_, fun i o1 hi h1 => ?_, fun i i' k k' cp cp' hne h1 h2 => hr.dis i i' k k' cp cp' hne (hl h1) (hl h2), fun i k cp h1 => hr.lt i k cp (hl h1), fun i k cp h1 => hr.low i k cp (hl h1)⟩
  · rw [hget_set hi hq] at h1
    split at h1
    · rename_i e; subst e; exact hr.hdom _ _ hi ho
    · exact hr.hdom i o1 hi h1
  · rw [hget_set hi hq] at h1
    split at h1
    · rename_i e; subst e; cases h1; exact hob
    · exact hr.obs i o1 hi h1

theorem rel_con {g : Gh} {B n q : Nat} {h : Hp} {w : World} {cs cs' : List (List Value)} {ln : Nat} {t : TypeId} {e : Nat} {fix : Bool} {gen flo : Nat} (hr : Rel g B h n w) (hq : q < 65536) (ho : hget h q = some (.row cs ln t e fix gen flo)) (hwf : Wf cs')
    (hlen : cs'.flatten.length = cs.flatten.length) (hc : ∀ (x : Nat) (a b : Value), cs'.flatten[x]? = some a → cs.flatten[x]? = some b → ∀ v', RC g b v' → RC g a v') : Rel g B (hset h q (.row cs' ln t e fix gen flo)) n w := by
  refine rel_obj hr hq ho rfl ?_
  obtain ⟨k1, k2, k3, k4, k5⟩ := hr.obs q _ hq ho
  refine ⟨hwf, by rw [hlen]; exact k2, k3, k4, fun k cp hk => ⟨(k5 k cp hk).1, fun hf => ⟨?_, ((k5 k cp hk).2 hf).2⟩⟩⟩
  obtain ⟨q1, q2, q3, q4, q5, q6, vec, tt, fr, r1, r2, r3, r4⟩ := ((k5 k cp hk).2 hf).1
  refine ⟨q1, q2, by rw [hlen]; exact q3, q4, q5, q6, vec, tt, fr, r1, r2, r3, fun x hx1 hx2 => ?_⟩
  obtain ⟨v, v', e1, e2, e3⟩ := r4 x hx1 hx2
  have : x < cs'.flatten.length := by rw [hlen]; exact (List.getElem?_eq_some_iff.1 e1).1
  exact ⟨_, v', List.getElem?_eq_getElem this, e2, hc x _ v (List.getElem?_eq_getElem this) e1 v' e3⟩

noncomputable def cleanA (q n : Nat) (a : Addr) : Bool := !(Nat.beq a.block 1) && (!(Nat.beq a.block q) && Nat.ble (Nat.succ a.block) n)
noncomputable def cleanI (q n : Nat) (v : Value) : Bool := match v with
  | .pointer (some a) => cleanA q n a
  | .slice (some a) _ _ => cleanA q n a
  | .map (some i) => cleanA q n ⟨i, 0, none⟩
  | .chan (some i) => cleanA q n ⟨i, 0, none⟩
  | _ => true
noncomputable def cleanL (q n : Nat) : List Value → Bool
  | [] => true
  | v :: l => cleanI q n v && cleanL q n l
noncomputable def cleanR (q n : Nat) (v : Value) : Bool := match v with
  | .agg l => cleanL q n l.toList
  | .iface _ (.agg l) => cleanL q n l.toList
  | v => cleanI q n v
noncomputable def cleanRL (q n : Nat) : List Value → Bool
  | [] => true
  | v :: l => cleanR q n v && cleanRL q n l
noncomputable def cleanC (q n : Nat) (v : Value) : Bool := match v with
  | .func _ a b => cleanRL q n a.toList && cleanRL q n b.toList
  | .iface _ (.agg l) => cleanL q n l.toList
  | .complex .f32 _ j => Nat.beq j 0
  | v => cleanI q n v

section
variable {g g' : Gh} {q n : Nat}

theorem cleanA_spec {a : Addr} (h : cleanA q n a = true) : a.block ≠ 1 ∧ a.block ≠ q ∧ a.block < n := by
  unfold cleanA at h
  simp only [Bool.and_eq_true, Bool.not_eq_true'] at h
  exact ⟨(fun e => by rw [e] at h; exact absurd h.1 (by decide)), (fun e => by rw [e, Nat.beq_refl] at h; cases h.2.1), Nat.le_of_ble_eq_true h.2.2⟩

theorem RI.clean (he : ∀ i, i ≠ 1 → i ≠ q → i < n → ∀ k, g' i k = g i k) {v v' : Value} (h : RI g v v') (hc : cleanI q n v = true) : RI g' v v' := by
  cases h with
  | same h => exact .same h
  | ptr h hc' => obtain ⟨a, b, c⟩ := cleanA_spec (show cleanA q n _ = true from hc); exact .ptr (by rw [he _ a b c]; exact h) hc'
  | slice h hc' hn hl ha => obtain ⟨a, b, c⟩ := cleanA_spec (show cleanA q n _ = true from hc); exact .slice (by rw [he _ a b c]; exact h) hc' hn hl ha
  | slice0 => exact .slice0
  | map h => obtain ⟨a, b, c⟩ := cleanA_spec (show cleanA q n _ = true from hc); exact .map (by rw [he _ a b c]; exact h)
  | chan h => obtain ⟨a, b, c⟩ := cleanA_spec (show cleanA q n _ = true from hc); exact .chan (by rw [he _ a b c]; exact h)
  | glob => exact .glob
theorem RIs.clean (he : ∀ i, i ≠ 1 → i ≠ q → i < n → ∀ k, g' i k = g i k) : ∀ {l l' : List Value}, All2 (RI g) l l' → cleanL q n l = true → All2 (RI g') l l'
  | [], _, h, _ => by cases h; exact .nil
  | v :: l, _, h, hc => by
    unfold cleanL at hc
    rw [Bool.and_eq_true] at hc
    cases h with
    | cons h1 h2 => exact .cons (h1.clean he hc.1) (RIs.clean he h2 hc.2)
theorem RA.clean (he : ∀ i, i ≠ 1 → i ≠ q → i < n → ∀ k, g' i k = g i k) {v v' : Value} (h : RA g v v') (hc : cleanR q n v = true) : RA g' v v' := by
  cases h with
  | one h =>
    refine .one (h.clean he ?_)
    unfold cleanR at hc
    split at hc
    · rfl
    · rfl
    · exact hc
  | agg h => exact .agg (RIs.clean he h hc)
  | iface h => exact .iface (RIs.clean he h hc)
theorem RAs.clean (he : ∀ i, i ≠ 1 → i ≠ q → i < n → ∀ k, g' i k = g i k) : ∀ {l l' : List Value}, All2 (RA g) l l' → cleanRL q n l = true → All2 (RA g') l l'
  | [], _, h, _ => by cases h; exact .nil
  | v :: l, _, h, hc => by
    unfold cleanRL at hc
    rw [Bool.and_eq_true] at hc
    cases h with
    | cons h1 h2 => exact .cons (h1.clean he hc.1) (RAs.clean he h2 hc.2)
theorem RC.clean (he : ∀ i, i ≠ 1 → i ≠ q → i < n → ∀ k, g' i k = g i k) {v v' : Value} (h : RC g v v') (hc : cleanC q n v = true) : RC g' v v' := by
  cases h with
  | base h =>
    refine .base (h.clean he ?_)
    unfold cleanC at hc
    split at hc
    · rfl
    · rfl
    · rfl
    · exact hc
  | func ha hb =>
    have hc : (cleanRL q n _ && cleanRL q n _) = true := hc
    rw [Bool.and_eq_true] at hc
    exact .func (RAs.clean he ha hc.1) (RAs.clean he hb hc.2)
  | sym h h1 => exact absurd (show Nat.beq 2 0 = true from hc) (by decide)
  | lin h h1 h2 h3 => exact absurd (show Nat.beq _ 0 = true from hc) (fun e => by have := Nat.eq_of_beq_eq_true e; omega)
  | iface h => exact .iface (RIs.clean he h hc)
end

noncomputable def cleanCL (q n : Nat) : List Value → Bool
  | [] => true
  | v :: l => cleanC q n v && cleanCL q n l
noncomputable def cleanLL (q n : Nat) : List (List Value) → Bool
  | [] => true
  | l :: r => cleanCL q n l && cleanLL q n r
theorem cleanCL_get {q n : Nat} : ∀ {l : List Value} {x : Nat} {v : Value}, cleanCL q n l = true → l[x]? = some v → cleanC q n v = true
  | [], x, v, _, h => by simp at h
  | u :: l, x, v, hc, h => by
    unfold cleanCL at hc
    rw [Bool.and_eq_true] at hc
    cases x with
    | zero => simp at h; subst h; exact hc.1
    | succ x => exact cleanCL_get hc.2 (by simpa using h)
theorem cleanLL_get {q n : Nat} : ∀ {l : List (List Value)} {x : Nat} {v : Value}, cleanLL q n l = true → l.flatten[x]? = some v → cleanC q n v = true
  | [], x, v, _, h => by simp at h
  | u :: l, x, v, hc, h => by
    unfold cleanLL at hc
    rw [Bool.and_eq_true] at hc
    rw [List.flatten_cons] at h
    rcases Nat.lt_or_ge x u.length with hx | hx
    · rw [List.getElem?_append_left hx] at h; exact cleanCL_get hc.1 h
    · rw [List.getElem?_append_right hx] at h; exact cleanLL_get hc.2 h
noncomputable def cleanO (q n : Nat) (o : Ob) : Bool := match o with
  | .row cs _ _ _ _ _ _ => cleanLL q n cs
  | _ => false

noncomputable def symsF (m : Nat) : Nat → List Value := Nat.rec (motive := fun _ => Nat → List Value) (fun _ => []) (fun _ ih j => .complex .f32 j 2 :: ih (Nat.succ j)) m
theorem symsF_len : ∀ m j, (symsF m j).length = m
  | 0, _ => rfl
  | m + 1, j => by show (Value.complex .f32 j 2 :: symsF m (Nat.succ j)).length = _; simp [symsF_len m]
theorem symsF_get : ∀ {m j x : Nat}, x < m → (symsF m j)[x]? = some (.complex .f32 (j + x) 2)
  | 0, _, _, h => by omega
  | m + 1, j, x, h => by
    show (Value.complex .f32 j 2 :: symsF m (Nat.succ j))[x]? = _
    cases x with
    | zero => rfl
    | succ x => rw [List.getElem?_cons_succ, symsF_get (by omega)]; congr 2; omega

def LB (h : Hp) (g : Gh) (h' : Hp) (g' : Gh) : Prop := ∀ i k cp, Live h' i k → g' i k = some cp → ∃ k0 cp0, Live h i k0 ∧ g i k0 = some cp0 ∧ cp0.blk = cp.blk
theorem LB.trans {h1 h2 h3 : Hp} {g1 g2 g3 : Gh} (a : LB h1 g1 h2 g2) (b : LB h2 g2 h3 g3) : LB h1 g1 h3 g3 := fun i k cp hl hg => by
  obtain ⟨k0, c0, h1, h2, h3⟩ := b i k cp hl hg
  obtain ⟨k1, c1, h4, h5, h6⟩ := a i k0 c0 h1 h2
  exact ⟨k1, c1, h4, h5, h6.trans h3⟩

section
variable {g : Gh} {B n n0 pG oW q L c m ln lnG gen genG floG flo e eG k0 : Nat} {h h' : Hp} {w : World} {cs csG csG' : List (List Value)} {t tG : TypeId} {fixG : Bool} {s : Option Nat} {cpG : Cp}

theorem rel_abs (hr : Rel g B h n0 w) (h1 : hget h 1 = none) (hn2 : 2 ≤ n) (hnn : n ≤ n0) (hpGn : pG < n) (hqn : q < n) (hpG : pG < 65536) (hq65 : q < 65536) (hne : pG ≠ q) (hpG1 : pG ≠ 1) (hq1 : q ≠ 1) (hG : hget h pG = some (.row csG lnG tG eG fixG genG floG)) (hq : hget h q = some (.row cs ln t e false gen flo)) (hflo : flo ≤ gen)
    (hgG : g pG k0 = some cpG) (hk0 : floG ≤ k0) (hcut : cpG.cut ≤ oW) (hoW : oW < cpG.len) (hway : csG.flatten[oW]? = some (.slice (some ⟨q, 0, s⟩) L c)) (hs : genOf s = gen) (hLe : L * e = m) (hm : m ≤ cs.flatten.length)
    (w1 : Wf csG') (w3 : csG'.flatten = csG.flatten.take oW ++ [.slice (some ⟨q, 0, none⟩) L L] ++ csG.flatten.drop (oW + 1)) (hcl : ∀ i o, i < 65536 → hget h i = some o → i ≠ q → i ≠ pG → i < n → cleanO q n o = true) (hclG : ∀ x v, csG.flatten[x]? = some v → x ≠ oW → cleanC q n v = true)
    (hlt : ∀ i, i < 65536 → hget h' i = if i = pG then some (.row csG' lnG tG eG fixG genG floG) else if i = q then some (.row (chop (symsF m 0)) m t e false 0 0) else if i < n then hget h i else none) :
    ∃ (l' : List Value) (g' : Gh), l'.length = m ∧ (∀ (x : Nat) (v v' : Value), cs.flatten[x]? = some v → l'[x]? = some v' → RC g v v') ∧ GLe (symG l') g' ∧ (∀ i, i ≠ 1 → i ≠ q → i < n → ∀ k, g' i k = g i k) ∧ LB h g h' g' ∧ Rel g' B h' n w := by
  obtain ⟨G1, G2, G3, G4, G5⟩ := hr.obs pG _ hpG hG
  obtain ⟨x1, x2, x3, x4, x5, x6, vecG, ttG, frG, y1, y2, y3, y4⟩ := ((G5 k0 cpG hgG).2 hk0).1
  obtain ⟨vv, sv, z1, z2, z3⟩ := y4 oW hcut hoW
  rw [hway] at z1
  cases z1
  have z3' : RI g (.slice (some ⟨q, 0, s⟩) L c) sv := by
    cases z3 with
    | base z3 => exact z3
  have q0 : q ≠ 0 := fun e => by subst e; have := (hr.hdom 0 _ (by omega) hq).1; omega
  cases z3' with
  | same hh => cases hh
  | slice0 => exact absurd rfl q0
  | slice hg hc hn hl ha =>
  rename_i cp a
  have hg : g q gen = some cp := by rw [← hs]; exact hg
  have hc : cp.cut = 0 := Nat.le_zero.1 hc
  obtain ⟨Q1, Q2, Q3, Q4, Q5⟩ := hr.obs q _ hq65 hq
  obtain ⟨⟨u1, u2, u3, u4, u5, u6, vec, tt, fr, r1, r2, r3, r4⟩, u7⟩ := (Q5 gen cp hg).2 hflo
  have u7 := u7 rfl
  have hl : c * e ≤ cp.len := by
    rcases hl with hl | hl
    · rw [u4] at hl; cases hl
    · rw [u1] at hl; omega
  have hLc : L * e ≤ c * e := Nat.mul_le_mul_right _ hn
  have hsub : (c - L) * e = c * e - L * e := Nat.sub_mul _ _ _
  have hadd : (cp.ext + (c - L)) * e = cp.ext * e + (c * e - L * e) := by rw [Nat.add_mul, hsub]
  have hsz : m + (cp.ext + (c - L)) * e ≤ vec.size := by rw [hadd]; rw [hc] at r3; omega
  have hml : m ≤ cp.len := by omega
  have hmv : m ≤ vec.size := by omega
  let l' := vec.toList.take m
  have hl'len : l'.length = m := by show (vec.toList.take m).length = m; simp; omega
  have hl'get : ∀ x, x < m → l'[x]? = vec[x]? := fun x hx => by show (vec.toList.take m)[x]? = _; rw [List.getElem?_take, if_pos hx]; simp
  let cq : Cp := ⟨cp.blk, 0, cp.ext + (c - L), m, e, false, .nilIface⟩
  let g' : Gh := fun i k => if i = 1 then symG l' 1 k else if i = q then (if k = 0 then some cq else none) else if i < n then g i k else none
  have g1 : ∀ k, g' 1 k = symG l' 1 k := fun k => if_pos rfl
  have gq : ∀ k, g' q k = if k = 0 then some cq else none := fun k => by show (if q = 1 then _ else _) = _; rw [if_neg hq1, if_pos rfl]
  have gn : ∀ i, i ≠ 1 → i ≠ q → i < n → ∀ k, g' i k = g i k := fun i a b c k => by show (if i = 1 then _ else _) = _; rw [if_neg a, if_neg b, if_pos c]
  have gz : ∀ i, i ≠ 1 → i ≠ q → ¬ i < n → ∀ k, g' i k = none := fun i a b c k => by show (if i = 1 then _ else _) = _; rw [if_neg a, if_neg b, if_neg c]
  have old : ∀ {x v v'}, cs.flatten[x]? = some v → l'[x]? = some v' → RC g v v' := fun {x v v'} hv hv' => by
    have hx : x < m := by rw [← hl'len]; exact (List.getElem?_eq_some_iff.1 hv').1
    obtain ⟨v1, v1', e1, e2, e3⟩ := r4 x (by omega) (by omega)
    rw [hv] at e1; cases e1
    rw [hl'get x hx] at hv'
    rw [hc, Nat.sub_zero, hv'] at e2; cases e2
    exact e3
  have map : ∀ {i k cp'}, Live h' i k → g' i k = some cp' → ∃ k1 cp1, Live h i k1 ∧ g i k1 = some cp1 ∧ cp1.blk = cp'.blk := fun {i k cp'} hv hgi => by
    obtain ⟨v1, o, v2, v3⟩ := hv
    rw [hlt i v1] at v2
    split at v2
    · rename_i e1; subst e1; cases v2
      rw [gn _ hpG1 hne hpGn] at hgi
      exact ⟨k, cp', ⟨v1, _, hG, v3⟩, hgi, rfl⟩
    · split at v2
      · rename_i e1 e2; subst e2; cases v2
        rw [gq] at hgi
        split at hgi
        · cases hgi; exact ⟨gen, cp, ⟨v1, _, hq, hflo⟩, hg, rfl⟩
        · cases hgi
      · rename_i e1 e2
        split at v2
        case isFalse => cases v2
        rename_i e3
        have e0 : i ≠ 1 := fun e0 => by subst e0; rw [h1] at v2; cases v2
        rw [gn _ e0 e2 e3] at hgi
        exact ⟨k, cp', ⟨v1, _, v2, v3⟩, hgi, rfl⟩
  refine ⟨l', g', hl'len, fun x v v' hv hv' => old hv hv', fun i k cp' hk => ?_, gn, fun i k cp' hv hk => map hv hk, ⟨by omega, by have := hr.lim; omega, hr.base, fun i k cp' hk => ?_, fun i o hi ho => ?_, fun i o hi ho => ?_, fun i i' k k' c1 c2 hii hv hv' hk hk' => ?_, fun i k cp' hv hk => ?_, fun i k cp' hv hk => ?_⟩⟩
  · have e1 := symG_one l' i k cp' hk
    subst e1
    rw [g1]; exact hk
  · by_cases e1 : i = 1
    · subst e1; omega
    · by_cases e2 : i = q
      · subst e2; exact ⟨(hr.dom _ _ _ hg).1, hqn⟩
      · rcases Nat.lt_or_ge i n with e3 | e3
        · rw [gn _ e1 e2 e3] at hk; exact ⟨(hr.dom _ _ _ hk).1, e3⟩
        · rw [gz _ e1 e2 (by omega)] at hk; cases hk
  · rw [hlt i hi] at ho
    split at ho
    · rename_i e1; subst e1; exact ⟨(hr.hdom _ _ hi hG).1, hpGn⟩
    · split at ho
      · rename_i e1 e2; subst e2; exact ⟨(hr.hdom _ _ hi hq).1, hqn⟩
      · split at ho
        · rename_i e3; exact ⟨(hr.hdom _ _ hi ho).1, e3⟩
        · cases ho
  · rw [hlt i hi] at ho
    split at ho
    · rename_i e1; subst e1; cases ho
      have hoL : oW < csG.flatten.length := (List.getElem?_eq_some_iff.1 hway).1
      have hlen' : csG'.flatten.length = csG.flatten.length := by rw [w3]; simp only [List.length_append, List.length_take, List.length_drop, List.length_cons, List.length_nil]; omega
      refine ⟨w1, by rw [hlen']; exact G2, G3, fun k k' c1 c2 q1 q2 => G4 k k' c1 c2 (by rw [← gn _ hpG1 hne hpGn]; exact q1) (by rw [← gn _ hpG1 hne hpGn]; exact q2), fun k cp' hk => ?_⟩
      rw [gn _ hpG1 hne hpGn] at hk
      refine ⟨(G5 k cp' hk).1, fun hf => ⟨?_, ((G5 k cp' hk).2 hf).2⟩⟩
      obtain ⟨p1, p2, p3, p4, p5, p6, vec2, t2, fr2, s1, s2, s3, s4⟩ := ((G5 k cp' hk).2 hf).1
      refine ⟨p1, p2, by rw [hlen']; exact p3, p4, p5, p6, vec2, t2, fr2, s1, s2, s3, fun x hx1 hx2 => ?_⟩
      obtain ⟨v, v', e1, e2, e3⟩ := s4 x hx1 hx2
      by_cases hxo : x = oW
      · subst hxo
        rw [hway] at e1; cases e1
        refine ⟨.slice (some ⟨q, 0, none⟩) L L, v', by
          rw [w3, List.append_assoc, List.getElem?_append_right (by simp only [List.length_take]; omega)]
          have : x - (List.take x csG.flatten).length = 0 := by simp only [List.length_take]; omega
          rw [this]; rfl, e2, ?_⟩
        cases e3 with
        | base e3 =>
          cases e3 with
          | same hh => cases hh
          | slice0 => exact absurd rfl q0
          | slice hg2 hc2 hn2 hl2 ha2 =>
            rename_i cp2 a2
            have hg2 : g q gen = some cp2 := by rw [← hs]; exact hg2
            rw [hg] at hg2; cases hg2
            have hcap : c + cp.ext = L + cq.ext := by show _ = L + (cp.ext + (c - L)); omega
            rw [hcap]
            refine .base (.slice (cp := cq) (by show g' q 0 = _; rw [gq, if_pos rfl]) (Nat.le_refl _) (Nat.le_refl _) (.inr ?_) ?_)
            · show 0 + L * e ≤ m; omega
            · rcases ha2 with ha2 | ha2
              · left; omega
              · right; rw [ha2, hc]
      · refine ⟨v, v', ?_, e2, e3.clean gn (hclG x v e1 hxo)⟩
        rw [w3, ← e1]
        rw [List.append_assoc]
        rcases Nat.lt_or_ge x oW with hx | hx
        · rw [List.getElem?_append_left (by simp only [List.length_take]; omega), List.getElem?_take, if_pos hx]
        · rw [List.getElem?_append_right (by simp only [List.length_take]; omega), List.getElem?_append_right (by simp only [List.length_take, List.length_cons, List.length_nil]; omega), List.getElem?_drop]
          congr 1; simp only [List.length_take, List.length_cons, List.length_nil]; omega
    · split at ho
      · rename_i e1 e2; subst e2; cases ho
        refine ⟨chop_wf _, by rw [chop_flat, symsF_len], Nat.le_refl _, fun k k' c1 c2 q1 q2 _ _ _ => ?_, fun k cp' hk => ?_⟩
        · rw [gq] at q1 q2
          split at q1
          · split at q2
            · cases q1; cases q2; rfl
            · cases q2
          · cases q1
        · rw [gq] at hk
          split at hk
          case isFalse => cases hk
          rename_i hk0
          cases hk
          refine ⟨by omega, fun _ => ⟨⟨rfl, Nat.zero_le _, by rw [chop_flat, symsF_len]; exact Nat.le_refl _, rfl, fun hh => (by cases hh), u6, vec, tt, fr, r1, r2, by show m - 0 + _ ≤ _; omega, fun x hx1 hx2 => ?_⟩, fun _ => rfl⟩⟩
          have hx2 : x < m := hx2
          obtain ⟨v, v', e1, e2, e3⟩ := r4 x (by omega) (by omega)
          rw [hc] at e2
          refine ⟨_, v', by rw [chop_flat]; exact symsF_get hx2, e2, ?_⟩
          have hl2 : l'[0 + x]? = some v' := by rw [Nat.zero_add, hl'get x hx2]; simpa using e2
          have : g' 1 (0 + x) = some ⟨0, 0, 0, 0, 0, false, v'⟩ := by rw [g1]; unfold symG; rw [if_pos rfl, hl2]
          exact .sym this e3.one
      · rename_i e1 e2
        split at ho
        case isFalse => cases ho
        rename_i e3
        have e0 : i ≠ 1 := fun e0 => by subst e0; rw [h1] at ho; cases ho
        have hcl1 := hcl i o hi ho e2 e1 e3
        cases o with
        | map _ _ => cases hcl1
        | chan _ _ _ _ _ => cases hcl1
        | iter _ _ => cases hcl1
        | row cs1 ln1 t1 el1 fix1 gen1 flo1 =>
          obtain ⟨A1, A2, A3, A4, A5⟩ := hr.obs i _ hi ho
          refine ⟨A1, A2, A3, fun k k' c1 c2 q1 q2 => A4 k k' c1 c2 (by rw [← gn _ e0 e2 e3]; exact q1) (by rw [← gn _ e0 e2 e3]; exact q2), fun k cp' hk => ?_⟩
          rw [gn _ e0 e2 e3] at hk
          refine ⟨(A5 k cp' hk).1, fun hf => ⟨?_, ((A5 k cp' hk).2 hf).2⟩⟩
          obtain ⟨p1, p2, p3, p4, p5, p6, vec2, t2, fr2, s1, s2, s3, s4⟩ := ((A5 k cp' hk).2 hf).1
          refine ⟨p1, p2, p3, p4, p5, p6, vec2, t2, fr2, s1, s2, s3, fun x hx1 hx2 => ?_⟩
          obtain ⟨v, v', f1, f2, f3⟩ := s4 x hx1 hx2
          exact ⟨v, v', f1, f2, f3.clean gn (cleanLL_get hcl1 f1)⟩
  · obtain ⟨k1, d1, a1, a2, a3⟩ := map hv hk
    obtain ⟨k2, d2, b1, b2, b3⟩ := map hv' hk'
    rw [← a3, ← b3]
    exact hr.dis _ _ _ _ _ _ hii a1 b1 a2 b2
  · obtain ⟨k1, d1, a1, a2, a3⟩ := map hv hk
    rw [← a3]; exact hr.lt _ _ _ a1 a2
  · obtain ⟨k1, d1, a1, a2, a3⟩ := map hv hk
    rw [← a3]; exact hr.low _ _ _ a1 a2
end

noncomputable def cleanLo (pG q n : Nat) (lo : List (Nat × Ob)) : Bool := List.rec (motive := fun _ => Bool) true (fun x _ ih => !(Nat.beq x.1 pG) && (!(Nat.beq x.1 q) && (cleanO q n x.2 && (Nat.ble 2 x.1 && (Nat.ble (Nat.succ x.1) 65536 && (Nat.ble (Nat.succ x.1) n && ih)))))) lo
theorem cleanLo_spec {pG q n : Nat} : ∀ {lo : List (Nat × Ob)}, cleanLo pG q n lo = true → ∀ x ∈ lo, x.1 ≠ pG ∧ x.1 ≠ q ∧ cleanO q n x.2 = true ∧ 2 ≤ x.1 ∧ x.1 < 65536 ∧ x.1 < n
  | [], _, _, hx => absurd hx List.not_mem_nil
  | y :: lo, h, x, hx => by
    have h : (!(Nat.beq y.1 pG) && (!(Nat.beq y.1 q) && (cleanO q n y.2 && (Nat.ble 2 y.1 && (Nat.ble (Nat.succ y.1) 65536 && (Nat.ble (Nat.succ y.1) n && cleanLo pG q n lo)))))) = true := h
    simp only [Bool.and_eq_true, Bool.not_eq_true'] at h
    obtain ⟨h1, h2, h3, h4, h5, h7, h6⟩ := h
    rcases List.mem_cons.1 hx with rfl | hx
    · exact ⟨(fun e => by rw [e, Nat.beq_refl] at h1; cases h1), (fun e => by rw [e, Nat.beq_refl] at h2; cases h2), h3, Nat.le_of_ble_eq_true h4, Nat.le_of_ble_eq_true h5, Nat.le_of_ble_eq_true h7⟩
    · exact cleanLo_spec h6 x hx
structure Bas where
  pG : Nat
  q : Nat
  pre : List Value
  post : List Value
  lnG : Nat
  tG : TypeId
  eG : Nat
  fixG : Bool
  rest : List (Nat × Ob)
  n : Nat
noncomputable def Bas.g (b : Bas) (way : Value) : Ob := .row (chop (app b.pre (way :: b.post))) b.lnG b.tG b.eG b.fixG 0 0
noncomputable def Bas.lo (b : Bas) (way : Value) (row : Ob) : List (Nat × Ob) := (b.pG, b.g way) :: (b.q, row) :: b.rest
noncomputable def Bas.at (b : Bas) (way : Value) (row : Ob) : W := ⟨bld (b.lo way row), b.n, [], .off⟩
noncomputable def Bas.ok (b : Bas) : Bool := cleanCL b.q b.n b.pre && (cleanCL b.q b.n b.post && (cleanLo b.pG b.q b.n b.rest && (Nat.ble 2 b.n && (Nat.ble (Nat.succ b.q) b.n && (Nat.ble (Nat.succ b.pG) b.n && (Nat.ble (Nat.succ b.q) 65536 && (Nat.ble 2 b.pG && (Nat.ble 2 b.q && (Nat.ble (Nat.succ b.pG) 65536 && !(Nat.beq b.pG b.q))))))))))
def wayS (q L : Nat) : Value := .slice (some ⟨q, 0, none⟩) L L
noncomputable def rowS (t : TypeId) (e m : Nat) : Ob := .row (chop (symsF m 0)) m t e false 0 0

theorem Bas.get (b : Bas) {way : Value} {row : Ob} {i : Nat} (hi : i < 65536) (hp : b.pG < 65536) (hq : b.q < 65536) : hget (bld (b.lo way row)) i = if i = b.pG then some (b.g way) else if i = b.q then some row else hget (bld b.rest) i := by
  show hget (hset (hset (bld b.rest) b.q row) b.pG (b.g way)) i = _
  rw [hget_set hi hp, hget_set hi hq]
theorem Bas.gs (b : Bas) (way : Value) : b.g way = .row (chop (b.pre ++ way :: b.post)) b.lnG b.tG b.eG b.fixG 0 0 := by unfold Bas.g; rw [app_eq]

noncomputable def absOk (b : Bas) (L m : Nat) (way : Value) (row : Ob) : Bool := match way, row with
  | .slice (some ⟨q', 0, s⟩) L' _, .row cs _ _ e fix gen flo => Nat.beq q' b.q && (Nat.beq L' L && (Nat.beq (genOf s) gen && (Nat.ble flo gen && (!fix && (Nat.beq (Nat.mul L e) m && Nat.ble m (len (flat cs)))))))
  | _, _ => false

theorem split_set (pre post : List Value) (a v : Value) : pre ++ a :: post = (pre ++ v :: post).take pre.length ++ [a] ++ (pre ++ v :: post).drop (pre.length + 1) := by
  rw [List.drop_append, List.take_left' rfl, List.drop_eq_nil_of_le (by omega), show pre.length + 1 - pre.length = 1 by omega]
  simp
theorem Bas.ok_spec {b : Bas} (hb : b.ok = true) : cleanCL b.q b.n b.pre = true ∧ cleanCL b.q b.n b.post = true ∧ cleanLo b.pG b.q b.n b.rest = true ∧ 2 ≤ b.n ∧ b.q < b.n ∧ b.pG < b.n ∧ b.q < 65536 ∧ 2 ≤ b.pG ∧ 2 ≤ b.q ∧ b.pG < 65536 ∧ b.pG ≠ b.q := by
  unfold Bas.ok at hb
  simp only [Bool.and_eq_true, Bool.not_eq_true'] at hb
  obtain ⟨c1, c2, c3, c4, d1, d2, c5, c6, c7, c8, c9⟩ := hb
  exact ⟨c1, c2, c3, Nat.le_of_ble_eq_true c4, Nat.le_of_ble_eq_true d1, Nat.le_of_ble_eq_true d2, Nat.le_of_ble_eq_true c5, Nat.le_of_ble_eq_true c6, Nat.le_of_ble_eq_true c7, Nat.le_of_ble_eq_true c8, fun h => by rw [h, Nat.beq_refl] at c9; cases c9⟩

theorem rel_absB {b : Bas} {L m B n0 : Nat} {way : Value} {row : Ob} {g : Gh} {h0 : Hp} {w : World} {cp : Cp} (hb : b.ok = true) (hok : absOk b L m way row = true) (hr : Rel g B h0 n0 w) (hn : b.n ≤ n0) (hag : ∀ i, i < 65536 → i < b.n → hget h0 i = hget (bld (b.lo way row)) i) (hgG : g b.pG 0 = some cp) (hcut : cp.cut ≤ 0) :
    ∃ l' g' t e, l'.length = m ∧ (∀ cs ln t e fix gen flo, row = .row cs ln t e fix gen flo → ∀ (x : Nat) (v v' : Value), cs.flatten[x]? = some v → l'[x]? = some v' → RC g v v') ∧ GLe (symG l') g' ∧
      (∀ cs ln t' e' fix gen flo, row = .row cs ln t' e' fix gen flo → t' = t ∧ e' = e) ∧ Rel g' B (bld (b.lo (wayS b.q L) (rowS t e m))) b.n w ∧ (∀ i, i ≠ 1 → i ≠ b.q → i < b.n → ∀ k, g' i k = g i k) ∧ LB h0 g (bld (b.lo (wayS b.q L) (rowS t e m))) g' := by
  unfold absOk at hok
  split at hok
  case h_2 => cases hok
  rename_i q' s L' c cs ln t e fix gen flo
  simp only [Bool.and_eq_true, Bool.not_eq_true'] at hok
  obtain ⟨a1, a2, a3, a4, a6, a7, a8⟩ := hok
  have a1 := Nat.eq_of_beq_eq_true a1
  have a2 := Nat.eq_of_beq_eq_true a2
  have a3 := Nat.eq_of_beq_eq_true a3
  have a4 := Nat.le_of_ble_eq_true a4
  have a7 := Nat.eq_of_beq_eq_true a7
  have a8 := Nat.le_of_ble_eq_true a8
  rw [len_eq, flat_eq] at a8
  subst a1; subst a2; subst a6
  obtain ⟨c1, c2, c3, c4, d1, d2, c5, c6, c7, c8, hne⟩ := Bas.ok_spec hb
  have hcl := cleanLo_spec c3
  have hbx : ∀ x ∈ b.rest, x.1 < 65536 := fun x hx => (hcl x hx).2.2.2.2.1
  have get := fun {way : Value} {row : Ob} {i : Nat} (hi : i < 65536) => b.get (way := way) (row := row) hi c8 c5
  have hG := hag b.pG c8 d2
  rw [get c8, if_pos rfl, b.gs] at hG
  have hq := hag b.q c5 d1
  rw [get c5, if_neg (Ne.symm hne), if_pos rfl] at hq
  have hrest : ∀ i o, i < 65536 → hget (bld b.rest) i = some o → i ≠ b.pG ∧ i ≠ b.q ∧ cleanO b.q b.n o = true ∧ 2 ≤ i ∧ i < b.n := fun i o hi ho => by
    obtain ⟨d1, d2, d3, d4, _, d6⟩ := hcl _ (bld_mem hi hbx ho)
    exact ⟨d1, d2, d3, d4, d6⟩
  have h1 : hget h0 1 = none := by
    rw [hag 1 (by omega) (by omega), get (by omega), if_neg (by omega), if_neg (by omega)]
    cases ho : hget (bld b.rest) 1 with
    | none => rfl
    | some o => have := (hrest 1 o (by omega) ho).2.2.2.1; omega
  obtain ⟨G1, G2, G3, G4, G5⟩ := hr.obs b.pG _ c8 hG
  obtain ⟨⟨x1, x2, x3, x4, x5, x6, vecG, ttG, frG, y1, y2, y3, y4⟩, y5⟩ := (G5 0 cp hgG).2 (Nat.le_refl _)
  rw [chop_flat] at G2
  have hoW : b.pre.length < cp.len := by
    rw [y5 rfl, G2]; simp
  obtain ⟨l', g', b1, b2, b3, b4, b6, b5⟩ := rel_abs (h' := bld (b.lo (wayS b.q L') (rowS t e m))) (oW := b.pre.length) (csG' := chop (b.pre ++ wayS b.q L' :: b.post)) hr h1 c4 hn d2 d1 c8 c5 hne (by omega) (by omega) hG hq a4 hgG (Nat.le_refl _) (by omega) hoW (by rw [chop_flat, List.getElem?_append_right (Nat.le_refl _), Nat.sub_self]; rfl) a3 a7 a8 (chop_wf _)
    (by rw [chop_flat, chop_flat]; exact split_set _ _ _ _)
    (fun i o hi ho h1 h2 h3 => by rw [hag i hi h3, get hi, if_neg h2, if_neg h1] at ho; exact (hrest i o hi ho).2.2.1)
    (fun x v hx hne => by
      rw [chop_flat] at hx
      rcases Nat.lt_trichotomy x b.pre.length with h | h | h
      · rw [List.getElem?_append_left h] at hx; exact cleanCL_get c1 hx
      · exact absurd h hne
      · rw [List.getElem?_append_right (by omega), show x - b.pre.length = (x - b.pre.length - 1) + 1 by omega, List.getElem?_cons_succ] at hx; exact cleanCL_get c2 hx)
    (fun i hi => by
      rw [get hi]
      split
      · rw [b.gs]
      · split
        · rfl
        · rename_i e1 e2
          split
          · rename_i e3
            rw [hag i hi e3, get hi, if_neg e1, if_neg e2]
          · cases ho : hget (bld b.rest) i with
            | none => rfl
            | some o => exact absurd (hrest i o hi ho).2.2.2.2 (by assumption))
  refine ⟨l', g', t, e, b1, fun cs1 ln1 t1 e1 fix1 gen1 flo1 h x v v' hx hx' => ?_, b3, fun cs1 ln1 t1 e1 fix1 gen1 flo1 h => ?_, b5, b4, b6⟩
  · cases h; exact b2 x v v' hx hx'
  · cases h; exact ⟨rfl, rfl⟩

theorem AtW.abs {b : Bas} {L m : Nat} {way : Value} {row : Ob} {l : List Value} {w0 w : World} {u : Value} (hb : b.ok = true) (hok : absOk b L m way row = true) (hw : AtW l (b.at way row) w0 [.pointer (some ⟨b.pG, 0, none⟩)] [u] w) :
    ∃ l' g t e, l'.length = m ∧ (∀ k, g 0 k = none) ∧ (∀ cs ln t e fix gen flo, row = .row cs ln t e fix gen flo → ∀ (x : Nat) (v v' : Value), cs.flatten[x]? = some v → l'[x]? = some v' → RC g v v') ∧ GLe (symG l) g ∧
      (∀ cs ln t' e' fix gen flo, row = .row cs ln t' e' fix gen flo → t' = t ∧ e' = e) ∧ AtW l' (b.at (wayS b.q L) (rowS t e m)) w0 [.pointer (some ⟨b.pG, 0, none⟩)] [u] w := by
  obtain ⟨g, B, hB, hv⟩ := hw
  cases hv with
  | cons hu hnil =>
  cases hnil
  obtain ⟨cp, hgG, hcut, rfl⟩ := (show RV g (.pointer (some ⟨b.pG, 0, none⟩)) u from hu).ptr
  have hr : Rel g B (bld (b.lo way row)) b.n w := hB.rel
  obtain ⟨_, _, _, _, _, d2, _, c6, _, _, b8⟩ := Bas.ok_spec hb
  obtain ⟨l', g', t, e, b1, b2, b3, b4, b5, b6, _⟩ := rel_absB hb hok hr (Nat.le_refl _) (fun _ _ _ => rfl) hgG hcut
  refine ⟨l', g, t, e, b1, fun k => ?_, b2, hB.gle, b4, g', B, ⟨b3, hB.wle, hB.ble, b5⟩, .cons (.one (.cell (.base (.ptr (by rw [b6 _ (by omega) b8 d2]; exact hgG) hcut)))) .nil⟩
  cases hk : g 0 k with
  | none => rfl
  | some c0 => exact absurd (hr.dom 0 k c0 hk).1 (Nat.lt_irrefl 0)

noncomputable def conV (v : Value) : Bool := match v with | .slice (some ⟨0, 0, none⟩) 0 0 => true | v => cellV v
theorem conV_rc {g : Gh} (h0 : ∀ k, g 0 k = none) {v x : Value} (hv : conV v = true) (h : RC g v x) (g' : Gh) : RC g' v x := by
  unfold conV at hv
  split at hv
  · cases h with
    | base h =>
      cases h with
      | same hh => cases hh
      | slice hg _ _ _ _ => rw [h0] at hg; cases hg
      | slice0 => exact .base .slice0
  · rw [h.of_free (cellV_free hv)]
    exact .base (.same hv)

structure QP (F : Nat → Nat → Value → Prop) (e : Nat) (ks : List Nat) (l : List Value) : Prop where
  len : l.length = e * ks.length
  each : ∀ (i k y : Nat), ks[i]? = some k → y < e → ∃ x, l[e * i + y]? = some x ∧ F k y x
def conM (M : Nat → List Value) (k y : Nat) (x : Value) : Prop := ∀ v, (M k)[y]? = some v → ∀ g : Gh, RC g v x
abbrev QIs (M : Nat → List Value) (e : Nat) (ks : List Nat) (l : List Value) : Prop := QP (conM M) e ks l

structure MOk (M Mr : Nat → List Value) (e K : Nat) : Prop where
  len : ∀ k, k < K → (Mr k).length = e
  sub : ∀ k, k < K → ∀ (y : Nat) (v : Value), (M k)[y]? = some v → (Mr k)[y]? = some v
  con : ∀ k, k < K → ∀ v ∈ M k, conV v = true

def opK (ks : List Nat) (a b c : Nat) (rs : List Nat) : List Nat := ks.take a ++ ((ks.drop c).take b ++ rs)
noncomputable def cellsQ (M : Nat → List Value) (e a b c : Nat) (rs : List Nat) (zs : List Value) : List Value := app (symsF (Nat.mul e a) 0) (app (symsF (Nat.mul e b) (Nat.mul e c)) (app (flat (mapL M rs)) zs))

theorem mapM_get {M : Nat → List Value} {e K : Nat} (hM : ∀ k, k < K → (M k).length = e) : ∀ {rs : List Nat} {i k y : Nat} {v : Value}, (∀ r ∈ rs, r < K) → rs[i]? = some k → (M k)[y]? = some v → (rs.map M).flatten[e * i + y]? = some v
  | [], i, k, y, v, _, h, _ => by simp at h
  | r :: rs, 0, k, y, v, hr, h, hv => by
    simp at h; subst h
    rw [List.map_cons, List.flatten_cons, Nat.mul_zero, Nat.zero_add, List.getElem?_append_left (List.getElem?_eq_some_iff.1 hv).1]; exact hv
  | r :: rs, i + 1, k, y, v, hr, h, hv => by
    rw [List.map_cons, List.flatten_cons, List.getElem?_append_right (by rw [hM r (hr r (by simp)), Nat.mul_add]; omega), hM r (hr r (by simp)), show e * (i + 1) + y - e = e * i + y by rw [Nat.mul_add]; omega]
    exact mapM_get hM (fun x hx => hr x (by simp [hx])) (by simpa using h) hv

theorem sym_rc {l : List Value} {g : Gh} (hg : GLe (symG l) g) {j : Nat} {x v' : Value} (hl : l[j]? = some x) (h : RC g (.complex .f32 j 2) v') : v' = x := sym_inv hg hl (.one (.cell h))

theorem QP.op {F F' : Nat → Nat → Value → Prop} {Mr : Nat → List Value} {e K a b c : Nat} {ks rs : List Nat} {zs l l' : List Value} {g : Gh} (hM : ∀ k, k < K → (Mr k).length = e) (hq : QP F e ks l) (hF : ∀ k y x, F k y x → F' k y x) (hk : ∀ k ∈ ks, k < K) (hr : ∀ k ∈ rs, k < K) (ha : a ≤ ks.length) (hb : c + b ≤ ks.length) (hg : GLe (symG l) g)
    (hl : l'.length = e * (a + b + rs.length)) (hc : ∀ (x : Nat) (v v' : Value), (cellsQ Mr e a b c rs zs)[x]? = some v → l'[x]? = some v' → RC g v v') (hnew : ∀ k ∈ rs, ∀ (y : Nat) (v x : Value), (Mr k)[y]? = some v → RC g v x → F' k y x) : QP F' e (opK ks a b c rs) l' ∧ (∀ k ∈ opK ks a b c rs, k < K) ∧ (opK ks a b c rs).length = a + b + rs.length := by
  have hlen : (opK ks a b c rs).length = a + b + rs.length := by
    unfold opK
    simp only [List.length_append, List.length_take, List.length_drop]
    omega
  have hall : ∀ k ∈ opK ks a b c rs, k < K := fun k hk' => by
    unfold opK at hk'
    rcases List.mem_append.1 hk' with h | h
    · exact hk k (List.mem_of_mem_take h)
    · rcases List.mem_append.1 h with h | h
      · exact hk k (List.mem_of_mem_drop (List.mem_of_mem_take h))
      · exact hr k h
  refine ⟨⟨by rw [hlen]; exact hl, fun i k y hi hy => ?_⟩, hall, hlen⟩
  have hil : i < a + b + rs.length := by rw [← hlen]; exact (List.getElem?_eq_some_iff.1 hi).1
  have m1 : e * (i + 1) ≤ e * (a + b + rs.length) := Nat.mul_le_mul_left _ hil
  have m2 : e * (i + 1) = e * i + e := Nat.mul_succ e i
  have hx : e * i + y < l'.length := by omega
  refine ⟨l'[e * i + y], List.getElem?_eq_getElem hx, ?_⟩
  have hx' : l'[e * i + y]? = some l'[e * i + y] := List.getElem?_eq_getElem hx
  generalize l'[e * i + y] = x at hx'
  have cells : (cellsQ Mr e a b c rs zs) = symsF (e * a) 0 ++ (symsF (e * b) (e * c) ++ ((rs.map Mr).flatten ++ zs)) := by
    unfold cellsQ
    simp only [app_eq, flat_eq, mapL_eq]
    rfl
  rw [cells] at hc
  have n1 : (symsF (e * a) 0).length = e * a := symsF_len _ _
  have n2 : (symsF (e * b) (e * c)).length = e * b := symsF_len _ _
  unfold opK at hi
  rcases Nat.lt_or_ge i a with h1 | h1
  · have p1 : e * (i + 1) ≤ e * a := Nat.mul_le_mul_left _ h1
    rw [List.getElem?_append_left (by rw [List.length_take]; omega), List.getElem?_take, if_pos h1] at hi
    obtain ⟨x0, f1, f2⟩ := hq.each i k y hi hy
    have := hc (e * i + y) (.complex .f32 (0 + (e * i + y)) 2) x (by rw [List.getElem?_append_left (by omega)]; exact symsF_get (by omega)) hx'
    rw [Nat.zero_add] at this
    rw [sym_rc hg f1 this]; exact hF _ _ _ f2
  · have p1 : e * a ≤ e * i := Nat.mul_le_mul_left _ h1
    rw [List.getElem?_append_right (by rw [List.length_take]; omega), List.length_take, Nat.min_eq_left ha] at hi
    rcases Nat.lt_or_ge i (a + b) with h2 | h2
    · have p2 : e * (i + 1) ≤ e * (a + b) := Nat.mul_le_mul_left _ h2
      rw [Nat.mul_add e a b] at p2
      have p3 : e * (c + (i - a)) = e * c + (e * i - e * a) := by rw [Nat.mul_add, Nat.mul_sub]
      rw [List.getElem?_append_left (by simp only [List.length_take, List.length_drop]; omega), List.getElem?_take, if_pos (by omega), List.getElem?_drop] at hi
      obtain ⟨x0, f1, f2⟩ := hq.each (c + (i - a)) k y hi hy
      have := hc (e * i + y) (.complex .f32 (e * c + (e * i + y - e * a)) 2) x (by rw [List.getElem?_append_right (by omega), n1, List.getElem?_append_left (by omega)]; exact symsF_get (by omega)) hx'
      rw [show e * c + (e * i + y - e * a) = e * (c + (i - a)) + y by rw [p3]; omega] at this
      rw [sym_rc hg f1 this]; exact hF _ _ _ f2
    · have p2 : e * (a + b) ≤ e * i := Nat.mul_le_mul_left _ h2
      rw [Nat.mul_add e a b] at p2
      have p3 : e * (i - a - b) = e * i - e * a - e * b := by rw [Nat.mul_sub, Nat.mul_sub]
      rw [List.getElem?_append_right (by simp only [List.length_take, List.length_drop]; omega), show i - a - ((ks.drop c).take b).length = i - a - b by simp only [List.length_take, List.length_drop]; omega] at hi
      have hkr : k ∈ rs := List.mem_of_getElem? hi
      have hyM : y < (Mr k).length := by rw [hM k (hr k hkr)]; exact hy
      have hv2 : (Mr k)[y]? = some (Mr k)[y] := List.getElem?_eq_getElem hyM
      generalize (Mr k)[y] = v at hv2
      have f1 := mapM_get hM hr hi hv2
      have hz : ((rs.map Mr).flatten ++ zs)[e * (i - a - b) + y]? = some v := by rw [List.getElem?_append_left (List.getElem?_eq_some_iff.1 f1).1]; exact f1
      have := hc (e * i + y) v x (by rw [List.getElem?_append_right (by omega), n1, List.getElem?_append_right (by omega), n2, ← hz]; congr 1; rw [p3]; omega) hx'
      exact hnew k hkr y v x hv2 this

theorem QIs.op {M Mr : Nat → List Value} {e K a b c : Nat} {ks rs : List Nat} {zs l l' : List Value} {g : Gh} (hM : MOk M Mr e K) (hq : QIs M e ks l) (hk : ∀ k ∈ ks, k < K) (hr : ∀ k ∈ rs, k < K) (ha : a ≤ ks.length) (hb : c + b ≤ ks.length) (hg : GLe (symG l) g) (h0 : ∀ k, g 0 k = none)
    (hl : l'.length = e * (a + b + rs.length)) (hc : ∀ (x : Nat) (v v' : Value), (cellsQ Mr e a b c rs zs)[x]? = some v → l'[x]? = some v' → RC g v v') : QIs M e (opK ks a b c rs) l' ∧ ∀ k ∈ opK ks a b c rs, k < K := by
  obtain ⟨h1, h2, _⟩ := QP.op hM.len hq (fun _ _ _ h => h) hk hr ha hb hg hl hc (fun k hk y v x hv hx v1 hv1 g' => by
    have hkK := hr k hk
    have := hM.sub k hkK y v1 hv1
    rw [hv] at this
    cases this
    exact conV_rc h0 (hM.con k hkK v (List.mem_of_getElem? hv1)) hx g')
  exact ⟨h1, h2⟩

noncomputable def rowK (mc : List Value) (t : TypeId) (e L k : Nat) : Ob := .row (chop (app (symsF (Nat.mul e k) 0) (app mc (symsF (Nat.mul e (Nat.sub (Nat.sub L 1) k)) (Nat.mul e (Nat.succ k)))))) (Nat.mul e L) t e false 0 0

theorem rel_conB {b : Bas} {mc : List Value} {t : TypeId} {e k L B : Nat} {way : Value} {l : List Value} {g : Gh} {w : World} (hb : b.ok = true) (hg : GLe (symG l) g) (hml : mc.length = e) (hkl : k < L) (hc : ∀ (y : Nat) (a : Value), mc[y]? = some a → ∃ x, l[e * k + y]? = some x ∧ RC g a x)
    (hr : Rel g B (bld (b.lo way (rowS t e (e * L)))) b.n w) : Rel g B (bld (b.lo way (rowK mc t e L k))) b.n w ∧ LB (bld (b.lo way (rowS t e (e * L)))) g (bld (b.lo way (rowK mc t e L k))) g := by
  obtain ⟨c1, c2, c3, c4, d1, d2, c5, c6, c7, c8, hne⟩ := Bas.ok_spec hb
  have p1 : e * (k + 1) ≤ e * L := Nat.mul_le_mul_left _ hkl
  have p2 : e * (k + 1) = e * k + e := Nat.mul_succ e k
  have p3 : e * (L - 1 - k) = e * L - (e * k + e) := by rw [show L - 1 - k = L - (k + 1) by omega, Nat.mul_sub, p2]
  have ho : hget (bld (b.lo way (rowS t e (e * L)))) b.q = some (.row (chop (symsF (e * L) 0)) (e * L) t e false 0 0) := by rw [b.get c5 c8 c5, if_neg (Ne.symm hne), if_pos rfl]; rfl
  have n1 : (symsF (e * k) 0).length = e * k := symsF_len _ _
  have n2 : (symsF (e * (L - 1 - k)) (e * (k + 1))).length = e * (L - 1 - k) := symsF_len _ _
  have hh : ∀ i, i < 65536 → hget (bld (b.lo way (rowK mc t e L k))) i = hget (hset (bld (b.lo way (rowS t e (e * L)))) b.q (.row (chop (symsF (e * k) 0 ++ (mc ++ symsF (e * (L - 1 - k)) (e * (k + 1))))) (e * L) t e false 0 0)) i := fun i hi => by
    rw [b.get hi c8 c5, hget_set hi c5, b.get hi c8 c5]
    split
    · rename_i h1
      rw [if_neg (by rw [h1]; exact hne)]
    · split
      · unfold rowK; simp only [app_eq]; rfl
      · rfl
  refine ⟨Rel.congr (rel_con (cs' := chop (symsF (e * k) 0 ++ (mc ++ symsF (e * (L - 1 - k)) (e * (k + 1))))) hr c5 ho (chop_wf _) ?_ ?_) hh, fun i k0 cp hl hgi => ⟨k0, cp, ?_, hgi, rfl⟩⟩
  · rw [chop_flat, chop_flat, symsF_len]
    simp only [List.length_append, n1, n2, hml]
    omega
  · intro x a c ha hcc v' hrc
    rw [chop_flat] at ha hcc
    have hx : x < e * L := by rw [← symsF_len (e * L) 0]; exact (List.getElem?_eq_some_iff.1 hcc).1
    rw [symsF_get hx, Nat.zero_add] at hcc
    cases hcc
    rcases Nat.lt_or_ge x (e * k) with h1 | h1
    · rw [List.getElem?_append_left (by omega), symsF_get h1, Nat.zero_add] at ha
      cases ha; exact hrc
    · rw [List.getElem?_append_right (by omega), n1] at ha
      rcases Nat.lt_or_ge x (e * k + e) with h2 | h2
      · rw [List.getElem?_append_left (by omega)] at ha
        obtain ⟨x0, f1, f2⟩ := hc (x - e * k) a ha
        rw [show e * k + (x - e * k) = x by omega] at f1
        rw [sym_rc hg f1 hrc]; exact f2
      · rw [List.getElem?_append_right (by omega), symsF_get (by omega), hml] at ha
        rw [show e * (k + 1) + (x - e * k - e) = x by omega] at ha
        cases ha; exact hrc
  · obtain ⟨h1, o, h2, h3⟩ := hl
    rw [hh _ h1, hget_set h1 c5] at h2
    split at h2
    · rename_i e1; subst e1; cases h2; exact ⟨h1, _, ho, h3⟩
    · exact ⟨h1, o, h2, h3⟩

theorem AtW.con {b : Bas} {M : Nat → List Value} {t : TypeId} {e K k kk : Nat} {ks : List Nat} {way : Value} {l av bv : List Value} {w0 w : World} (hb : b.ok = true) (hM : MOk M M e K) (hq : QIs M e ks l) (hk : ks[k]? = some kk) (hkk : kk < K)
    (hw : AtW l (b.at way (rowS t e (e * ks.length))) w0 av bv w) : AtW l (b.at way (rowK (M kk) t e ks.length k)) w0 av bv w := by
  obtain ⟨g, B, hB, hv⟩ := hw
  exact ⟨g, B, ⟨hB.gle, hB.wle, hB.ble, (rel_conB hb hB.gle (hM.len kk hkk) (List.getElem?_eq_some_iff.1 hk).1 (fun y a ha => by obtain ⟨x, f1, f2⟩ := hq.each k kk y hk (by rw [← hM.len kk hkk]; exact (List.getElem?_eq_some_iff.1 ha).1); exact ⟨x, f1, f2 a ha g⟩) hB.rel).1⟩, hv⟩

noncomputable def ptG (b : Bas) : Value := .pointer (some ⟨b.pG, 0, none⟩)
def Bas.D (b : Bas) (M : Nat → List Value) (t : TypeId) (e K : Nat) (ks : List Nat) (w0 : World) (u : Value) (w : World) : Prop :=
  (∀ k ∈ ks, k < K) ∧ ∃ l, QIs M e ks l ∧ AtW l (b.at (wayS b.q ks.length) (rowS t e (e * ks.length))) w0 [ptG b] [u] w

structure Lv where
  a : Nat
  b : Nat
  c : Nat
  rs : List Nat
  zs : List Value
  gen : Nat
  flo : Nat
  cap : Nat
noncomputable def Lv.L (x : Lv) : Nat := Nat.add (Nat.add x.a x.b) (len x.rs)
noncomputable def Lv.row (x : Lv) (M : Nat → List Value) (t : TypeId) (e : Nat) : Ob := (fun cs => .row (chop cs) (len cs) t e false x.gen x.flo) (cellsQ M e x.a x.b x.c x.rs x.zs)
noncomputable def Lv.way (x : Lv) (q : Nat) : Value := .slice (some ⟨q, 0, spotOf x.gen⟩) x.L x.cap
noncomputable def opB (cf : CallF) (M : Nat → List Value) (t : TypeId) (e : Nat) (f : FuncId) (pG : Value) (i : Nat) (args : List Value) (U : W) (v : Value) (b' : Bas) (x : Lv) : Bool := match cf f (pG :: args) U with
  | .ok u U1 => eqV u v && (isoT b'.n (b'.lo (x.way b'.q) (x.row M t e)) i [ptG b'] [pG] U1 && absOk b' x.L (Nat.mul x.L e) (x.way b'.q) (x.row M t e))
  | _ => false

theorem AtW.op {cf : CallF} {M : Nat → List Value} {t : TypeId} {e K : Nat} {f : FuncId} {b b' : Bas} {args : List Value} {U : W} {v u : Value} {x : Lv} {ks : List Nat} {l : List Value} {w0 w : World} (hcf : CfOk P (symG l) w0 cf) (hb : b'.ok = true) (hM : MOk M M e K) (hf : free v = true) (hA : ∀ a ∈ args, cellV a = true)
    (hq : QIs M e ks l) (hk : ∀ k ∈ ks, k < K) (hr : ∀ k ∈ x.rs, k < K) (ha : x.a ≤ ks.length) (hc : x.c + x.b ≤ ks.length) (h : opB cf M t e f (ptG b) b.pG args U v b' x = true) (hw : AtW l U w0 [ptG b] [u] w) :
    Calls P f ⟨u :: args⟩ w fun e' w' => e' = .returned v ∧ b'.D M t e K (opK ks x.a x.b x.c x.rs) w0 u w' := by
  unfold opB at h
  split at h
  case h_2 => cases h
  rename_i u1 U1 hcall
  simp only [Bool.and_eq_true] at h
  obtain ⟨h1, h2, h3⟩ := h
  have := eqV_eq h1
  subst this
  have hself : ∀ g : Gh, All2 (RV g) args args := fun g => by
    clear hcall
    induction args with
    | nil => exact .nil
    | cons a r ih => exact .cons (RV.self (hA a (by simp))) (ih fun x hx => hA x (by simp [hx]))
  refine (AtW.run hcf (args := ptG b :: args) (args' := u :: args) (fun g _ hv => ?_) hcall hw).mono ?_
  · cases hv with
    | cons h _ => exact .cons h (hself g)
  rintro e' w' ⟨v', rfl, hw'⟩
  obtain ⟨g, B, hB, hv⟩ := hw'
  cases hv with
  | cons g1 g2 =>
  cases g2 with
  | cons g2 g3 =>
  refine ⟨by rw [g2.of_free hf], ?_⟩
  have hiso := AtW.iso (l := l) ⟨g, B, hB, .cons g1 .nil⟩ h2
  have hlen : x.L = x.a + x.b + x.rs.length := by unfold Lv.L; rw [len_eq]; rfl
  obtain ⟨l', g', t', e1, q1, q2, q3, q4, q5, q6⟩ := AtW.abs hb h3 hiso
  obtain ⟨rfl, rfl⟩ := q5 _ _ _ _ _ _ _ rfl
  have hq' : l'.length = e * (x.a + x.b + x.rs.length) := by rw [q1, hlen]; exact Nat.mul_comm _ _
  obtain ⟨r1, r2⟩ := QIs.op hM hq hk hr ha hc q4 q2 hq' (fun y a c ha hc => q3 _ _ _ _ _ _ _ rfl y a c (by rw [chop_flat]; exact ha) hc)
  have hkl : (opK ks x.a x.b x.c x.rs).length = x.L := by
    rw [hlen]; unfold opK
    simp only [List.length_append, List.length_take, List.length_drop]
    omega
  refine ⟨r2, l', r1, ?_⟩
  rw [hkl, Nat.mul_comm e]
  exact q6

theorem Bas.D.op {cf : CallF} {M : Nat → List Value} {t : TypeId} {e K : Nat} {f : FuncId} {b b' : Bas} {args : List Value} {v u : Value} {x : Lv} {ks : List Nat} {w0 w : World} (hcf : ∀ l, CfOk P (symG l) w0 cf) (hb : b'.ok = true) (hM : MOk M M e K) (hf : free v = true) (hA : ∀ a ∈ args, cellV a = true)
    (hr : ∀ k ∈ x.rs, k < K) (ha : x.a ≤ ks.length) (hc : x.c + x.b ≤ ks.length) (h : opB cf M t e f (ptG b) b.pG args (b.at (wayS b.q ks.length) (rowS t e (Nat.mul e ks.length))) v b' x = true) (hw : b.D M t e K ks w0 u w) :
    Calls P f ⟨u :: args⟩ w fun e' w' => e' = .returned v ∧ b'.D M t e K (opK ks x.a x.b x.c x.rs) w0 u w' := by
  obtain ⟨hk, l, hq, hw⟩ := hw
  exact AtW.op (hcf l) hb hM hf hA hq hk hr ha hc h hw
theorem Bas.D.opk {cf : CallF} {M : Nat → List Value} {t : TypeId} {e K k kk : Nat} {f : FuncId} {b b' : Bas} {args : List Value} {v u : Value} {x : Lv} {ks : List Nat} {w0 w : World} (hcf : ∀ l, CfOk P (symG l) w0 cf) (hb0 : b.ok = true) (hb : b'.ok = true) (hM : MOk M M e K) (hf : free v = true) (hA : ∀ a ∈ args, cellV a = true)
    (hr : ∀ k ∈ x.rs, k < K) (ha : x.a ≤ ks.length) (hc : x.c + x.b ≤ ks.length) (hkk : ks[k]? = some kk) (h : opB cf M t e f (ptG b) b.pG args (b.at (wayS b.q ks.length) (rowK (M kk) t e ks.length k)) v b' x = true) (hw : b.D M t e K ks w0 u w) :
    Calls P f ⟨u :: args⟩ w fun e' w' => e' = .returned v ∧ b'.D M t e K (opK ks x.a x.b x.c x.rs) w0 u w' := by
  obtain ⟨hk, l, hq, hw⟩ := hw
  exact AtW.op (hcf l) hb hM hf hA hq hk hr ha hc h (AtW.con hb0 hM hq hkk (hk kk (List.mem_of_getElem? hkk)) hw)
theorem Bas.D.drew {M : Nat → List Value} {t : TypeId} {e K : Nat} {b : Bas} {ks : List Nat} {w0 w : World} {u : Value} (h : b.D M t e K ks w0 u w) : b.D M t e K ks w0 u w.drew := by
  obtain ⟨hk, l, hq, g, B, hB, hv⟩ := h
  exact ⟨hk, l, hq, g, B, ⟨hB.gle, ⟨hB.wle.os, hB.wle.tape, hB.wle.output, hB.wle.size, hB.wle.block⟩, hB.ble, hB.rel.drew rfl⟩, hv⟩
theorem Bas.D.below {M : Nat → List Value} {t : TypeId} {e K : Nat} {b : Bas} {ks : List Nat} {w0 w : World} {u : Value} (h : b.D M t e K ks w0 u w) : Below w0.heap.size w0 w := by
  obtain ⟨hk, l, hq, g, B, hB, hv⟩ := h
  exact hB.wle

noncomputable def qz (h : Hp) (a b : Value) : Bool := match a, b with
  | .slice (some ⟨0, 0, none⟩) 0 0, .slice (some ⟨p, 0, none⟩) 0 0 => Nat.ble (Nat.succ p) 65536 && (match hget h p with | some (.row _ _ _ _ true _ 0) => true | _ => false)
  | _, _ => false
theorem qz_ok {g : Gh} {B n : Nat} {h : Hp} {w : World} {p : Nat → Nat} (hr : Rel g B h n w) : QOk (qz h) g p := by
  refine ⟨fun a b x hq hx => ?_, fun a b hq => ?_, fun a k cp hq => ?_⟩
  · unfold qz at hq
    split at hq
    case h_2 => cases hq
    rename_i i
    rw [Bool.and_eq_true] at hq
    obtain ⟨h1, h2⟩ := hq
    have h1 : i < 65536 := Nat.le_of_ble_eq_true h1
    split at h2
    case h_2 => cases h2
    rename_i cs ln t e gen ho
    cases hx with
    | base hx =>
      cases hx with
      | same hh => cases hh
      | slice0 => exact .base .slice0
      | slice hg hc hn hl ha =>
        rename_i cp a
        obtain ⟨_, _, _, _, Q5⟩ := hr.obs i _ h1 ho
        have hR := ((Q5 0 cp hg).2 (Nat.le_refl _)).1
        have hz := hR.fix rfl
        rw [hz]
        exact .base .slice0
  · unfold qz at hq
    split at hq
    · rfl
    · cases hq
  · unfold qz at hq
    split at hq
    · rename_i e; cases e
    · cases hq

noncomputable def isoZ (n : Nat) (lo : List (Nat × Ob)) (i : Nat) (av' av : List Value) (U : W) : Bool := (fun nm => (fun p => Nat.ble 2 n && (Nat.ble n 65536 && (chkM (qz U.h) p (atT (tabB nm hp0)) n U.h lo && sameVs p av' av))) (piF 2 n (tabF nm hp0))) (names 2 (walk U.h 1000000 [i] hp0) 2)
theorem AtW.isoz {n i : Nat} {lo : List (Nat × Ob)} {l av av' bv : List Value} {U : W} {w0 w : World} (hw : AtW l U w0 av bv w) (h : isoZ n lo i av' av U = true) : AtW l ⟨bld lo, n, [], .off⟩ w0 av' bv w := by
  obtain ⟨g, B, hB, hv⟩ := hw
  unfold isoZ at h
  simp only [Bool.and_eq_true] at h
  obtain ⟨h1, h2, h3, h4⟩ := h
  have h1 := Nat.le_of_ble_eq_true h1
  have h2 := Nat.le_of_ble_eq_true h2
  generalize hp : piF 2 n (tabF (names 2 (walk U.h 1000000 [i] hp0) 2) hp0) = p at h3 h4
  have hp1 : p 1 = 1 := by rw [← hp]; exact piF_low (by omega)
  have hp0' : p 0 = 0 := by rw [← hp]; exact piF_low (by omega)
  have hpn : ∀ i, n ≤ i → p i = 0 := fun i hi => by rw [← hp]; exact piF_high (by omega) hi
  refine ⟨reG g p, B, ⟨fun i k cp hg => ?_, hB.wle, hB.ble, rel_cutP (qz_ok hB.rel) hp1 hp0' hpn hB.rel (show 0 < n by omega) h2 (chkM_p h3)⟩, sameVs_rv hp1 h4 hv⟩
  have e := symG_one l i k cp hg
  subst e
  show g (p 1) k = some cp
  rw [hp1]
  exact hB.gle _ _ _ hg

noncomputable def atP (v : Value) : Nat := match v with | .pointer (some ⟨i, 0, none⟩) => i | _ => 0
noncomputable def stB (cf : CallF) (M : Nat → List Value) (t : TypeId) (e : Nat) (f : FuncId) (b : Bas) (x : Lv) : Bool := match cf f [] w02 with
  | .ok u U1 => isoZ b.n (b.lo (x.way b.q) (x.row M t e)) (atP u) [ptG b] [u] U1 && absOk b x.L (Nat.mul x.L e) (x.way b.q) (x.row M t e)
  | _ => false
theorem Bas.D.start {cf : CallF} {M : Nat → List Value} {t : TypeId} {e K : Nat} {f : FuncId} {b : Bas} {rs : List Nat} {zs : List Value} {gen flo cap : Nat} {w0 w : World} (hcf : ∀ w, CfOk P (symG []) w cf) (hb : b.ok = true) (hM : MOk M M e K)
    (hr : ∀ k ∈ rs, k < K) (h : stB cf M t e f b ⟨0, 0, 0, rs, zs, gen, flo, cap⟩ = true) (hw : Below w0.heap.size w0 w) :
    Calls P f #[] w fun e' w' => ∃ u, e' = .returned u ∧ b.D M t e K rs w0 u w' := by
  unfold stB at h
  split at h
  case h_2 => cases h
  rename_i u1 U1 hcall
  rw [Bool.and_eq_true] at h
  obtain ⟨h2, h3⟩ := h
  have h0 : AtW [] w02 w [] [] w := ⟨symG [], w.heap.size, ⟨GLe.refl _, Below.refl _ _, Nat.le_refl _, rel_start (symG_one _) w⟩, .nil⟩
  refine (AtW.run (hcf w) (args := []) (args' := []) (fun g _ hv => .nil) hcall h0).mono ?_
  rintro e' w' ⟨v', rfl, hw'⟩
  refine ⟨v', rfl, ?_⟩
  have hiso := AtW.isoz (av' := [ptG b]) hw' h2
  obtain ⟨l', g', t', e1, q1, q2, q3, q4, q5, g, B, hB, hv⟩ := AtW.abs hb h3 hiso
  obtain ⟨rfl, rfl⟩ := q5 _ _ _ _ _ _ _ rfl
  have hlen : (Lv.mk 0 0 0 rs zs gen flo cap).L = rs.length := by unfold Lv.L; rw [len_eq]; show 0 + 0 + rs.length = _; omega
  have hq' : l'.length = e * (0 + 0 + rs.length) := by
    rw [q1, hlen, show 0 + 0 + rs.length = rs.length by omega]
    exact Nat.mul_comm _ _
  obtain ⟨r1, r2⟩ := QIs.op (ks := []) (a := 0) (b := 0) (c := 0) (zs := zs) hM ⟨rfl, fun i k y h => by simp at h⟩ (fun k h => by simp at h) hr (Nat.le_refl _) (Nat.le_refl _) q4 q2 hq' (fun y a c ha hc => q3 _ _ _ _ _ _ _ rfl y a c (by rw [chop_flat]; exact ha) hc)
  have e1 : opK [] 0 0 0 rs = rs := rfl
  rw [e1] at r1 r2
  rw [hlen, show Nat.mul rs.length e = e * rs.length from Nat.mul_comm _ _] at hB
  refine ⟨r2, l', r1, g, B, ⟨hB.gle, ⟨hB.wle.os.trans hw.os, hB.wle.tape.trans hw.tape, hB.wle.output.trans hw.output, Nat.le_trans hw.size hB.wle.size, fun k hk => ?_⟩, Nat.le_trans hw.size hB.ble, hB.rel⟩, hv⟩
  rw [hB.wle.block k (Nat.lt_of_lt_of_le hk hw.size)]
  exact hw.block k hk

noncomputable def allN (m : Nat) (f : Nat → Bool) : Bool := Nat.rec (motive := fun _ => Bool) true (fun i ih => Bool.rec (motive := fun _ => Bool) false (f i) ih) m
theorem allN_spec {f : Nat → Bool} : ∀ {m : Nat}, allN m f = true → ∀ i, i < m → f i = true
  | 0, _, i, h => absurd h (Nat.not_lt_zero i)
  | m + 1, h, i, hi => by
    have h : (Bool.rec (motive := fun _ => Bool) false (f m) (allN m f) : Bool) = true := h
    cases ha : allN m f with
    | false => rw [ha] at h; cases h
    | true =>
      rw [ha] at h
      rcases Nat.lt_or_ge i m with h1 | h1
      · exact allN_spec ha i h1
      · rw [show i = m by omega]; exact h

noncomputable def firstL (l : List Value) : Nat → List Value := List.rec (motive := fun _ => Nat → List Value) (fun _ => []) (fun v _ ih n => Nat.rec (motive := fun _ => List Value) [] (fun m _ => v :: ih m) n) l
noncomputable def remP (q : Nat) (l : List (Nat × Ob)) : List (Nat × Ob) := List.rec (motive := fun _ => List (Nat × Ob)) [] (fun x _ ih => Bool.rec (motive := fun _ => List (Nat × Ob)) (x :: ih) ih (Nat.beq x.1 q)) l
noncomputable def basOf (x q o : Nat) : Bas := match lD 1 x with
  | (p, .row cs ln t e fix _ _) :: r => ⟨p, q, firstL (flat cs) o, drop (flat cs) (Nat.succ o), ln, t, e, fix, remP q r, nD 1 x⟩
  | _ => ⟨0, 0, [], [], 0, 0, 0, false, [], 0⟩
end Go.Cx
