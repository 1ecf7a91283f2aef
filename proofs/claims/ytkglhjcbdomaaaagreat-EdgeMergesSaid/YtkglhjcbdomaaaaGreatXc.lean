/- The fast evaluator of code on known values, and that it is sound: part 3. -/
import Derived.Below
import Derived.ProofKit
import Derived.OpenShut
import Derived.Test.YtkglhjcbdomaaaaGreatXb
namespace Go.Cx
open Go Go.RowKit
variable {P : Program} {B : Nat}

def RR (g : Gh) (B : Nat) (a : W) (w : World) (re : Re) (e : Ending) (w' : World) : Prop := match re with
  | .ok v b => ∃ v' g', e = .returned v' ∧ RV g' v v' ∧ Kept g B a w g' b w'
  | .ot (.pan v b) => ∃ g', e = .panicked [{ v, recovered := false }] ∧ cellV v = true ∧ Kept g B a w g' b w'
  | _ => False

def Known (re : Re) : Prop := match re with
  | .ok _ _ => True
  | .ot (.pan _ _) => True
  | _ => False

theorem callR_of {g : Gh} {a : W} {w : World} {f : FuncId} {args' : List Value} {re : Re} (h : Known re → Calls P f ⟨args'⟩ w (RR g B a w re)) : CallR P g B a w f args' re := by
  cases re with
  | ok v b => exact h trivial
  | ot r =>
    cases r with
    | pan v b => exact h trivial
    | _ => exact trivial

def RcU (rc : Rc) (u : FrameMode) : Prop := match rc with
  | .idle => u = .returning
  | .pan v => cellV v = true ∧ u = .panicking [{ v, recovered := false }]
  | _ => False

theorem mode_same {c : Frame} {u : FrameMode} (h : c.mode = u) : ({ c with mode := u } : Frame) = c := by subst h; rfl

theorem start_cs {rc : Rc} {u : FrameMode} (h : RcU rc u) {c : Frame} {cs : List Frame} (hc : c.mode = u) : CsR true (c :: cs) rc (c :: cs) := by
  cases rc with
  | off => exact h.elim
  | done v => exact h.elim
  | idle =>
    have h : u = .returning := h
    subst h
    exact ⟨rfl, c, cs, rfl, by rw [mode_same hc]⟩
  | pan v =>
    obtain ⟨hv, rfl⟩ := h
    exact ⟨rfl, hv, c, cs, rfl, by rw [mode_same hc]⟩

section
variable {cf : CallF} {fuel : Nat}

theorem nextD_ok {f : FuncId} {env : Env} {U : W} {ih : Hp → Nat → Rc → Re} (hk : Known (nextD P fuel f env U ih)) :
    resOk P fuel f env U.h = true ∧ U.ds = [] ∧ ((∃ v, U.rc = .done v ∧ nextD P fuel f env U ih = ih U.h U.n .idle) ∨ ((∀ v, U.rc ≠ .done v) ∧ nextD P fuel f env U ih = ih U.h U.n U.rc)) := by
  obtain ⟨h, n, ds, rc⟩ := U
  unfold nextD at hk ⊢
  cases hr : resOk P fuel f env h with
  | false => simp only [hr] at hk; exact hk.elim
  | true =>
    simp only [hr] at hk ⊢
    cases ds with
    | cons _ _ => exact hk.elim
    | nil =>
      refine ⟨trivial, rfl, ?_⟩
      cases rc with
      | done v => exact .inl ⟨v, rfl, rfl⟩
      | off => exact .inr ⟨fun v e => (by cases e), rfl⟩
      | idle => exact .inr ⟨fun v e => (by cases e), rfl⟩
      | pan v => exact .inr ⟨fun v e => (by cases e), rfl⟩

theorem resOk_spec {f : FuncId} {env : Env} {h : Hp} (hr : resOk P fuel f env h = true) {d : FnC} (hd : cFn P fuel f = some d) : ∃ vs, d.res.run env h = some vs := by
  have hr : (Option.rec (motive := fun _ => Bool) false (fun d => Option.rec (motive := fun _ => Bool) false (fun _ => true) (d.res.run env h)) (cFn P fuel f) : Bool) = true := hr
  rw [hd] at hr
  dsimp only at hr
  cases hv : d.res.run env h with
  | none => rw [hv] at hr; cases hr
  | some vs => exact ⟨vs, rfl⟩

theorem all2_nil {α β : Type} {R : α → β → Prop} {l : List β} (h : All2 R [] l) : l = [] := by cases h; rfl

theorem defers_ok2 {gB : Gh} {wB : World} (hP : NoNum P) (hcf : CfOk P gB wB cf) (hm : P.follows .mixedOrders = true) {f : FuncId} {fn : Func} {c : Code} (hf : P.funcs[f]? = some fn) (hc : fn.body = some c) {env : Env} {tmps : Array Value} {g : Gh} {a : W} {w : World} (hB : Bs gB wB B g a w) :
    ∀ (ds : List (FuncId × List Value)) (ds' : List Deferred) (g1 : Gh) (h : Hp) (n : Nat) (rc : Rc) (u : FrameMode) (w1 : World), Ext g B a.h a.n w g1 h n w1 → SlotR g1 (xsOf fn c) [] env [] (fun t => tmps.getD t undef) → All2 (DfR g1) ds ds' → RcU rc u →
      Known (evDefers P cf fuel f env a ds h n rc) → Leaves P fn tmps (RR g B a w (evDefers P cf fuel f env a ds h n rc)) ds' u w1
  | [], ds', g1, h, n, rc, u, w1, he, hs, hd, hu, hk => by
    cases hd
    cases rc with
    | off => exact hu.elim
    | done v => exact hu.elim
    | pan v =>
      obtain ⟨hv, rfl⟩ := hu
      exact ⟨g1, rfl, hv, he, rfl, rfl⟩
    | idle =>
      have hu : u = .returning := hu
      subst hu
      have hk : Known (retRe P fuel f env h n a) := hk
      show ∃ v, (results fn tmps).run P w1 = .ok v w1 ∧ RR g B a w (retRe P fuel f env h n a) (.returned v) w1
      have e : retRe P fuel f env h n a = (Option.rec (motive := fun _ => Re) (no 133) (fun d => Option.rec (motive := fun _ => Re) (no 134) (fun l => .ok (packR l) ⟨h, n, a.ds, a.rc⟩) (d.res.run env h)) (cFn P fuel f) : Re) := rfl
      rw [e] at hk ⊢
      cases hd : cFn P fuel f with
      | none => rw [hd] at hk; exact hk.elim
      | some d =>
        rw [hd] at hk
        obtain ⟨fn', c', q1, q2, q3, rfl⟩ := cFn_some hd
        rw [hf] at q1; cases q1
        rw [hc] at q2; cases q2
        dsimp only at hk ⊢
        cases hv : (cRes P (xsOf fn c) fn.results.toList).run env h with
        | none => rw [hv] at hk; exact hk.elim
        | some vs =>
          obtain ⟨v', h1, h2⟩ := results_ok (U := ⟨h, n, a.ds, a.rc⟩) he.rel hs hv
          exact ⟨v', h1, v', g1, rfl, h2, he, rfl, rfl⟩
  | d :: ds, ds', g1, h, n, rc, u, w1, he, hs, hd, hu, hk => by
    cases hd with
    | cons hd1 hds =>
    rename_i d' ds'
    obtain ⟨xs, ys, ks, rfl, ha⟩ := hd1
    have e : evDefers P cf fuel f env a (d :: ds) h n rc = (match evBody P cf fuel d.1 d.2 h n rc with
      | .go env' w => nextD P fuel d.1 env' w (evDefers P cf fuel f env a ds)
      | .ret env' w => nextD P fuel d.1 env' w (evDefers P cf fuel f env a ds)
      | .pan v _ w => (match w.ds, w.rc with | [], .idle => evDefers P cf fuel f env a ds w.h w.n (.pan v) | _, _ => no 136)
      | .no why => no why
      | _ => no 137) := rfl
    rw [e] at hk ⊢
    rcases body_eq (P := P) cf fuel d.1 d.2 h n rc with ⟨y, hy⟩ | ⟨dd, hlen, hdd, hbody⟩
    · rw [hy] at hk; exact hk.elim
    obtain ⟨fn2, c2, q1, q2, q3, rfl⟩ := cFn_some hdd
    have hbd : bodied P d.1 = none := by unfold bodied; rw [q1]; dsimp only; rw [q2]
    have hinv : (invoke (.fn (.func d.1) ⟨ks⟩) ⟨xs ++ ys⟩).run P w1 = .ok (.enter d.1 ⟨xs ++ (ys ++ ks)⟩) w1 := by
      have e2 : ((⟨xs ++ ys⟩ : Array Value) ++ ⟨ks⟩) = ⟨xs ++ (ys ++ ks)⟩ := by apply Array.ext'; simp
      show (callFunc d.1 ((⟨xs ++ ys⟩ : Array Value) ++ ⟨ks⟩)).run P w1 = _
      rw [e2]
      exact callFunc_enter hP hbd _ w1
    have hur : u ≠ .run := by
      cases rc with
      | off => exact hu.elim
      | done v => exact hu.elim
      | idle => have hu : u = .returning := hu; subst hu; intro e; cases e
      | pan v => obtain ⟨_, rfl⟩ := hu; intro e; cases e
    refine leaves_cons hur hinv ?_
    refine callsD_of_wpS q1 q2 fun c0 cs hmode => ?_
    have hst : St P true B fn2.ntmps (xsOf fn2 c2) (c0 :: cs) g1 ⟨h, n, [], rc⟩ w1 [] (env0 d.2 0 env00) [] ⟨h, n, [], rc⟩ g1 { tmps := (⟨xs ++ (ys ++ ks)⟩ : Array Value) ++ Array.replicate (fn2.ntmps - (⟨xs ++ (ys ++ ks)⟩ : Array Value).size) undef, defers := [] } (c0 :: cs) w1 :=
      ⟨Ext.refl he.rel, start_sl ha hlen _ _, fun _ h => (by cases h), by simp; omega, .nil, start_cs hu hmode⟩
    have hgo := code_ok (cf := cf) hP hcf (hB.ext (b := ⟨h, n, [], rc⟩) he) q3 hm fuel c2 _ _ _ _ _ _ hst
    rw [hbody] at hk ⊢
    dsimp only at hgo hk ⊢
    intro b k hb hro
    have fin1 : ∀ (env2 : Env) (U : W) (g2 : Gh) (a2 : Act) (cs2 : List Frame) (w2 : World), St P true B fn2.ntmps (xsOf fn2 c2) (c0 :: cs) g1 ⟨h, n, [], rc⟩ w1 [] env2 [] U g2 a2 cs2 w2 → Known (nextD P fuel d.1 env2 U (evDefers P cf fuel f env a ds)) →
        a2.defers = [] ∧ ∃ u', cs2 = { c0 with mode := u' } :: cs ∧ ∃ v, (results fn2 a2.tmps).run P w2 = .ok v w2 ∧ Leaves P fn tmps (RR g B a w (nextD P fuel d.1 env2 U (evDefers P cf fuel f env a ds))) ds' (settle u') w2 := by
      intro env2 U g2 a2 cs2 w2 hs2 hk2
      obtain ⟨n1, n2, n3⟩ := nextD_ok hk2
      have hdef : a2.defers = [] := by have := hs2.ds; rw [n2] at this; exact all2_nil this
      obtain ⟨vs, hvs⟩ := resOk_spec n1 hdd
      obtain ⟨v', r1, _⟩ := results_ok hs2.ext.rel (tmps := a2.tmps) hs2.sl hvs
      have hext := he.trans hs2.ext
      have hs' := hs.mono hs2.ext.ex.le
      have hds' : All2 (DfR g2) ds ds' := hds.mono fun _ _ h => h.mono hs2.ext.ex.le
      refine ⟨hdef, ?_⟩
      have hcs2 := hs2.cs
      rcases n3 with ⟨pv, h3, h4⟩ | ⟨h3, h4⟩
      · rw [h4] at hk2 ⊢
        rw [h3] at hcs2
        obtain ⟨_, c1, r2, e1, e2⟩ := hcs2
        cases e1
        exact ⟨_, e2, v', r1, defers_ok2 hP hcf hm hf hc hB ds ds' g2 U.h U.n .idle .returning w2 hext hs' hds' rfl hk2⟩
      · rw [h4] at hk2 ⊢
        cases hrc : U.rc with
        | off => rw [hrc] at hcs2; exact absurd hcs2.1 (by intro e; cases e)
        | done pv => exact absurd hrc (h3 pv)
        | idle =>
          rw [hrc] at hcs2 hk2
          obtain ⟨_, c1, r2, e1, e2⟩ := hcs2
          cases e1
          exact ⟨_, e2, v', r1, defers_ok2 hP hcf hm hf hc hB ds ds' g2 U.h U.n .idle .returning w2 hext hs' hds' rfl hk2⟩
        | pan pv =>
          rw [hrc] at hcs2 hk2
          obtain ⟨_, hpv, c1, r2, e1, e2⟩ := hcs2
          cases e1
          exact ⟨_, e2, v', r1, defers_ok2 hP hcf hm hf hc hB ds ds' g2 U.h U.n (.pan pv) _ w2 hext hs' hds' ⟨hpv, rfl⟩ hk2⟩
    cases hr : (cCode P fuel fn2.ntmps (xsOf fn2 c2) c2).run cf (env0 d.2 0 env00) ⟨h, n, [], rc⟩ with
    | no y => rw [hr] at hk; exact hk.elim
    | ex i env2 U => rw [hr] at hk; exact hk.elim
    | go env2 U =>
      rw [hr] at hgo hk
      obtain ⟨e, a2, cs2, w2, ⟨rfl, g2, hs2⟩, harr⟩ := hgo b k (fun _ => ⟨hb, hro⟩)
      obtain ⟨f1, u', f2, v', f3, f4⟩ := fin1 env2 U g2 a2 cs2 w2 hs2 hk
      exact ⟨.normal, a2, cs2, w2, ⟨f1, u', f2, v', f3, f4⟩, harr⟩
    | ret env2 U =>
      rw [hr] at hgo hk
      obtain ⟨e, a2, cs2, w2, ⟨rfl, g2, hs2⟩, harr⟩ := hgo b k (fun _ => ⟨hb, hro⟩)
      obtain ⟨f1, u', f2, v', f3, f4⟩ := fin1 env2 U g2 a2 cs2 w2 hs2 hk
      exact ⟨.ret, a2, cs2, w2, ⟨f1, u', f2, v', f3, f4⟩, harr⟩
    | pan pv env2 U =>
      rw [hr] at hgo hk
      obtain ⟨e, a2, cs2, w2, ⟨rfl, hpv, g2, hs2⟩, harr⟩ := hgo b k (fun _ => ⟨hb, hro⟩)
      obtain ⟨h2, n2, ds2, rc2⟩ := U
      cases ds2 with
      | cons _ _ => exact hk.elim
      | nil =>
        cases rc2 with
        | off => exact hk.elim
        | pan _ => exact hk.elim
        | done _ => exact hk.elim
        | idle =>
          have hk : Known (evDefers P cf fuel f env a ds h2 n2 (.pan pv)) := hk
          have hdef : a2.defers = [] := all2_nil hs2.ds
          obtain ⟨_, c1, r2, e1, e2⟩ := hs2.cs
          cases e1
          refine ⟨.panic [{ v := pv, recovered := false }], a2, cs2, w2, ⟨hdef, _, e2, ?_⟩, harr⟩
          exact defers_ok2 hP hcf hm hf hc hB ds ds' g2 h2 n2 (.pan pv) _ w2 (he.trans hs2.ext) (hs.mono hs2.ext.ex.le) (hds.mono fun _ _ h => h.mono hs2.ext.ex.le) ⟨hpv, rfl⟩ hk

noncomputable def ending (P : Program) (cf : CallF) (fuel : Nat) (f : FuncId) (a : W) (r : Ou) : Re := match r with
  | .go env U => evDefers P cf fuel f env a U.ds U.h U.n .idle
  | .ret env U => evDefers P cf fuel f env a U.ds U.h U.n .idle
  | .pan v env U => evDefers P cf fuel f env a U.ds U.h U.n (.pan v)
  | .no why => wrong f why
  | _ => no 139

theorem fn_end {gB : Gh} {wB : World} (hP : NoNum P) (hm : P.follows .mixedOrders = true) (hcf : CfOk P gB wB cf) {f : FuncId} {fn : Func} {c : Code} (q1 : P.funcs[f]? = some fn) (q2 : fn.body = some c) {args' : List Value} {g : Gh} {a : W} {w : World} (hB : Bs gB wB B g a w) {r : Ou}
    (hgo : ∀ cs, Meets r (Goes P false c (Post P false B fn.ntmps (xsOf fn c) cs g ⟨a.h, a.n, [], .off⟩ w r) { tmps := (⟨args'⟩ : Array Value) ++ Array.replicate (fn.ntmps - (⟨args'⟩ : Array Value).size) undef, defers := [] } cs w)) :
    CallR P g B a w f args' (ending P cf fuel f a r) := by
  refine callR_of fun hk => ?_
  refine calls_of_wp_defers q1 q2 ?_
  intro b k cs
  have hgo := hgo cs
  have same : ∀ {rc' : Rc} {cs2 : List Frame}, CsR false cs rc' cs2 → cs2 = cs := by
    intro rc' cs2 hc
    cases rc' with
    | off => exact hc.2
    | idle => exact absurd hc.1 (by intro e; cases e)
    | pan _ => exact absurd hc.1 (by intro e; cases e)
    | done _ => exact absurd hc.1 (by intro e; cases e)
  cases r with
  | no y => unfold ending wrong at hk; exact hk.elim
  | ex i env2 U => exact hk.elim
  | go env2 U =>
    obtain ⟨e, a2, cs2, w2, ⟨rfl, g2, hs2⟩, harr⟩ := hgo b k (fun e => by cases e)
    rw [same hs2.cs] at harr
    exact ⟨.normal, a2, w2, defers_ok2 hP hcf hm q1 q2 hB U.ds a2.defers g2 U.h U.n .idle .returning w2 hs2.ext hs2.sl hs2.ds rfl hk, harr⟩
  | ret env2 U =>
    obtain ⟨e, a2, cs2, w2, ⟨rfl, g2, hs2⟩, harr⟩ := hgo b k (fun e => by cases e)
    rw [same hs2.cs] at harr
    exact ⟨.ret, a2, w2, defers_ok2 hP hcf hm q1 q2 hB U.ds a2.defers g2 U.h U.n .idle .returning w2 hs2.ext hs2.sl hs2.ds rfl hk, harr⟩
  | pan pv env2 U =>
    obtain ⟨e, a2, cs2, w2, ⟨rfl, hpv, g2, hs2⟩, harr⟩ := hgo b k (fun e => by cases e)
    rw [same hs2.cs] at harr
    exact ⟨.panic [{ v := pv, recovered := false }], a2, w2, defers_ok2 hP hcf hm q1 q2 hB U.ds a2.defers g2 U.h U.n (.pan pv) _ w2 hs2.ext hs2.sl hs2.ds ⟨hpv, rfl⟩ hk, harr⟩

theorem fn_start {fn : Func} {c : Code} {args args' : List Value} {g : Gh} {h : Hp} {n : Nat} {w : World} (hr : Rel g B h n w) (ha : All2 (RV g) args args') (hlen : args.length ≤ 256) (cs : List Frame) :
    St P false B fn.ntmps (xsOf fn c) cs g ⟨h, n, [], .off⟩ w [] (env0 args 0 env00) [] ⟨h, n, [], .off⟩ g { tmps := (⟨args'⟩ : Array Value) ++ Array.replicate (fn.ntmps - (⟨args'⟩ : Array Value).size) undef, defers := [] } cs w :=
  ⟨Ext.refl hr, start_sl ha hlen _ _, fun _ h => (by cases h), by simp; omega, .nil, ⟨rfl, rfl⟩⟩

theorem fn1_ok {gB : Gh} {wB : World} (hP : NoNum P) (hm : P.follows .mixedOrders = true) (hcf : CfOk P gB wB cf) : CfOk P gB wB (evFn1 P cf fuel) := by
  intro f args args' g B a w hB ha
  have hr := hB.rel
  obtain ⟨h, n, ds, rc⟩ := a
  have e : evFn1 P cf fuel f args ⟨h, n, ds, rc⟩ = ending P cf fuel f ⟨h, n, ds, rc⟩ (evBody P cf fuel f args h n .off) := by
    show Ou.rec (motive := fun _ => Re) (endRe P cf fuel f ⟨h, n, ds, rc⟩ .idle) (fun _ _ _ => no 139) (endRe P cf fuel f ⟨h, n, ds, rc⟩ .idle) (fun v env w' => endRe P cf fuel f ⟨h, n, ds, rc⟩ (.pan v) env w') (wrong f) (evBody P cf fuel f args h n .off) = _
    cases evBody P cf fuel f args h n .off <;> rfl
  rw [e]
  rcases body_eq (P := P) cf fuel f args h n .off with ⟨y, hy⟩ | ⟨dd, hlen, hdd, hbody⟩
  · rw [hy]; exact callR_of fun hk => by unfold ending wrong at hk; exact hk.elim
  obtain ⟨fn, c, q1, q2, q3, rfl⟩ := cFn_some hdd
  refine fn_end hP hm hcf q1 q2 hB fun cs => ?_
  rw [hbody]
  exact code_ok (cf := cf) (W0 := ⟨h, n, [], .off⟩) hP hcf ⟨hB.gle, hB.wle, hB.ble, hB.rel⟩ q3 hm fuel c _ _ _ _ _ _ (fn_start hr ha hlen cs)

theorem evFn_ok {gB : Gh} {wB : World} (hP : NoNum P) (hm : P.follows .mixedOrders = true) (fuel : Nat) : ∀ depth, CfOk P gB wB (evFn P fuel depth)
  | 0 => fun _ _ _ _ _ _ _ _ _ => trivial
  | depth + 1 => fn1_ok hP hm (evFn_ok hP hm fuel depth)

noncomputable def evO (P : Program) (fuel : Nat) (orc : FuncId → List Value → Option Value) (depth : Nat) : CallF :=
  Nat.rec (motive := fun _ => CallF) (fun _ _ _ => no 140) (fun _ ih f args w => Option.rec (motive := fun _ => Re) (evFn1 P ih fuel f args w) (fun v => .ok v w) (orc f args)) depth

theorem rel_grow {g : Gh} {h : Hp} {n : Nat} {w w' : World} (hr : Rel g B h n w) (hb : Below w.heap.size w w') : Ext g B h n w g h n w' := by
  refine ⟨⟨hr.pos, hr.lim, Nat.le_trans hr.base hb.size, hr.dom, hr.hdom, ?_, hr.dis, fun i k cp hl hg => Nat.lt_of_lt_of_le (hr.lt i k cp hl hg) hb.size, hr.low⟩,
    GLe.refl g, fun _ k cp h => .inr ⟨k, cp, h⟩, Nat.le_refl _, hb.size, hb.os, hb.tape, hb.output, fun b hlt _ => hb.block b hlt, fun i k cp hl hg _ => ⟨i, k, cp, hl, hg, rfl⟩⟩
  intro i o hi ho
  exact (hr.obs i o hi ho).stay (GLe.refl g) (fun _ _ h => h) fun k cp hg hf => hb.block _ (hr.lt i k cp ⟨hi, o, ho, hf⟩ hg)

def OrcOk (P : Program) (gB : Gh) (wB : World) (orc : FuncId → List Value → Option Value) : Prop := ∀ (f : FuncId) (args args' : List Value) (v : Value), orc f args = some v → ∀ (g : Gh) (w : World), GLe gB g → Below wB.heap.size wB w → All2 (RV g) args args' →
  Calls P f ⟨args'⟩ w fun e w' => Below w.heap.size w w' ∧ ∃ v', e = .returned v' ∧ RV g v v'

theorem evO_ok {gB : Gh} {wB : World} {orc : FuncId → List Value → Option Value} (hP : NoNum P) (hm : P.follows .mixedOrders = true) (ho : OrcOk P gB wB orc) (fuel : Nat) : ∀ depth, CfOk P gB wB (evO P fuel orc depth)
  | 0 => fun _ _ _ _ _ _ _ _ _ => trivial
  | depth + 1 => by
    intro f args args' g B a w hB ha
    have hr := hB.rel
    show CallR P g B a w f args' (Option.rec (motive := fun _ => Re) (evFn1 P (evO P fuel orc depth) fuel f args a) (fun v => .ok v a) (orc f args) : Re)
    cases he : orc f args with
    | none => exact fn1_ok hP hm (evO_ok hP hm ho fuel depth) f args args' g B a w hB ha
    | some v =>
      refine (ho f args args' v he g w hB.gle hB.wle ha).mono ?_
      rintro e w' ⟨hb, v', rfl, hv⟩
      exact ⟨v', g, rfl, hv, rel_grow hr hb, rfl, rfl⟩

end
end Go.Cx
namespace Go.Cx
open Go Go.RowKit
variable {P : Program}

noncomputable def w02 : W := ⟨hp0, 2, [], .off⟩

theorem rel_start {gB : Gh} (hg : ∀ i k cp, gB i k = some cp → i = 1) (w : World) : Rel gB w.heap.size hp0 2 w := by
  have hn : ∀ {i k : Nat}, ¬ Live hp0 i k := by
    rintro i k ⟨_, o, h, _⟩
    rw [hget_hp0] at h; cases h
  refine ⟨by decide, by decide, Nat.le_refl _, fun i k cp h => by have := hg i k cp h; omega, fun i o _ h => ?_, fun i o _ h => ?_, fun i i' k k' c c' _ h => absurd h hn, fun i k c h => absurd h hn, fun i k c h => absurd h hn⟩
  · rw [hget_hp0] at h; cases h
  · rw [hget_hp0] at h; cases h

theorem kept_below {gB g' : Gh} {w w' : World} {b : W} (h : Kept gB w.heap.size w02 w g' b w') : Below w.heap.size w w' := by
  obtain ⟨hx, _, _⟩ := h
  refine ⟨hx.ex.os, hx.ex.tape, hx.ex.output, hx.ex.size, fun k hk => hx.ex.fr k hk fun i j cp hl _ => ?_⟩
  obtain ⟨_, o, h, _⟩ := hl
  have h : hget hp0 i = some o := h
  rw [hget_hp0] at h; cases h

noncomputable def isB (t : Bool) (r : Re) : Bool := match r with
  | .ok (.bool b) _ => Bool.rec (motive := fun _ => Bool) (Bool.rec (motive := fun _ => Bool) true false t) t b
  | _ => false
theorem isB_spec {t : Bool} {r : Re} (h : isB t r = true) : ∃ b, r = .ok (.bool t) b := by
  unfold isB at h
  split at h
  · rename_i u b
    cases u <;> cases t <;> first | exact ⟨b, rfl⟩ | cases h
  · cases h

theorem call_of {gB : Gh} {f : FuncId} {args' : List Value} {w : World} {t : Bool} {r : Re} (h : CallR P gB w.heap.size w02 w f args' r) (hr : isB t r = true) : Calls P f ⟨args'⟩ w fun e w' => e = .returned (.bool t) ∧ Below w.heap.size w w' := by
  obtain ⟨b, rfl⟩ := isB_spec hr
  refine Calls.mono (show Calls P f ⟨args'⟩ w _ from h) ?_
  rintro e w' ⟨v', g', rfl, hv, hk⟩
  rw [hv.bool]
  exact ⟨rfl, kept_below hk⟩

noncomputable def preSeq (P : Program) (fuel N xs : Nat) (cf : CallF) : Nat → Code → Env → W → Ou :=
  Nat.rec (motive := fun _ => Code → Env → W → Ou) (fun _ env U => .go env U)
    (fun _ ih c env U => match c with
      | .seq x y => Ou.rec (motive := fun _ => Ou) (ih y) (fun _ _ _ => .no 151) (fun _ _ => .no 151) (fun _ _ _ => .no 151) Ou.no ((cCode P fuel N xs x).run cf env U)
      | _ => .no 151)
def dropSeq : Nat → Code → Code :=
  Nat.rec (motive := fun _ => Code → Code) (fun c => c) (fun _ ih c => match c with | .seq _ y => ih y | _ => .skip)

def symG (l : List Value) : Gh := fun i k => if i = 1 then (match l[k]? with | some v => some ⟨0, 0, 0, 0, 0, false, v⟩ | none => none) else none
theorem symG_one (l : List Value) : ∀ i k cp, symG l i k = some cp → i = 1 := by
  intro i k cp h
  unfold symG at h
  split at h
  · assumption
  · cases h
theorem symG_rv {l : List Value} {k : Nat} {v : Value} (h : l[k]? = some v) : RV (symG l) (.complex .f32 k 2) v := by
  have : symG l 1 k = some ⟨0, 0, 0, 0, 0, false, v⟩ := by unfold symG; rw [if_pos rfl, h]
  exact .one (R1.sym this)
theorem sym_inv {l : List Value} {g : Gh} (hg : GLe (symG l) g) {k : Nat} {v v' : Value} (hv : l[k]? = some v) (h : RV g (.complex .f32 k 2) v') : v' = v := by
  have h1 : symG l 1 k = some ⟨0, 0, 0, 0, 0, false, v⟩ := by unfold symG; rw [if_pos rfl, hv]
  have h2 := hg _ _ _ h1
  cases h with
  | one h =>
    cases h with
    | cell h =>
      cases h with
      | base h => cases h; rename_i h; cases h
      | sym h3 _ => rw [h2] at h3; cases h3; rfl
    | sym h3 => rw [h2] at h3; cases h3; rfl

noncomputable def isSym (k : Nat) (v : Value) : Bool := match v with
  | .complex .f32 i 2 => Nat.beq i k
  | _ => false
theorem isSym_spec {k : Nat} {v : Value} (h : isSym k v = true) : v = .complex .f32 k 2 := by
  unfold isSym at h
  split at h
  · rw [Nat.eq_of_beq_eq_true h]
  · cases h
noncomputable def subE (t k : Nat) (v : Value) (env : Env) : Env := Bool.rec (motive := fun _ => Env) env ((putE t).run v env) (isSym k ((getE t).run env))

theorem subE_sl {l : List Value} {g : Gh} (hg : GLe (symG l) g) {xs : Nat} {env : Env} {tm : Nat → Value} (h : SlotR g xs [] env [] tm) {t k : Nat} {v : Value} (ht : has xs t = true) (hb : t < 256) (hv : l[k]? = some v) (hs : RV g v v) : SlotR g xs [] (subE t k v env) [] tm := by
  unfold subE
  cases hc : isSym k ((getE t).run env) with
  | false => exact h
  | true =>
    have h1 := h.out t ht hb
    rw [isSym_spec hc] at h1
    have := sym_inv hg hv h1
    have hp := h.put (fun _ h => (by cases h)) ht hb (v := v) (v' := v) hs
    refine ⟨fun q hq hq2 => ?_, fun i q hi => (by cases hi)⟩
    have := hp.out q hq hq2
    by_cases e : q = t
    · subst e
      rw [← ‹tm q = v›] at this ⊢
      simpa [setT] using this
    · simpa [setT, e] using this

section stages
variable {fuel depth : Nat} {f : FuncId} {fn : Func} {c : Code} {l : List Value} {wB : World}

noncomputable def stage (P : Program) (fuel depth : Nat) (fn : Func) (c : Code) (o : FuncId → List Value → Option Value) (k0 k : Nat) (env : Env) (U : W) : Ou :=
  preSeq P fuel fn.ntmps (xsOf fn c) (evO P fuel o depth) k (dropSeq k0 c) env U
noncomputable def lawEnd (P : Program) (fuel depth : Nat) (f : FuncId) (fn : Func) (c : Code) (o : FuncId → List Value → Option Value) (k : Nat) (env : Env) (U : W) : Re :=
  ending P (evO P fuel o depth) fuel f w02 ((cCode P fuel fn.ntmps (xsOf fn c) (dropSeq k c)).run (evO P fuel o depth) env U)

def Wins (P : Program) (fuel depth : Nat) (f : FuncId) (fn : Func) (c : Code) (l : List Value) (wB : World) (k0 : Nat) (env : Env) (U : W) : Prop :=
  ∃ o r, OrcOk P (symG l) wB o ∧ isB true (ending P (evO P fuel o depth) fuel f w02 r) = true ∧ ∀ (B : Nat) (cs0 : List Frame) (g0 : Gh) (W0 : W) (w0 : World) (g : Gh) (a : Act) (cs : List Frame) (w : World), Bs (symG l) wB B g0 W0 w0 →
    St P false B fn.ntmps (xsOf fn c) cs0 g0 W0 w0 [] env [] U g a cs w → Goes P false (dropSeq k0 c) (Post P false B fn.ntmps (xsOf fn c) cs0 g0 W0 w0 r) a cs w

theorem not_no {o : FuncId → List Value → Option Value} {r : Ou} (h : isB true (ending P (evO P fuel o depth) fuel f w02 r) = true) : ∀ y, r ≠ .no y := by
  intro y e
  subst e
  cases h

theorem Wins.fin (hP : NoNum P) (hm : P.follows .mixedOrders = true) (q3 : fn.ntmps ≤ 256) {k0 : Nat} {env : Env} {U : W} {o : FuncId → List Value → Option Value} (ho : OrcOk P (symG l) wB o) (h : isB true (lawEnd P fuel depth f fn c o k0 env U) = true) : Wins P fuel depth f fn c l wB k0 env U := by
  refine ⟨o, _, ho, h, fun B cs0 g0 W0 w0 g a cs w hB hs => ?_⟩
  exact (code_ok hP (evO_ok hP hm ho fuel depth) hB q3 hm fuel (dropSeq k0 c) _ _ _ _ _ _ hs).elim (not_no h)

theorem Wins.sub {k0 : Nat} {env : Env} {U : W} {t k : Nat} {v : Value} (ht : has (xsOf fn c) t = true) (hb : t < 256) (hv : l[k]? = some v) (hs : ∀ g, RV g v v) (h : Wins P fuel depth f fn c l wB k0 (subE t k v env) U) : Wins P fuel depth f fn c l wB k0 env U := by
  obtain ⟨o, r, ho, hr, hg⟩ := h
  refine ⟨o, r, ho, hr, fun B cs0 g0 W0 w0 g a cs w hB hst => hg B cs0 g0 W0 w0 g a cs w hB ?_⟩
  exact { hst with sl := subE_sl (hB.gle.trans hst.ext.ex.le) hst.sl ht hb hv (hs g) }

theorem drop_succ : ∀ (k : Nat) (c x y : Code), dropSeq k c = .seq x y → dropSeq (k + 1) c = y
  | 0, c, x, y, h => by
    have h : c = .seq x y := h
    subst h; rfl
  | k + 1, c, x, y, h => by
    cases c with
    | seq p q => exact drop_succ k q x y h
    | _ => cases h

theorem Wins.stage (hP : NoNum P) (hm : P.follows .mixedOrders = true) (q3 : fn.ntmps ≤ 256) {o : FuncId → List Value → Option Value} (ho : OrcOk P (symG l) wB o) : ∀ (k k0 : Nat) (env env1 : Env) (U U1 : W), Cx.stage P fuel depth fn c o k0 k env U = .go env1 U1 → Wins P fuel depth f fn c l wB (k0 + k) env1 U1 → Wins P fuel depth f fn c l wB k0 env U
  | 0, k0, env, env1, U, U1, h1, h => by cases h1; exact h
  | k + 1, k0, env, env1, U, U1, h1, h => by
    unfold Cx.stage at h1
    cases hc : dropSeq k0 c with
    | seq x y =>
      rw [hc] at h1
      have h1 : Ou.rec (motive := fun _ => Ou) (preSeq P fuel fn.ntmps (xsOf fn c) (evO P fuel o depth) k y) (fun _ _ _ => .no 151) (fun _ _ => .no 151) (fun _ _ _ => .no 151) Ou.no ((cCode P fuel fn.ntmps (xsOf fn c) x).run (evO P fuel o depth) env U) = .go env1 U1 := h1
      cases hr : (cCode P fuel fn.ntmps (xsOf fn c) x).run (evO P fuel o depth) env U with
      | go env2 U2 =>
        rw [hr] at h1
        have hy := drop_succ k0 c x y hc
        have h2 : Cx.stage P fuel depth fn c o (k0 + 1) k env2 U2 = .go env1 U1 := by unfold Cx.stage; rw [hy]; exact h1
        have e : k0 + (k + 1) = k0 + 1 + k := by omega
        rw [e] at h
        obtain ⟨o2, r, ho2, hr2, hg⟩ := Wins.stage hP hm q3 ho k (k0 + 1) env2 env1 U2 U1 h2 h
        refine ⟨o2, r, ho2, hr2, fun B cs0 g0 W0 w0 g a cs w hB hst => ?_⟩
        have hx := code_ok hP (evO_ok hP hm ho fuel depth) hB q3 hm fuel x _ _ _ _ _ _ hst
        rw [hr] at hx
        have hx : Goes P false x (Post P false B fn.ntmps (xsOf fn c) cs0 g0 W0 w0 (.go env2 U2)) a cs w := hx
        rw [hc]
        intro b kk hb
        obtain ⟨e, a1, cs1, w1, ⟨rfl, g1, hs1⟩, harr⟩ := hx b (.code y :: kk) hb
        have hy2 := hg B cs0 g0 W0 w0 g1 a1 cs1 w1 hB hs1
        rw [hy] at hy2
        obtain ⟨e2, a2, cs2, w2, hq2, harr2⟩ := hy2 b kk hb
        exact ⟨e2, a2, cs2, w2, hq2, .of_steps (.head step_seq harr) harr2⟩
      | ex _ _ _ => rw [hr] at h1; cases h1
      | ret _ _ => rw [hr] at h1; cases h1
      | pan _ _ _ => rw [hr] at h1; cases h1
      | no _ => rw [hr] at h1; cases h1
    | _ => rw [hc] at h1; cases h1

theorem Wins.calls (hP : NoNum P) (hm : P.follows .mixedOrders = true) (q1 : P.funcs[f]? = some fn) (q2 : fn.body = some c) {args args' : List Value} (hl : args.length ≤ 256) (ha : All2 (RV (symG l)) args args') (h : Wins P fuel depth f fn c l wB 0 (env0 args 0 env00) w02) :
    Calls P f ⟨args'⟩ wB fun e w' => e = .returned (.bool true) ∧ Below wB.heap.size wB w' := by
  obtain ⟨o, r, ho, hr, hg⟩ := h
  refine call_of (gB := symG l) ?_ hr
  have hB : Bs (symG l) wB wB.heap.size (symG l) w02 wB := ⟨GLe.refl _, Below.refl _ _, Nat.le_refl _, rel_start (symG_one l) wB⟩
  refine fn_end hP hm (evO_ok hP hm ho fuel depth) q1 q2 hB fun cs => Meets.of ?_
  exact hg wB.heap.size cs _ _ wB _ _ cs wB hB (fn_start (P := P) (fn := fn) (c := c) (rel_start (symG_one l) wB) ha hl cs)

end stages
end Go.Cx
namespace Go.Cx
open Go Go.RowKit Go.ChangeShapes Go.WideShapes Go.ChangeAt

section
variable {H : Type} {enc : TypeId × Value → H} {P : Program}

theorem trodAll_stays (hl : laidOutB P = true) {W W' : World} (hb : Below W.heap.size W W') {sp : Nat → Bool} : ∀ {ts : List TypeId} {vs : List Value} {ds : List (DataW H)} {ps : List MemPlace}, (∀ t ∈ ts, P.readableRec t = true ∧ t < P.types.size) →
    (∀ p ∈ ps, p.block < W.heap.size ∧ sp p.block = true) → DataW.TrodAll enc P W 0 (fun _ => true) true ts vs ds ps → DataW.TrodAll enc P W' 0 sp true ts vs ds ps
  | [], [], [], _, _, _, h => h
  | [], [], _ :: _, _, _, _, h => h.elim
  | [], _ :: _, [], _, _, _, h => h.elim
  | [], _ :: _, _ :: _, _, _, _, h => h.elim
  | _ :: _, [], [], _, _, _, h => h.elim
  | _ :: _, [], _ :: _, _, _, _, h => h.elim
  | _ :: _, _ :: _, [], _, _, _, h => h.elim
  | t :: ts, v :: vs, d :: ds, ps, hr, hps, h => by
    obtain ⟨p, q, h1, h2, rfl⟩ := h
    refine ⟨p, q, ?_, trodAll_stays hl hb (fun t ht => hr t (by simp [ht])) (fun x hx => hps x (by simp [hx])) h2, rfl⟩
    exact WideElems.Trod_stays hl (hr t (by simp)).1 (hr t (by simp)).2 h1 (fun x hx => hb.same (hps x (by simp [hx])).1) (fun x hx => (hps x (by simp [hx])).2)

theorem post_of_below {f : Func} {s : ChangeSpec} {apart fresh handsOn again : Bool} {W W' : World} {args : Array Value} {v : Value} {ds gs : List (DataW H)} {before pa pv : List MemPlace}
    (hW : DataW.Whole enc P f.params.toList s.vars apart W args.toList ds gs before)
    (hres : ∀ (b : Nat) (sp : Nat → Bool) (hd : Bool), DataW.TrodAll enc P W' b sp hd f.resultTypes.toList (v.resultList f.resultTypes.size) (s.fn H (ds ++ gs)).results [])
    (hargs : ∀ sp : Nat → Bool, (∀ p ∈ before, sp p.block = true) → DataW.TrodAll enc P W' 0 sp true f.params.toList args.toList (s.fn H (ds ++ gs)).args pa)
    (hvars : ∀ sp : Nat → Bool, (∀ p ∈ before, sp p.block = true) → DataW.TrodVars enc P W' sp s.vars (s.fn H (ds ++ gs)).vars pv)
    (hps : before = pa ++ pv) (hb : Below W.heap.size W W')
    (hok : ∀ (j : Nat) (t : TypeId) (r : Value), f.resultTypes[j]? = some t → (v.resultList f.resultTypes.size)[j]? = some r → Value.okWide P W' .any 0 t r) :
    s.post enc P f apart fresh handsOn again W args v W' := by
  have hlt : ∀ p ∈ before, p.block < W.heap.size := fun p hp => hW.lt p hp
  have hold : ∀ p ∈ before, (fun b => decide (b < W.heap.size)) p.block = true := fun p hp => by simpa using hlt p hp
  refine ⟨ds, gs, before, [], pa, pv, hW, hres _ _ _, hargs _ hold, hvars _ hold, World.keptBut_mono (fun p hp => ⟨hp, ?_⟩) (hb.frame (· ∈ before)), fun _ => ?_⟩
  · rw [hps, List.mem_append] at hp
    exact Or.inr hp
  · obtain ⟨_, _, _, _, _, hz, hn⟩ := hW
    refine ⟨hok, _, _, ([] ++ pa) ++ pv, ⟨[] ++ pa, pv, trodAll_append (hargs _ (fun _ _ => rfl)) (hres _ _ _), hvars _ (fun _ _ => rfl), rfl, ?_, ?_⟩, ?_⟩
    · intro b off hp
      have hin : MemPlace.cell b off ∈ before := by rw [hps]; simpa using hp
      rw [hb.frozen (hlt _ hin)]
      exact hz b off hin
    · intro ha
      have := hn ha
      rw [hps] at this
      simpa using this
    · intro p hp _
      rw [hps]
      simpa using hp

theorem law_post {f : Func} {s : ChangeSpec} {apart fresh handsOn again : Bool} {W W' : World} {args : Array Value} {ds gs : List (DataW H)} {before : List MemPlace} {tb : TypeId}
    (hl : laidOutB P = true) (hr : ∀ t ∈ f.params.toList, P.readableRec t = true ∧ t < P.types.size) (hv : s.vars = []) (hres : f.resultTypes = #[tb]) (htb : P.underlying tb = some .bool)
    (hfn : ∀ ds : List (DataW H), ds.length = f.params.size → s.fn H ds = { results := [.lit (.bool true)], args := ds })
    (hW : DataW.Whole enc P f.params.toList s.vars apart W args.toList ds gs before) (hb : Below W.heap.size W W') : s.post enc P f apart fresh handsOn again W args (.bool true) W' := by
  have hW' := hW
  obtain ⟨p, q, hA, hV, hpq, hfz, hnd⟩ := hW
  have hV2 := hV
  rw [hv] at hV2
  obtain ⟨rfl, rfl⟩ := trodVars_none hV2
  have hlen : ∀ {ts : List TypeId} {vs : List Value} {ds : List (DataW H)} {ps : List MemPlace}, DataW.TrodAll enc P W 0 (fun _ => true) true ts vs ds ps → ds.length = ts.length := by
    intro ts
    induction ts with
    | nil => intro vs ds ps h; match vs, ds, h with | [], [], _ => rfl
    | cons t ts ih =>
      intro vs ds ps h
      match vs, ds, h with
      | v :: vs, d :: ds, ⟨_, _, _, h2, _⟩ => simp [ih h2]
  have hdl : ds.length = f.params.size := by have := hlen hA; simpa using this
  have hfd := hfn ds hdl
  have hlt : ∀ x ∈ before, x.block < W.heap.size := fun x hx => hW'.lt x hx
  subst hpq
  refine post_of_below (pa := p) (pv := []) hW' ?_ ?_ ?_ rfl hb (ok_one hres rfl (okWide_bool_mk htb true))
  · intro b sp hd
    rw [List.append_nil, hfd, hres]
    exact trodAll_mk1 (shut_bool htb true)
  · intro sp hsp
    rw [List.append_nil, hfd]
    exact trodAll_stays hl hb hr (fun x hx => ⟨hlt x (by simpa using hx), hsp x (by simpa using hx)⟩) hA
  · intro sp _
    rw [List.append_nil, hfd, hv]
    exact rfl
end
end Go.Cx
namespace Go.Cx
open Go

def reG (g : Gh) (p : Nat → Nat) : Gh := fun i k => g (p i) k

noncomputable def sameAd (p : Nat → Nat) (a b : Addr) : Bool := Nat.beq (p a.block) b.block && (Nat.beq a.off b.off && Nat.beq (genOf a.spot) (genOf b.spot))
noncomputable def sameC (p : Nat → Nat) (a b : Value) : Bool := match a, b with
  | .pointer (some x), .pointer (some y) => sameAd p x y
  | .slice (some x) n c, .slice (some y) m d => sameAd p x y && (Nat.beq n m && (Nat.beq c d && (Nat.beq x.block 0 || !(Nat.beq y.block 0))))
  | .map (some x), .map (some y) => Nat.beq (p x) y
  | .chan (some x), .chan (some y) => Nat.beq (p x) y
  | .complex .f32 k 2, .complex .f32 k' 2 => Nat.beq k k'
  | .pointer (some _), _ => false
  | .slice (some _) _ _, _ => false
  | .map (some _), _ => false
  | .chan (some _), _ => false
  | a, b => eqC a b
noncomputable def sameL (p : Nat → Nat) : List Value → List Value → Bool
  | [], [] => true
  | x :: l, y :: m => sameC p x y && sameL p l m
  | _, _ => false
noncomputable def sameLL (p : Nat → Nat) : List (List Value) → List (List Value) → Bool
  | [], [] => true
  | x :: l, y :: m => sameL p x y && sameLL p l m
  | _, _ => false
noncomputable def sameV (p : Nat → Nat) (a b : Value) : Bool := match a, b with
  | .complex .f32 0 1, _ => true
  | .agg xs, .agg ys => sameL p xs.toList ys.toList
  | .tuple ⟨[]⟩, .tuple ⟨[]⟩ => true
  | a, b => sameC p a b
noncomputable def sameO (p : Nat → Nat) (a b : Ob) : Bool := match a, b with
  | .row cs ln _ e fix gen flo, .row cs' ln' _ e' fix' gen' flo' => sameLL p cs cs' && (Nat.beq ln ln' && (Nat.beq e e' && ((fix == fix') && (Nat.beq gen gen' && Nat.beq flo flo'))))
  | _, _ => false

def isCellV (v : Value) : Bool := match v with
  | .agg _ => false
  | .tuple _ => false
  | .complex .f32 _ 1 => false
  | _ => true

section
variable {g : Gh} {p : Nat → Nat}

theorem genOf_zero {s : Option Nat} (h : genOf s = 0) : s = none := by
  cases s with
  | none => rfl
  | some k => cases h

theorem sameAd_spec {a b : Addr} (h : sameAd p a b = true) : p a.block = b.block ∧ a.off = b.off ∧ genOf a.spot = genOf b.spot := by
  unfold sameAd at h
  simp only [Bool.and_eq_true] at h
  exact ⟨Nat.eq_of_beq_eq_true h.1, Nat.eq_of_beq_eq_true h.2.1, Nat.eq_of_beq_eq_true h.2.2⟩

theorem sameC_ri (hp : p 1 = 1) {a b x : Value} (h : sameC p a b = true) (hr : RC g b x) : RC (reG g p) a x := by
  unfold sameC at h
  split at h
  · rename_i x1 y
    obtain ⟨h1, h2, h3⟩ := sameAd_spec h
    obtain ⟨i, o, s⟩ := x1
    obtain ⟨i', o', s'⟩ := y
    dsimp only at h1 h2 h3
    subst h1 h2
    cases hr with
    | base hr =>
      cases hr with
      | same hc => cases hc
      | ptr hg hc => exact .base (.ptr (by unfold reG; rw [h3]; exact hg) hc)
  · rename_i x1 n c y m d
    simp only [Bool.and_eq_true, Bool.or_eq_true, Bool.not_eq_true'] at h
    obtain ⟨h0, hn, hc, hz⟩ := h
    obtain ⟨h1, h2, h3⟩ := sameAd_spec h0
    have hn := Nat.eq_of_beq_eq_true hn
    have hc := Nat.eq_of_beq_eq_true hc
    subst hn hc
    obtain ⟨i, o, s⟩ := x1
    obtain ⟨i', o', s'⟩ := y
    dsimp only at h1 h2 h3 hz
    subst h2
    cases hr with
    | base hr =>
      cases hr with
      | same hc => cases hc
      | slice hg hc hn hl ha => exact .base (.slice (by unfold reG; rw [h1, h3]; exact hg) hc hn hl ha)
      | slice0 =>
        rcases hz with hz | hz
        · have := Nat.eq_of_beq_eq_true hz
          subst this
          have := genOf_zero h3
          subst this
          exact .base .slice0
        · cases hz
  · rename_i x1 y
    have := Nat.eq_of_beq_eq_true h
    subst this
    cases hr with
    | base hr =>
      cases hr with
      | same hc => cases hc
      | map hg => exact .base (.map hg)
  · rename_i x1 y
    have := Nat.eq_of_beq_eq_true h
    subst this
    cases hr with
    | base hr =>
      cases hr with
      | same hc => cases hc
      | chan hg => exact .base (.chan hg)
  · rename_i k k'
    have := Nat.eq_of_beq_eq_true h
    subst this
    cases hr with
    | base hr => cases hr; rename_i hc; cases hc
    | sym hg h1 => exact .sym (by unfold reG; rw [hp]; exact hg) h1
  · cases h
  · cases h
  · cases h
  · cases h
  · rename_i n1 n2 n3 n4 n5 n6 n7 n8 n9
    have := eqC_eq h
    subst this
    cases hr with
    | base hr =>
      cases hr with
      | same hc => exact .base (.same hc)
      | ptr hg hc => exact (n1 _ rfl).elim
      | slice hg hc hn hl ha => exact (n2 _ _ _ rfl).elim
      | slice0 => exact (n2 _ _ _ rfl).elim
      | map hg => exact (n3 _ rfl).elim
      | chan hg => exact (n4 _ rfl).elim
      | glob => exact .base .glob
    | func ha hb => cases h
    | sym hg h1 => exact (n9 _ _ rfl rfl).elim

theorem sameL_spec : ∀ {l m : List Value}, sameL p l m = true → l.length = m.length ∧ ∀ (x : Nat) (v : Value), m[x]? = some v → ∃ u, l[x]? = some u ∧ sameC p u v = true
  | [], [], _ => ⟨rfl, fun x v h => by simp at h⟩
  | [], _ :: _, h => by cases h
  | _ :: _, [], h => by cases h
  | a :: l, b :: m, h => by
    unfold sameL at h
    rw [Bool.and_eq_true] at h
    obtain ⟨h1, h2⟩ := sameL_spec h.2
    refine ⟨by simp [h1], fun x v hx => ?_⟩
    cases x with
    | zero => simp at hx; subst hx; exact ⟨a, rfl, h.1⟩
    | succ x => simpa using h2 x v (by simpa using hx)

theorem sameL_append : ∀ {l m l' m' : List Value}, sameL p l m = true → sameL p l' m' = true → sameL p (l ++ l') (m ++ m') = true
  | [], [], _, _, _, h => h
  | [], _ :: _, _, _, h, _ => by cases h
  | _ :: _, [], _, _, h, _ => by cases h
  | a :: l, b :: m, l', m', h, h' => by
    unfold sameL at h
    rw [Bool.and_eq_true] at h
    show (sameC p a b && sameL p (l ++ l') (m ++ m')) = true
    rw [h.1, sameL_append h.2 h']; rfl

theorem sameLL_flat : ∀ {l m : List (List Value)}, sameLL p l m = true → sameL p l.flatten m.flatten = true
  | [], [], _ => rfl
  | [], _ :: _, h => by cases h
  | _ :: _, [], h => by cases h
  | a :: l, b :: m, h => by
    unfold sameLL at h
    rw [Bool.and_eq_true] at h
    rw [List.flatten_cons, List.flatten_cons]
    exact sameL_append h.1 (sameLL_flat h.2)

theorem sameLL_wf : ∀ {l m : List (List Value)}, sameLL p l m = true → Wf m → Wf l
  | [], [], _, _ => trivial
  | [], _ :: _, h, _ => by cases h
  | _ :: _, [], h, _ => by cases h
  | [a], [b], h, hw => by
    unfold sameLL at h
    rw [Bool.and_eq_true] at h
    have := (sameL_spec h.1).1
    obtain ⟨h1, h2⟩ := hw
    exact ⟨by omega, fun e => h2 (List.eq_nil_of_length_eq_zero (by rw [← this, e]; rfl))⟩
  | [a], b :: c :: m, h, hw => by
    unfold sameLL at h
    rw [Bool.and_eq_true] at h
    cases h.2
  | a :: c :: l, [b], h, hw => by
    unfold sameLL at h
    rw [Bool.and_eq_true] at h
    cases h.2
  | a :: c :: l, b :: d :: m, h, hw => by
    unfold sameLL at h
    rw [Bool.and_eq_true] at h
    have := (sameL_spec h.1).1
    exact ⟨by rw [this]; exact hw.1, sameLL_wf h.2 hw.2⟩

theorem notC' {a b : Value} (h : eqC a b = true) (hb : isCellV b = true → False) : False := by
  have e := eqC_eq h
  subst e
  unfold eqC at h
  split at h
  all_goals first | exact hb rfl | cases h
theorem notC {a b : Value} (h : sameC p a b = true) (hb : isCellV b = true → False) : False := by
  unfold sameC at h
  split at h
  all_goals first
    | exact hb rfl
    | cases h
    | exact notC' h hb
theorem symC (hp : p 1 = 1) {a : Value} {k : Nat} {cp : Cp} (h : sameC p a (.complex .f32 k 2) = true) (hg : g 1 k = some cp) : R1 (reG g p) a cp.val := by
  unfold sameC at h
  split at h
  all_goals first
    | (rename_i e; cases e; done)
    | cases h
    | skip
  · rename_i e
    cases e
    have := Nat.eq_of_beq_eq_true h
    subst this
    exact .sym (by unfold reG; rw [hp]; exact hg)
  · have e := eqC_eq h
    subst e
    cases h

theorem sameV_rv (hp : p 1 = 1) {a b x : Value} (h : sameV p a b = true) (hr : RV g b x) : RV (reG g p) a x := by
  unfold sameV at h
  split at h
  · exact junk_rv
  · rename_i xs ys
    obtain ⟨h1, h2⟩ := sameL_spec h
    cases hr with
    | one hr =>
      cases hr with
      | cell hr =>
        cases hr with
        | base hr => cases hr; rename_i hc; cases hc
      | agg hl =>
        rename_i l l'
        refine .one (.agg (l := xs.toList) ?_)
        refine All2.of_get (by rw [h1, ← hl.length]) fun i u v hu hv => ?_
        obtain ⟨b, hb⟩ : ∃ b, l[i]? = some b := by
          have : i < l.length := by rw [hl.length]; exact (List.getElem?_eq_some_iff.1 hv).1
          exact ⟨_, List.getElem?_eq_getElem this⟩
        obtain ⟨u', hu', hs⟩ := h2 i b hb
        rw [hu] at hu'
        cases hu'
        obtain ⟨v2, hv2, hrc⟩ := hl.get hb
        rw [hv] at hv2
        cases hv2
        exact sameC_ri hp hs hrc
  · rw [hr.unit]
    exact .tuple .nil
  · rename_i n1 n2 n3
    have key : ∀ {y}, RC g b y → RC (reG g p) a y := fun hy => sameC_ri hp h hy
    cases hr with
    | one hr =>
      cases hr with
      | cell hr => exact .one (.cell (key hr))
      | agg hl => exact (notC h (by intro hc; cases hc)).elim
      | junk => exact (notC h (by intro hc; cases hc)).elim
      | sym hg => exact .one (symC hp h hg)
    | tuple hl => exact (notC h (by intro hc; cases hc)).elim

theorem sameO_spec (hp : p 1 = 1) {w : World} {B i : Nat} {a b : Ob} (h : sameO p a b = true) (hb : ObAt g w B (p i) b) : ObAt (reG g p) w B i a ∧ floor a = floor b := by
  unfold sameO at h
  split at h
  · rename_i cs ln t e fix gen flo cs' ln' t' e' fix' gen' flo'
    simp only [Bool.and_eq_true, beq_iff_eq] at h
    obtain ⟨h0, h1, h2, h3, h4, h5⟩ := h
    have h1 := Nat.eq_of_beq_eq_true h1
    have h2 := Nat.eq_of_beq_eq_true h2
    have h4 := Nat.eq_of_beq_eq_true h4
    have h5 := Nat.eq_of_beq_eq_true h5
    subst h1 h2 h3 h4 h5
    refine ⟨?_, rfl⟩
    obtain ⟨k1, k2, k3, k4, k5⟩ := hb
    obtain ⟨hl, hc⟩ := sameL_spec (sameLL_flat h0)
    refine ⟨sameLL_wf h0 k1, by rw [hl]; exact k2, k3, fun k k' c c' hk hk' => k4 k k' c c' hk hk', fun k cp hk => ⟨(k5 k cp hk).1, fun hf => ⟨?_, ((k5 k cp hk).2 hf).2⟩⟩⟩
    obtain ⟨q1, q2, q3, q4, q5, q6, vec, tt, fr, r1, r2, r3, r4⟩ := ((k5 k cp hk).2 hf).1
    refine ⟨q1, q2, by rw [hl]; exact q3, q4, q5, q6, vec, tt, fr, r1, r2, r3, fun x hx1 hx2 => ?_⟩
    obtain ⟨v, v', e1, e2, e3⟩ := r4 x hx1 hx2
    obtain ⟨u, hu, hs⟩ := hc x v e1
    exact ⟨u, v', hu, e2, sameC_ri hp hs e3⟩
  · cases h

end

noncomputable def bld (l : List (Nat × Ob)) : Hp := List.rec (motive := fun _ => Hp) hp0 (fun x _ ih => hset ih x.1 x.2) l

theorem bld_mem : ∀ {l : List (Nat × Ob)} {i : Nat} {o : Ob}, i < 65536 → (∀ x ∈ l, x.1 < 65536) → hget (bld l) i = some o → (i, o) ∈ l
  | [], i, o, _, _, h => by
    have h : hget hp0 i = some o := h
    rw [hget_hp0] at h; cases h
  | (j, ob) :: l, i, o, hi, hl, h => by
    have h : hget (hset (bld l) j ob) i = some o := h
    by_cases e : i = j
    · subst e
      rw [hget_hset] at h
      cases h
      exact List.mem_cons_self
    · rw [hget_hset' hi (hl (j, ob) List.mem_cons_self) e] at h
      exact List.mem_cons_of_mem _ (bld_mem hi (fun x hx => hl x (List.mem_cons_of_mem _ hx)) h)

noncomputable def chkL (p : Nat → Nat) (n : Nat) (h : Hp) (l : List (Nat × Ob)) : Nat → Bool :=
  List.rec (motive := fun _ => Nat → Bool) (fun _ => true) (fun x _ ih last =>
    Nat.ble 1 x.1 && (Nat.ble (Nat.succ x.1) n && (Nat.ble (Nat.succ (p x.1)) 65536 && (Nat.ble (Nat.succ last) (p x.1) && (Option.rec (motive := fun _ => Bool) false (fun o => sameO p x.2 o) (hget h (p x.1)) && ih (p x.1)))))) l

theorem chkL_cons {p : Nat → Nat} {n : Nat} {h : Hp} {x : Nat × Ob} {l : List (Nat × Ob)} {last : Nat} (hc : chkL p n h (x :: l) last = true) :
    0 < x.1 ∧ x.1 < n ∧ p x.1 < 65536 ∧ last < p x.1 ∧ (∃ o, hget h (p x.1) = some o ∧ sameO p x.2 o = true) ∧ chkL p n h l (p x.1) = true := by
  have hc : (Nat.ble 1 x.1 && (Nat.ble (Nat.succ x.1) n && (Nat.ble (Nat.succ (p x.1)) 65536 && (Nat.ble (Nat.succ last) (p x.1) && (Option.rec (motive := fun _ => Bool) false (fun o => sameO p x.2 o) (hget h (p x.1)) && chkL p n h l (p x.1)))))) = true := hc
  simp only [Bool.and_eq_true] at hc
  obtain ⟨h1, h2, h0, h3, h4, h5⟩ := hc
  refine ⟨Nat.le_of_ble_eq_true h1, Nat.le_of_ble_eq_true h2, Nat.le_of_ble_eq_true h0, Nat.le_of_ble_eq_true h3, ?_, h5⟩
  cases ho : hget h (p x.1) with
  | none => rw [ho] at h4; cases h4
  | some o => rw [ho] at h4; exact ⟨o, rfl, h4⟩

theorem chkL_spec {p : Nat → Nat} {n : Nat} {h : Hp} : ∀ {l : List (Nat × Ob)} {last : Nat}, chkL p n h l last = true →
    (∀ x ∈ l, 0 < x.1 ∧ x.1 < n ∧ p x.1 < 65536 ∧ last < p x.1 ∧ ∃ o, hget h (p x.1) = some o ∧ sameO p x.2 o = true) ∧ ∀ x ∈ l, ∀ y ∈ l, x.1 ≠ y.1 → p x.1 ≠ p y.1
  | [], _, _ => ⟨fun _ hx => absurd hx List.not_mem_nil, fun _ hx => absurd hx List.not_mem_nil⟩
  | x :: l, last, hc => by
    obtain ⟨h1, h2, h0, h3, h4, h5⟩ := chkL_cons hc
    obtain ⟨i1, i2⟩ := chkL_spec h5
    refine ⟨fun y hy => ?_, fun y hy z hz hne => ?_⟩
    · rcases List.mem_cons.1 hy with rfl | hy
      · exact ⟨h1, h2, h0, h3, h4⟩
      · obtain ⟨a, b, c0, c, d⟩ := i1 y hy
        exact ⟨a, b, c0, by omega, d⟩
    · rcases List.mem_cons.1 hy with e1 | hy2 <;> rcases List.mem_cons.1 hz with e2 | hz2
      · exact absurd (by rw [e1, e2]) hne
      · have := (i1 z hz2).2.2.2.1; rw [e1]; omega
      · have := (i1 y hy2).2.2.2.1; rw [e2]; omega
      · exact i2 y hy2 z hz2 hne

section
variable {g g0 : Gh} {p : Nat → Nat} {B n n' base : Nat} {h : Hp} {w w0 : World} {l : List (Nat × Ob)}

theorem live_old (hp : p 1 = 1) (hr : Rel g B h n w) (hn : n' ≤ 65536) (hc : chkL p n' h l 0 = true) {i k : Nat} (hl : Live (bld l) i k) : (∃ o, (i, o) ∈ l) ∧ Live h (p i) k := by
  obtain ⟨hi, o, ho, hf⟩ := hl
  obtain ⟨c1, c2⟩ := chkL_spec hc
  have hm := bld_mem hi (fun x hx => by have := (c1 x hx).2.1; omega) ho
  obtain ⟨_, _, hp', _, o', ho', hs⟩ := c1 _ hm
  exact ⟨⟨o, hm⟩, hp', o', ho', by rw [← (sameO_spec (B := B) (w := w) (g := g) hp hs (hr.obs _ _ hp' ho')).2]; exact hf⟩

theorem rel_cut (hp : p 1 = 1) (hp0 : p 0 = 0) (hpn : ∀ i, n' ≤ i → p i = 0) (hr : Rel g B h n w) (h0 : 0 < n') (hn : n' ≤ 65536) (hc : chkL p n' h l 0 = true) : Rel (reG g p) B (bld l) n' w := by
  obtain ⟨c1, c2⟩ := chkL_spec hc
  have hmem : ∀ {i o}, i < 65536 → hget (bld l) i = some o → (i, o) ∈ l := fun hi ho => bld_mem hi (fun x hx => by have := (c1 x hx).2.1; omega) ho
  refine ⟨h0, hn, hr.base, fun i k cp hg => ?_, fun i o hi ho => ?_, fun i o hi ho => ?_, fun i i' k k' cp cp' hne hl hl' hg hg' => ?_, fun i k cp hl hg => hr.lt _ _ _ (live_old hp hr hn hc hl).2 hg, fun i k cp hl hg => hr.low _ _ _ (live_old hp hr hn hc hl).2 hg⟩
  · have hg : g (p i) k = some cp := hg
    have hd := (hr.dom _ _ _ hg).1
    constructor
    · rcases Nat.eq_zero_or_pos i with rfl | h
      · rw [hp0] at hd; omega
      · exact h
    · rcases Nat.lt_or_ge i n' with h | h
      · exact h
      · rw [hpn i h] at hd; omega
  · have := c1 _ (hmem hi ho)
    exact ⟨this.1, this.2.1⟩
  · obtain ⟨_, _, hp', _, o', ho', hs⟩ := c1 _ (hmem hi ho)
    exact (sameO_spec hp hs (hr.obs _ _ hp' ho')).1
  · obtain ⟨⟨o, hm⟩, hl1⟩ := live_old hp hr hn hc hl
    obtain ⟨⟨o', hm'⟩, hl2⟩ := live_old hp hr hn hc hl'
    exact hr.dis _ _ _ _ _ _ (c2 _ hm _ hm' hne) hl1 hl2 hg hg'

theorem ext_cut (hp : p 1 = 1) (hp0 : p 0 = 0) (hpb : ∀ i, i < base → p i = i) (hpn : ∀ i, n' ≤ i → p i = 0) {h0 : Hp} (hx : Ext g0 B h0 base w0 g h n w) (hd0 : ∀ i k cp, g0 i k = some cp → i < base) (hb : 0 < base) (hbn : base ≤ n') (hn : n' ≤ 65536) (hc : chkL p n' h l 0 = true) :
    Ext g0 B h0 base w0 (reG g p) (bld l) n' w := by
  have hr := hx.rel
  refine ⟨rel_cut hp hp0 hpn hr (by omega) hn hc, ⟨fun i k cp hg => ?_, fun i k cp hg => ?_, hbn, hx.ex.size, hx.ex.os, hx.ex.tape, hx.ex.output, hx.ex.fr, fun i k cp hl hg hlt => ?_⟩⟩
  · show g (p i) k = some cp
    rw [hpb i (hd0 i k cp hg)]
    exact hx.ex.le _ _ _ hg
  · by_cases hi : base ≤ i
    · exact .inl hi
    · have hg : g (p i) k = some cp := hg
      rw [hpb i (by omega)] at hg
      exact hx.ex.dm _ _ _ hg
  · exact hx.ex.nw _ _ _ (live_old hp hr hn hc hl).2 hg hlt

end

noncomputable def chkE (p : Nat → Nat) (xs : Nat) (env' env : Env) (m : Nat) : Bool :=
  Nat.rec (motive := fun _ => Bool) true (fun t ih => (Bool.rec (motive := fun _ => Bool) true (sameV p ((getE t).run env') ((getE t).run env)) (has xs t)) && ih) m

theorem chkE_spec {p : Nat → Nat} {xs : Nat} {env' env : Env} : ∀ {m : Nat}, chkE p xs env' env m = true → ∀ t, t < m → has xs t = true → sameV p ((getE t).run env') ((getE t).run env) = true
  | 0, _, t, ht, _ => absurd ht (Nat.not_lt_zero t)
  | m + 1, h, t, ht, hx => by
    have h : ((Bool.rec (motive := fun _ => Bool) true (sameV p ((getE m).run env') ((getE m).run env)) (has xs m) : Bool) && chkE p xs env' env m) = true := h
    rw [Bool.and_eq_true] at h
    by_cases e : t = m
    · subst e
      rw [hx] at h
      exact h.1
    · exact chkE_spec h.2 t (by omega) hx

noncomputable def cutOk (base xs : Nat) (p : Nat → Nat) (n' : Nat) (l : List (Nat × Ob)) (env' env : Env) (U : W) : Bool :=
  Nat.ble 2 base && (Nat.ble base n' && (Nat.ble n' 65536 && (U.ds.isEmpty && (chkL p n' U.h l 0 && chkE p xs env' env 256))))

noncomputable def piF (base n' : Nat) (t : Hp) (i : Nat) : Nat :=
  Bool.rec (motive := fun _ => Nat) i (Bool.rec (motive := fun _ => Nat) 0 (match hget t i with | some (.iter _ j) => j | _ => 0) (Nat.ble (Nat.succ i) n')) (Nat.ble base i)

theorem piF_low {base n' : Nat} {t : Hp} {i : Nat} (h : i < base) : piF base n' t i = i := by
  unfold piF
  cases hb : Nat.ble base i with
  | false => rfl
  | true => have := Nat.le_of_ble_eq_true hb; omega
theorem piF_high {base n' : Nat} {t : Hp} {i : Nat} (h : base ≤ i) (hn : n' ≤ i) : piF base n' t i = 0 := by
  unfold piF
  rw [Nat.ble_eq_true_of_le h]
  cases hb : Nat.ble (Nat.succ i) n' with
  | false => rfl
  | true => have := Nat.le_of_ble_eq_true hb; omega

theorem St.cut {P : Program} {B N xs : Nat} {dm : Bool} {cs0 : List Frame} {g0 : Gh} {W0 : W} {w0 : World} {env env' : Env} {U : W} {g : Gh} {a : Act} {cs : List Frame} {w : World} {t : Hp} {n' : Nat} {l : List (Nat × Ob)}
    (hs : St P dm B N xs cs0 g0 W0 w0 [] env [] U g a cs w) (hr0 : Rel g0 B W0.h W0.n w0) (hc : cutOk W0.n xs (piF W0.n n' t) n' l env' env U = true) :
    St P dm B N xs cs0 g0 W0 w0 [] env' [] ⟨bld l, n', [], U.rc⟩ (reG g (piF W0.n n' t)) a cs w := by
  unfold cutOk at hc
  simp only [Bool.and_eq_true] at hc
  obtain ⟨h1, h2, h3, h4, h5, h6⟩ := hc
  have h1 := Nat.le_of_ble_eq_true h1
  have h2 := Nat.le_of_ble_eq_true h2
  have h3 := Nat.le_of_ble_eq_true h3
  have hp1 : piF W0.n n' t 1 = 1 := piF_low (by omega)
  have hp0 : piF W0.n n' t 0 = 0 := piF_low (by omega)
  have hds : U.ds = [] := List.isEmpty_iff.1 h4
  refine ⟨ext_cut hp1 hp0 (fun i hi => piF_low hi) (fun i hi => piF_high (by omega) hi) hs.ext (fun i k cp hg => (hr0.dom i k cp hg).2) (by omega) h2 h3 h5, ⟨fun t ht ht2 => ?_, fun i t hi => by cases hi⟩, hs.own, hs.size, ?_, hs.cs⟩
  · exact sameV_rv hp1 (chkE_spec h6 t ht2 ht) (hs.sl.out t ht ht2)
  · have := hs.ds
    rw [hds] at this
    rw [all2_nil this]
    exact .nil

end Go.Cx
namespace Go.Cx
open Go Go.RowKit
variable {P : Program}

structure Cxt where
  N : Nat
  xs : Nat
  gB : Gh
  wB : World
  W0 : W

section
variable {K : Cxt}

def Ends (P : Program) (K : Cxt) (c : Code) (env : Env) (U : W) (R : Ou → Prop) : Prop :=
  ∃ r, R r ∧ (∀ y, r ≠ .no y) ∧ ∀ (B : Nat) (cs0 : List Frame) (g0 : Gh) (w0 : World) (g : Gh) (a : Act) (cs : List Frame) (w : World), Bs K.gB K.wB B g0 K.W0 w0 →
    St P false B K.N K.xs cs0 g0 K.W0 w0 [] env [] U g a cs w → Goes P false c (Post P false B K.N K.xs cs0 g0 K.W0 w0 r) a cs w

def EndsL (P : Program) (K : Cxt) (x : Code) (env : Env) (U : W) (R : Ou → Prop) : Prop :=
  ∃ r, R r ∧ (∀ y, r ≠ .no y) ∧ ∀ (B : Nat) (cs0 : List Frame) (g0 : Gh) (w0 : World) (g : Gh) (a : Act) (cs : List Frame) (w : World), Bs K.gB K.wB B g0 K.W0 w0 →
    St P false B K.N K.xs cs0 g0 K.W0 w0 [] env [] U g a cs w → ∀ (b : Frame) (k : List Item),
      ∃ e a' cs' w', Post P false B K.N K.xs cs0 g0 K.W0 w0 r e a' cs' w' ∧ Arrives P (lone (b.at a (.code x :: .inLoop x :: k)) cs w) b k cs' e a' w'

variable {env env' : Env} {U U' : W} {R : Ou → Prop} {x y : Code}

theorem Ends.eval (hP : NoNum P) (hm : P.follows .mixedOrders = true) (hN : K.N ≤ 256) {cf : CallF} (hcf : CfOk P K.gB K.wB cf) {fuel : Nat} {c : Code} {r : Ou} (h : (cCode P fuel K.N K.xs c).run cf env U = r) (hn : ∀ y, r ≠ .no y) (hR : R r) : Ends P K c env U R := by
  subst h
  exact ⟨_, hR, hn, fun B cs0 g0 w0 g a cs w hB hs => (code_ok hP hcf hB hN hm fuel c env U g a cs w hs).elim hn⟩

theorem Ends.cut {c : Code} {t : Hp} {n' : Nat} {l : List (Nat × Ob)} (hc : cutOk K.W0.n K.xs (piF K.W0.n n' t) n' l env' env U = true) (h : Ends P K c env' ⟨bld l, n', [], U.rc⟩ R) : Ends P K c env U R := by
  obtain ⟨r, h1, h2, h3⟩ := h
  exact ⟨r, h1, h2, fun B cs0 g0 w0 g a cs w hB hs => h3 B cs0 g0 w0 _ a cs w hB (hs.cut hB.rel hc)⟩
theorem EndsL.cut {t : Hp} {n' : Nat} {l : List (Nat × Ob)} (hc : cutOk K.W0.n K.xs (piF K.W0.n n' t) n' l env' env U = true) (h : EndsL P K x env' ⟨bld l, n', [], U.rc⟩ R) : EndsL P K x env U R := by
  obtain ⟨r, h1, h2, h3⟩ := h
  exact ⟨r, h1, h2, fun B cs0 g0 w0 g a cs w hB hs => h3 B cs0 g0 w0 _ a cs w hB (hs.cut hB.rel hc)⟩

def Then (R : Ou → Prop) (X : Env → W → Prop) (r : Ou) : Prop := match r with
  | .go e U => X e U
  | .no _ => False
  | r => R r

theorem Then.out {R : Ou → Prop} {X : Env → W → Prop} {r : Ou} (h : Then R X r) : (∃ e U, r = .go e U ∧ X e U) ∨ (Outs r ∧ R r) := by
  cases r with
  | go e U => exact .inl ⟨e, U, rfl, h⟩
  | no y => exact h.elim
  | _ => exact .inr ⟨trivial, h⟩

theorem Ends.seq (h : Ends P K x env U (Then R fun e U => Ends P K y e U R)) : Ends P K (.seq x y) env U R := by
  obtain ⟨r, h1, h2, h3⟩ := h
  rcases h1.out with ⟨e1, U1, rfl, r2, k1, k2, k3⟩ | ⟨ho, hr⟩
  · refine ⟨r2, k1, k2, fun B cs0 g0 w0 g a cs w hB hs b k hb => ?_⟩
    obtain ⟨e, a1, cs1, w1, ⟨rfl, g1, hs1⟩, harr⟩ := h3 B cs0 g0 w0 g a cs w hB hs b (.code y :: k) hb
    obtain ⟨e2, a2, cs2, w2, hq2, harr2⟩ := k3 B cs0 g0 w0 g1 a1 cs1 w1 hB hs1 b k hb
    exact ⟨e2, a2, cs2, w2, hq2, .of_steps (.head step_seq harr) harr2⟩
  · refine ⟨r, hr, h2, fun B cs0 g0 w0 g a cs w hB hs b k hb => ?_⟩
    obtain ⟨e, a1, cs1, w1, hq, harr⟩ := h3 B cs0 g0 w0 g a cs w hB hs b (.code y :: k) hb
    refine ⟨e, a1, cs1, w1, hq, .of_steps (.one step_seq) (.pass (x := .code y) rfl (fun _ _ => .inl ?_) harr)⟩
    intro e2; subst e2; exact post_not ho hq

theorem EndsL.step (h : Ends P K x env U (Then R fun e U => EndsL P K x e U R)) : EndsL P K x env U R := by
  obtain ⟨r, h1, h2, h3⟩ := h
  rcases h1.out with ⟨e1, U1, rfl, r2, k1, k2, k3⟩ | ⟨ho, hr⟩
  · refine ⟨r2, k1, k2, fun B cs0 g0 w0 g a cs w hB hs b k => ?_⟩
    obtain ⟨e, a1, cs1, w1, ⟨rfl, g1, hs1⟩, harr⟩ := h3 B cs0 g0 w0 g a cs w hB hs b (.inLoop x :: k) (fun e => by cases e)
    obtain ⟨e2, a2, cs2, w2, hq2, harr2⟩ := k3 B cs0 g0 w0 g1 a1 cs1 w1 hB hs1 b k
    exact ⟨e2, a2, cs2, w2, hq2, .of_steps (Steps.trans harr (.one step_inLoop)) harr2⟩
  · refine ⟨r, hr, h2, fun B cs0 g0 w0 g a cs w hB hs b k => ?_⟩
    obtain ⟨e, a1, cs1, w1, hq, harr⟩ := h3 B cs0 g0 w0 g a cs w hB hs b (.inLoop x :: k) (fun e => by cases e)
    refine ⟨e, a1, cs1, w1, hq, .pass (x := .inLoop x) rfl (fun _ _ => .inl ?_) harr⟩
    intro e2; subst e2; exact post_not ho hq

theorem Ends.loop (h : EndsL P K x env U R) : Ends P K (.loop x) env U R := by
  obtain ⟨r, h1, h2, h3⟩ := h
  refine ⟨r, h1, h2, fun B cs0 g0 w0 g a cs w hB hs b k hb => ?_⟩
  obtain ⟨e, a', cs', w', q, r⟩ := h3 B cs0 g0 w0 g a cs w hB hs b k
  exact ⟨e, a', cs', w', q, .of_steps (.one step_loop) r⟩

def OutOf (id : Nat) (R : Ou → Prop) (r : Ou) : Prop := match r with
  | .go e U => R (.go e U)
  | .ex i e U => if i = id then R (.go e U) else R (.ex i e U)
  | r => R r

theorem Ends.block {id : Nat} (h : Ends P K x env U (OutOf id R)) : Ends P K (.block id x) env U R := by
  obtain ⟨r, h1, h2, h3⟩ := h
  cases r with
  | no y => exact absurd rfl (h2 y)
  | go env1 U1 =>
    refine ⟨_, h1, h2, fun B cs0 g0 w0 g a cs w hB hs b k hb => ?_⟩
    obtain ⟨e, a1, cs1, w1, ⟨rfl, g1, hs1⟩, harr⟩ := h3 B cs0 g0 w0 g a cs w hB hs b (.inBlock id :: k) hb
    exact ⟨.normal, a1, cs1, w1, ⟨rfl, g1, hs1⟩, .head step_block (Steps.trans harr (.one step_inBlock))⟩
  | ex i env1 U1 =>
    by_cases hid : i = id
    · have h1 : (if i = id then R (.go env1 U1) else R (.ex i env1 U1)) := h1
      rw [if_pos hid] at h1
      refine ⟨_, h1, fun y e => (by cases e), fun B cs0 g0 w0 g a cs w hB hs b k hb => ?_⟩
      obtain ⟨e, a1, cs1, w1, ⟨rfl, g1, hs1⟩, harr⟩ := h3 B cs0 g0 w0 g a cs w hB hs b (.inBlock id :: k) hb
      exact ⟨.normal, a1, cs1, w1, ⟨rfl, g1, hs1⟩, .head step_block (harr k (by simp [exitTo, hid]))⟩
    · have h1 : (if i = id then R (.go env1 U1) else R (.ex i env1 U1)) := h1
      rw [if_neg hid] at h1
      refine ⟨_, h1, h2, fun B cs0 g0 w0 g a cs w hB hs b k hb => ?_⟩
      obtain ⟨e, a1, cs1, w1, ⟨rfl, g1, hs1⟩, harr⟩ := h3 B cs0 g0 w0 g a cs w hB hs b (.inBlock id :: k) hb
      refine ⟨.exit i, a1, cs1, w1, ⟨rfl, g1, hs1⟩, fun k' hk => .head step_block (harr k' ?_)⟩
      have : (id == i) = false := by simp; exact fun h => hid h.symm
      simp [exitTo, this, hk]
  | ret env1 U1 =>
    refine ⟨_, h1, h2, fun B cs0 g0 w0 g a cs w hB hs b k hb => ?_⟩
    obtain ⟨e, a1, cs1, w1, ⟨rfl, g1, hs1⟩, harr⟩ := h3 B cs0 g0 w0 g a cs w hB hs b (.inBlock id :: k) hb
    obtain ⟨todo, hsteps⟩ := harr
    exact ⟨.ret, a1, cs1, w1, ⟨rfl, g1, hs1⟩, todo, .head step_block hsteps⟩
  | pan v env1 U1 =>
    refine ⟨_, h1, h2, fun B cs0 g0 w0 g a cs w hB hs b k hb => ?_⟩
    obtain ⟨e, a1, cs1, w1, ⟨rfl, hv, g1, hs1⟩, harr⟩ := h3 B cs0 g0 w0 g a cs w hB hs b (.inBlock id :: k) hb
    obtain ⟨todo, hsteps⟩ := harr
    exact ⟨_, a1, cs1, w1, ⟨rfl, hv, g1, hs1⟩, todo, .head step_block hsteps⟩

theorem Ends.mono {c : Code} {R' : Ou → Prop} (h : Ends P K c env U R) (hr : ∀ r, R r → R' r) : Ends P K c env U R' := by
  obtain ⟨r, h1, h2, h3⟩ := h
  exact ⟨r, hr r h1, h2, h3⟩

theorem Ends.cond {c : Operand} {t : Bool} (hc : asBool ((opd K.xs [] c).run env []) = some t) (h : Ends P K (if t then x else y) env U R) : Ends P K (.cond c x y) env U R := by
  obtain ⟨r, h1, h2, h3⟩ := h
  refine ⟨r, h1, h2, fun B cs0 g0 w0 g a cs w hB hs b k hb => ?_⟩
  have hr := rdO_ok hs.sl c
  rw [← eval_rho] at hr
  have hr : RV g ((opd K.xs [] c).run env []) (a.eval c) := hr
  rw [asBool_some hc] at hr
  have he := hr.bool
  have h4 := h3 B cs0 g0 w0 g a cs w hB hs
  cases t with
  | false =>
    obtain ⟨e, a', cs', w', q, r⟩ := h4 b k hb
    exact ⟨e, a', cs', w', q, .of_steps (.one (step_cond he)) r⟩
  | true =>
    obtain ⟨e, a', cs', w', q, r⟩ := h4 b k hb
    exact ⟨e, a', cs', w', q, .of_steps (.one (step_cond he)) r⟩

theorem Ends.sub {c : Code} {l : List Value} (hl : K.gB = symG l) {t k : Nat} {v : Value} (ht : has K.xs t = true) (hb : t < 256) (hv : l[k]? = some v) (hs : ∀ g, RV g v v) (h : Ends P K c (subE t k v env) U R) : Ends P K c env U R := by
  obtain ⟨r, h1, h2, h3⟩ := h
  refine ⟨r, h1, h2, fun B cs0 g0 w0 g a cs w hB hst => h3 B cs0 g0 w0 g a cs w hB ?_⟩
  exact { hst with sl := subE_sl (hl ▸ hB.gle.trans hst.ext.ex.le) hst.sl ht hb hv (hs g) }

end

section
variable {fuel : Nat} {f : FuncId} {fn : Func} {c : Code} {l : List Value} {wB : World}

theorem Ends.calls (hP : NoNum P) (hm : P.follows .mixedOrders = true) (q1 : P.funcs[f]? = some fn) (q2 : fn.body = some c) {args args' : List Value} (hl : args.length ≤ 256) (ha : All2 (RV (symG l)) args args') {cf : CallF} (hcf : CfOk P (symG l) wB cf)
    (h : Ends P ⟨fn.ntmps, xsOf fn c, symG l, wB, w02⟩ c (env0 args 0 env00) w02 (fun r => isB true (ending P cf fuel f w02 r) = true)) :
    Calls P f ⟨args'⟩ wB fun e w' => e = .returned (.bool true) ∧ Below wB.heap.size wB w' := by
  obtain ⟨r, hr, hn, hg⟩ := h
  refine call_of (gB := symG l) ?_ hr
  have hB : Bs (symG l) wB wB.heap.size (symG l) w02 wB := ⟨GLe.refl _, Below.refl _ _, Nat.le_refl _, rel_start (symG_one l) wB⟩
  refine fn_end hP hm hcf q1 q2 hB fun cs => Meets.of ?_
  exact hg wB.heap.size cs _ wB _ _ cs wB hB (fn_start (P := P) (fn := fn) (c := c) (rel_start (symG_one l) wB) ha hl cs)

end
end Go.Cx
namespace Go.Cx
open Go
noncomputable section

def addrC (v : Value) : List Nat := match v with
  | .pointer (some a) => [a.block]
  | .slice (some a) _ _ => [a.block]
  | .map (some i) => [i]
  | .chan (some i) => [i]
  | _ => []
def addrL (l : List Value) (r : List Nat) : List Nat := List.rec (motive := fun _ => List Nat) r (fun v _ ih => app (addrC v) ih) l
def adrV (v : Value) (r : List Nat) : List Nat := match v with
  | .agg xs => addrL xs.toList r
  | v => app (addrC v) r
def markO (j : Nat) : Ob := .iter ⟨#[]⟩ j
def cellsO (o : Ob) : List Value := match o with
  | .row cs _ _ _ _ _ _ => flat cs
  | _ => []
def reach (h : Hp) (fuel : Nat) : List Nat → Hp → Hp :=
  Nat.rec (motive := fun _ => List Nat → Hp → Hp) (fun _ m => m)
    (fun _ ih st m => List.rec (motive := fun _ => Hp) m (fun i st _ => Option.rec (motive := fun _ => Hp) (Option.rec (motive := fun _ => Hp) (ih st m) (fun o => ih (addrL (cellsO o) st) (hset m i (markO 0))) (hget h i)) (fun _ => ih st m) (hget m i)) st) fuel
def marked (m : Hp) (n : Nat) : List Nat → List Nat :=
  Nat.rec (motive := fun _ => List Nat → List Nat) (fun l => l) (fun i ih l => ih (Option.rec (motive := fun _ => List Nat) l (fun _ => i :: l) (hget m i))) n
def table (l : List Nat) : Nat → Hp → Hp := List.rec (motive := fun _ => Nat → Hp → Hp) (fun _ t => t) (fun i _ ih j t => ih (Nat.succ j) (hset t j (markO i))) l
def table' (l : List Nat) : Nat → Hp → Hp := List.rec (motive := fun _ => Nat → Hp → Hp) (fun _ t => t) (fun i _ ih j t => ih (Nat.succ j) (hset t i (markO j))) l
def atT (t : Hp) (i : Nat) : Nat := match hget t i with | some (.iter _ j) => j | _ => 0
def slotsOf (xs : Nat) (m : Nat) : List Nat := Nat.rec (motive := fun _ => List Nat) [] (fun t ih => Bool.rec (motive := fun _ => List Nat) ih (app ih [t]) (has xs t)) m
def roots (ts : List Nat) (env : Env) : List Nat := List.rec (motive := fun _ => List Nat) [] (fun t _ ih => adrV ((getE t).run env) ih) ts
def olds (xs : Nat) (env : Env) (U : W) : List Nat := marked (reach U.h 1000000 (roots (slotsOf xs 256) env) hp0) U.n []

def numD (fuel : Nat) : Nat → List Nat := Nat.rec (motive := fun _ => Nat → List Nat) (fun _ => []) (fun _ ih x => Bool.rec (motive := fun _ => List Nat) (Nat.mod x 4096 :: ih (Nat.div x 4096)) [] (Nat.beq x 0)) fuel
def kindD (k : IntKind) : Nat := match k with | .i8 => 0 | .i16 => 1 | .i32 => 2 | .i64 => 3 | .u8 => 4 | .u16 => 5 | .u32 => 6 | .u64 => 7
def encC (t : Hp) (v : Value) : List Nat := match v with
  | .int .i64 (.ofNat x) => Bool.rec (motive := fun _ => List Nat) (67 :: len (numD 40 x) :: numD 40 x) [Nat.mul 8 x] (Nat.ble x 511)
  | .int .u8 (.ofNat x) => [Nat.add (Nat.mul 8 x) 1]
  | .int .i64 (.negSucc x) => [75, x]
  | .int k (.ofNat x) => 107 :: kindD k :: len (numD 40 x) :: numD 40 x
  | .pointer (some ⟨b, 0, none⟩) => [Nat.add (Nat.mul 8 (atT t b)) 2]
  | .pointer (some a) => [83, atT t a.block, a.off, genOf a.spot]
  | .slice (some a) n c => [Nat.add (Nat.mul 8 (atT t a.block)) 4, a.off, genOf a.spot, n, c]
  | .bool false => [3]
  | .bool true => [11]
  | .pointer none => [19]
  | .slice none _ _ => [27]
  | .map none => [35]
  | .chan none => [43]
  | .nilFunc => [51]
  | .nilIface => [59]
  | .string s => Nat.add (Nat.mul 8 s.size) 5 :: mapL (fun b => UInt8.toNat b) s.data.toList
  | .complex .f32 k 2 => [91, k]
  | .complex .f32 k 0 => [115, k]
  | .complex .f32 _ _ => [99]
  | _ => [7]
def encL (t : Hp) (l : List Value) (r : List Nat) : List Nat := List.rec (motive := fun _ => List Nat) r (fun v _ ih => app (encC t v) ih) l
def encV (t : Hp) (v : Value) (r : List Nat) : List Nat := match v with
  | .agg xs => Nat.add (Nat.mul 8 (len xs.toList)) 6 :: encL t xs.toList r
  | .tuple ⟨[]⟩ => 123 :: r
  | v => app (encC t v) r
def encO (t : Hp) (o : Ob) (r : List Nat) : List Nat := match o with
  | .row cs ln ty e fix gen flo => ty :: e :: (Bool.rec (motive := fun _ => Nat) 0 1 fix) :: gen :: flo :: ln :: encL t (flat cs) r
  | _ => 4095 :: r
def encH (t : Hp) (h : Hp) (l : List Nat) (r : List Nat) : List Nat := List.rec (motive := fun _ => List Nat) r (fun i _ ih => Option.rec (motive := fun _ => List Nat) (4094 :: ih) (fun o => encO t o ih) (hget h i)) l
def encE (t : Hp) (env : Env) (ts : List Nat) (r : List Nat) : List Nat := List.rec (motive := fun _ => List Nat) r (fun s _ ih => encV t ((getE s).run env) ih) ts
def encS (base xs : Nat) (env : Env) (U : W) : List Nat := (fun l => (fun t => len l :: encE t env (slotsOf xs 256) (encH t U.h l [])) (table' l base hp0)) (olds xs env U)
def numOf (l : List Nat) : Nat := List.rec (motive := fun _ => Nat) 0 (fun d _ ih => Nat.add d (Nat.mul 4096 ih)) l
def encN (base xs : Nat) (env : Env) (U : W) : Nat := numOf (app (encS base xs env U) [1])

def digN (fuel : Nat) : Nat → List Nat := Nat.rec (motive := fun _ => Nat → List Nat) (fun _ => []) (fun _ ih x => Bool.rec (motive := fun _ => List Nat) (Nat.mod x 4096 :: ih (Nat.div x 4096)) [] (Nat.ble x 1)) fuel
def takeD (n : Nat) : List Nat → List Nat × List Nat := Nat.rec (motive := fun _ => List Nat → List Nat × List Nat) (fun l => ([], l)) (fun _ ih l => match l with | [] => ([], []) | d :: r => match ih r with | (a, b) => (d :: a, b)) n
def kindN (d : Nat) : IntKind := match d with | 0 => .i8 | 1 => .i16 | 2 => .i32 | 3 => .i64 | 4 => .u8 | 5 => .u16 | 6 => .u32 | _ => .u64
def spot (d : Nat) : Option Nat := match d with | 0 => none | k + 1 => some k
def decX (x : Nat) (r : List Nat) : Value × List Nat := match x, r with
  | 0, r => (.bool false, r)
  | 1, r => (.bool true, r)
  | 2, r => (.pointer none, r)
  | 3, r => (.slice none 0 0, r)
  | 4, r => (.map none, r)
  | 5, r => (.chan none, r)
  | 6, r => (.nilFunc, r)
  | 7, r => (.nilIface, r)
  | 8, n :: r => match takeD n r with | (a, b) => (.int .i64 (.ofNat (numOf a)), b)
  | 9, d :: r => (.int .i64 (.negSucc d), r)
  | 10, b :: o :: s :: r => (.pointer (some ⟨b, o, spot s⟩), r)
  | 11, k :: r => (.complex .f32 k 2, r)
  | 12, r => (.complex .f32 0 1, r)
  | 13, k :: n :: r => match takeD n r with | (a, b) => (.int (kindN k) (.ofNat (numOf a)), b)
  | 14, k :: r => (.complex .f32 k 0, r)
  | 15, r => (.tuple #[], r)
  | _, r => (.nilFunc, r)
def decC (l : List Nat) : Value × List Nat := match l with
  | [] => (.nilFunc, [])
  | d :: r => match Nat.mod d 8, r with
    | 0, r => (.int .i64 (.ofNat (Nat.div d 8)), r)
    | 1, r => (.int .u8 (.ofNat (Nat.div d 8)), r)
    | 2, r => (.pointer (some ⟨Nat.div d 8, 0, none⟩), r)
    | 3, r => decX (Nat.div d 8) r
    | 4, o :: s :: n :: c :: r => (.slice (some ⟨Nat.div d 8, o, spot s⟩) n c, r)
    | 5, r => match takeD (Nat.div d 8) r with | (a, b) => (.string ⟨⟨mapL UInt8.ofNat a⟩⟩, b)
    | _, r => (.nilFunc, r)
def decL (n : Nat) : List Nat → List Value × List Nat := Nat.rec (motive := fun _ => List Nat → List Value × List Nat) (fun l => ([], l)) (fun _ ih l => match decC l with | (v, r) => match ih r with | (a, b) => (v :: a, b)) n
def decV (l : List Nat) : Value × List Nat := match l with
  | [] => (.nilFunc, [])
  | d :: r => Bool.rec (motive := fun _ => Value × List Nat) (decC (d :: r)) (match decL (Nat.div d 8) r with | (a, b) => (.agg ⟨a⟩, b)) (Nat.beq (Nat.mod d 8) 6)
def decE (ts : List Nat) : List Nat → Env × List Nat := List.rec (motive := fun _ => List Nat → Env × List Nat) (fun l => (env00, l)) (fun t _ ih l => match decV l with | (v, r) => match ih r with | (e, b) => ((putE t).run v e, b)) ts
def decO (l : List Nat) : Ob × List Nat := match l with
  | t :: e :: f :: g :: fl :: n :: r => match decL n r with | (a, b) => (.row (chop a) n t e (Nat.beq f 1) g fl, b)
  | _ => (.iter ⟨#[]⟩ 0, [])
def decH (n : Nat) : Nat → List Nat → List (Nat × Ob) := Nat.rec (motive := fun _ => Nat → List Nat → List (Nat × Ob)) (fun _ _ => []) (fun _ ih j l => match decO l with | (o, r) => (j, o) :: ih (Nat.succ j) r) n
def decS (base xs : Nat) (x : Nat) : Env × List (Nat × Ob) × Nat := match digN 1000000 x with
  | [] => (env00, [], base)
  | n :: r => match decE (slotsOf xs 256) r with | (e, b) => (e, decH n base b, Nat.add base n)

def envD (base xs x : Nat) : Env := (decS base xs x).1
def lD (base xs x : Nat) : List (Nat × Ob) := (decS base xs x).2.1
def nD (base xs x : Nat) : Nat := (decS base xs x).2.2
def WD (base xs x : Nat) : W := ⟨bld (lD base xs x), nD base xs x, [], .off⟩
def isN (base xs x : Nat) (env : Env) (U : W) : Bool := cutOk base xs (piF base (nD base xs x) (table (olds xs env U) base hp0)) (nD base xs x) (lD base xs x) (envD base xs x) env U && (match U.rc with | .off => true | _ => false)

variable {P : Program} {K : Cxt} {env : Env} {U : W} {R : Ou → Prop}
theorem Ends.num {c : Code} {x : Nat} (h : isN K.W0.n K.xs x env U = true) (he : Ends P K c (envD K.W0.n K.xs x) (WD K.W0.n K.xs x) R) : Ends P K c env U R := by
  unfold isN at h
  rw [Bool.and_eq_true] at h
  refine Ends.cut h.1 ?_
  have : U.rc = .off := by
    have h2 := h.2
    split at h2
    · assumption
    · cases h2
  rw [this]
  exact he
theorem EndsL.num {c : Code} {x : Nat} (h : isN K.W0.n K.xs x env U = true) (he : EndsL P K c (envD K.W0.n K.xs x) (WD K.W0.n K.xs x) R) : EndsL P K c env U R := by
  unfold isN at h
  rw [Bool.and_eq_true] at h
  refine EndsL.cut h.1 ?_
  have : U.rc = .off := by
    have h2 := h.2
    split at h2
    · assumption
    · cases h2
  rw [this]
  exact he

theorem Ends.pre (hP : NoNum P) (hm : P.follows .mixedOrders = true) (hN : K.N ≤ 256) {cf : CallF} (hcf : CfOk P K.gB K.wB cf) {fuel : Nat} : ∀ (k : Nat) {c : Code} {env env1 : Env} {U U1 : W}, preSeq P fuel K.N K.xs cf k c env U = .go env1 U1 → Ends P K (dropSeq k c) env1 U1 R → Ends P K c env U R
  | 0, c, env, env1, U, U1, h, he => by cases h; exact he
  | k + 1, c, env, env1, U, U1, h, he => by
    cases c with
    | seq x y =>
      have h : Ou.rec (motive := fun _ => Ou) (preSeq P fuel K.N K.xs cf k y) (fun _ _ _ => .no 151) (fun _ _ => .no 151) (fun _ _ _ => .no 151) Ou.no ((cCode P fuel K.N K.xs x).run cf env U) = .go env1 U1 := h
      cases hr : (cCode P fuel K.N K.xs x).run cf env U with
      | go env2 U2 =>
        rw [hr] at h
        exact Ends.seq (Ends.eval hP hm hN hcf hr (fun y e => by cases e) (Ends.pre hP hm hN hcf k h he))
      | ex _ _ _ => rw [hr] at h; cases h
      | ret _ _ => rw [hr] at h; cases h
      | pan _ _ _ => rw [hr] at h; cases h
      | no _ => rw [hr] at h; cases h
    | _ => cases h


theorem Ends.eval' (hP : NoNum P) (hm : P.follows .mixedOrders = true) {N xs : Nat} {gB : Gh} {wB : World} {W0 : W} (hN : N ≤ 256) {cf : CallF} (hcf : CfOk P gB wB cf) {fuel : Nat} {c : Code} {r : Ou} (h : (cCode P fuel N xs c).run cf env U = r) (hn : ∀ y, r ≠ .no y) (hR : R r) : Ends P ⟨N, xs, gB, wB, W0⟩ c env U R :=
  Ends.eval (K := ⟨N, xs, gB, wB, W0⟩) hP hm hN hcf h hn hR
theorem Ends.pre' (hP : NoNum P) (hm : P.follows .mixedOrders = true) {N xs : Nat} {gB : Gh} {wB : World} {W0 : W} (hN : N ≤ 256) {cf : CallF} (hcf : CfOk P gB wB cf) {fuel : Nat} (k : Nat) {c : Code} {env env1 : Env} {U U1 : W} (h : preSeq P fuel N xs cf k c env U = .go env1 U1) (he : Ends P ⟨N, xs, gB, wB, W0⟩ (dropSeq k c) env1 U1 R) : Ends P ⟨N, xs, gB, wB, W0⟩ c env U R :=
  Ends.pre (K := ⟨N, xs, gB, wB, W0⟩) hP hm hN hcf k h he
theorem Ends.sub' {N xs : Nat} {wB : World} {W0 : W} {c : Code} {l : List Value} {t k : Nat} {v : Value} (ht : has xs t = true) (hb : t < 256) (hv : l[k]? = some v) (hs : ∀ g, RV g v v) (h : Ends P ⟨N, xs, symG l, wB, W0⟩ c (subE t k v env) U R) : Ends P ⟨N, xs, symG l, wB, W0⟩ c env U R :=
  Ends.sub (K := ⟨N, xs, symG l, wB, W0⟩) rfl ht hb hv hs h
theorem Ends.block2 {N xs : Nat} {gB : Gh} {wB : World} {W0 : W} {x y : Code} {id : Nat} (h : Ends P ⟨N, xs, gB, wB, W0⟩ x env U (OutOf id (Then R fun e U => Ends P ⟨N, xs, gB, wB, W0⟩ y e U R))) : Ends P ⟨N, xs, gB, wB, W0⟩ (.seq (.block id x) y) env U R :=
  Ends.seq (Ends.block h)
theorem Ends.num' {N xs : Nat} {gB : Gh} {wB : World} {c : Code} {x : Nat} (h : isN 2 xs x env U = true) (he : Ends P ⟨N, xs, gB, wB, w02⟩ c (envD 2 xs x) (WD 2 xs x) R) : Ends P ⟨N, xs, gB, wB, w02⟩ c env U R :=
  Ends.num (K := ⟨N, xs, gB, wB, w02⟩) h he
theorem EndsL.num' {N xs : Nat} {gB : Gh} {wB : World} {c : Code} {x : Nat} (h : isN 2 xs x env U = true) (he : EndsL P ⟨N, xs, gB, wB, w02⟩ c (envD 2 xs x) (WD 2 xs x) R) : EndsL P ⟨N, xs, gB, wB, w02⟩ c env U R :=
  EndsL.num (K := ⟨N, xs, gB, wB, w02⟩) h he

end
end Go.Cx
