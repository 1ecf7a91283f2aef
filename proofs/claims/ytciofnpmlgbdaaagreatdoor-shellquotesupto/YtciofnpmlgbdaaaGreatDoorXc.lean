/- The fast evaluator of code on known values, and that it is sound: part 3. -/
import Derived.Below
import Derived.ProofKit
import Derived.OpenShut
import Derived.Lib.Join
import Derived.Test.YtciofnpmlgbdaaaGreatDoorXb
namespace Go.Cx
open Go Go.RowKit
variable {P : Program} {B : Nat}

def RR (g : Gh) (B : Nat) (a : W) (w : World) (re : Re) (e : Ending) (w' : World) : Prop := match re with
  | .ok v b => ∃ v' g', e = .returned v' ∧ RV g' v v' ∧ Kept g B a w g' b w'
  | .ot (.pan v b) => ∃ g', e = .panicked [{ v, recovered := false }] ∧ cellV v = true ∧ Kept g B a w g' b w'
  | _ => False

def Known (re : Re) : Prop := match re with
  | .ok _ _ => True
  | .ot (.pan _ _) => True
  | _ => False

theorem callR_of {g : Gh} {a : W} {w : World} {f : FuncId} {args' : List Value} {re : Re} (h : Known re → Calls P f ⟨args'⟩ w (RR g B a w re)) : CallR P g B a w f args' re := by
  cases re with
  | ok v b => exact h trivial
  | ot r =>
    cases r with
    | pan v b => exact h trivial
    | _ => exact trivial

def RcU (rc : Rc) (u : FrameMode) : Prop := match rc with
  | .idle => u = .returning
  | .pan v => cellV v = true ∧ u = .panicking [{ v, recovered := false }]
  | _ => False

theorem mode_same {c : Frame} {u : FrameMode} (h : c.mode = u) : ({ c with mode := u } : Frame) = c := by subst h; rfl

theorem start_cs {rc : Rc} {u : FrameMode} (h : RcU rc u) {c : Frame} {cs : List Frame} (hc : c.mode = u) : CsR true (c :: cs) rc (c :: cs) := by
  cases rc with
  | off => exact h.elim
  | done v => exact h.elim
  | idle =>
    have h : u = .returning := h
    subst h
    exact ⟨rfl, c, cs, rfl, by rw [mode_same hc]⟩
  | pan v =>
    obtain ⟨hv, rfl⟩ := h
    exact ⟨rfl, hv, c, cs, rfl, by rw [mode_same hc]⟩

section
variable {cf : CallF} {fuel : Nat}

theorem nextD_ok {f : FuncId} {env : Env} {U : W} {ih : Hp → Nat → Rc → Re} (hk : Known (nextD P fuel f env U ih)) :
    resOk P fuel f env U.h = true ∧ U.ds = [] ∧ ((∃ v, U.rc = .done v ∧ nextD P fuel f env U ih = ih U.h U.n .idle) ∨ ((∀ v, U.rc ≠ .done v) ∧ nextD P fuel f env U ih = ih U.h U.n U.rc)) := by
  obtain ⟨h, n, ds, rc⟩ := U
  unfold nextD at hk ⊢
  cases hr : resOk P fuel f env h with
  | false => simp only [hr] at hk; exact hk.elim
  | true =>
    simp only [hr] at hk ⊢
    cases ds with
    | cons _ _ => exact hk.elim
    | nil =>
      refine ⟨trivial, rfl, ?_⟩
      cases rc with
      | done v => exact .inl ⟨v, rfl, rfl⟩
      | off => exact .inr ⟨fun v e => (by cases e), rfl⟩
      | idle => exact .inr ⟨fun v e => (by cases e), rfl⟩
      | pan v => exact .inr ⟨fun v e => (by cases e), rfl⟩

theorem resOk_spec {f : FuncId} {env : Env} {h : Hp} (hr : resOk P fuel f env h = true) {d : FnC} (hd : cFn P fuel f = some d) : ∃ vs, d.res.run env h = some vs := by
  have hr : (Option.rec (motive := fun _ => Bool) false (fun d => Option.rec (motive := fun _ => Bool) false (fun _ => true) (d.res.run env h)) (cFn P fuel f) : Bool) = true := hr
  rw [hd] at hr
  dsimp only at hr
  cases hv : d.res.run env h with
  | none => rw [hv] at hr; cases hr
  | some vs => exact ⟨vs, rfl⟩

theorem all2_nil {α β : Type} {R : α → β → Prop} {l : List β} (h : All2 R [] l) : l = [] := by cases h; rfl

theorem defers_ok2 {gB : Gh} {wB : World} (hP : NoNum P) (hcf : CfOk P gB wB cf) (hm : P.follows .mixedOrders = true) {f : FuncId} {fn : Func} {c : Code} (hf : P.funcs[f]? = some fn) (hc : fn.body = some c) {env : Env} {tmps : Array Value} {g : Gh} {a : W} {w : World} (hB : Bs gB wB B g a w) :
    ∀ (ds : List (FuncId × List Value)) (ds' : List Deferred) (g1 : Gh) (h : Hp) (n : Nat) (rc : Rc) (u : FrameMode) (w1 : World), Ext g B a.h a.n w g1 h n w1 → SlotR g1 (xsOf fn c) [] env [] (fun t => tmps.getD t undef) → All2 (DfR g1) ds ds' → RcU rc u →
      Known (evDefers P cf fuel f env a ds h n rc) → Leaves P fn tmps (RR g B a w (evDefers P cf fuel f env a ds h n rc)) ds' u w1
  | [], ds', g1, h, n, rc, u, w1, he, hs, hd, hu, hk => by
    cases hd
    cases rc with
    | off => exact hu.elim
    | done v => exact hu.elim
    | pan v =>
      obtain ⟨hv, rfl⟩ := hu
      exact ⟨g1, rfl, hv, he, rfl, rfl⟩
    | idle =>
      have hu : u = .returning := hu
      subst hu
      have hk : Known (retRe P fuel f env h n a) := hk
      show ∃ v, (results fn tmps).run P w1 = .ok v w1 ∧ RR g B a w (retRe P fuel f env h n a) (.returned v) w1
      have e : retRe P fuel f env h n a = (Option.rec (motive := fun _ => Re) (no 133) (fun d => Option.rec (motive := fun _ => Re) (no 134) (fun l => .ok (packR l) ⟨h, n, a.ds, a.rc⟩) (d.res.run env h)) (cFn P fuel f) : Re) := rfl
      rw [e] at hk ⊢
      cases hd : cFn P fuel f with
      | none => rw [hd] at hk; exact hk.elim
      | some d =>
        rw [hd] at hk
        obtain ⟨fn', c', q1, q2, q3, rfl⟩ := cFn_some hd
        rw [hf] at q1; cases q1
        rw [hc] at q2; cases q2
        dsimp only at hk ⊢
        cases hv : (cRes P (xsOf fn c) fn.results.toList).run env h with
        | none => rw [hv] at hk; exact hk.elim
        | some vs =>
          obtain ⟨v', h1, h2⟩ := results_ok (U := ⟨h, n, a.ds, a.rc⟩) he.rel hs hv
          exact ⟨v', h1, v', g1, rfl, h2, he, rfl, rfl⟩
  | d :: ds, ds', g1, h, n, rc, u, w1, he, hs, hd, hu, hk => by
    cases hd with
    | cons hd1 hds =>
    rename_i d' ds'
    obtain ⟨xs, ys, ks, rfl, ha⟩ := hd1
    have e : evDefers P cf fuel f env a (d :: ds) h n rc = (match evBody P cf fuel d.1 d.2 h n rc with
      | .go env' w => nextD P fuel d.1 env' w (evDefers P cf fuel f env a ds)
      | .ret env' w => nextD P fuel d.1 env' w (evDefers P cf fuel f env a ds)
      | .pan v _ w => (match w.ds, w.rc with | [], .idle => evDefers P cf fuel f env a ds w.h w.n (.pan v) | _, _ => no 136)
      | .no why => no why
      | _ => no 137) := rfl
    rw [e] at hk ⊢
    rcases body_eq (P := P) cf fuel d.1 d.2 h n rc with ⟨y, hy⟩ | ⟨dd, hlen, hdd, hbody⟩
    · rw [hy] at hk; exact hk.elim
    obtain ⟨fn2, c2, q1, q2, q3, rfl⟩ := cFn_some hdd
    have hbd : bodied P d.1 = none := by unfold bodied; rw [q1]; dsimp only; rw [q2]
    have hinv : (invoke (.fn (.func d.1) ⟨ks⟩) ⟨xs ++ ys⟩).run P w1 = .ok (.enter d.1 ⟨xs ++ (ys ++ ks)⟩) w1 := by
      have e2 : ((⟨xs ++ ys⟩ : Array Value) ++ ⟨ks⟩) = ⟨xs ++ (ys ++ ks)⟩ := by apply Array.ext'; simp
      show (callFunc d.1 ((⟨xs ++ ys⟩ : Array Value) ++ ⟨ks⟩)).run P w1 = _
      rw [e2]
      exact callFunc_enter hP hbd _ w1
    have hur : u ≠ .run := by
      cases rc with
      | off => exact hu.elim
      | done v => exact hu.elim
      | idle => have hu : u = .returning := hu; subst hu; intro e; cases e
      | pan v => obtain ⟨_, rfl⟩ := hu; intro e; cases e
    refine leaves_cons hur hinv ?_
    refine callsD_of_wpS q1 q2 fun c0 cs hmode => ?_
    have hst : St P true B fn2.ntmps (xsOf fn2 c2) (c0 :: cs) g1 ⟨h, n, [], rc⟩ w1 [] (env0 d.2 0 env00) [] ⟨h, n, [], rc⟩ g1 { tmps := (⟨xs ++ (ys ++ ks)⟩ : Array Value) ++ Array.replicate (fn2.ntmps - (⟨xs ++ (ys ++ ks)⟩ : Array Value).size) undef, defers := [] } (c0 :: cs) w1 :=
      ⟨Ext.refl he.rel, start_sl ha hlen _ _, fun _ h => (by cases h), by simp; omega, .nil, start_cs hu hmode⟩
    have hgo := code_ok (cf := cf) hP hcf (hB.ext (b := ⟨h, n, [], rc⟩) he) q3 hm fuel c2 _ _ _ _ _ _ hst
    rw [hbody] at hk ⊢
    dsimp only at hgo hk ⊢
    intro b k hb hro
    have fin1 : ∀ (env2 : Env) (U : W) (g2 : Gh) (a2 : Act) (cs2 : List Frame) (w2 : World), St P true B fn2.ntmps (xsOf fn2 c2) (c0 :: cs) g1 ⟨h, n, [], rc⟩ w1 [] env2 [] U g2 a2 cs2 w2 → Known (nextD P fuel d.1 env2 U (evDefers P cf fuel f env a ds)) →
        a2.defers = [] ∧ ∃ u', cs2 = { c0 with mode := u' } :: cs ∧ ∃ v, (results fn2 a2.tmps).run P w2 = .ok v w2 ∧ Leaves P fn tmps (RR g B a w (nextD P fuel d.1 env2 U (evDefers P cf fuel f env a ds))) ds' (settle u') w2 := by
      intro env2 U g2 a2 cs2 w2 hs2 hk2
      obtain ⟨n1, n2, n3⟩ := nextD_ok hk2
      have hdef : a2.defers = [] := by have := hs2.ds; rw [n2] at this; exact all2_nil this
      obtain ⟨vs, hvs⟩ := resOk_spec n1 hdd
      obtain ⟨v', r1, _⟩ := results_ok hs2.ext.rel (tmps := a2.tmps) hs2.sl hvs
      have hext := he.trans hs2.ext
      have hs' := hs.mono hs2.ext.ex.le
      have hds' : All2 (DfR g2) ds ds' := hds.mono fun _ _ h => h.mono hs2.ext.ex.le
      refine ⟨hdef, ?_⟩
      have hcs2 := hs2.cs
      rcases n3 with ⟨pv, h3, h4⟩ | ⟨h3, h4⟩
      · rw [h4] at hk2 ⊢
        rw [h3] at hcs2
        obtain ⟨_, c1, r2, e1, e2⟩ := hcs2
        cases e1
        exact ⟨_, e2, v', r1, defers_ok2 hP hcf hm hf hc hB ds ds' g2 U.h U.n .idle .returning w2 hext hs' hds' rfl hk2⟩
      · rw [h4] at hk2 ⊢
        cases hrc : U.rc with
        | off => rw [hrc] at hcs2; exact absurd hcs2.1 (by intro e; cases e)
        | done pv => exact absurd hrc (h3 pv)
        | idle =>
          rw [hrc] at hcs2 hk2
          obtain ⟨_, c1, r2, e1, e2⟩ := hcs2
          cases e1
          exact ⟨_, e2, v', r1, defers_ok2 hP hcf hm hf hc hB ds ds' g2 U.h U.n .idle .returning w2 hext hs' hds' rfl hk2⟩
        | pan pv =>
          rw [hrc] at hcs2 hk2
          obtain ⟨_, hpv, c1, r2, e1, e2⟩ := hcs2
          cases e1
          exact ⟨_, e2, v', r1, defers_ok2 hP hcf hm hf hc hB ds ds' g2 U.h U.n (.pan pv) _ w2 hext hs' hds' ⟨hpv, rfl⟩ hk2⟩
    cases hr : (cCode P fuel fn2.ntmps (xsOf fn2 c2) c2).run cf (env0 d.2 0 env00) ⟨h, n, [], rc⟩ with
    | no y => rw [hr] at hk; exact hk.elim
    | ex i env2 U => rw [hr] at hk; exact hk.elim
    | go env2 U =>
      rw [hr] at hgo hk
      obtain ⟨e, a2, cs2, w2, ⟨rfl, g2, hs2⟩, harr⟩ := hgo b k (fun _ => ⟨hb, hro⟩)
      obtain ⟨f1, u', f2, v', f3, f4⟩ := fin1 env2 U g2 a2 cs2 w2 hs2 hk
      exact ⟨.normal, a2, cs2, w2, ⟨f1, u', f2, v', f3, f4⟩, harr⟩
    | ret env2 U =>
      rw [hr] at hgo hk
      obtain ⟨e, a2, cs2, w2, ⟨rfl, g2, hs2⟩, harr⟩ := hgo b k (fun _ => ⟨hb, hro⟩)
      obtain ⟨f1, u', f2, v', f3, f4⟩ := fin1 env2 U g2 a2 cs2 w2 hs2 hk
      exact ⟨.ret, a2, cs2, w2, ⟨f1, u', f2, v', f3, f4⟩, harr⟩
    | pan pv env2 U =>
      rw [hr] at hgo hk
      obtain ⟨e, a2, cs2, w2, ⟨rfl, hpv, g2, hs2⟩, harr⟩ := hgo b k (fun _ => ⟨hb, hro⟩)
      obtain ⟨h2, n2, ds2, rc2⟩ := U
      cases ds2 with
      | cons _ _ => exact hk.elim
      | nil =>
        cases rc2 with
        | off => exact hk.elim
        | pan _ => exact hk.elim
        | done _ => exact hk.elim
        | idle =>
          have hk : Known (evDefers P cf fuel f env a ds h2 n2 (.pan pv)) := hk
          have hdef : a2.defers = [] := all2_nil hs2.ds
          obtain ⟨_, c1, r2, e1, e2⟩ := hs2.cs
          cases e1
          refine ⟨.panic [{ v := pv, recovered := false }], a2, cs2, w2, ⟨hdef, _, e2, ?_⟩, harr⟩
          exact defers_ok2 hP hcf hm hf hc hB ds ds' g2 h2 n2 (.pan pv) _ w2 (he.trans hs2.ext) (hs.mono hs2.ext.ex.le) (hds.mono fun _ _ h => h.mono hs2.ext.ex.le) ⟨hpv, rfl⟩ hk

noncomputable def ending (P : Program) (cf : CallF) (fuel : Nat) (f : FuncId) (a : W) (r : Ou) : Re := match r with
  | .go env U => evDefers P cf fuel f env a U.ds U.h U.n .idle
  | .ret env U => evDefers P cf fuel f env a U.ds U.h U.n .idle
  | .pan v env U => evDefers P cf fuel f env a U.ds U.h U.n (.pan v)
  | .no why => wrong f why
  | _ => no 139

theorem fn_end {gB : Gh} {wB : World} (hP : NoNum P) (hm : P.follows .mixedOrders = true) (hcf : CfOk P gB wB cf) {f : FuncId} {fn : Func} {c : Code} (q1 : P.funcs[f]? = some fn) (q2 : fn.body = some c) {args' : List Value} {g : Gh} {a : W} {w : World} (hB : Bs gB wB B g a w) {r : Ou}
    (hgo : ∀ cs, Meets r (Goes P false c (Post P false B fn.ntmps (xsOf fn c) cs g ⟨a.h, a.n, [], .off⟩ w r) { tmps := (⟨args'⟩ : Array Value) ++ Array.replicate (fn.ntmps - (⟨args'⟩ : Array Value).size) undef, defers := [] } cs w)) :
    CallR P g B a w f args' (ending P cf fuel f a r) := by
  refine callR_of fun hk => ?_
  refine calls_of_wp_defers q1 q2 ?_
  intro b k cs
  have hgo := hgo cs
  have same : ∀ {rc' : Rc} {cs2 : List Frame}, CsR false cs rc' cs2 → cs2 = cs := by
    intro rc' cs2 hc
    cases rc' with
    | off => exact hc.2
    | idle => exact absurd hc.1 (by intro e; cases e)
    | pan _ => exact absurd hc.1 (by intro e; cases e)
    | done _ => exact absurd hc.1 (by intro e; cases e)
  cases r with
  | no y => unfold ending wrong at hk; exact hk.elim
  | ex i env2 U => exact hk.elim
  | go env2 U =>
    obtain ⟨e, a2, cs2, w2, ⟨rfl, g2, hs2⟩, harr⟩ := hgo b k (fun e => by cases e)
    rw [same hs2.cs] at harr
    exact ⟨.normal, a2, w2, defers_ok2 hP hcf hm q1 q2 hB U.ds a2.defers g2 U.h U.n .idle .returning w2 hs2.ext hs2.sl hs2.ds rfl hk, harr⟩
  | ret env2 U =>
    obtain ⟨e, a2, cs2, w2, ⟨rfl, g2, hs2⟩, harr⟩ := hgo b k (fun e => by cases e)
    rw [same hs2.cs] at harr
    exact ⟨.ret, a2, w2, defers_ok2 hP hcf hm q1 q2 hB U.ds a2.defers g2 U.h U.n .idle .returning w2 hs2.ext hs2.sl hs2.ds rfl hk, harr⟩
  | pan pv env2 U =>
    obtain ⟨e, a2, cs2, w2, ⟨rfl, hpv, g2, hs2⟩, harr⟩ := hgo b k (fun e => by cases e)
    rw [same hs2.cs] at harr
    exact ⟨.panic [{ v := pv, recovered := false }], a2, w2, defers_ok2 hP hcf hm q1 q2 hB U.ds a2.defers g2 U.h U.n (.pan pv) _ w2 hs2.ext hs2.sl hs2.ds ⟨hpv, rfl⟩ hk, harr⟩

theorem fn_start {fn : Func} {c : Code} {args args' : List Value} {g : Gh} {h : Hp} {n : Nat} {w : World} (hr : Rel g B h n w) (ha : All2 (RV g) args args') (hlen : args.length ≤ 256) (cs : List Frame) :
    St P false B fn.ntmps (xsOf fn c) cs g ⟨h, n, [], .off⟩ w [] (env0 args 0 env00) [] ⟨h, n, [], .off⟩ g { tmps := (⟨args'⟩ : Array Value) ++ Array.replicate (fn.ntmps - (⟨args'⟩ : Array Value).size) undef, defers := [] } cs w :=
  ⟨Ext.refl hr, start_sl ha hlen _ _, fun _ h => (by cases h), by simp; omega, .nil, ⟨rfl, rfl⟩⟩

theorem fn1_ok {gB : Gh} {wB : World} (hP : NoNum P) (hm : P.follows .mixedOrders = true) (hcf : CfOk P gB wB cf) : CfOk P gB wB (evFn1 P cf fuel) := by
  intro f args args' g B a w hB ha
  have hr := hB.rel
  obtain ⟨h, n, ds, rc⟩ := a
  have e : evFn1 P cf fuel f args ⟨h, n, ds, rc⟩ = ending P cf fuel f ⟨h, n, ds, rc⟩ (evBody P cf fuel f args h n .off) := by
    show Ou.rec (motive := fun _ => Re) (endRe P cf fuel f ⟨h, n, ds, rc⟩ .idle) (fun _ _ _ => no 139) (endRe P cf fuel f ⟨h, n, ds, rc⟩ .idle) (fun v env w' => endRe P cf fuel f ⟨h, n, ds, rc⟩ (.pan v) env w') (wrong f) (evBody P cf fuel f args h n .off) = _
    cases evBody P cf fuel f args h n .off <;> rfl
  rw [e]
  rcases body_eq (P := P) cf fuel f args h n .off with ⟨y, hy⟩ | ⟨dd, hlen, hdd, hbody⟩
  · rw [hy]; exact callR_of fun hk => by unfold ending wrong at hk; exact hk.elim
  obtain ⟨fn, c, q1, q2, q3, rfl⟩ := cFn_some hdd
  refine fn_end hP hm hcf q1 q2 hB fun cs => ?_
  rw [hbody]
  exact code_ok (cf := cf) (W0 := ⟨h, n, [], .off⟩) hP hcf ⟨hB.gle, hB.wle, hB.ble, hB.rel⟩ q3 hm fuel c _ _ _ _ _ _ (fn_start hr ha hlen cs)

noncomputable def evO (P : Program) (fuel : Nat) (orc : FuncId → List Value → Option Value) (depth : Nat) : CallF :=
  Nat.rec (motive := fun _ => CallF) (fun _ _ _ => no 140) (fun _ ih f args w => Option.rec (motive := fun _ => Re) (evFn1 P ih fuel f args w) (fun v => .ok v w) (orc f args)) depth

theorem rel_grow {g : Gh} {h : Hp} {n : Nat} {w w' : World} (hr : Rel g B h n w) (hb : Below w.heap.size w w') : Ext g B h n w g h n w' := by
  refine ⟨⟨hr.pos, hr.lim, Nat.le_trans hr.base hb.size, hr.dom, hr.hdom, ?_, hr.dis, fun i k cp hl hg => Nat.lt_of_lt_of_le (hr.lt i k cp hl hg) hb.size, hr.low⟩,
    GLe.refl g, fun _ k cp h => .inr ⟨k, cp, h⟩, Nat.le_refl _, hb.size, hb.os, hb.tape, hb.output, fun b hlt _ => hb.block b hlt, fun i k cp hl hg _ => ⟨i, k, cp, hl, hg, rfl⟩⟩
  intro i o hi ho
  exact (hr.obs i o hi ho).stay (GLe.refl g) (fun _ _ h => h) fun k cp hg hf => hb.block _ (hr.lt i k cp ⟨hi, o, ho, hf⟩ hg)

def OrcOk (P : Program) (gB : Gh) (wB : World) (orc : FuncId → List Value → Option Value) : Prop := ∀ (f : FuncId) (args args' : List Value) (v : Value), orc f args = some v → ∀ (g : Gh) (w : World), GLe gB g → Below wB.heap.size wB w → All2 (RV g) args args' →
  Calls P f ⟨args'⟩ w fun e w' => Below w.heap.size w w' ∧ ∃ v', e = .returned v' ∧ RV g v v'

theorem evO_ok {gB : Gh} {wB : World} {orc : FuncId → List Value → Option Value} (hP : NoNum P) (hm : P.follows .mixedOrders = true) (ho : OrcOk P gB wB orc) (fuel : Nat) : ∀ depth, CfOk P gB wB (evO P fuel orc depth)
  | 0 => fun _ _ _ _ _ _ _ _ _ => trivial
  | depth + 1 => by
    intro f args args' g B a w hB ha
    have hr := hB.rel
    show CallR P g B a w f args' (Option.rec (motive := fun _ => Re) (evFn1 P (evO P fuel orc depth) fuel f args a) (fun v => .ok v a) (orc f args) : Re)
    cases he : orc f args with
    | none => exact fn1_ok hP hm (evO_ok hP hm ho fuel depth) f args args' g B a w hB ha
    | some v =>
      refine (ho f args args' v he g w hB.gle hB.wle ha).mono ?_
      rintro e w' ⟨hb, v', rfl, hv⟩
      exact ⟨v', g, rfl, hv, rel_grow hr hb, rfl, rfl⟩

end
end Go.Cx
namespace Go.Cx
open Go Go.RowKit
variable {P : Program}

noncomputable def w02 : W := ⟨hp0, 2, [], .off⟩

theorem rel_start {gB : Gh} (hg : ∀ i k cp, gB i k = some cp → i = 1) (w : World) : Rel gB w.heap.size hp0 2 w := by
  have hn : ∀ {i k : Nat}, ¬ Live hp0 i k := by
    rintro i k ⟨_, o, h, _⟩
    rw [hget_hp0] at h; cases h
  refine ⟨by decide, by decide, Nat.le_refl _, fun i k cp h => by have := hg i k cp h; omega, fun i o _ h => ?_, fun i o _ h => ?_, fun i i' k k' c c' _ h => absurd h hn, fun i k c h => absurd h hn, fun i k c h => absurd h hn⟩
  · rw [hget_hp0] at h; cases h
  · rw [hget_hp0] at h; cases h

theorem kept_below {gB g' : Gh} {w w' : World} {b : W} (h : Kept gB w.heap.size w02 w g' b w') : Below w.heap.size w w' := by
  obtain ⟨hx, _, _⟩ := h
  refine ⟨hx.ex.os, hx.ex.tape, hx.ex.output, hx.ex.size, fun k hk => hx.ex.fr k hk fun i j cp hl _ => ?_⟩
  obtain ⟨_, o, h, _⟩ := hl
  have h : hget hp0 i = some o := h
  rw [hget_hp0] at h; cases h

noncomputable def isB (t : Bool) (r : Re) : Bool := match r with
  | .ok (.bool b) _ => Bool.rec (motive := fun _ => Bool) (Bool.rec (motive := fun _ => Bool) true false t) t b
  | _ => false
theorem isB_spec {t : Bool} {r : Re} (h : isB t r = true) : ∃ b, r = .ok (.bool t) b := by
  unfold isB at h
  split at h
  · rename_i u b
    cases u <;> cases t <;> first | exact ⟨b, rfl⟩ | cases h
  · cases h

theorem call_of {gB : Gh} {f : FuncId} {args' : List Value} {w : World} {t : Bool} {r : Re} (h : CallR P gB w.heap.size w02 w f args' r) (hr : isB t r = true) : Calls P f ⟨args'⟩ w fun e w' => e = .returned (.bool t) ∧ Below w.heap.size w w' := by
  obtain ⟨b, rfl⟩ := isB_spec hr
  refine Calls.mono (show Calls P f ⟨args'⟩ w _ from h) ?_
  rintro e w' ⟨v', g', rfl, hv, hk⟩
  rw [hv.bool]
  exact ⟨rfl, kept_below hk⟩

def dropSeq : Nat → Code → Code :=
  Nat.rec (motive := fun _ => Code → Code) (fun c => c) (fun _ ih c => match c with | .seq _ y => ih y | _ => .skip)

def symG (l : List Value) : Gh := fun i k => if i = 1 then (match l[k]? with | some v => some ⟨0, 0, 0, 0, 0, false, v⟩ | none => none) else none
theorem symG_one (l : List Value) : ∀ i k cp, symG l i k = some cp → i = 1 := by
  intro i k cp h
  unfold symG at h
  split at h
  · assumption
  · cases h
theorem sym_inv {l : List Value} {g : Gh} (hg : GLe (symG l) g) {k : Nat} {v v' : Value} (hv : l[k]? = some v) (h : RV g (.complex .f32 k 2) v') : v' = v := by
  have h1 : symG l 1 k = some ⟨0, 0, 0, 0, 0, false, v⟩ := by unfold symG; rw [if_pos rfl, hv]
  have h2 := hg _ _ _ h1
  cases h with
  | one h =>
    cases h with
    | cell h =>
      cases h with
      | base h => cases h; rename_i h; cases h
      | sym h3 _ => rw [h2] at h3; cases h3; rfl
    | sym h3 => rw [h2] at h3; cases h3; rfl

noncomputable def isSym (k : Nat) (v : Value) : Bool := match v with
  | .complex .f32 i 2 => Nat.beq i k
  | _ => false
theorem isSym_spec {k : Nat} {v : Value} (h : isSym k v = true) : v = .complex .f32 k 2 := by
  unfold isSym at h
  split at h
  · rw [Nat.eq_of_beq_eq_true h]
  · cases h
noncomputable def subE (t k : Nat) (v : Value) (env : Env) : Env := Bool.rec (motive := fun _ => Env) env ((putE t).run v env) (isSym k ((getE t).run env))

theorem subE_sl {l : List Value} {g : Gh} (hg : GLe (symG l) g) {xs : Nat} {env : Env} {tm : Nat → Value} (h : SlotR g xs [] env [] tm) {t k : Nat} {v : Value} (ht : has xs t = true) (hb : t < 256) (hv : l[k]? = some v) (hs : RV g v v) : SlotR g xs [] (subE t k v env) [] tm := by
  unfold subE
  cases hc : isSym k ((getE t).run env) with
  | false => exact h
  | true =>
    have h1 := h.out t ht hb
    rw [isSym_spec hc] at h1
    have := sym_inv hg hv h1
    have hp := h.put (fun _ h => (by cases h)) ht hb (v := v) (v' := v) hs
    refine ⟨fun q hq hq2 => ?_, fun i q hi => (by cases hi)⟩
    have := hp.out q hq hq2
    by_cases e : q = t
    · subst e
      rw [← ‹tm q = v›] at this ⊢
      simpa [setT] using this
    · simpa [setT, e] using this

section stages
variable {fuel depth : Nat} {f : FuncId} {fn : Func} {c : Code} {l : List Value} {wB : World}

noncomputable def lawEnd (P : Program) (fuel depth : Nat) (f : FuncId) (fn : Func) (c : Code) (o : FuncId → List Value → Option Value) (k : Nat) (env : Env) (U : W) : Re :=
  ending P (evO P fuel o depth) fuel f w02 ((cCode P fuel fn.ntmps (xsOf fn c) (dropSeq k c)).run (evO P fuel o depth) env U)

def Wins (P : Program) (fuel depth : Nat) (f : FuncId) (fn : Func) (c : Code) (l : List Value) (wB : World) (k0 : Nat) (env : Env) (U : W) : Prop :=
  ∃ o r, OrcOk P (symG l) wB o ∧ isB true (ending P (evO P fuel o depth) fuel f w02 r) = true ∧ ∀ (B : Nat) (cs0 : List Frame) (g0 : Gh) (W0 : W) (w0 : World) (g : Gh) (a : Act) (cs : List Frame) (w : World), Bs (symG l) wB B g0 W0 w0 →
    St P false B fn.ntmps (xsOf fn c) cs0 g0 W0 w0 [] env [] U g a cs w → Goes P false (dropSeq k0 c) (Post P false B fn.ntmps (xsOf fn c) cs0 g0 W0 w0 r) a cs w

theorem not_no {o : FuncId → List Value → Option Value} {r : Ou} (h : isB true (ending P (evO P fuel o depth) fuel f w02 r) = true) : ∀ y, r ≠ .no y := by
  intro y e
  subst e
  cases h

theorem Wins.fin (hP : NoNum P) (hm : P.follows .mixedOrders = true) (q3 : fn.ntmps ≤ 256) {k0 : Nat} {env : Env} {U : W} {o : FuncId → List Value → Option Value} (ho : OrcOk P (symG l) wB o) (h : isB true (lawEnd P fuel depth f fn c o k0 env U) = true) : Wins P fuel depth f fn c l wB k0 env U := by
  refine ⟨o, _, ho, h, fun B cs0 g0 W0 w0 g a cs w hB hs => ?_⟩
  exact (code_ok hP (evO_ok hP hm ho fuel depth) hB q3 hm fuel (dropSeq k0 c) _ _ _ _ _ _ hs).elim (not_no h)

theorem Wins.sub {k0 : Nat} {env : Env} {U : W} {t k : Nat} {v : Value} (ht : has (xsOf fn c) t = true) (hb : t < 256) (hv : l[k]? = some v) (hs : ∀ g, RV g v v) (h : Wins P fuel depth f fn c l wB k0 (subE t k v env) U) : Wins P fuel depth f fn c l wB k0 env U := by
  obtain ⟨o, r, ho, hr, hg⟩ := h
  refine ⟨o, r, ho, hr, fun B cs0 g0 W0 w0 g a cs w hB hst => hg B cs0 g0 W0 w0 g a cs w hB ?_⟩
  exact { hst with sl := subE_sl (hB.gle.trans hst.ext.ex.le) hst.sl ht hb hv (hs g) }

end stages
end Go.Cx
namespace Go.Cx
open Go Go.RowKit Go.ChangeShapes Go.WideShapes Go.ChangeAt

section
variable {H : Type} {enc : TypeId × Value → H} {P : Program}

theorem trodAll_stays (hl : laidOutB P = true) {W W' : World} (hb : Below W.heap.size W W') {sp : Nat → Bool} : ∀ {ts : List TypeId} {vs : List Value} {ds : List (DataW H)} {ps : List MemPlace}, (∀ t ∈ ts, P.readableRec t = true ∧ t < P.types.size) →
    (∀ p ∈ ps, p.block < W.heap.size ∧ sp p.block = true) → DataW.TrodAll enc P W 0 (fun _ => true) true ts vs ds ps → DataW.TrodAll enc P W' 0 sp true ts vs ds ps
  | [], [], [], _, _, _, h => h
  | [], [], _ :: _, _, _, _, h => h.elim
  | [], _ :: _, [], _, _, _, h => h.elim
  | [], _ :: _, _ :: _, _, _, _, h => h.elim
  | _ :: _, [], [], _, _, _, h => h.elim
  | _ :: _, [], _ :: _, _, _, _, h => h.elim
  | _ :: _, _ :: _, [], _, _, _, h => h.elim
  | t :: ts, v :: vs, d :: ds, ps, hr, hps, h => by
    obtain ⟨p, q, h1, h2, rfl⟩ := h
    refine ⟨p, q, ?_, trodAll_stays hl hb (fun t ht => hr t (by simp [ht])) (fun x hx => hps x (by simp [hx])) h2, rfl⟩
    exact WideElems.Trod_stays hl (hr t (by simp)).1 (hr t (by simp)).2 h1 (fun x hx => hb.same (hps x (by simp [hx])).1) (fun x hx => (hps x (by simp [hx])).2)

theorem post_of_below {f : Func} {s : ChangeSpec} {apart fresh handsOn again : Bool} {W W' : World} {args : Array Value} {v : Value} {ds gs : List (DataW H)} {before pa pv : List MemPlace}
    (hW : DataW.Whole enc P f.params.toList s.vars apart W args.toList ds gs before)
    (hres : ∀ (b : Nat) (sp : Nat → Bool) (hd : Bool), DataW.TrodAll enc P W' b sp hd f.resultTypes.toList (v.resultList f.resultTypes.size) (s.fn H (ds ++ gs)).results [])
    (hargs : ∀ sp : Nat → Bool, (∀ p ∈ before, sp p.block = true) → DataW.TrodAll enc P W' 0 sp true f.params.toList args.toList (s.fn H (ds ++ gs)).args pa)
    (hvars : ∀ sp : Nat → Bool, (∀ p ∈ before, sp p.block = true) → DataW.TrodVars enc P W' sp s.vars (s.fn H (ds ++ gs)).vars pv)
    (hps : before = pa ++ pv) (hb : Below W.heap.size W W')
    (hok : ∀ (j : Nat) (t : TypeId) (r : Value), f.resultTypes[j]? = some t → (v.resultList f.resultTypes.size)[j]? = some r → Value.okWide P W' .any 0 t r) :
    s.post enc P f apart fresh handsOn again W args v W' := by
  have hlt : ∀ p ∈ before, p.block < W.heap.size := fun p hp => hW.lt p hp
  have hold : ∀ p ∈ before, (fun b => decide (b < W.heap.size)) p.block = true := fun p hp => by simpa using hlt p hp
  refine ⟨ds, gs, before, [], pa, pv, hW, hres _ _ _, hargs _ hold, hvars _ hold, World.keptBut_mono (fun p hp => ⟨hp, ?_⟩) (hb.frame (· ∈ before)), fun _ => ?_⟩
  · rw [hps, List.mem_append] at hp
    exact Or.inr hp
  · obtain ⟨_, _, _, _, _, hz, hn⟩ := hW
    refine ⟨hok, _, _, ([] ++ pa) ++ pv, ⟨[] ++ pa, pv, trodAll_append (hargs _ (fun _ _ => rfl)) (hres _ _ _), hvars _ (fun _ _ => rfl), rfl, ?_, ?_⟩, ?_⟩
    · intro b off hp
      have hin : MemPlace.cell b off ∈ before := by rw [hps]; simpa using hp
      rw [hb.frozen (hlt _ hin)]
      exact hz b off hin
    · intro ha
      have := hn ha
      rw [hps] at this
      simpa using this
    · intro p hp _
      rw [hps]
      simpa using hp

theorem law_post {f : Func} {s : ChangeSpec} {apart fresh handsOn again : Bool} {W W' : World} {args : Array Value} {ds gs : List (DataW H)} {before : List MemPlace} {tb : TypeId}
    (hl : laidOutB P = true) (hr : ∀ t ∈ f.params.toList, P.readableRec t = true ∧ t < P.types.size) (hv : s.vars = []) (hres : f.resultTypes = #[tb]) (htb : P.underlying tb = some .bool)
    (hfn : ∀ ds : List (DataW H), ds.length = f.params.size → s.fn H ds = { results := [.lit (.bool true)], args := ds })
    (hW : DataW.Whole enc P f.params.toList s.vars apart W args.toList ds gs before) (hb : Below W.heap.size W W') : s.post enc P f apart fresh handsOn again W args (.bool true) W' := by
  have hW' := hW
  obtain ⟨p, q, hA, hV, hpq, hfz, hnd⟩ := hW
  have hV2 := hV
  rw [hv] at hV2
  obtain ⟨rfl, rfl⟩ := trodVars_none hV2
  have hlen : ∀ {ts : List TypeId} {vs : List Value} {ds : List (DataW H)} {ps : List MemPlace}, DataW.TrodAll enc P W 0 (fun _ => true) true ts vs ds ps → ds.length = ts.length := by
    intro ts
    induction ts with
    | nil => intro vs ds ps h; match vs, ds, h with | [], [], _ => rfl
    | cons t ts ih =>
      intro vs ds ps h
      match vs, ds, h with
      | v :: vs, d :: ds, ⟨_, _, _, h2, _⟩ => simp [ih h2]
  have hdl : ds.length = f.params.size := by have := hlen hA; simpa using this
  have hfd := hfn ds hdl
  have hlt : ∀ x ∈ before, x.block < W.heap.size := fun x hx => hW'.lt x hx
  subst hpq
  refine post_of_below (pa := p) (pv := []) hW' ?_ ?_ ?_ rfl hb (ok_one hres rfl (okWide_bool_mk htb true))
  · intro b sp hd
    rw [List.append_nil, hfd, hres]
    exact trodAll_mk1 (shut_bool htb true)
  · intro sp hsp
    rw [List.append_nil, hfd]
    exact trodAll_stays hl hb hr (fun x hx => ⟨hlt x (by simpa using hx), hsp x (by simpa using hx)⟩) hA
  · intro sp _
    rw [List.append_nil, hfd, hv]
    exact rfl
end
end Go.Cx
namespace Go.Cx
open Go Go.RowKit
variable {P : Program}

section
variable {B : Nat} {fuel : Nat}

noncomputable def evH (P : Program) (fuel : Nat) (orc : FuncId → List Value → W → Option Re) (depth : Nat) : CallF :=
  Nat.rec (motive := fun _ => CallF) (fun _ _ _ => no 140) (fun _ ih f args w => Option.rec (motive := fun _ => Re) (evFn1 P ih fuel f args w) (fun r => r) (orc f args w)) depth

def OrcOkH (P : Program) (gB : Gh) (wB : World) (orc : FuncId → List Value → W → Option Re) : Prop := ∀ (f : FuncId) (args args' : List Value) (r : Re) (g : Gh) (B : Nat) (a : W) (w : World), orc f args a = some r → Bs gB wB B g a w → All2 (RV g) args args' → CallR P g B a w f args' r

theorem evH_ok {gB : Gh} {wB : World} {orc : FuncId → List Value → W → Option Re} (hP : NoNum P) (hm : P.follows .mixedOrders = true) (ho : OrcOkH P gB wB orc) (fuel : Nat) : ∀ depth, CfOk P gB wB (evH P fuel orc depth)
  | 0 => fun _ _ _ _ _ _ _ _ _ => trivial
  | depth + 1 => by
    intro f args args' g B a w hB ha
    show CallR P g B a w f args' (Option.rec (motive := fun _ => Re) (evFn1 P (evH P fuel orc depth) fuel f args a) (fun r => r) (orc f args a) : Re)
    cases he : orc f args a with
    | none => exact fn1_ok hP hm (evH_ok hP hm ho fuel depth) f args args' g B a w hB ha
    | some r => exact ho f args args' r g B a w he hB ha

theorem callR_val {gB : Gh} {wB : World} {g : Gh} {a : W} {w : World} {f : FuncId} {args' : List Value} {v : Value} (hB : Bs gB wB B g a w) (h : Calls P f ⟨args'⟩ w fun e w' => Below w.heap.size w w' ∧ ∃ v', e = .returned v' ∧ RV g v v') : CallR P g B a w f args' (.ok v a) := by
  refine Calls.mono h ?_
  rintro e w' ⟨hb, v', rfl, hv⟩
  exact ⟨v', g, rfl, hv, rel_grow hB.rel hb, rfl, rfl⟩

noncomputable def joinL (sep : List UInt8) (l : List Value) : Option (List UInt8) :=
  List.rec (motive := fun _ => Option (List UInt8)) (some []) (fun v r ih => match v with
    | .string ⟨⟨b⟩⟩ => match r with | [] => some b | _ => match ih with | some t => some (b ++ (sep ++ t)) | none => none
    | _ => none) l
noncomputable def orcJoin (f : FuncId) : FuncId → List Value → W → Option Re := fun f' args w =>
  Bool.rec (motive := fun _ => Option Re) none (match args with
    | [.slice (some a) (.succ n) _, .string ⟨⟨sep⟩⟩] => match rd w.h a (Nat.succ n) with
      | some l => match joinL sep l with | some t => Bool.rec (motive := fun _ => Option Re) none (some (.ok (.string ⟨⟨t⟩⟩) w)) (Nat.ble t.length 1000000 && Nat.ble n 1000000) | none => none
      | none => none
    | _ => none) (Nat.beq f' f)

theorem joinL_eq {sep : List UInt8} : ∀ {l : List Value} {t : List UInt8}, joinL sep l = some t → ∃ xs : List ByteArray, l = xs.map Value.string ∧ t = Lib.join (xs.map (·.data.toList)) sep
  | [], t, h => by cases h; exact ⟨[], rfl, rfl⟩
  | v :: r, t, h => by
    cases v with
    | string s =>
      obtain ⟨⟨b⟩⟩ := s
      cases r with
      | nil =>
        have h : some b = some t := h
        rw [Option.some.inj h]
        exact ⟨[⟨⟨t⟩⟩], rfl, (Lib.join_one _ _).symm⟩
      | cons u r =>
        have h : (match joinL sep (u :: r) with | some t => some (b ++ (sep ++ t)) | none => none) = some t := h
        cases hj : joinL sep (u :: r) with
        | none => rw [hj] at h; cases h
        | some t' =>
          rw [hj] at h
          cases h
          obtain ⟨xs, e1, e2⟩ := joinL_eq hj
          cases xs with
          | nil => cases e1
          | cons x xs =>
            refine ⟨⟨⟨b⟩⟩ :: x :: xs, by rw [e1]; rfl, ?_⟩
            rw [e2]
            simp [Lib.join, List.intercalate]
    | _ => cases h

theorem all2_str {g : Gh} : ∀ {xs : List ByteArray} {l' : List Value}, All2 (RC g) (xs.map Value.string) l' → l' = xs.map Value.string
  | [], _, h => by cases h; rfl
  | x :: xs, _, h => by
    cases h with
    | cons h1 h2 =>
      rw [all2_str h2]
      have : ∀ {v}, RC g (.string x) v → v = .string x := by
        intro v h
        cases h with
        | base h => cases h; rfl
      rw [this h1]; rfl

theorem orcJoin_ok {gB : Gh} {wB : World} {f : FuncId}
    (hJ : ∀ (bk o c : Nat) (xs : List ByteArray) (sep : ByteArray) (w : World), (∀ (j : Nat) x, xs[j]? = some x → w.cell? ⟨bk, o + j, none⟩ = some (.string x)) → bk < w.heap.size → xs.length ≤ 140737488355328 → xs.length ≤ c →
      (Lib.join (xs.map (·.data.toList)) sep.data.toList).length ≤ 281474976710656 →
      Calls P f #[.slice (some ⟨bk, o, none⟩) xs.length c, .string sep] w fun e w' => e = .returned (.string ⟨(Lib.join (xs.map (·.data.toList)) sep.data.toList).toArray⟩) ∧ Below w.heap.size w w') : OrcOkH P gB wB (orcJoin f) := by
  intro f' args args' r g B a w he hB ha
  unfold orcJoin at he
  cases hf : Nat.beq f' f with
  | false => rw [hf] at he; cases he
  | true =>
    rw [hf] at he
    have := Nat.eq_of_beq_eq_true hf
    subst this
    dsimp only at he
    split at he
    · rename_i ad n c sep
      split at he
      · rename_i l hrd
        split at he
        · rename_i t hj
          cases hb : (Nat.ble t.length 1000000 && Nat.ble n 1000000) with
          | false => rw [hb] at he; cases he
          | true =>
            rw [hb] at he
            cases he
            rw [Bool.and_eq_true] at hb
            have b1 := Nat.le_of_ble_eq_true hb.1
            have b2 := Nat.le_of_ble_eq_true hb.2
            cases ha with
            | cons h1 ha =>
              cases ha with
              | cons h2 ha =>
                cases ha
                have h1 := h1.slice
                have h2 := h2.string
                subst h2
                obtain ⟨xs, rfl, rfl⟩ := joinL_eq hj
                cases h1 with
                | same h => have := (cellV_slice h).2.1; cases this
                | slice hg hc hn hl hal =>
                  rename_i i o s cp a'
                  obtain ⟨l', e1, e2, e3⟩ := rd_sound hB.rel hrd hg hc
                  have e2 := all2_str e2
                  subst e2
                  have hxl : xs.length = Nat.succ n := by simpa using e1
                  rcases hal with hz | rfl
                  · omega
                  · have hcell : ∀ (j : Nat) x, xs[j]? = some x → w.cell? ⟨cp.blk, (o - cp.cut) + j, none⟩ = some (.string x) := by
                      intro j x hx
                      have := e3 j (.string x) (by simp [hx])
                      have e : (⟨cp.blk, o - cp.cut, none⟩ : Addr).add j = ⟨cp.blk, o - cp.cut + j, none⟩ := by
                        cases j <;> simp [Addr.add]
                      rw [e] at this
                      exact this
                    have hlt : cp.blk < w.heap.size := by
                      have h0 : ∃ x, xs[0]? = some x := ⟨xs[0]'(by omega), List.getElem?_eq_getElem (by omega)⟩
                      obtain ⟨x, hx⟩ := h0
                      have hc := hcell 0 x hx
                      unfold World.cell? at hc
                      split at hc
                      · rename_i hb
                        exact (Array.getElem?_eq_some_iff.1 hb).1
                      · cases hc
                    have := hJ cp.blk (o - cp.cut) (c + cp.ext) xs ⟨⟨sep⟩⟩ w hcell hlt (by omega) (by omega) (Nat.le_trans b1 (by omega))
                    rw [hxl] at this
                    refine callR_val hB (this.mono ?_)
                    rintro e w' ⟨rfl, hb⟩
                    exact ⟨hb, _, rfl, RV.self rfl⟩
        · cases he
      · cases he
    · cases he
end
end Go.Cx
