/- An evaluator of the model's code on abstract states, proved sound (part 5 of 5). -/
import Derived.Test.YtcjpeijiaojeiaaGreatEb
import Derived.Shelf.Spec.SlicesInsertGrow
import Derived.Shelf.Slices.Delete
import Derived.Lib.Hide
import Derived.Test.YtcjpeijiaojeiaaGreatEd
/- slices.Clone, Insert, Delete: what they do, whatever the elements are. -/
namespace Go.Ev
open Go.Proofs Go.Shelf Go.RowKit Go.Lib
def rn (t e ti tb ov rr:Nat):Ren:=⟨fun f=>match f with | 29=>ov | 30=>rr | _=>0,fun x=>match x with | 24=>t | 9=>e | 3=>ti | 4=>tb | _=>0,fun x=>x⟩
noncomputable def iH (ρ:Ren) (nm:String) (tn:Array String):Func:={ Body2.n16 ρ with name:=nm,tmpNames:=tn }
theorem IJ (ρ:Ren)(nm:String)(tn:Array String):(iH ρ nm tn).ntmps=8:=rfl
noncomputable def jI (ρ:Ren) (nm:String) (tn:Array String):Func:={ Body2.n22 ρ with name:=nm,tmpNames:=tn }
theorem nX (ρ:Ren)(nm:String)(tn:Array String):(jI ρ nm tn).ntmps=95:=Body2.n22_ntmps ρ
structure eD (P:Program) (ρ:Ren):Prop where
 mixed:P.follows .mixedOrders=true
 t0:P.underlying (ρ.t 24)=some (.slice (ρ.t 9))
 a0:∀ w,(isAgg (ρ.t 24)).run P w=.ok false w
 z0:∀ w,(Go.sizeOf (ρ.t 24)).run P w=.ok 1 w
 v0:∀ w,(zeroValue (ρ.t 24)).run P w=.ok (Value.slice none 0 0) w
 t3:P.underlying (ρ.t 3)=some (.int .i64)
 a3:∀ w,(isAgg (ρ.t 3)).run P w=.ok false w
 z3:∀ w,(Go.sizeOf (ρ.t 3)).run P w=.ok 1 w
 v3:∀ w,(zeroValue (ρ.t 3)).run P w=.ok (Value.int .i64 0) w
 t4:P.underlying (ρ.t 4)=some .bool
 a4:∀ w,(isAgg (ρ.t 4)).run P w=.ok false w
 z4:∀ w,(Go.sizeOf (ρ.t 4)).run P w=.ok 1 w
 v4:∀ w,(zeroValue (ρ.t 4)).run P w=.ok (Value.bool false) w
 el:∃ i z,P.info? (ρ.t 9)=some i∧i.zero=some z∧z.cells.size=i.size∧i.bytes≤131072∧0 < i.size
section
variable {P:Program} {ρ:Ren} {f:Nat}
set_option maxHeartbeats 2000000 in
set_option maxRecDepth 100000 in
theorem aEB (L:eD P ρ){nm:String}{tn:Array String}(hF:P.funcs[f]?=some (iH ρ nm tn))(ad:Addr)(z m cap:Nat)(news:List Value)(w:World)
  (hel:gw P (ρ.t 9) z) (hlen:news.length=m * z) (h1:∀ u∈news,u.oneCell'=true) (hfit:m≤1073741824) (hc:0 < m→∀ (j:Nat) u,news[j]?=some u→w.cell? (ad.add j)=some u) :
  Calls P f #[.slice (some ad) m cap] w fun en w'=>∃ s',en=.returned s'∧w'.ownsRow w.heap.size (ρ.t 9) z s' m news∧Below w.heap.size w w':=by
 have mixed:=L.mixed;have t24:=L.t0;have a24:=L.a0;have z24:=L.z0;have v24:=L.v0;have t4:=L.t4;have a4:=L.a4;have z4:=L.z4;have v4:=L.v4
 obtain ⟨i0,z0,hi,hz0,hz1,hz2,hz3⟩:=L.el
 have z9:∀ w,(Go.sizeOf (ρ.t 9)).run P w=.ok i0.size w:=fun w=>by simp [sizeOf,typeInfo,hi]
 have v9:∀ w,(zeroValue (ρ.t 9)).run P w=.ok z0 w:=fun w=>by simp [zeroValue,typeInfo,hi,hz0]
 have hzz:i0.size=z:=by unfold gw at hel;rw [hi] at hel;simpa using hel
 have q24:∀ (w:World) (a:Option Addr) (n c n' c':Nat),(binOp .eql (ρ.t 24) (.slice a n c) (.slice none n' c')).run P w=.ok (.bool a.isNone) w:=fun w a n c n' c'=>Lib.run_eql_slice_nil w _ _ a n c n' c' t24
 have u24:∀ w,Sem.run P (underlying (ρ.t 24)) w=.ok (TypeDesc.slice (ρ.t 9)) w:=run_underlying t24
 have A:Aside (0 < m→∀ (j:Nat) u,news[j]?=some u→w.cell? (ad.add j)=some u):=hc
 have H1:=Lib.hid h1
 have HL:=Lib.hid hlen
 clear hc h1 hlen
 subst hzz
 go_enter hF,IJ ρ nm tn
 go_wp2_with (at_builtin;go_loud (refine wpList_append_own _ rfl _ _ (ρ.t 24) rfl w.heap.size (ρ.t 9) i0 z0 i0.size i0.bytes t24 hi hz0 rfl rfl hz1 hz3 _ _ _ rfl (World.ownsRow_made w #[] 0 (Nat.le_refl _) (Nat.zero_le _) (by simp)) ad m cap news rfl HL.out ?qc2 H1.out ?qc4 ?qc5 ?qc6 ?_))
 case qc2 =>
  intro j u hj
  have hm:0 < m:=by
   rcases Nat.eq_zero_or_pos m with h0 | h0
   ·have h1:=HL.out
    rw [h0,Nat.zero_mul] at h1
    rw [List.eq_nil_of_length_eq_zero h1] at hj;simp at hj
   ·exact h0
  exact Lib.cell?_alloc_some _ (A.out hm j u hj)
 case qc4=>unfold maxLen;omega
 case qc5=>exact Nat.le_trans (Nat.mul_le_mul (show 0+m≤1073741824 by omega) hz2) (by decide)
 case qc6=>simp
 intro v' w1 hown hgrow hnil
 go_wp2
 go_ret
 refine ⟨v',rfl,by simpa using hown,?_⟩
 exact ((Below.refl _ w).alloc (Nat.le_refl _) _).grown hgrow (by simp) (by intro k hk;simp [Value.ownBlock] at hk;omega)
theorem Below.same {B:Nat}{w w':World}(h:Below B w w'):iX w w':=⟨h.os,h.tape,h.output,h.size⟩
set_option maxHeartbeats 2000000 in
theorem aEV (L:eD P ρ){nm:String}{tn:Array String}(hF:P.funcs[f]?=some (iH ρ nm tn))(n c:Nat)(w:World) :
  Calls P f #[.slice none n c] w fun e w'=>e=.returned (.slice none 0 0)∧w'=w:=by
 have mixed:=L.mixed;have t24:=L.t0;have a24:=L.a0;have z24:=L.z0;have v24:=L.v0;have t4:=L.t4;have a4:=L.a4;have z4:=L.z4;have v4:=L.v4
 have q24:∀ (w:World) (a:Option Addr) (n c n' c':Nat),(binOp .eql (ρ.t 24) (.slice a n c) (.slice none n' c')).run P w=.ok (.bool a.isNone) w:=fun w a n c n' c'=>Lib.run_eql_slice_nil w _ _ a n c n' c' t24
 go_enter hF,IJ ρ nm tn
 go_wp2
 go_ret
 exact ⟨rfl,rfl⟩
theorem jT (L:eD P ρ){nm:String}{tn:Array String}(hF:P.funcs[f]?=some (iH ρ nm tn)):iT P f (ρ.t 9):=by
 intro z w v m news B hel hcells hlen h1 hfit hB
 obtain ⟨a,cap,rfl,hmc,hc⟩:=hcells
 cases a with
 | none =>
  have hm:m=0:=by
   rcases Nat.eq_zero_or_pos m with h0 | h0
   ·exact h0
   ·obtain ⟨_,h2,_⟩:=hc h0;cases h2
  subst hm
  refine (aEV L hF 0 cap w).mono ?_
  rintro en w' ⟨rfl,rfl⟩
  rw [Nat.zero_mul] at hlen
  have hn:=List.eq_nil_of_length_eq_zero hlen
  subst hn
  exact ⟨_,rfl,⟨by simp,.inl ⟨rfl,rfl⟩⟩,.refl _,fun _ _ _=>rfl,fun j hj=>by simp [Value.ownBlock] at hj⟩
 | some ad =>
  refine (aEB L hF ad z m cap news w hel hlen h1 hfit fun hm=>?_).mono ?_
  ·obtain ⟨ad',h2,h3⟩:=hc hm
   cases h2;exact h3
  ·rintro en w' ⟨s',rfl,hrow,hb⟩
   refine ⟨s',rfl,⟨hrow.1,hrow.2.imp id fun ⟨g,c,cur,h2,h3,h4⟩=>⟨g,c,cur,h2,Nat.le_trans hB h3,h4⟩⟩,Below.same hb,fun j hj _=>hb.block j hj,fun j hj=>.inr (hrow.lt j hj).1⟩
theorem uK (w:World)(dT sT ty e:TypeId)(i:TypeInfo)(hu:P.underlying dT=some (.slice e))(hi:P.info? e=some i)(g o dLen dCap:Nat)(a:Addr)(sLen sCap n:Nat)(cur:Array Value)(t:TypeId)(cs:List Value)
  (hg:w.heap[g]?=some (.cells cur t (0,0))) (hn:Nat.min sLen dLen=n) (hl:cs.length=n * i.size)
  (hsrc:∀ j v,cs[j]?=some v→w.cell? (a.add j)=some v) (hfit:o+cs.length≤cur.size) (h1:∀ v∈cs,v.oneCell'=true) :
  (Builtin.copy_ #[dT,sT] ty #[.slice (some ⟨g,o,none⟩) dLen dCap,.slice (some a) sLen sCap]).run P w =
   .ok (goInt n) (w.setRow g (cur.toList.take o++cs++cur.toList.drop (o+cs.length)).toArray):=by
 have hlo:=run_loadCells_list (P:=P) w a cs hsrc
 have hst:=run_storeCells_at P g o t cs 0 cur w hg (by simpa using hfit) h1
 simp only [Nat.add_zero] at hst
 simp [Builtin.copy_,run_underlying hu,Builtin.lenOf,Builtin.firstCells,sizeOf,typeInfo,hi,hn,← hl,hlo,hst]
theorem Uc (w:World)(tS tR e:TypeId)(ht:P.underlying tS=some (.slice e))(size:Nat)(hz:∀ w,(Go.sizeOf e).run P w=.ok size w)(a b:Addr)(la ca lb cb:Nat)(hne:a.block≠b.block)
  {xa xb:Array Value} {ea eb:TypeId} {fa:Nat×Nat} (hA:w.heap[a.block]?=some (.cells xa ea fa)) (hxa:xa.size≠0) (hB:w.heap[b.block]?=some (.cells xb eb (0,0))) (hxb:xb.size≠0) :
  (Extern.SlicesOverlaps.overlaps #[tS,tS] #[tR] #[.slice (some a) la ca,.slice (some b) lb cb]).run P w=.ok (.bool false) w:=by
 have hnb:(a.block != b.block)=true:=by simpa using hne
 have hnb':(a.block == b.block)=false:=by simpa using hne
 have sA:w.shape? a.block=some (ea,xa.size):=by simp [World.shape?,hA]
 have sB:w.shape? b.block=some (eb,xb.size):=by simp [World.shape?,hB]
 have fB:∀ o s,w.frozen? ⟨b.block,o,s⟩=false:=fun o s=>by simp [World.frozen?,hB]
 have fB':w.frozen? b=false:=by simp [World.frozen?,hB]
 cases hA':xa.size with
 | zero=>exact absurd hA' hxa
 | succ ka =>
 cases hB':xb.size with
 | zero=>exact absurd hB' hxb
 | succ kb =>
 rw [hA'] at sA;rw [hB'] at sB
 change Sem.run P (α:=Value) (do
  let some t := (#[tS, tS] : Array TypeId)[0]? | stuck "slices.overlaps: no parameter types"
  let .slice elem ← underlying t | stuck "slices.overlaps: slice type expected"
  let size ← sizeOf elem
  match (some a:Option Addr),(some b:Option Addr) with
  | some a,some b =>
   if la=0∨lb=0∨size=0 then pure (Value.bool false)
   else if a.block != b.block && (← frozen a) && (← frozen b) then unsupported .addressObserved
   else do
    if a.block != b.block then do
     noView a;noView b
     if ← mayBeOne a b then return Value.bool ((← choose (.extern "sameAddr.stringBytes" 2)) == 1)
    pure (Value.bool (a.block == b.block && a.off < b.off+lb * size && b.off < a.off+la * size))
  | _,_=>pure (Value.bool false)) w=_
 by_cases h0:la=0∨lb=0∨size=0
 ·simp [run_underlying ht,hz,h0]
 ·cases hfa:w.frozen? a<;>cases hfe:w.frozen? ⟨a.block,ka+1,none⟩<;>simp [run_underlying ht,hz,h0,hnb,hnb',frozen,noView,viewAt,mayBeOne,stringish,shape,Sem.run,sA,sB,hfa,hfe,fB]
end
end Go.Ev
/- slices.Insert: what it does, whatever the elements are. -/
namespace Go.Ev
open Go.Proofs Go.Shelf Go.RowKit Go.Lib
set_option linter.unusedVariables false
set_option linter.unusedSimpArgs false
section
variable {P:Program} {ρ:Ren} {f:Nat}
set_option maxHeartbeats 4000000 in
set_option maxRecDepth 100000 in
theorem aDh (L:eD P ρ){nm:String}{tn:Array String}(hF:P.funcs[f]?=some (jI ρ nm tn))(a a2:Option Addr)(i n c c2:Nat)(w:World)(hi:i≤n)(hnc:n≤c)(hna:a=none→c=0) :
  Calls P f #[.slice a n c,.int .i64 i,.slice a2 0 c2] w fun en w'=>en=.returned (.slice a n c)∧w'=w:=by
 have mixed:=L.mixed;have t24:=L.t0;have a24:=L.a0;have z24:=L.z0;have v24:=L.v0;have t4:=L.t4;have a4:=L.a4;have z4:=L.z4;have v4:=L.v4;have t3:=L.t3;have a3:=L.a3;have z3:=L.z3;have v3:=L.v3
 have u3:=run_underlying L.t3;have u4:=run_underlying L.t4;have u24:=run_underlying L.t0
 obtain ⟨i0,z0,hi0,hz0,hz1,hz2,hz3⟩:=L.el
 have z9:∀ w,(Go.sizeOf (ρ.t 9)).run P w=.ok i0.size w:=fun w=>by simp [sizeOf,typeInfo,hi0]
 have v9:∀ w,(zeroValue (ρ.t 9)).run P w=.ok z0 w:=fun w=>by simp [zeroValue,typeInfo,hi0,hz0]
 have hic:i≤c:=by omega
 cases a with
 | none =>
  have h0:=hna rfl
  subst h0
  have hn0:n=0:=by omega
  have hi00:i=0:=by omega
  subst hn0;subst hi00
  go_enter hF,nX ρ nm tn
  go_wp2
  all_goals (go_ret;exact ⟨rfl,rfl⟩)
 | some ad =>
  go_enter hF,nX ρ nm tn
  go_wp2
  all_goals (go_ret;exact ⟨rfl,rfl⟩)
set_option maxHeartbeats 4000000 in
set_option maxRecDepth 100000 in
theorem aEd (L:eD P ρ){nm:String}{tn:Array String}(hF:P.funcs[f]?=some (jI ρ nm tn))(a:Option Addr)(ad:Addr)(z n c m c2 B:Nat)(xs news:List Value)(w:World)(hel:gw P (ρ.t 9) z)(hrow:w.ownsRow B (ρ.t 9) z (.slice a n c) n xs)
  (hm:0 < m) (hnc:n≤c) (hna:a=none→c=0) (hlen:news.length=m * z) (h1:∀ u∈news,u.oneCell'=true) (hfit:n+m≤1073741824) (hB:B≤w.heap.size) (hc:∀ (j:Nat) u,news[j]?=some u→w.cell? (ad.add j)=some u) :
  Calls P f #[.slice a n c,.int .i64 n,.slice (some ad) m c2] w fun en w'=>∃ v',en=.returned v'∧w'.ownsRow B (ρ.t 9) z v' (n+m) (xs++news)∧w.grownBy w' (Value.slice a n c).ownBlock∧(∀ j,v'.ownBlock=some j→(Value.slice a n c).ownBlock=some j∨w.heap.size≤j):=by
 have mixed:=L.mixed;have t24:=L.t0;have a24:=L.a0;have z24:=L.z0;have v24:=L.v0;have t4:=L.t4;have a4:=L.a4;have z4:=L.z4;have v4:=L.v4;have t3:=L.t3;have a3:=L.a3;have z3:=L.z3;have v3:=L.v3
 have u3:=run_underlying L.t3;have u4:=run_underlying L.t4;have u24:=run_underlying L.t0
 obtain ⟨i0,z0,hi0,hz0,hz1,hz2,hz3⟩:=L.el
 have z9:∀ w,(Go.sizeOf (ρ.t 9)).run P w=.ok i0.size w:=fun w=>by simp [sizeOf,typeInfo,hi0]
 have v9:∀ w,(zeroValue (ρ.t 9)).run P w=.ok z0 w:=fun w=>by simp [zeroValue,typeInfo,hi0,hz0]
 have hzz:i0.size=z:=by unfold gw at hel;rw [hi0] at hel;simpa using hel
 subst hzz
 obtain ⟨g,cap,w',hrun,hown,hgrow,hw,hlt⟩:=run_append_lies (P:=P) (w:=w) (ρ.t 24) (ρ.t 24) B (ρ.t 9) i0 z0 i0.size i0.bytes t24 hi0 hz0 rfl rfl hz1 hz3 (.slice a n c) n xs hrow ad m c2 news hlen hc h1 hm (by unfold maxLen;omega) (Nat.le_trans (Nat.mul_le_mul hfit hz2) (by decide)) hB w.heap.size rfl
 have hm0:¬ ((m:Int)=0):=by omega
 have R:∀ ty,(Builtin.append_ #[ρ.t 24,ρ.t 24] ty #[.slice a n c,.slice (some ad) m c2]).run P w=.ok (.slice (some ⟨g,0,none⟩) (n+m) cap) w':=fun ty=>hrun
 have fin:∀ j,(Value.slice (some ⟨g,0,none⟩) (n+m) cap).ownBlock=some j→(Value.slice a n c).ownBlock=some j∨w.heap.size≤j:=by
  intro j hj
  have:g=j:=by simpa [Value.ownBlock] using hj
  subst this
  rcases hw with h | h
  ·exact .inl h
  ·exact .inr (by omega)
 have HO:=Lib.hid hown
 have HG:=Lib.hid hgrow
 have HF:=Lib.hid fin
 have HR:=Lib.hid R
 clear hown hgrow fin hw R hrun hc h1 hlen hrow
 cases a with
 | none =>
  have h0:=hna rfl
  subst h0
  have hn0:n=0:=by omega
  subst hn0
  have HO':=HO.out;have HF':=HF.out;have HR':=HR.out
  clear HO HF HR
  simp only [Nat.zero_add] at HO' HF' HR' ⊢
  have HO:=Lib.hid HO';have HF:=Lib.hid HF';have HR:=Lib.hid HR'
  clear HO' HF' HR'
  go_enter hF,nX ρ nm tn
  go_wp2_with (at_builtin;refine Lib.wpList_append_run _ rfl _ _ _ _ rfl _ _ rfl rfl _ _ (HR.out _) ?_)
  all_goals (go_ret;exact ⟨_,rfl,HO.out,HG.out,HF.out⟩)
 | some a0 =>
  go_enter hF,nX ρ nm tn
  go_wp2_with (at_builtin;refine Lib.wpList_append_run _ rfl _ _ _ _ rfl _ _ rfl rfl _ _ (HR.out _) ?_)
  all_goals (go_ret;exact ⟨_,rfl,HO.out,HG.out,HF.out⟩)
def lQ (P:Program)(ρ:Ren):Prop:=∀ (args:Array Value) (w:World),(callFunc (ρ.f 29) args).run P w=((Extern.SlicesOverlaps.overlaps #[(ρ.t 24),(ρ.t 24)] #[(ρ.t 4)] args).run P w).andThen fun v w'=>.ok (.value v) w'
theorem ZO (cur news:List Value)(A M N:Nat)(hA:A≤N)(hN:N+M≤cur.length)(hn:news.length=M) :
  let cs:=(cur.take N).drop A
  let c1:=cur.take (A+M)++cs++cur.drop (A+M+cs.length)
  (c1.take A++news++c1.drop (A+news.length)).take (N+M)=(cur.take N).take A++news++(cur.take N).drop A∧c1.length=cur.length∧(c1.take A++news++c1.drop (A+news.length)).length=cur.length:=by
 intro cs c1
 have hcs:cs.length=N - A:=by simp [cs];omega
 have h1:c1.take A=cur.take A:=by
  simp only [c1,List.append_assoc]
  rw [List.take_append_of_le_length (by simp;omega),List.take_take,Nat.min_eq_left (by omega)]
 have h2:c1.drop (A+news.length)=cs++cur.drop (A+M+cs.length):=by
  simp only [c1,List.append_assoc,hn]
  rw [List.drop_append_of_le_length (by simp;omega),List.drop_of_length_le (by simp;omega),List.nil_append]
 have hlen:c1.length=cur.length:=by simp [c1,hcs];omega
 refine ⟨?_,hlen,?_⟩
 ·rw [h1,h2,← List.append_assoc,List.take_append_of_le_length (by simp [hcs,hn];omega),List.take_of_length_le (by simp [hcs,hn];omega)]
  rw [List.take_take,Nat.min_eq_left hA]
 ·simp [hlen,hn];omega
set_option maxHeartbeats 4000000 in
set_option maxRecDepth 100000 in
theorem aBi (L:eD P ρ){nm:String}{tn:Array String}(hF:P.funcs[f]?=some (jI ρ nm tn))(hov:lQ P ρ)(ad:Addr)(z n c m c2 i b:Nat)(cur:Array Value)(news:List Value)(w:World)(hel:gw P (ρ.t 9) z)
  (hcur:w.heap[b]?=some (.cells cur (ρ.t 9) (0,0))) (hcs:cur.size=c * z) (h1c:∀ u∈cur.toList.take (n * z),u.oneCell'=true)
  (hm:0 < m) (hi:i < n) (hroom:n+m≤c) (hc63:c≤9223372036854775807) (hlen:news.length=m * z) (h1:∀ u∈news,u.oneCell'=true) (hfit:n+m≤1073741824) (hc:∀ (j:Nat) u,news[j]?=some u→w.cell? (ad.add j)=some u) (hne:ad.block≠b) :
  Calls P f #[.slice (some ⟨b,0,none⟩) n c,.int .i64 i,.slice (some ad) m c2] w fun en w'=>en=.returned (.slice (some ⟨b,0,none⟩) (n+m) c)∧∃ cur2:Array Value,w'=w.drew.setRow b cur2∧cur2.size=c * z∧cur2.toList.take ((n+m) * z)=(cur.toList.take (n * z)).take (i * z)++news++(cur.toList.take (n * z)).drop (i * z):=by
 have mixed:=L.mixed;have t24:=L.t0;have a24:=L.a0;have z24:=L.z0;have v24:=L.v0;have t4:=L.t4;have a4:=L.a4;have z4:=L.z4;have v4:=L.v4;have t3:=L.t3;have a3:=L.a3;have z3:=L.z3;have v3:=L.v3
 have u3:=run_underlying L.t3;have u4:=run_underlying L.t4;have u24:=run_underlying L.t0
 obtain ⟨i0,z0,hi0,hz0,hz1,hz2,hz3⟩:=L.el
 have z9:∀ w,(Go.sizeOf (ρ.t 9)).run P w=.ok i0.size w:=fun w=>by simp [sizeOf,typeInfo,hi0]
 have v9:∀ w,(zeroValue (ρ.t 9)).run P w=.ok z0 w:=fun w=>by simp [zeroValue,typeInfo,hi0,hz0]
 have hzz:i0.size=z:=by unfold gw at hel;rw [hi0] at hel;simpa using hel
 subst hzz
 have hmz:0 < m * i0.size:=Nat.mul_pos hm hz3
 -- the blocks
 have hcell0:=hc 0 _ (List.getElem?_eq_getElem (by omega))
 have hA:∃ xa ea fa,w.heap[ad.block]?=some (.cells xa ea fa)∧xa.size≠0:=by
  have hb:(ad.add 0).block=ad.block:=by unfold Addr.add;split<;>rfl
  unfold World.cell? at hcell0
  rw [hb] at hcell0
  split at hcell0
  ·rename_i xa ea fa hx
   refine ⟨xa,ea,fa,hx,fun h0=>?_⟩
   split at hcell0
   ·cases hcell0
   ·have:=(Array.getElem?_eq_some_iff.1 hcell0).1
    omega
  ·cases hcell0
 obtain ⟨xa,ea,fa,hxa,cO⟩:=hA
 have hcn:cur.size≠0:=by rw [hcs];exact Nat.ne_of_gt (Nat.mul_pos (by omega) hz3)
 have hovr:∀ o lb cb,(callFunc (ρ.f 29) #[.slice (some ad) m c2,.slice (some ⟨b,o,none⟩) lb cb]).run P w=.ok (.value (.bool false)) w:=fun o lb cb=>by
  rw [hov,Uc w (ρ.t 24) (ρ.t 4) (ρ.t 9) t24 i0.size z9 ad ⟨b,o,none⟩ m c2 lb cb hne hxa cO hcur hcn]
  rfl
 have hmul:∀ a b:Nat,a≤b→a * i0.size≤b * i0.size:=fun a b h=>Nat.mul_le_mul_right _ h
 have hx1:=hmul (n+m) c hroom
 have hx2:=hmul i n (by omega)
 have hx3:=hmul 1 m hm
 rw [Nat.add_mul] at hx1
 have hL:=ZO cur.toList news (i * i0.size) (m * i0.size) (n * i0.size) hx2 (by simp;omega) hlen
 obtain ⟨cs,hcsd⟩:∃ cs,cs=(cur.toList.take (n * i0.size)).drop (i * i0.size):=⟨_,rfl⟩
 have hcsl:cs.length=n * i0.size - i * i0.size:=by rw [hcsd];simp;omega
 simp only [← hcsd] at hL
 obtain ⟨cur1,hcur1⟩:∃ cur1:Array Value,cur1=(cur.toList.take ((i+m) * i0.size)++cs++cur.toList.drop ((i+m) * i0.size+cs.length)).toArray:=⟨_,rfl⟩
 simp only [← Nat.add_mul] at hL
 have hcur1l:cur1.toList=cur.toList.take ((i+m) * i0.size)++cs++cur.toList.drop ((i+m) * i0.size+cs.length):=by rw [hcur1]
 rw [← hcur1l] at hL
 obtain ⟨cur2,hcur2⟩:∃ cur2:Array Value,cur2=(cur1.toList.take (i * i0.size)++news++cur1.toList.drop (i * i0.size+news.length)).toArray:=⟨_,rfl⟩
 have hcur2l:cur2.toList=cur1.toList.take (i * i0.size)++news++cur1.toList.drop (i * i0.size+news.length):=by rw [hcur2]
 rw [← hcur2l] at hL
 obtain ⟨hL1,hL2,hL3⟩:=hL
 have hs1:cur1.size=c * i0.size:=by simpa [hcs] using hL2
 have hs2:cur2.size=c * i0.size:=by simpa [hcs] using hL3
 have hsub:(n - i) * i0.size=n * i0.size - i * i0.size:=Nat.sub_mul _ _ _
 have hadd:(i+m) * i0.size=i * i0.size+m * i0.size:=Nat.add_mul _ _ _
 have hnadd:(n+m) * i0.size=n * i0.size+m * i0.size:=Nat.add_mul _ _ _
 have hg0:w.drew.heap[b]?=some (.cells cur (ρ.t 9) (0,0)):=hcur
 have hcell:∀ (j:Nat) v,cs[j]?=some v→w.drew.cell? ((⟨b,i * i0.size,none⟩:Addr).add j)=some v:=by
  intro j v hj
  rw [Addr.add_lit]
  show World.cell? w.drew _=_
  unfold World.cell?
  rw [hg0]
  simp only [Option.isSome_none,Bool.false_eq_true,if_false]
  rw [hcsd,List.getElem?_drop,List.getElem?_take] at hj
  split at hj
  ·rw [← Array.getElem?_toList];exact hj
  ·cases hj
 have hcp1:∀ ty dc sc,(Builtin.copy_ #[(ρ.t 24),(ρ.t 24)] ty #[.slice (some ⟨b,(i+m) * i0.size,none⟩) (n+m - (i+m)) dc,.slice (some ⟨b,i * i0.size,none⟩) (n+m - i) sc]).run P w.drew=.ok (goInt (n - i:Nat)) (w.drew.setRow b cur1):=fun ty dc sc=>by
  rw [hcur1]
  exact uK w.drew _ _ ty (ρ.t 9) i0 t24 hi0 b ((i+m) * i0.size) (n+m - (i+m)) dc ⟨b,i * i0.size,none⟩ (n+m - i) sc (n - i) cur (ρ.t 9) cs hg0 (by simp only [Nat.min_def];split<;>omega) (by rw [hcsl,hsub]) hcell (by rw [hcs,hcsl];omega)
   (fun v hv=>h1c v (by rw [hcsd] at hv;exact List.mem_of_mem_drop hv))
 have hg1:(w.drew.setRow b cur1).heap[b]?=some (.cells cur1 (ρ.t 9) (0,0)):=setRow_heap w.drew b cur _ _ _ hg0
 have hcell2:∀ (j:Nat) v,news[j]?=some v→(w.drew.setRow b cur1).cell? (ad.add j)=some v:=by
  intro j v hj
  rw [World.cell?_of_block (w:=w.drew)]
  ·exact hc j v hj
  ·refine setRow_other w.drew b _ _ ?_
   unfold Addr.add;split<;>exact hne
 have hcp2:∀ ty dc,(Builtin.copy_ #[(ρ.t 24),(ρ.t 24)] ty #[.slice (some ⟨b,i * i0.size,none⟩) (n+m - i) dc,.slice (some ad) m c2]).run P (w.drew.setRow b cur1)=.ok (goInt m) ((w.drew.setRow b cur1).setRow b cur2):=fun ty dc=>by
  rw [hcur2]
  exact uK (w.drew.setRow b cur1) _ _ ty (ρ.t 9) i0 t24 hi0 b (i * i0.size) (n+m - i) dc ad m c2 m cur1 (ρ.t 9) news hg1 (by simp only [Nat.min_def];split<;>omega) hlen hcell2 (by rw [hs1,hlen];omega) h1
 rw [setRow_setRow] at hcp2
 rw [hcsd] at hL1
 have X1:=Lib.hid hL1
 have X2:=Lib.hid hcp1
 have X3:=Lib.hid hcp2
 have X4:=Lib.hid hovr
 have X5:=Lib.hid hs2
 clear hL1 hL2 hL3 hcp1 hcp2 hovr hg0 hg1 hcell hcell2 hcur1l hcur2l hcur1 hcur2 hs1 hs2 hcsd hcsl hc h1 h1c hcell0 hxa cO hcn hcur hlen hcs
 have hw1:IntKind.i64.wrap ((i:Int)+(m:Int))=(i:Int)+(m:Int):=by rw [IntKind.wrap_i64];omega
 have hb1:(0:Int)≤(i:Int)+(m:Int):=by omega
 have hin:i≤n:=by omega
 have htn:((i:Int)+(m:Int)).toNat=i+m:=by omega
 have hb2:¬ (c=i+m):=by omega
 have hb3:(i:Int)≤(n:Int)+(m:Int):=by omega
 have hb4:¬ (c=i):=by omega
 have hz1':¬ ((m:Int)=0):=by omega
 have hz2':¬ ((i:Int)=(n:Int)):=by omega
 clear hx1 hx2 hx3 hsub hadd hnadd hmul hmz
 have hovr:=X4.out
 go_enter hF,nX ρ nm tn
 go_wp2_with (simp only [hovr])
 go_region_law_o (refine step_copy_runI rfl _ _ (ρ.t 24) (ρ.t 24) rfl (.slice (some ⟨b,(i+m) * i0.size,none⟩) (n+m - (i+m)) (c - (i+m))) (.slice (some ⟨b,i * i0.size,none⟩) (n+m - i) (c - i)) (by simp [Act.eval,Act.put]) (by simp [Act.eval,Act.put]) (X2.out (ρ.t 3) (c - (i+m)) (c - i)) ?_)
 have hcp2:=X3.out
 go_wp2_with (simp only [hcp2])
 go_ret
 exact ⟨rfl,cur2,rfl,X5.out,X1.out⟩
end
end Go.Ev
/- slices.Insert: into a new row. -/
namespace Go.Ev
open Go.Proofs Go.Shelf Go.RowKit Go.Lib
set_option linter.unusedVariables false
set_option linter.unusedSimpArgs false
section
variable {P:Program} {ρ:Ren} {f:Nat}
theorem aB0 (row xs cs news:List Value)(A M N:Nat)(hA:A≤N)(hx:xs.length=N)(hN:N+M≤row.length)(hn:news.length=M)(hr:row.take A=xs.take A)(hcs:cs=xs.drop A) :
  let c1:=row.take A++news++row.drop (A+news.length)
  (c1.take (A+M)++cs++c1.drop (A+M+cs.length)).take (N+M)=xs.take A++news++xs.drop A∧c1.length=row.length∧(c1.take (A+M)++cs++c1.drop (A+M+cs.length)).length=row.length:=by
 intro c1
 have hcl:cs.length=N - A:=by rw [hcs];simp;omega
 have hlen:c1.length=row.length:=by simp [c1];omega
 have h1:c1.take (A+M)=row.take A++news:=by
  simp only [c1]
  rw [List.take_append_of_le_length (by simp;omega),List.take_of_length_le (by simp;omega)]
 refine ⟨?_,hlen,by simp [hlen,hcl];omega⟩
 rw [h1,List.take_append_of_le_length (by simp [hcl,hn];omega),List.take_of_length_le (by simp [hcl,hn];omega),hr,hcs]
set_option maxHeartbeats 4000000 in
set_option maxRecDepth 100000 in
theorem aCG (L:eD P ρ){nm:String}{tn:Array String}(hF:P.funcs[f]?=some (jI ρ nm tn))(ad:Addr)(z n c m c2 i b:Nat)(xs news:List Value)(w:World)(hel:gw P (ρ.t 9) z)
  (hxl:xs.length=n * z) (hxc:∀ (j:Nat) v,xs[j]?=some v→w.cell? ⟨b,j,none⟩=some v) (h1c:∀ u∈xs,u.oneCell'=true)
  (hm:0 < m) (hi:i < n) (hnc:n≤c) (hroom:c < n+m) (hlen:news.length=m * z) (h1:∀ u∈news,u.oneCell'=true) (hfit:n+m≤1073741824) (hc:∀ (j:Nat) u,news[j]?=some u→w.cell? (ad.add j)=some u) :
  Calls P f #[.slice (some ⟨b,0,none⟩) n c,.int .i64 i,.slice (some ad) m c2] w fun en w'=>∃ s',en=.returned s'∧w'.ownsRow w.heap.size (ρ.t 9) z s' (n+m) (xs.take (i * z)++news++xs.drop (i * z))∧Below w.heap.size w w':=by
 have mixed:=L.mixed;have t24:=L.t0;have a24:=L.a0;have z24:=L.z0;have v24:=L.v0;have t4:=L.t4;have a4:=L.a4;have z4:=L.z4;have v4:=L.v4;have t3:=L.t3;have a3:=L.a3;have z3:=L.z3;have v3:=L.v3
 have u3:=run_underlying L.t3;have u4:=run_underlying L.t4;have u24:=run_underlying L.t0
 obtain ⟨i0,z0,hi0,hz0,hz1,hz2,hz3⟩:=L.el
 have z9:∀ w,(Go.sizeOf (ρ.t 9)).run P w=.ok i0.size w:=fun w=>by simp [sizeOf,typeInfo,hi0]
 have v9:∀ w,(zeroValue (ρ.t 9)).run P w=.ok z0 w:=fun w=>by simp [zeroValue,typeInfo,hi0,hz0]
 have hzz:i0.size=z:=by unfold gw at hel;rw [hi0] at hel;simpa using hel
 subst hzz
 have hmz:0 < m * i0.size:=Nat.mul_pos hm hz3
 have hmul:∀ a b:Nat,a≤b→a * i0.size≤b * i0.size:=fun a b h=>Nat.mul_le_mul_right _ h
 have hx2:=hmul i n (by omega)
 have hsub:(n - i) * i0.size=n * i0.size - i * i0.size:=Nat.sub_mul _ _ _
 have hadd:(i+m) * i0.size=i * i0.size+m * i0.size:=Nat.add_mul _ _ _
 have hnadd:(n+m) * i0.size=n * i0.size+m * i0.size:=Nat.add_mul _ _ _
 have hbig:(n+m) * i0.bytes≤140737488355328:=Nat.le_trans (Nat.mul_le_mul hfit hz2) (by decide)
 have hkk:(n:Int)+(m:Int) - (i:Int)=((n+m - i:Nat):Int):=by omega
 have hik:i+(n+m - i)=n+m:=by omega
 have hbw:b < w.heap.size:=gn (hxc 0 _ (List.getElem?_eq_getElem (by rw [hxl];exact Nat.mul_pos (by omega) hz3)))
 have hvw:(ad.add 0).block=ad.block∧ad.block < w.heap.size:=by
  have hb:(ad.add 0).block=ad.block:=by unfold Addr.add;split<;>rfl
  refine ⟨hb,?_⟩
  have:=hc 0 _ (List.getElem?_eq_getElem (by omega))
  unfold World.cell? at this
  rw [hb] at this
  split at this
  ·rename_i hx;exact (Array.getElem?_eq_some_iff.1 hx).1
  ·cases this
 have hold:(Builtin.firstCells i0.size i (.slice (some ⟨b,0,none⟩) i c)).run P w.drew=.ok (xs.take (i * i0.size)).toArray w.drew :=
  run_firstCells_some w.drew i0.size i ⟨b,0,none⟩ i c (xs.take (i * i0.size)) (by rw [List.length_take];omega) (fun j v hj=>by
   rw [Addr.add_lit,Nat.zero_add]
   rw [List.getElem?_take] at hj
   split at hj
   ·exact hxc j v hj
   ·cases hj)
 obtain ⟨G,hG⟩:∃ G,G=grownCap w (n+m) c (ρ.t 9):=⟨_,rfl⟩
 obtain ⟨ROW,hROW⟩:∃ ROW:Array Value,ROW=(xs.take (i * i0.size)).toArray++Builtin.zeroCells z0.cells (n+m - i)++Builtin.zeroCells z0.cells (G - (n+m)):=⟨_,rfl⟩
 have hrz:∀ ty,(Builtin.append_ #[(ρ.t 24),(ρ.t 3)] ty #[.slice (some ⟨b,0,none⟩) i c,.int .i64 ((n:Int)+(m:Int) - (i:Int))]).run P w =
   .ok (.slice (some ⟨w.heap.size,0,none⟩) (n+m) G) (w.drew.alloc (.cells ROW (ρ.t 9))):=fun ty=>by
  have h:=Lib.run_append_grow_zeros w (ρ.t 24) (ρ.t 3) ty (ρ.t 9) i0 _ .i64 .i64 L.t0 L.t3 hi0 hz0 (some ⟨b,0,none⟩) i c (xs.take (i * i0.size)) hold (n+m - i) (by omega) hz3 (by omega) (by omega) (Nat.le_trans (Nat.mul_le_mul (show n+m - i≤n+m by omega) (Nat.le_refl _)) (by omega)) (by rw [hik];exact growslice_fits hroom hbig)
  rw [hik] at h
  rw [hkk,hROW,hG]
  exact h
 have hGn:n+m≤G:=by rw [hG];exact grownCap_ge w _ _ _
 have hG63:G≤maxLen:=by rw [hG];exact grownCap_le_maxLen w (n+m) c (ρ.t 9) (by unfold maxLen;omega)
 have hRs:ROW.size=G * i0.size:=by
  rw [hROW]
  simp only [Array.size_append,List.size_toArray,size_zeroCells,hz1,List.length_take,hxl,Nat.min_eq_left hx2]
  rw [← Nat.add_mul,← Nat.add_mul,hik]
  congr 1;omega
 have hRt:ROW.toList.take (i * i0.size)=xs.take (i * i0.size):=by
  rw [hROW]
  simp only [Array.toList_append,List.append_assoc]
  rw [List.take_append_of_le_length (by simp;omega),List.take_of_length_le (by simp;omega)]
 have hg1:=hmul (n+m) G hGn
 obtain ⟨cs,hcsd⟩:∃ cs,cs=xs.drop (i * i0.size):=⟨_,rfl⟩
 have hcsl:cs.length=n * i0.size - i * i0.size:=by rw [hcsd];simp;omega
 have hL:=aB0 ROW.toList xs cs news (i * i0.size) (m * i0.size) (n * i0.size) hx2 hxl (by simp;omega) hlen hRt hcsd
 simp only [← Nat.add_mul] at hL
 obtain ⟨cur1,hcur1⟩:∃ cur1:Array Value,cur1=(ROW.toList.take (i * i0.size)++news++ROW.toList.drop (i * i0.size+news.length)).toArray:=⟨_,rfl⟩
 have hcur1l:cur1.toList=ROW.toList.take (i * i0.size)++news++ROW.toList.drop (i * i0.size+news.length):=by rw [hcur1]
 rw [← hcur1l] at hL
 obtain ⟨cur2,hcur2⟩:∃ cur2:Array Value,cur2=(cur1.toList.take ((i+m) * i0.size)++cs++cur1.toList.drop ((i+m) * i0.size+cs.length)).toArray:=⟨_,rfl⟩
 have hcur2l:cur2.toList=cur1.toList.take ((i+m) * i0.size)++cs++cur1.toList.drop ((i+m) * i0.size+cs.length):=by rw [hcur2]
 rw [← hcur2l] at hL
 obtain ⟨hL1,hL2,hL3⟩:=hL
 have hs1:cur1.size=G * i0.size:=by simpa [hRs] using hL2
 have hs2:cur2.size=G * i0.size:=by simpa [hRs] using hL3
 have hW1:∀ W:World,W.heap=(w.alloc (.cells ROW (ρ.t 9))).heap→W.heap[w.heap.size]?=some (.cells ROW (ρ.t 9) (0,0))∧∀ k,k < w.heap.size→W.heap[k]?=w.heap[k]?:=fun W hW=>by
  rw [hW];exact ⟨heap_alloc_new,fun k hk=>heap_alloc_old hk⟩
 have hcpA:∀ (W:World),W.heap=(w.alloc (.cells ROW (ρ.t 9))).heap→∀ ty dc,(Builtin.copy_ #[(ρ.t 24),(ρ.t 24)] ty #[.slice (some ⟨w.heap.size,i * i0.size,none⟩) (n+m - i) dc,.slice (some ad) m c2]).run P W=.ok (goInt m) (W.setRow w.heap.size cur1):=fun W hW ty dc=>by
  rw [hcur1]
  obtain ⟨hr,ho⟩:=hW1 W hW
  exact uK W _ _ ty (ρ.t 9) i0 t24 hi0 w.heap.size (i * i0.size) (n+m - i) dc ad m c2 m ROW (ρ.t 9) news hr (by simp only [Nat.min_def];split<;>omega) hlen
   (fun j v hj=>by
    rw [World.cell?_of_block (w:=w)]
    ·exact hc j v hj
    ·refine ho _ ?_
     unfold Addr.add;split<;>exact hvw.2) (by rw [hRs,hlen];omega) h1
 have hcpB:∀ (W:World),W.heap=((w.alloc (.cells ROW (ρ.t 9))).setRow w.heap.size cur1).heap→∀ ty dc sc,(Builtin.copy_ #[(ρ.t 24),(ρ.t 24)] ty #[.slice (some ⟨w.heap.size,(i+m) * i0.size,none⟩) (n+m - (i+m)) dc,.slice (some ⟨b,i * i0.size,none⟩) (n - i) sc]).run P W=.ok (goInt (n - i:Nat)) (W.setRow w.heap.size cur2):=fun W hW ty dc sc=>by
  rw [hcur2]
  have hr:W.heap[w.heap.size]?=some (.cells cur1 (ρ.t 9) (0,0)):=by rw [hW];exact setRow_heap _ _ ROW _ _ _ heap_alloc_new
  have ho:W.heap[b]?=w.heap[b]?:=by
   rw [hW]
   exact (setRow_other _ _ b _ (by omega)).trans (heap_alloc_old hbw)
  exact uK W _ _ ty (ρ.t 9) i0 t24 hi0 w.heap.size ((i+m) * i0.size) (n+m - (i+m)) dc ⟨b,i * i0.size,none⟩ (n - i) sc (n - i) cur1 (ρ.t 9) cs hr (by simp only [Nat.min_def];split<;>omega) (by rw [hcsl,hsub])
   (fun j v hj=>by
    rw [Addr.add_lit,World.cell?_of_block (w:=w) ho]
    rw [hcsd,List.getElem?_drop] at hj
    exact hxc _ v hj) (by rw [hs1,hcsl];omega) (fun v hv=>h1c v (by rw [hcsd] at hv;exact List.mem_of_mem_drop hv))
 have fin:∀ W:World,W.heap=(((w.alloc (.cells ROW (ρ.t 9))).setRow w.heap.size cur1).setRow w.heap.size cur2).heap→W.os=w.os→W.tape=w.tape→W.output=w.output →
   W.ownsRow w.heap.size (ρ.t 9) i0.size (.slice (some ⟨w.heap.size,0,none⟩) (n+m) G) (n+m) (xs.take (i * i0.size)++news++cs)∧Below w.heap.size w W:=by
  intro W hW e1 e2 e3
  have hr:W.heap[w.heap.size]?=some (.cells cur2 (ρ.t 9) (0,0)):=by rw [hW];exact setRow_heap _ _ cur1 _ _ _ (setRow_heap _ _ ROW _ _ _ heap_alloc_new)
  refine ⟨⟨?_,.inr ⟨w.heap.size,G,cur2,rfl,Nat.le_refl _,hr,hGn,hG63,hs2,?_⟩⟩,⟨e1,e2,e3,?_,fun k hk=>?_⟩⟩
  ·simp only [List.length_append,List.length_take,hlen,hcsl,hxl,Nat.min_eq_left hx2];omega
  ·rw [hL1,hcsd]
  ·rw [hW];simp
  ·rw [hW]
   exact (setRow_other _ _ k _ (by omega)).trans ((setRow_other _ _ k _ (by omega)).trans (heap_alloc_old hk))
 rw [hcsd] at fin
 have X1:=Lib.hid fin
 have X2:=Lib.hid hcpA
 have X3:=Lib.hid hcpB
 have X4:=Lib.hid hrz
 have X5:Hid (w.heap.size=w.heap.size):=Lib.hid rfl
 have hGi:¬ (G=i):=by omega
 have hGim:¬ (G=i+m):=by omega
 have hci:¬ (c=i):=by omega
 have hG63':G≤9223372036854775807:=hG63
 have hz1':¬ ((m:Int)=0):=by omega
 have hz2':¬ ((i:Int)=(n:Int)):=by omega
 have hz3':(c:Int) < (n:Int)+(m:Int):=by omega
 have hw1:IntKind.i64.wrap ((i:Int)+(m:Int))=(i:Int)+(m:Int):=by rw [IntKind.wrap_i64];omega
 have hb1:(0:Int)≤(i:Int)+(m:Int):=by omega
 have hin:i≤n:=by omega
 have htn:((i:Int)+(m:Int)).toNat=i+m:=by omega
 have hb3:(i:Int)≤(n:Int):=by omega
 clear fin hL1 hL2 hL3 hcpA hcpB hrz hW1 hs1 hs2 hcur1l hcur2l hcur1 hcur2 hcsd hcsl hRt hRs hROW hG hold hvw hkk hik hbig hsub hadd hnadd hx2 hmul hmz hg1 hc h1 h1c hxc hxl hlen hG63
 go_enter hF,nX ρ nm tn
 go_wp2_with (at_builtin;refine Lib.wpList_append_run _ rfl _ _ _ _ rfl _ _ rfl rfl _ _ (X4.out _) ?_)
 have hA:=X2.out (w.alloc (.cells ROW (ρ.t 9))).drew rfl
 go_wp2_with (simp only [hA])
 go_region_law_o (refine step_copy_runI rfl (.tmp 50) (.tmp 53) (ρ.t 24) (ρ.t 24) rfl (.slice (some ⟨w.heap.size,(i+m) * i0.size,none⟩) (n+m - (i+m)) (G - (i+m))) (.slice (some ⟨b,i * i0.size,none⟩) (n - i) (c - i)) (by simp [Act.eval,Act.put]) (by simp [Act.eval,Act.put]) (X3.out (((w.alloc (.cells ROW (ρ.t 9))).drew.setRow w.heap.size cur1).drew) rfl (ρ.t 3) (G - (i+m)) (c - i)) ?_)
 go_wp2
 go_ret
 exact ⟨_,rfl,X1.out _ rfl rfl rfl rfl⟩
theorem mn (L:eD P ρ)(hov:lQ P ρ){nm:String}{tn:Array String}(hF:P.funcs[f]?=some (jI ρ nm tn)):kD P f (ρ.t 9):=by
 intro z w s v i n m xs news B hel hrow hx1 hcells hlen h1 hne hin hfit hB
 obtain ⟨a2,c2,rfl,hmc,hc⟩:=hcells
 have form:∃ a c,s=.slice a n c∧n≤c∧(a=none→c=0):=by
  rcases hrow.2 with ⟨hv,hn⟩ | ⟨g,cap,cur,hv,_,_,hnc,_⟩
  ·subst hn;exact ⟨none,0,hv,Nat.le_refl _,fun _=>rfl⟩
  ·exact ⟨_,cap,hv,hnc,fun h=>by cases h⟩
 obtain ⟨a,c,rfl,hnc,hna⟩:=form
 rcases Nat.eq_zero_or_pos m with hm | hm
 ·subst hm
  rw [Nat.zero_mul] at hlen
  have:=List.eq_nil_of_length_eq_zero hlen
  subst this
  refine (aDh L hF a a2 i n c c2 w hin hnc hna).mono ?_
  rintro en w' ⟨rfl,rfl⟩
  refine ⟨_,rfl,?_,.refl _,fun _ _ _=>rfl,fun j hj=>.inl hj⟩
  rw [List.append_nil,List.take_append_drop];exact hrow
 ·obtain ⟨ad,rfl,hc'⟩:=hc hm
  rcases Nat.lt_or_ge i n with hi | hi
  ·rcases hrow.2 with ⟨hv,hn⟩ | ⟨g,cap,cur,hv,hg,hcur,_,hcm,hcsz,htk⟩
   ·omega
   ·cases hv
    have hxl:=hrow.1
    rcases Nat.lt_or_ge c (n+m) with hroom | hroom
    ·refine (aCG L hF ad z n c m c2 i g xs news w hel hxl (fun j v hj=>?_) hx1 hm hi hnc hroom hlen h1 hfit hc').mono ?_
     ·have hjl:j < n * z:=by have:=(List.getElem?_eq_some_iff.1 hj).1;omega
      rw [← htk,List.getElem?_take_of_lt hjl] at hj
      simp only [World.cell?,hcur,Option.isSome_none,Bool.false_eq_true,if_false]
      rw [← Array.getElem?_toList];exact hj
     ·rintro en w' ⟨s',rfl,hr,hb⟩
      exact ⟨s',rfl,⟨hr.1,hr.2.imp id fun ⟨g,c,cur,h2,h3,h4⟩=>⟨g,c,cur,h2,Nat.le_trans hB h3,h4⟩⟩,Below.same hb,fun j hj _=>hb.block j hj,fun j hj=>.inr (hr.lt j hj).1⟩
    ·have hgl:g < w.heap.size:=(hrow.lt g rfl).2
     refine (aBi L hF hov ad z n c m c2 i g cur news w hel hcur hcsz (by rw [htk];exact hx1) hm hi hroom (by unfold maxLen at hcm;exact hcm) hlen h1 hfit hc' (fun he=>hne g rfl hm (by rw [← he];rfl))).mono ?_
     rintro en w' ⟨rfl,cur2,rfl,hs2,ht2⟩
     have hset:(w.drew.setRow g cur2).heap[g]?=some (.cells cur2 (ρ.t 9) (0,0)):=setRow_heap w.drew g cur _ _ _ hcur
     refine ⟨_,rfl,⟨?_,.inr ⟨g,c,cur2,rfl,hg,hset,hroom,hcm,hs2,?_⟩⟩,⟨rfl,rfl,rfl,by simp⟩,fun j hj hne'=>?_,fun j hj=>.inl hj⟩
     ·have hmul:i * z≤n * z:=Nat.mul_le_mul_right _ hin
      rw [Nat.add_mul];simp only [List.length_append,List.length_take,List.length_drop,hlen,hxl,Nat.min_eq_left hmul];omega
     ·rw [ht2,htk]
     ·exact setRow_other w.drew g j _ (fun he=>hne' (by rw [he];rfl))
  ·have hin':i=n:=by omega
   subst hin'
   refine (aEd L hF a ad z i c m c2 B xs news w hel hrow hm hnc hna hlen h1 hfit hB hc').mono ?_
   rintro en w' ⟨s',rfl,hr,hg,hb⟩
   refine ⟨s',rfl,?_,⟨hg.os,hg.tape,hg.output,hg.size⟩,fun j hj hne'=>hg.block j hj fun he=>hne' he.symm,hb⟩
   rw [List.take_of_length_le (by rw [hrow.1];exact Nat.le_refl _),List.drop_of_length_le (by rw [hrow.1];exact Nat.le_refl _),List.append_nil]
   exact hr
end
end Go.Ev
/- slices.Delete; what is asked of a program's types. -/
namespace Go.Ev
open Go.Proofs Go.Shelf Go.RowKit Go.Lib
noncomputable def sD (ρ:Ren) (nm:String) (tn:Array String):Func:={ Body2.n24 ρ with name:=nm,tmpNames:=tn }
theorem Aa (ρ:Ren)(nm:String)(tn:Array String):(sD ρ nm tn).ntmps=33:=Body2.n24_ntmps ρ
section
variable {P:Program} {ρ:Ren} {f:Nat}
theorem VA {ops:Array Oper}{o:Oper}{a:Act}{w:World}{K:Act→World→Prop}{Q:Exit→Act→World→Prop}{E:Prop}
  (hg:o.guard=none) (d x:Operand) (dT sT:TypeId) (hop:o.op=Op.call { callee:=Callee.builtin Builtin.append,args:=#[d,x],argTypes:=#[dT,sT] })
  (v u:Value) (hd:a.eval d=v) (hx:a.eval x=u) {v':Value} {w':World} (hr:(Builtin.append_ #[dT,sT] o.type #[v,u]).run P w=.ok v' w') (hK:K (a.put o.dst v') w') :
  if Region.wanted o (yielded ops a.tmps)=true then Oper.wp P o a w K Q else E:=by
 have hw:Region.wanted o (yielded ops a.tmps)=true:=by simp [Region.wanted,hg]
 rw [if_pos hw]
 unfold Oper.wp
 simp [execOp,hop,resolve,invoke,builtin,hd,hx,hr,Result.andThen]
 exact hK
theorem Y8 (w:World)(t ty e:TypeId)(i:TypeInfo)(z:Value)(ht:P.underlying t=some (.slice e))(hi:P.info? e=some i)(hz:i.zero=some z)(hzs:z.cells.size=i.size)(h1:∀ u∈z.cells.toList,u.oneCell'=true)
  (g o n c:Nat) (cur:Array Value) (hn:0 < n) (hg:w.heap[g]?=some (.cells cur e (0,0))) (hfit:o+n * i.size≤cur.size) :
  (Builtin.clear_ #[t] ty #[.slice (some ⟨g,o,none⟩) n c]).run P w=.ok (.tuple #[]) (w.setRow g (cur.toList.take o++(Builtin.zeroCells z.cells n).toList++cur.toList.drop (o+(Builtin.zeroCells z.cells n).toList.length)).toArray):=by
 have hl:(Builtin.zeroCells z.cells n).toList.length=n * i.size:=by simp [size_zeroCells,hzs]
 have hone:∀ u∈(Builtin.zeroCells z.cells n).toList,u.oneCell'=true:=by
  intro u hu
  obtain ⟨k,hk,rfl⟩:=List.getElem_of_mem hu
  simp only [Builtin.zeroCells] at hk ⊢
  simp only [Array.toList_map,List.getElem_map,Array.toList_range,List.getElem_range]
  simp at hk
  have hp:0 < z.cells.size:=Nat.pos_of_ne_zero fun h0=>by rw [h0,Nat.mul_zero] at hk;omega
  rw [getElem!_pos z.cells (k % z.cells.size) (Nat.mod_lt _ hp)]
  exact h1 _ (by simp)
 have hst:=run_storeCells_at P g o e (Builtin.zeroCells z.cells n).toList 0 cur w hg (by rw [hl];omega) hone
 simp only [Nat.add_zero] at hst
 obtain ⟨m,rfl⟩:∃ m,n=m+1:=⟨n - 1,by omega⟩
 simp [Builtin.clear_,run_underlying ht,zeroValue,typeInfo,hi,hz,hst]
theorem aCo (cur zs:List Value)(A J N:Nat)(hA:A≤J)(hJ:J≤N)(hN:N≤cur.length)(hz:zs.length=J - A) :
  let xs:=cur.take N
  let news:=xs.drop J
  let c1:=cur.take A++news++cur.drop (A+news.length)
  let c2:=c1.take (A+(N - J))++zs++c1.drop (A+(N - J)+zs.length)
  c2.take (A+(N - J))=xs.take A++xs.drop J∧c1.length=cur.length∧c2.length=cur.length∧c1.take (A+(N - J))=xs.take A++xs.drop J:=by
 intro xs news c1 c2
 have hn:news.length=N - J:=by simp [news,xs];omega
 have hl1:c1.length=cur.length:=by simp [c1,hn];omega
 have ht1:c1.take (A+(N - J))=xs.take A++xs.drop J:=by
  simp only [c1]
  rw [List.take_append_of_le_length (by simp [hn];omega),List.take_of_length_le (by simp [hn];omega)]
  simp only [xs,news]
  rw [List.take_take,Nat.min_eq_left (by omega)]
 refine ⟨?_,hl1,?_,ht1⟩
 ·simp only [c2,List.append_assoc]
  rw [List.take_append_of_le_length (by simp [hl1];omega),List.take_take,Nat.min_self,ht1]
 ·simp [c2,hl1,hz];omega
def ED (P:Program)(e:TypeId):Prop:=∀ i z,P.info? e=some i→i.zero=some z→∀ u∈z.cells.toList,u.oneCell'=true
set_option maxHeartbeats 4000000 in
set_option maxRecDepth 100000 in
theorem aC4 (L:eD P ρ){nm:String}{tn:Array String}(hF:P.funcs[f]?=some (sD ρ nm tn))(a:Option Addr)(i n c:Nat)(w:World)(hi:i≤n)(hnc:n≤c)(hna:a=none→c=0)(hc:c≤9223372036854775807) :
  Calls P f #[.slice a n c,.int .i64 i,.int .i64 i] w fun en w'=>en=.returned (.slice a n c)∧w'=w:=by
 have mixed:=L.mixed;have t24:=L.t0;have a24:=L.a0;have z24:=L.z0;have v24:=L.v0;have t4:=L.t4;have a4:=L.a4;have z4:=L.z4;have v4:=L.v4;have t3:=L.t3;have a3:=L.a3;have z3:=L.z3;have v3:=L.v3
 have u3:=run_underlying L.t3;have u4:=run_underlying L.t4;have u24:=run_underlying L.t0
 obtain ⟨i0,z0,hi0,hz0,hz1,hz2,hz3⟩:=L.el
 have z9:∀ w,(Go.sizeOf (ρ.t 9)).run P w=.ok i0.size w:=fun w=>by simp [sizeOf,typeInfo,hi0]
 have v9:∀ w,(zeroValue (ρ.t 9)).run P w=.ok z0 w:=fun w=>by simp [zeroValue,typeInfo,hi0,hz0]
 have hic:i≤c:=by omega
 cases a with
 | none =>
  have h0:=hna rfl
  subst h0
  have hn0:n=0:=by omega
  have hi00:i=0:=by omega
  subst hn0;subst hi00
  go_enter hF,Aa ρ nm tn
  go_wp2
  all_goals (go_ret;exact ⟨rfl,rfl⟩)
 | some ad =>
  go_enter hF,Aa ρ nm tn
  go_wp2
  all_goals (go_ret;exact ⟨rfl,rfl⟩)
set_option maxHeartbeats 4000000 in
set_option maxRecDepth 100000 in
theorem aDs (L:eD P ρ)(hone:ED P (ρ.t 9)){nm:String}{tn:Array String}(hF:P.funcs[f]?=some (sD ρ nm tn))(z n c i j b:Nat)(cur:Array Value)(w:World)(hel:gw P (ρ.t 9) z)
  (hcur:w.heap[b]?=some (.cells cur (ρ.t 9) (0,0))) (hcs:cur.size=c * z) (h1c:∀ u∈cur.toList.take (n * z),u.oneCell'=true)
  (hij:i < j) (hjn:j≤n) (hnc:n≤c) :
  Calls P f #[.slice (some ⟨b,0,none⟩) n c,.int .i64 i,.int .i64 j] w fun en w'=>en=.returned (.slice (some ⟨b,0,none⟩) (i+(n - j)) c)∧∃ cur2:Array Value,w'=w.drew.setRow b cur2∧cur2.size=c * z∧cur2.toList.take ((i+(n - j)) * z)=(cur.toList.take (n * z)).take (i * z)++(cur.toList.take (n * z)).drop (j * z):=by
 have mixed:=L.mixed;have t24:=L.t0;have a24:=L.a0;have z24:=L.z0;have v24:=L.v0;have t4:=L.t4;have a4:=L.a4;have z4:=L.z4;have v4:=L.v4;have t3:=L.t3;have a3:=L.a3;have z3:=L.z3;have v3:=L.v3
 have u3:=run_underlying L.t3;have u4:=run_underlying L.t4;have u24:=run_underlying L.t0
 obtain ⟨i0,z0,hi0,hz0,hz1,hz2,hz3⟩:=L.el
 have z9:∀ w,(Go.sizeOf (ρ.t 9)).run P w=.ok i0.size w:=fun w=>by simp [sizeOf,typeInfo,hi0]
 have v9:∀ w,(zeroValue (ρ.t 9)).run P w=.ok z0 w:=fun w=>by simp [zeroValue,typeInfo,hi0,hz0]
 have hzz:i0.size=z:=by unfold gw at hel;rw [hi0] at hel;simpa using hel
 subst hzz
 have hmul:∀ a b:Nat,a≤b→a * i0.size≤b * i0.size:=fun a b h=>Nat.mul_le_mul_right _ h
 have hx1:=hmul i j (by omega)
 have hx2:=hmul j n hjn
 have hx3:=hmul n c hnc
 have hsubj:(n - j) * i0.size=n * i0.size - j * i0.size:=Nat.sub_mul _ _ _
 have hadd:(i+(n - j)) * i0.size=i * i0.size+(n - j) * i0.size:=Nat.add_mul _ _ _
 have hji:(n - (i+(n - j)))=j - i:=by omega
 have hsubi:(j - i) * i0.size=j * i0.size - i * i0.size:=Nat.sub_mul _ _ _
 obtain ⟨zs,hzsd⟩:∃ zs,zs=(Builtin.zeroCells z0.cells (j - i)).toList:=⟨_,rfl⟩
 have hzl:zs.length=j * i0.size - i * i0.size:=by rw [hzsd];simp [size_zeroCells,hz1];omega
 have hL:=aCo cur.toList zs (i * i0.size) (j * i0.size) (n * i0.size) hx1 hx2 (by simp;omega) hzl
 obtain ⟨news,hnd⟩:∃ news,news=(cur.toList.take (n * i0.size)).drop (j * i0.size):=⟨_,rfl⟩
 have hnl:news.length=(n - j) * i0.size:=by rw [hnd];simp;omega
 simp only [← hnd] at hL
 obtain ⟨cur1,hcur1⟩:∃ cur1:Array Value,cur1=(cur.toList.take (i * i0.size)++news++cur.toList.drop (i * i0.size+news.length)).toArray:=⟨_,rfl⟩
 have hcur1l:cur1.toList=cur.toList.take (i * i0.size)++news++cur.toList.drop (i * i0.size+news.length):=by rw [hcur1]
 rw [← hcur1l,← hsubj,← hadd] at hL
 obtain ⟨cur2,hcur2⟩:∃ cur2:Array Value,cur2=(cur1.toList.take ((i+(n - j)) * i0.size)++zs++cur1.toList.drop ((i+(n - j)) * i0.size+zs.length)).toArray:=⟨_,rfl⟩
 have hcur2l:cur2.toList=cur1.toList.take ((i+(n - j)) * i0.size)++zs++cur1.toList.drop ((i+(n - j)) * i0.size+zs.length):=by rw [hcur2]
 rw [← hcur2l] at hL
 obtain ⟨hL1,hL2,hL3,_⟩:=hL
 have hs1:cur1.size=c * i0.size:=by simpa [hcs] using hL2
 have hs2:cur2.size=c * i0.size:=by simpa [hcs] using hL3
 have hg0:w.drew.heap[b]?=some (.cells cur (ρ.t 9) (0,0)):=hcur
 obtain ⟨A,hA,hsrc⟩:∃ A:Addr,(if c=j then some (⟨b,0,none⟩:Addr) else some ⟨b,j * i0.size,none⟩)=some A∧(∀ (t:Nat) u,news[t]?=some u→w.drew.cell? (A.add t)=some u):=by
  by_cases h:c=j
  ·refine ⟨⟨b,0,none⟩,by simp [h],fun t u hu=>?_⟩
   have h0:news.length=0:=by rw [hnl,show n - j=0 by omega,Nat.zero_mul]
   rw [List.length_eq_zero_iff.1 h0] at hu
   simp at hu
  ·refine ⟨⟨b,j * i0.size,none⟩,by simp [h],fun t u hu=>?_⟩
   rw [Addr.add_lit]
   simp only [World.cell?,hg0,Option.isSome_none,Bool.false_eq_true,if_false]
   rw [hnd,List.getElem?_drop,List.getElem?_take] at hu
   split at hu
   ·rw [← Array.getElem?_toList];exact hu
   ·cases hu
 have R1:∀ ty c',(Builtin.append_ #[(ρ.t 24),(ρ.t 24)] ty #[.slice (some ⟨b,0,none⟩) i c,.slice (some A) (n - j) c']).run P w.drew=.ok (.slice (some ⟨b,0,none⟩) (i+(n - j)) c) (w.drew.setRow b cur1):=fun ty c'=>by
  rw [hcur1]
  exact run_append_room w.drew (ρ.t 24) ty (ρ.t 9) i0 t24 hi0 b i c cur hg0 A (n - j) c' news hnl hsrc (fun u hu=>h1c u (by rw [hnd] at hu;exact List.mem_of_mem_drop hu)) (by omega) (by rw [hnl,hcs];omega)
 have hg1:(w.drew.setRow b cur1).heap[b]?=some (.cells cur1 (ρ.t 9) (0,0)):=setRow_heap w.drew b cur _ _ _ hg0
 have R2:∀ ty c',(Builtin.clear_ #[(ρ.t 24)] ty #[.slice (some ⟨b,(i+(n - j)) * i0.size,none⟩) (n - (i+(n - j))) c']).run P (w.drew.setRow b cur1)=.ok (.tuple #[]) (w.drew.setRow b cur2):=fun ty c'=>by
  rw [hji,hcur2,hzsd,Y8 (w.drew.setRow b cur1) (ρ.t 24) ty (ρ.t 9) i0 z0 t24 hi0 hz0 hz1 (hone i0 z0 hi0 hz0) b ((i+(n - j)) * i0.size) (j - i) c' cur1 (by omega) hg1 (by rw [hs1];omega),setRow_setRow]
 rw [hnd] at hL1
 have X1:=Lib.hid hL1
 have X2:=Lib.hid R1
 have X3:=Lib.hid R2
 have X5:=Lib.hid hs2
 have hic:i≤c:=by omega
 have hjc:j≤c:=by omega
 have hci:¬ (c=i+(n - j)):=by omega
 have hci2:i+(n - j)≤n:=by omega
 have hci3:i+(n - j)≤c:=by omega
 have hzij:¬ ((i:Int)=(j:Int)):=by omega
 clear hL1 hL2 hL3 R1 R2 hg1 hg0 hs1 hs2 hcur1l hcur2l hcur1 hcur2 hnd hnl hzsd hzl hsrc hx1 hx2 hx3 hsubj hadd hji hsubi hmul hcs h1c hcur
 go_enter hF,Aa ρ nm tn
 go_wp2
 go_region_law_o (refine VA rfl (.tmp 22) (.tmp 25) (ρ.t 24) (ρ.t 24) rfl (.slice (some ⟨b,0,none⟩) i c) (.slice (some A) (n - j) (c - j)) (by simp [Act.eval,Act.put]) (by simp [Act.eval,Act.put]) (X2.out (ρ.t 24) (c - j)) ?_)
 have hcl:=X3.out
 go_wp2_with (simp only [hcl])
 go_ret
 exact ⟨rfl,cur2,rfl,X5.out,X1.out⟩
theorem aFa (L:eD P ρ)(hone:ED P (ρ.t 9)){nm:String}{tn:Array String}(hF:P.funcs[f]?=some (sD ρ nm tn)):xT P f (ρ.t 9):=by
 intro z w s i j n xs B hel hrow hx1 hij hjn hfit hB
 have form:∃ a c,s=.slice a n c∧n≤c∧c≤9223372036854775807∧(a=none→c=0):=by
  rcases hrow.2 with ⟨hv,hn⟩ | ⟨g,cap,cur,hv,_,_,hnc,hm,_⟩
  ·subst hn;exact ⟨none,0,hv,Nat.le_refl _,by omega,fun _=>rfl⟩
  ·exact ⟨_,cap,hv,hnc,by unfold maxLen at hm;exact hm,fun h=>by cases h⟩
 obtain ⟨a,c,rfl,hnc,hc63,hna⟩:=form
 rcases Nat.lt_or_ge i j with hlt | hge
 ·rcases hrow.2 with ⟨hv,hn⟩ | ⟨g,cap,cur,hv,hg,hcur,_,hcm,hcsz,htk⟩
  ·omega
  ·cases hv
   have hxl:=hrow.1
   refine (aDs L hone hF z n c i j g cur w hel hcur hcsz (by rw [htk];exact hx1) hlt hjn hnc).mono ?_
   rintro en w' ⟨rfl,cur2,rfl,hs2,ht2⟩
   have hset:(w.drew.setRow g cur2).heap[g]?=some (.cells cur2 (ρ.t 9) (0,0)):=setRow_heap w.drew g cur _ _ _ hcur
   refine ⟨_,rfl,⟨?_,.inr ⟨g,c,cur2,rfl,hg,hset,by omega,hcm,hs2,?_⟩⟩,⟨rfl,rfl,rfl,by simp⟩,fun k hk hne'=>?_,fun k hk=>.inl hk⟩
   ·have h1:i * z≤j * z:=Nat.mul_le_mul_right _ hij
    have h2:j * z≤n * z:=Nat.mul_le_mul_right _ hjn
    have h3:(i+(n - j)) * z=i * z+(n * z - j * z):=by rw [Nat.add_mul,Nat.sub_mul]
    rw [h3];simp only [List.length_append,List.length_take,List.length_drop,hxl];omega
   ·rw [ht2,htk]
   ·exact setRow_other w.drew g k _ (fun he=>hne' (by rw [he];rfl))
 ·have hij':j=i:=by omega
  subst hij'
  refine (aC4 L hF a j n c w hjn hnc hna hc63).mono ?_
  rintro en w' ⟨rfl,rfl⟩
  refine ⟨_,rfl,?_,.refl _,fun _ _ _=>rfl,fun k hk=>.inl hk⟩
  rw [List.take_append_drop,show j+(n - j)=n by omega];exact hrow
end
theorem gG {P:Program}{T:cM}(hT:cp P T){e:TypeId}(h:iM T e=true):∃ i z,P.info? e=some i∧i.zero=some z∧z.cells.size=i.size∧i.bytes≤131072∧0 < i.size :=
 let ⟨i,z,h1,h2,h3,h4,h5,_⟩:=lm hT h
 ⟨i,z,h1,h2,h3,h4,h5⟩
def Tc (T:cM)(e:TypeId):Bool:=match T e with
 | some i=>(match i.zero with | some vs=>vs.all (·.oneCell') | none=>false)
 | none=>false
theorem aEi {P:Program}{T:cM}(hT:cp P T){e:TypeId}(h:Tc T e=true):ED P e:=by
 intro i z hi hz u hu
 unfold Tc at h
 split at h
 ·rename_i ti hti
  split at h
  ·rename_i vs hvs
   obtain ⟨info,d,h1,_,_,_,_,h6⟩:=ew hT hti
   rw [hi] at h1;cases h1
   rw [h6,hz] at hvs
   simp only [Option.map_some,Option.some.injEq] at hvs
   subst hvs
   exact List.all_eq_true.1 h u hu
  ·cases h
 ·cases h
end Go.Ev
