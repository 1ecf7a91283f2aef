/- The law GroupNone: its data, the look at a raw command. -/
import Derived.Test.YtogbdkfbjphkiaaGreatRows
import Derived.Test.YtogbdkfbjphkiaaGreatP
import Derived.Test.YtogbdkfbjphkiaaGreatEd
namespace Go.Proofs.YtogbdkfbjphkiaaGreat
open Go Go.Ev Go.ChangeShapes Go.WideShapes Go.ChangeAt Go.RowKit
theorem rd111 (w:World):Rd Tryz.prog w 111 v_DotC:=Rd.iso (Rd.struct Tryz.underlying111 (by kernel_rfl) (by kernel_rfl) (RdF.cons (off:=0) (off':=1) (n:=3) (Rd.int Tryz.underlying3) (RdF.cons (off:=1) (off':=2) (n:=3) (Rd.int Tryz.underlying3) (RdF.cons (off:=2) (off':=3) (n:=3) (Rd.int Tryz.underlying3) (RdF.nil (n:=3)) (by kernel_rfl)) (by kernel_rfl)) (by kernel_rfl))) (fun y=>(Dot.mk y.1 y.2.1 y.2.2.1)) (fun _=>rfl)
theorem rd113 (w:World):Rd Tryz.prog w 113 v_OpC:=Rd.iso (Rd.struct Tryz.underlying113 (by kernel_rfl) (by kernel_rfl) (RdF.cons (off:=0) (off':=3) (n:=11) (rd111 w) (RdF.cons (off:=3) (off':=4) (n:=11) (Rd.int Tryz.underlying3) (RdF.cons (off:=4) (off':=5) (n:=11) (Rd.int Tryz.underlying3) (RdF.cons (off:=5) (off':=6) (n:=11) (Rd.int Tryz.underlying3) (RdF.cons (off:=6) (off':=7) (n:=11) (Rd.str Tryz.underlying9) (RdF.cons (off:=7) (off':=8) (n:=11) (Rd.str Tryz.underlying9) (RdF.cons (off:=8) (off':=9) (n:=11) (Rd.int Tryz.underlying3) (RdF.cons (off:=9) (off':=10) (n:=11) (Rd.int Tryz.underlying3) (RdF.cons (off:=10) (off':=11) (n:=11) (Rd.slice Tryz.underlying60 (rd111 w) TL.lDot (fun _=>rfl) (fun _=>by kernel_rfl) (Nat.lt_of_lt_of_eq (by decide:0 < 3) (by kernel_rfl))) (RdF.nil (n:=11)) (by kernel_rfl)) (by kernel_rfl)) (by kernel_rfl)) (by kernel_rfl)) (by kernel_rfl)) (by kernel_rfl)) (by kernel_rfl)) (by kernel_rfl)) (by kernel_rfl))) (fun y=>(Op.mk y.1 y.2.1 y.2.2.1 y.2.2.2.1 y.2.2.2.2.1 y.2.2.2.2.2.1 y.2.2.2.2.2.2.1 y.2.2.2.2.2.2.2.1 y.2.2.2.2.2.2.2.2.1)) (fun _=>rfl)
theorem rd179 (w:World):Rd Tryz.prog w 179 v_WantC:=Rd.iso (Rd.struct Tryz.underlying179 (by kernel_rfl) (by kernel_rfl) (RdF.cons (off:=0) (off':=1) (n:=4) (Rd.str Tryz.underlying9) (RdF.cons (off:=1) (off':=2) (n:=4) (Rd.int Tryz.underlying3) (RdF.cons (off:=2) (off':=3) (n:=4) (Rd.int Tryz.underlying3) (RdF.cons (off:=3) (off':=4) (n:=4) (Rd.int Tryz.underlying3) (RdF.nil (n:=4)) (by kernel_rfl)) (by kernel_rfl)) (by kernel_rfl)) (by kernel_rfl))) (fun y=>(Want.mk y.1 y.2.1 y.2.2.1 y.2.2.2.1)) (fun _=>rfl)
theorem rd43 (w:World):Rd Tryz.prog w 43 v_CmdC:=Rd.iso (Rd.struct Tryz.underlying43 (by kernel_rfl) (by kernel_rfl) (RdF.cons (off:=0) (off':=1) (n:=7) (Rd.int Tryz.underlying3) (RdF.cons (off:=1) (off':=2) (n:=7) (Rd.int Tryz.underlying3) (RdF.cons (off:=2) (off':=3) (n:=7) (Rd.int Tryz.underlying3) (RdF.cons (off:=3) (off':=4) (n:=7) (Rd.int Tryz.underlying3) (RdF.cons (off:=4) (off':=5) (n:=7) (Rd.int Tryz.underlying3) (RdF.cons (off:=5) (off':=6) (n:=7) (Rd.slice Tryz.underlying40 (rd179 w) TL.lWant (fun _=>rfl) (fun _=>by kernel_rfl) (Nat.lt_of_lt_of_eq (by decide:0 < 4) (by kernel_rfl))) (RdF.cons (off:=6) (off':=7) (n:=7) (Rd.slice Tryz.underlying41 (rd113 w) TL.lOp (fun _=>rfl) (fun _=>by kernel_rfl) (Nat.lt_of_lt_of_eq (by decide:0 < 11) (by kernel_rfl))) (RdF.nil (n:=7)) (by kernel_rfl)) (by kernel_rfl)) (by kernel_rfl)) (by kernel_rfl)) (by kernel_rfl)) (by kernel_rfl)) (by kernel_rfl))) (fun y=>(Cmd.mk y.1 y.2.1 y.2.2.1 y.2.2.2.1 y.2.2.2.2.1 y.2.2.2.2.2.1 y.2.2.2.2.2.2.1)) (fun _=>rfl)
theorem law_read (w:World):RdA Tryz.prog w [3,43] (DA.cons (DT.one (DI.int .i64)) (DA.one (DT.agg dc_Cmd)):DA TL (Int×Cmd)):=RdA.cons (RdV.one (d:=(DI.int .i64)) (Rd.int Tryz.underlying3) (.inl ⟨_,Tryz.underlying3⟩)) (RdA.one (RdV.agg (d:=dc_Cmd) (rd43 w) (.inl ⟨_,Tryz.underlying43⟩)))
/-- a function of data, whatever it answers -/
theorem pure_calls {P:Program}{L:Type}[LI L]{f:FuncId}{X:Type}(a:DA L X)(F:X→Option Bool)(h:DOK P f .pure (DFn.of a F (DA.one (DT.one DI.bool)))){b:Bool}
    {G:Fz} {w:World} {vs:List Value} (x:X) (hF:F x=some b) (hG:∀ k o v,G k o=some v→w.cell? ⟨k,o,none⟩=some v) (hv:All2 (RepS (g0 G)) (a.enc x) vs) (hx:a.dec (a.enc x)=some x) :
    Calls P f vs.toArray w fun e w'=>e=.returned (.bool b)∧Below w.heap.size w w':=by
  refine Calls.mono (h.2.2 (a.enc x) [.c (.im (.bool b))] ⟨x,b,hx,hF,rfl⟩ G w vs hG hv) ?_
  rintro e w' ⟨c,G',rfl,_,_,_,hb,hr⟩
  refine ⟨?_,hb⟩
  have:RepX (g0 G') (packRes [(.c (.im (.bool b)):S L)]) c:=hr
  cases this
  rfl
theorem cell_lt {w:World}{k o:Nat}{v:Value}(h:w.cell? ⟨k,o,none⟩=some v):k < w.heap.size:=by
  unfold World.cell? at h
  split at h
  · rename_i hb
    exact (Array.getElem?_eq_some_iff.1 hb).1
  · cases h
/-- what a command holds, in the world w0 -/
def CmdIn (w0:World)(c:Cmd)(cs:List Value):Prop:=All2 (RepC (g0 (wG w0))) (ims (v_CmdC c)) cs
set_option maxRecDepth 1000000 in
theorem few_calls {w0:World}{c:Cmd}{cs:List Value}(h:CmdIn w0 c cs){b:Bool}(hF:un_fewCmd c=some b){w:World}(hb:Below w0.heap.size w0 w) :
    Calls Tryz.prog 21 ⟨[.agg ⟨cs⟩]⟩ w fun e w'=>e=.returned (.bool b)∧Below w.heap.size w w':=by
  refine pure_calls (L:=TL) (DA.one (DT.agg dc_Cmd)) un_fewCmd ok_fewCmd (G:=wG w0) (vs:=[.agg ⟨cs⟩]) c hF (fun k o v hk=>?_) (.cons ⟨cs,rfl,h⟩ .nil) (by kernel_rfl)
  have hk:w0.cell? ⟨k,o,none⟩=some v:=hk
  rw [hb.cell (cell_lt hk)]
  exact hk
set_option maxRecDepth 1000000 in
theorem rep_one {G:Fz}{x:I TL}{v:Value}(h:RepI G x v):v.oneCell'=true:=by cases h<;>first | rfl | assumption
set_option maxRecDepth 1000000 in
theorem CmdIn.cells {w0:World}{c:Cmd}{cs:List Value}(h:CmdIn w0 c cs):∃ v1 v2 v3 v4 v5 v6 v7:Value,cs=[v1,v2,v3,v4,v5,v6,v7]∧v1.oneCell'=true∧v2.oneCell'=true∧v3.oneCell'=true∧v4.oneCell'=true∧v5.oneCell'=true∧v6.oneCell'=true∧v7.oneCell'=true:=by
  unfold CmdIn v_CmdC ims at h
  cases h with | cons h1 h =>
  cases h with | cons h2 h =>
  cases h with | cons h3 h =>
  cases h with | cons h4 h =>
  cases h with | cons h5 h =>
  cases h with | cons h6 h =>
  cases h with | cons h7 h =>
  cases h
  exact ⟨_,_,_,_,_,_,_,rfl,rep_one h1,rep_one h2,rep_one h3,rep_one h4,rep_one h5,rep_one h6,rep_one h7⟩
set_option maxRecDepth 1000000 in
theorem args_in {w:World}{H:Type}{en:TypeId×Value→H}{b0:Nat}{r:Reach}{vs:List Value}{ds:List (DataW H)}{ps:List MemPlace}(hok:∀ (j:Nat) t v,[3,43][j]?=some t→vs[j]?=some v→Value.okWide Tryz.prog w r b0 t v)
    (hA:DataW.TrodAll en Tryz.prog w 0 (fun _=>true) true [3,43] vs ds ps):∃ (i:Int) (c:Cmd) (cs:List Value),vs=[.int .i64 i,.agg ⟨cs⟩]∧CmdIn w c cs:=by
  obtain ⟨⟨i,c⟩,hy⟩:=law_read w H en b0 r vs ds ps hok hA
  have hy:All2 (RepS (g0 (wG w))) [.c (.im (.int .i64 i)),.agg (ims (v_CmdC c))] vs:=hy
  match vs,hy with
  | [a,b],.cons h1 (.cons h2 .nil) =>
    have h1:RepI (wG w) (.int .i64 i:I TL) a:=h1
    have ha:a=.int .i64 i:=by cases h1;rfl
    obtain ⟨cs,hb,h2⟩:=h2
    exact ⟨i,c,cs,by rw [ha,hb],h2⟩
end Go.Proofs.YtogbdkfbjphkiaaGreat
