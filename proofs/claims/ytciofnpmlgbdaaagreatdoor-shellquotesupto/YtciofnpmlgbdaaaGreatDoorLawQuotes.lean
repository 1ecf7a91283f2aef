/- The law ShellQuotes: for every input of bulk at most 1048576 the call returns true, and each argument reads behind the call as before; the listed package-level variables start as the program's text lays them (the tied card). -/
import Derived.Test.YtciofnpmlgbdaaaGreatDoorLg
namespace Go.Proofs.YtciofnpmlgbdaaaGreatDoor
open Go Go.Ev Go.ChangeShapes Go.WideShapes Go.ChangeAt Go.RowKit
theorem quotes_bound {H:Type}{en:TypeId×Value→H}{W:World}{vs:List Value}{ds:List (DataW H)}{q:List MemPlace}{l:List (List Byte)}{t:ByteArray}
    (hA:DataW.TrodAll en Tryz.prog W 0 (fun _=>true) true [32,9] vs ds q)
    (hy:All2 (RepS (g0 (wG W))) ((DA.cons (DT.one (diOf fun l:List (List Byte)=>.fz (TL.lLU8 (l.map ints)))) (DA.one (DT.one DI.str)):DA TL (List (List Byte)×ByteArray)).enc (l,t)) vs)
    (hk:Rows.uptoSmall H ds=true):l.length≤1048576∧(∀ b∈l,b.length≤1048576)∧t.size≤1048576:=by
  have hk:Rows.uptoBulkAll ds≤1048576:=of_decide_eq_true hk
  have hy:All2 (RepS (g0 (wG W))) [.c (.im (.fz (TL.lLU8 (l.map ints)):I TL)),.c (.im (.str t:I TL))] vs:=hy
  match vs,hy with
  | [v1,v2],.cons h1 (.cons h2 .nil) =>
    match ds,hA with
    | [d1,d2],⟨p,q',⟨f1,ht1⟩,⟨p2,q2,⟨f2,ht2⟩,_,_⟩,_⟩ =>
      have h1:RepI (wG W) (.fz (TL.lLU8 (l.map ints)):I TL) v1:=h1
      have h2:RepI (wG W) (.str t:I TL) v2:=h2
      have b1:Rows.uptoBulk d1≤1048576:=Nat.le_trans (part_le (by simp)) hk
      have b2:Rows.uptoBulk d2≤1048576:=Nat.le_trans (part_le (by simp)) hk
      cases h1 with
      | @fz _ a n cap k o vals hn hc ha hG hx =>
        have e:(LI.els (TL.lLU8 (l.map ints))).length=l.length:=by simp [LI.els]
        rw [e] at hn
        subst hn
        refine ⟨Nat.le_trans (trod_slice_bulk bulk_ok Tryz.underlying32 ht1) b1,?_,?_⟩
        · intro b hb
          obtain ⟨i,hi,rfl⟩:=List.getElem_of_mem hb
          have hpos:0 < l.length:=by omega
          have hels:(LI.els (TL.lLU8 (l.map ints)))[i]?=some [.fz (TL.lU8 (ints l[i]))]:=by simp [LI.els,hi,v_LU8C]
          have g1:=hG i 0 _ _ hels rfl
          have g2:=hx i 0 _ _ hels rfl
          have hsz:LI.sz (TL.lLU8 (l.map ints))=1:=rfl
          rw [hsz,Nat.mul_one,Nat.add_zero] at g1
          have hav:=ha hpos
          subst hav
          obtain ⟨a',n',c',hc1,hc2⟩:=trod_slices_bulk bulk_ok Tryz.underlying32 Tryz.underlying22 (by kernel_rfl) ht1 i hi
          have hadd:(⟨k,o,none⟩:Addr).add i=⟨k,o+i,none⟩:=by cases i<;>simp [Addr.add]
          rw [hadd] at hc1
          have g1:W.cell? ⟨k,o+i,none⟩=some (vals i 0):=g1
          rw [hc1] at g1
          have g1:=Option.some.inj g1
          rw [← g1] at g2
          cases g2 with
          | fz hn2 hc2' ha2 hG2 hx2 =>
            have e2:(LI.els (TL.lU8 (ints l[i]))).length=l[i].length:=by simp [LI.els,ints]
            rw [e2] at hn2
            rw [← hn2]
            exact Nat.le_trans hc2 b1
        · cases h2
          exact Nat.le_trans (trod_str_bulk bulk_ok Tryz.underlying9 ht2) b2
set_option maxRecDepth 100000 in
theorem quotes_row (os:Os){H:Type}(enc:TypeId×Value→H) :
    (Rows.OpenSpec.upto Rows.shellQuotesSpec).preRow enc Tryz.prog Tryz.f4 Rows.shellQuotesUptoRow.domain false Rows.shellQuotesUptoRow.laid ((laidWorld os).forCall (fun _ _=>0) ⟨#[],#[.slice none 0 0,.string ⟨#[]⟩],[]⟩).memory #[.slice none 0 0,.string ⟨#[]⟩]:=by
  have hw:(DataW.whole enc Tryz.prog ((laidWorld os).forCall (fun _ _=>0) ⟨#[],#[.slice none 0 0,.string ⟨#[]⟩],[]⟩).memory Tryz.f4.params.toList Rows.shellQuotesSpec.vars false #[Value.slice none 0 0,.string ⟨#[]⟩].toList 8).map (fun x=>(x.1,x.2.1)) =
      some ([.nil,.lit (.string [])],[]):=by kernel_rfl
  obtain ⟨⟨x1,x2,x3⟩,hx,hx1⟩:=Option.map_eq_some_iff.1 hw
  simp only [Prod.mk.injEq] at hx1
  obtain ⟨rfl,rfl⟩:=hx1
  exact OpenSpec.preRow_of_cond 8 hx (by kernel_rfl) (fun k hk=>by cases hk;kernel_rfl) (by kernel_rfl) (laid_met os _)
theorem f1:Rows.shellQuotesUptoRow.wf (OpenSpec.ofChange (Rows.OpenSpec.upto Rows.shellQuotesSpec).bare)=true:=by kernel_rfl
theorem f2:laidOutB Tryz.pinned.checked.prog=true:=by kernel_rfl
theorem f3:mapsRowed Tryz.pinned.checked.prog=true:=by kernel_rfl
theorem f4:Tryz.f4.params.all (fun t=>Tryz.pinned.checked.prog.readableRec t)=true:=by kernel_rfl
theorem f5:namedTie Tryz.pinned.checked.prog Rows.shellQuotesUptoRow.named (Rows.OpenSpec.upto Rows.shellQuotesSpec).bare.vars=true:=by kernel_rfl
theorem f6:(Tryz.pinned.checked.prog.stops == [])=true:=by kernel_rfl
theorem f7:(Tryz.pinned.checked.prog.stopKnobs == [])=true:=by kernel_rfl
theorem f8:(Rows.shellQuotesUptoRow.plainKeys == Tryz.pinned.checked.prog.plainKeys)=true:=by kernel_rfl
theorem f9:Tryz.pinned.checked.prog.stopsHeard=true:=by kernel_rfl
theorem f10:Tryz.pinned.checked.prog.mayEnter=true:=by kernel_rfl
theorem f11:(Rows.shellQuotesUptoRow.lifted == Tryz.pinned.checked.prog.liftsFinal)=true:=by kernel_rfl
theorem f12:(Tryz.pinned.checked.prog.make == some Rows.shellQuotesUptoRow.make)=true:=by kernel_rfl
theorem f13:(Rows.shellQuotesUptoRow.pinned == Rows.shellQuotesUptoRow.pinnedBy)=true:=by kernel_rfl
theorem w1:Tryz.prog.inits.idxOf? 4=none:=by kernel_rfl
theorem w2 (os:Os):((laidWorld os).forCall (fun _ _=>0) ⟨#[],#[.slice none 0 0,.string ⟨#[]⟩],[]⟩).variablesRefB Tryz.checked.prog=true:=by kernel_rfl
theorem w3 (os:Os):(((laidWorld os).forCall (fun _ _=>0) ⟨#[],#[.slice none 0 0,.string ⟨#[]⟩],[]⟩).heap.toList.drop Tryz.checked.prog.globals.size).take ((begin Tryz.checked.prog (fun _ _=>0) default).world.heap.size - Tryz.checked.prog.globals.size) =
    (begin Tryz.checked.prog (fun _ _=>0) default).world.heap.toList.drop Tryz.checked.prog.globals.size:=by kernel_rfl
theorem w4 (os:Os):Input.okWideB Tryz.checked.prog ((laidWorld os).forCall (fun _ _=>0) ⟨#[],#[.slice none 0 0,.string ⟨#[]⟩],[]⟩) 4 ⟨#[],#[.slice none 0 0,.string ⟨#[]⟩],[]⟩=true:=by kernel_rfl
theorem h1 : Tryz.pinned.checked.prog.funcNamed "escrow/escrowlaw22.ShellQuotes" = some 4 := by kernel_rfl
theorem h2:Tryz.f4.isInstance Tryz.pinned.checked.prog Rows.shellQuotesUptoRow.origin Rows.shellQuotesUptoRow.targs:=of_decide_eq_true (by kernel_rfl)
theorem h3:Tryz.f4.isWrapper Tryz.pinned.checked.prog Rows.shellQuotesUptoRow.wrapper Rows.shellQuotesUptoRow.mainSum:=by unfold Func.isWrapper;first | (rw [if_pos (by decide +kernel)];kernel_rfl) | (rw [if_neg (by decide +kernel)];exact ⟨rfl,rfl⟩)
theorem p1:∀ t∈Tryz.f4.params.toList,Tryz.prog.readableRec t=true∧t < Tryz.prog.types.size:=by rw [show Tryz.f4.params.toList=[32,9] by rw [Tryz.params4]];decide +kernel
theorem p2:Tryz.f4.resultTypes=#[4]:=by kernel_rfl
set_option maxRecDepth 100000 in
theorem quotes_lifted (os:Os)(started:os.Started)(H:Type)(enc:TypeId×Value→H)(F:Stop.Interp) :
    ReturnsInHanded {} Tryz.checked os 4 .any ((Rows.OpenSpec.upto Rows.shellQuotesSpec).preRow enc Tryz.prog Tryz.f4 Rows.shellQuotesUptoRow.domain false Rows.shellQuotesUptoRow.laid) (((Rows.OpenSpec.upto Rows.shellQuotesSpec).at F).post enc Tryz.prog Tryz.f4 false true false false):=by
  refine returnsInHanded_of_row (C:=Tryz.checked) (s:=Rows.OpenSpec.upto Rows.shellQuotesSpec) Try.own started w1 Tryz.func4
    (witness_row_atRef (enc:=enc) (C:=Tryz.checked) false (laidWorld os) #[.slice none 0 0,.string ⟨#[]⟩] rfl (w2 os) (w3 os) (w4 os) (quotes_row os enc)) ?_
  intro W base args ds gs before hval hW _ hcond _ _ _ _
  have hk:Rows.uptoSmall H (ds++gs)=true:=hcond _ rfl
  have hW:DataW.Whole enc Tryz.prog Tryz.f4.params.toList Rows.shellQuotesSpec.vars false W args.toList ds gs before:=hW
  have hA:=hW
  obtain ⟨p,q,hA,hV,_⟩:=hA
  obtain ⟨rfl,rfl⟩:=trodVars_none hV
  rw [List.append_nil] at hk
  have hp:Tryz.f4.params.toList=[32,9]:=by rw [Tryz.params4]
  obtain ⟨⟨l,t⟩,hy⟩:=quotes_read W H enc base .any args.toList ds p (fun j t v hj hv=>hval j t v (by rw [← hp] at hj;simpa using hj) (by simpa using hv)) (by rw [← hp];exact hA)
  have hA2:DataW.TrodAll enc Tryz.prog W 0 (fun _=>true) true [32,9] args.toList ds p:=by rw [← hp];exact hA
  obtain ⟨b1,b2,b3⟩:=quotes_bound hA2 hy hk
  have hc:=quotes_calls hy b1 b2 b3
  simp only [Array.toArray_toList] at hc
  refine hc.mono ?_
  rintro e W' ⟨rfl,hb⟩
  exact ⟨_,rfl,law_post Try.laidOut p1 rfl p2 Tryz.underlying4 (fun ds hd=>by rw [show Tryz.f4.params.size=2 from by rw [← Array.length_toList,hp];rfl] at hd;match ds,hd with | [a,b],_=>rfl) hW hb⟩
theorem cl1:(Rows.shellQuotesUptoRow.inPlace == Tryz.pinned.checked.prog.inPlace 4)=true:=by kernel_rfl
theorem cl2:(Rows.shellQuotesUptoRow.unfollowed == Tryz.pinned.checked.prog.unfollowed 4)=true:=by kernel_rfl
theorem cl3:(Rows.shellQuotesUptoRow.recurses == Tryz.pinned.checked.prog.recurses 4)=true:=by kernel_rfl
theorem cl4:(Rows.shellQuotesUptoRow.named == Tryz.pinned.checked.prog.varsNamed 4)=true:=by kernel_rfl
theorem law_closed:joinedFacts Tryz.pinned.checked.prog 4 Tryz.f4 (Rows.OpenSpec.upto Rows.shellQuotesSpec).bare Rows.shellQuotesUptoRow=true:=by
  unfold joinedFacts
  rw [cl1,cl2,cl3,cl4,f1,f2,f3,f4,f5,f6,f7,f8,f9,f10,f11,f12,f13]
  kernel_rfl
theorem quotes_said:Rows.ShellQuotesUptoSaid :=
  OpenClaim.holds_of_cond 4 Tryz.f4 rfl rfl rfl rfl rfl rfl rfl ⟨rfl,rfl,rfl,rfl,rfl⟩ rfl rfl rfl rfl rfl h1 Tryz.func4 law_closed h2 h3
    (fun os started H enc _ F=>by rw [OpenClaim.pre_eq_preRow];exact quotes_lifted os started H enc F)
/-- No parameter wants a stand-in; the program's own looks are off: what the card asks. -/
theorem quotes_plain (f : FuncId) (fn : Func) (hf : Tryz.pinned.checked.prog.funcNamed "escrow/escrowlaw22.ShellQuotes" = some f) (hfn : Tryz.pinned.checked.prog.funcs[f]? = some fn) :
    true=Tryz.pinned.checked.prog.looks []∧∀ (j:Nat) t,fn.params[j]?=some t→Tryz.pinned.checked.prog.wantsStandIn t=false:=by
  obtain rfl:f=4:=Option.some.inj (h1.symm.trans hf) |>.symm
  obtain rfl:fn=Tryz.f4:=(Option.some.inj (Tryz.func4.symm.trans hfn)).symm
  refine ⟨by kernel_rfl,fun j t ht=>?_⟩
  rw [Tryz.params4] at ht
  have hm:t∈#[32,9]:=Array.mem_of_getElem? ht
  have:t=32∨t=9:=by simpa using hm
  rcases this with rfl | rfl
  · exact (show Tryz.prog.wantsStandIn 32=false by kernel_rfl)
  · exact (show Tryz.prog.wantsStandIn 9=false by kernel_rfl)
theorem k1a:({ Rows.shellQuotesUptoRow with laid:=Rows.shellQuotesUptoRow.laid.filter fun x=>Rows.shellQuotesUptoRow.namedList.contains x.1 }:OpenClaim)=Rows.shellQuotesUptoRow:=by kernel_rfl
theorem k1b:Rows.shellQuotesUptoRow.wf (Rows.OpenSpec.upto Rows.shellQuotesSpec)=true:=by
  have h:=f1
  unfold OpenClaim.wf at h ⊢
  exact h
theorem k1:Rows.shellQuotesUptoRow.wfByText (Rows.OpenSpec.upto Rows.shellQuotesSpec)=true:=by
  unfold OpenClaim.wfByText
  rw [if_pos (show Rows.shellQuotesUptoRow.unfollowed=true from rfl),k1a,k1b]
  kernel_rfl
theorem k2 : Tryz.pinned.checked.prog.mainIs = some (true, "f8bfd456c8a6647379299a2842fc7a4ff53b2218d58db61a3f0ccba8e3e9c3e1".toList) := by kernel_rfl
theorem k3a:(Tryz.pinned.checked.prog.funcs.toList.any Func.goes)=false:=by kernel_rfl
theorem k3b (g:FuncId):(Tryz.pinned.checked.prog.funcs[g]?).any Func.goes=false:=by
  cases h:Tryz.pinned.checked.prog.funcs[g]? with
  | none=>rfl
  | some fn =>
    have hm:fn∈Tryz.pinned.checked.prog.funcs.toList:=Array.mem_toList_iff.2 (Array.mem_of_getElem? h)
    have ha:=k3a
    rw [List.any_eq_false] at ha
    have:=ha fn hm
    show fn.goes=false
    cases hg:fn.goes with
    | false=>rfl
    | true=>exact absurd hg this
theorem k3c:Tryz.pinned.checked.prog.goes 4=false:=by
  unfold Program.goes
  rw [show (fun g=>(Tryz.pinned.checked.prog.funcs[g]?).any Func.goes)=fun _=>false from funext k3b,show Tryz.pinned.checked.prog.funcs.any Func.goes=false from by rw [← Array.any_toList];exact k3a]
  generalize Tryz.pinned.checked.prog.closure 4=l
  simp
theorem k3:false=Rows.shellQuotesUptoRow.goesBy Tryz.pinned.checked.prog:=by
  unfold OpenClaim.goesBy Program.goesAt Program.goesFrom
  rw [show Rows.shellQuotesUptoRow.func = "escrow/escrowlaw22.ShellQuotes" from rfl, show Rows.shellQuotesUptoRow.start = .entering from rfl, h1, Option.any_some, k3c]
  rfl
theorem law_holds:Rows.ShellQuotesUptoCardSaid :=
  Claim7.holds_tied_plain_at .later [] _ _ _ _ quotes_said (fun _ h=>by cases h) k1 (fun _ h=>by cases h) shellQuotes_tied rfl ⟨rfl,rfl⟩ k2 rfl quotes_plain k3
end Go.Proofs.YtciofnpmlgbdaaaGreatDoor
