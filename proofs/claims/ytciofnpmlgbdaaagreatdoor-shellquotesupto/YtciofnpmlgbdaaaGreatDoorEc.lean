/- An evaluator of the model's code on abstract states, proved sound (part 3 of 4). -/
import Derived.Test.YtciofnpmlgbdaaaGreatDoorEb
import Derived.LoopN
/- Functions of the library that are taken by what they do. -/
namespace Go.Ev
open Go.RowKit
variable {L:Type} [LI L]
section
variable {P:Program} {T:Tab} {oD:OrcD L} {U:Nat→Prop} {g:Gh} {B:Nat} {h u:Hp L} {w w':World} {fresh:Nat} {env:List (Nat×X L)} {a:Act} {o:Oper} {Q:X L×Hp L→Prop}
theorem Src'.cells {G:Fz}{l:L}{v:Value}{news:List Value}(h:Src' G w l v news):CellsAt w v (LI.els l).length news:=h.form
theorem szOk_info [LLaws L](hT:TabOK P T){e:TypeId}{l:L}(h:szOk T e l=true):ElOK P e (LI.sz l)∧0 < LI.sz l:=by
 unfold szOk at h
 rw [Bool.and_eq_true] at h
 obtain ⟨info,z,hi,_,_,_,hpos,hsize⟩:=zOk_info hT h.2
 have:sizeT T e=LI.sz l:=Nat.eq_of_beq_eq_true h.1
 exact ⟨by simp [ElOK,hi];omega,by omega⟩
theorem owned_rep [LLaws L](hr:RepH U g B h w){e:TypeId}{x:X L}{v:Value}{l:L}(hx:RepX g x v)(ho:ownedOf h e x=some (l,u)) :
  (∀ c en,look (u++h) c=some en→look h c=some en∨(en=.dead∧∃ e',look h c=some e'))∧(∀ b e',look u b=some e'→∃ e'',look h b=some e'') ∧
  (∃ xs,w.ownsRow B e (LI.sz l) v (LI.els l).length xs∧RepIs g.G (LI.els l).flatten xs) ∧
  ∀ j,v.ownBlock=some j→(∃ b en,look h b=some en∧Owns g b en∧g.blk b=j)∧B≤j∧(∀ c en,look (u++h) c=some en→Owns g c en→g.blk c≠j)∧(∀ o z,g.G j o=some z→False)∧j < w.heap.size:=by
 unfold ownedOf at ho
 split at ho
 ·rename_i c hc
  have hcr:=cOf_rep hx hc
  cases hn:isNil c with
  | true =>
   rw [hn,cond_true] at ho
   rw [isNil_eq hn] at hcr
   have hv:=hcr.nil_val;subst hv
   split at ho
   ·rename_i l' hl;cases ho
    have he:=nil_els hl
    exact ⟨fun c en hc=>.inl hc,fun b e' hb=>by simp [look] at hb,⟨[],⟨by simp [he],.inl ⟨rfl,by simp [he]⟩⟩,by rw [he];exact .nil⟩,fun j hj=>by simp [Value.ownBlock] at hj⟩
   ·cases ho
  | false =>
   rw [hn,cond_false] at ho
   split at ho
   ·rename_i b
    simp only [RepC] at hcr;subst hcr
    split at ho
    ·rename_i e' l' hb
     cases hee:Nat.beq e e' with
     | false=>rw [hee] at ho;cases ho
     | true =>
      rw [hee,cond_true] at ho;cases ho
      have:e=e':=Nat.eq_of_beq_eq_true hee
      subst this
      obtain ⟨xs,hrow,hxs,hbk⟩:=hr.ent b _ hb
      have hA:∀ c en,look ([(b,En.dead)]++h) c=some en→look h c=some en∨(en=.dead∧∃ e',look h c=some e'):=by
       intro c en hc
       rw [List.singleton_append,look_cons] at hc
       split at hc
       ·rename_i hbc;subst hbc;cases hc;exact .inr ⟨rfl,_,hb⟩
       ·exact .inl hc
      refine ⟨hA,?_,⟨xs,hrow,hxs⟩,fun j hj=>?_⟩
      ·intro c en hc
       rw [look_cons] at hc
       split at hc
       ·rename_i hbc;subst hbc;exact ⟨_,hb⟩
       ·simp [look] at hc
      ·have hO:Owns g b (.arr e l:En L):=by simp [Owns,hj]
       have hj':=hbk j hj;subst hj'
       refine ⟨⟨b,_,hb,hO,rfl⟩,hr.own b _ hb hO,fun c en hc hO'=>?_,fun o zz hG=>?_,(hrow.lt _ hj).2⟩
       ·rw [List.singleton_append,look_cons] at hc
        split at hc
        ·cases hc;exact hO'.elim
        ·rename_i hbc;exact fun he=>hr.dis b c _ en hb hc hO hO' hbc he.symm
       ·obtain ⟨_,_,hx',_⟩:=hr.free b _ hb hO o zz hG
        cases hx'
    ·cases ho
   ·cases ho
 ·cases ho
theorem Post.rowTo [LLaws L]{s s':Value}{e:TypeId}{l':L}{xs:List Value}(hr:RepH U g B h w)(hf:¬ U fresh)(hA:∀ c en,look (u++h) c=some en→look h c=some en∨(en=.dead∧∃ e',look h c=some e'))
  (hu:∀ b e',look u b=some e'→∃ e'',look h b=some e'') (hs:∀ j,s.ownBlock=some j→(∃ b en,look h b=some en∧Owns g b en∧g.blk b=j)∧B≤j∧(∀ c en,look (u++h) c=some en→Owns g c en→g.blk c≠j)∧(∀ o z,g.G j o=some z→False)∧j < w.heap.size)
  (hrow:w'.ownsRow B e (LI.sz l') s' (LI.els l').length xs) (hxs:RepIs g.G (LI.els l').flatten xs) (ht:RowTo w w' s s') :
  ∃ g',Post U g B h fresh w (.s (.c (.ar fresh))) ((fresh,.arr e l')::u) s' w' g':=by
 have hr1:=hr.kill hA
 have hnew:∀ c en,look (u++h) c=some en→Owns g c en→g.blk c < w.heap.size:=fun c en hc hO=>hr1.lt_size hc hO
 have hform:∃ a n cap,s'=.slice a n cap:=by
  rcases hrow.2 with ⟨hv,_⟩ | ⟨k,cap,cur,hv,_⟩
  ·exact ⟨_,_,_,hv⟩
  ·exact ⟨_,_,_,hv⟩
 obtain ⟨a1,n1,c1,rfl⟩:=hform
 let k:Nat:=((Value.slice a1 n1 c1).ownBlock).getD w'.heap.size
 have hk:(∃ b en,look h b=some en∧Owns g b en∧g.blk b=k)∧s.ownBlock=some k∨w.heap.size≤k:=by
  show (∃ b en,look h b=some en∧Owns g b en∧g.blk b=((Value.slice a1 n1 c1).ownBlock).getD w'.heap.size)∧s.ownBlock=some (((Value.slice a1 n1 c1).ownBlock).getD w'.heap.size)∨w.heap.size≤((Value.slice a1 n1 c1).ownBlock).getD w'.heap.size
  cases ho:(Value.slice a1 n1 c1).ownBlock with
  | none=>exact .inr ht.same.size
  | some j =>
   rcases ht.blk j ho with h1 | h1
   ·exact .inl ⟨(hs j h1).1,h1⟩
   ·exact .inr h1
 have hcond:B≤k∧(∀ c en,look (u++h) c=some en→Owns g c en→g.blk c≠k)∧∀ o z,g.G k o=some z→False:=by
  rcases hk with ⟨_,h1⟩ | h1
  ·obtain ⟨_,h2,h3,h4,_⟩:=hs k h1
   exact ⟨h2,h3,h4⟩
  ·exact ⟨Nat.le_trans hr.base h1,fun c en hc hO he=>by have:=hnew c en hc hO;omega,fun o z hG=>by have:=cell_lt (hr.fz _ _ _ hG);omega⟩
 refine ⟨g.withRow fresh k (a1,n1,c1),Post.row (s:=(a1,n1,c1)) hr hf hA (hk.imp (·.1) id) ?_ ht.same (fun j hj hown=>ht.fr j hj fun hj'=>?_) hu⟩
 ·refine hr1.addRow hf hcond.1 hcond.2.1 hcond.2.2 ?_ ht.same.size hrow hxs (fun j hj=>?_)
  ·intro j hj hne hor
   refine ht.fr j hj fun hj'=>?_
   obtain ⟨_,_,h3,h4,_⟩:=hs j hj'
   rcases hor with ⟨c,en,hc,hOc,hbc⟩ | ⟨o,zz,hz'⟩
   ·exact h3 c en hc hOc hbc
   ·exact h4 o zz hz'
  ·show j=((Value.slice a1 n1 c1).ownBlock).getD w'.heap.size
   rw [hj];rfl
 ·obtain ⟨b,en,hb,hO,hbk⟩:=(hs j hj').1
  exact hown b en hb hO hbk
theorem keq_i64 {k:IntKind}(h:keq k .i64=true):k=.i64:=by cases k<;>first | rfl | simp [keq] at h
def Lies (g:Gh)(h:Hp L)(v:Value):Prop:=∃ j,v.ownBlock=some j∧((∃ b en,look h b=some en∧Owns g b en∧g.blk b=j)∨∃ o z,g.G j o=some z)
theorem lies_fz [LLaws L]{l:L}{v:Value}(hp:0 < (LI.els l).length)(hz:0 < LI.sz l)(hi:RepI g.G (.fz l) v):Lies g h v:=by
 cases hi with
 | @fz _ a n cap k o vals hn hc ha hG hx =>
  subst hn
  have h0:(LI.els l)[0]?=some (LI.els l)[0]:=List.getElem?_eq_getElem hp
  have h1:0 < ((LI.els l)[0]).length:=by rw [LLaws.size l _ (List.getElem_mem hp)];exact hz
  have h2:((LI.els l)[0])[0]?=some ((LI.els l)[0])[0]:=List.getElem?_eq_getElem h1
  have ha':=ha hp
  subst ha'
  exact ⟨k,rfl,.inr ⟨_,_,hG 0 0 _ _ h0 h2⟩⟩
theorem lies_arr [LLaws L](hr:RepH U g B h w){b:Nat}{e:TypeId}{l:L}(hb:look h b=some (.arr e l))(hp:0 < (LI.els l).length):∃ j,(g.v b).ownBlock=some j∧∃ b en,look h b=some en∧Owns g b en∧g.blk b=j:=by
 obtain ⟨xs,ho,hx,hbk⟩:=hr.ent b _ hb
 rcases own_cells ho hx with ⟨_,he⟩ | ⟨k,cap,hv,_⟩
 ·rw [he] at hp;simp at hp
 ·have h1:(g.v b).ownBlock=some k:=by rw [hv];rfl
  exact ⟨k,h1,b,_,hb,by simp [Owns,h1],(hbk k h1).symm⟩
theorem src_lies [LLaws L](hr:RepH U g B h w){c:C L}{l:L}{v:Value}(hl:listOf h c=some (l,u))(hp:0 < (LI.els l).length)(hz:0 < LI.sz l)(hc:RepC g c v):Lies g h v:=by
 unfold listOf at hl
 split at hl
 ·cases hl;exact lies_fz hp hz hc
 ·rename_i b
  simp only [RepC] at hc;subst hc
  split at hl
  ·rename_i hb;cases hl
   obtain ⟨j,h1,h2⟩:=lies_arr hr hb hp
   exact ⟨j,h1,.inl h2⟩
  ·rename_i hb;cases hl
   exact lies_fz hp hz (hr.ent b _ hb).1
  ·rename_i b0 k hb
   split at hl
   ·rename_i e l0 hb0;cases hl
    obtain ⟨hk,hsv⟩:=hr.preOf hb (.inl hb0)
    have hp0:0 < (LI.els l0).length:=by
     rw [(LLaws.sub l0 0 k).1] at hp;simp at hp;omega
    obtain ⟨j,h1,h2⟩:=lies_arr hr hb0 hp0
    refine ⟨j,?_,.inl h2⟩
    rw [← h1];unfold Gh.v;rw [hsv];cases (g.sv b0).1<;>rfl
   ·rename_i e l0 tip hb0;cases hl
    obtain ⟨hk,hsv⟩:=hr.preOf hb (.inr ⟨tip,hb0⟩)
    refine lies_fz hp hz ?_
    exact listOf_rep (u':=[]) (c:=.ar b) (v:=g.v b) (g:=g) (U:=U) (B:=B) (h:=h) (u:=[]) (l:=LI.sub l0 0 k) (w:=w) (by simp [listOf,hb,hb0]) (Frz.nil h) (by simp) hr rfl
   ·cases hl
  ·rename_i b0 z lo hi hb
   split at hl
   ·rename_i e l0 hb0
    cases hzz:Nat.beq z (LI.sz l0) with
    | false=>rw [hzz] at hl;cases hl
    | true =>
     rw [hzz] at hl;cases hl
     obtain ⟨h1,h2,hsv⟩:=hr.winOf hb (.inl hb0)
     have hp0:0 < (LI.els l0).length:=by
      rw [(LLaws.sub l0 lo hi).1] at hp;simp at hp;omega
     obtain ⟨j,h3,h4⟩:=lies_arr hr hb0 hp0
     refine ⟨j,?_,.inl h4⟩
     rw [← h3];unfold Gh.v;rw [hsv]
     cases (g.sv b0).1 with
     | none=>split<;>rfl
     | some ad=>split<;>simp [Value.ownBlock,Addr.add]<;>(split<;>rfl)
   ·rename_i e l0 tip hb0
    cases hzz:Nat.beq z (LI.sz l0) with
    | false=>rw [hzz] at hl;cases hl
    | true =>
     rw [hzz] at hl;cases hl
     refine lies_fz hp hz ?_
     exact listOf_rep (u':=[]) (c:=.ar b) (v:=g.v b) (g:=g) (U:=U) (B:=B) (h:=h) (u:=[]) (l:=LI.sub l0 lo hi) (w:=w) (by simp [listOf,hb,hb0,hzz]) (Frz.nil h) (by simp) hr rfl
   ·cases hl
  ·cases hl
 ·cases hl;exact lies_fz hp hz hc.1
 ·split at hl
  ·rename_i l' hl';cases hl
   rw [nil_els hl'] at hp;simp at hp
  ·cases hl
 ·cases hl
theorem srcOf_lies [LLaws L](hr:RepH U g B h w){e:TypeId}{x:X L}{l:L}{v:Value}(hx:RepX g x v)(hs:srcOf h e x=some l)(hp:0 < (LI.els l).length)(hz:0 < LI.sz l):Lies g h v:=by
 unfold srcOf at hs
 split at hs
 ·rename_i c hc
  have hcr:=cOf_rep hx hc
  cases hn:isNil c with
  | true =>
   rw [hn,cond_true] at hs
   rw [nil_els hs] at hp;simp at hp
  | false =>
   rw [hn,cond_false] at hs
   split at hs
   ·rename_i l2 u hl;cases hs;exact src_lies hr hl hp hz hcr
   ·cases hs
 ·cases hs
theorem bltRes_sound [LLaws L](hT:TabOK P T)(hE:RepE U g env a)(hr:RepH U g B h w)(hf:¬ U fresh){f:FuncId}{xs:List (X L)}{kd:OrcKind}(hc:callee env o.op=some (f,xs))(hen:Enters P f)(hO:BltOK P f kd)
  (hq:(bltRes T kd xs h fresh).holds oD Q):OpWp P U g B h w fresh a o Q:=by
 obtain ⟨vs,hvs,hrun,_⟩:=callee_run (w:=w) hE hc hen
 intro Qe
 unfold Oper.wp
 rw [hrun,Oper.upon_enter]
 have go:∀ {s:Value} {e:TypeId} {l':L} {u:Hp L} {ys:List Value},(∀ c en,look (u++h) c=some en→look h c=some en∨(en=.dead∧∃ e',look h c=some e'))→(∀ b e',look u b=some e'→∃ e'',look h b=some e'') →
   (∀ j,s.ownBlock=some j→(∃ b en,look h b=some en∧Owns g b en∧g.blk b=j)∧B≤j∧(∀ c en,look (u++h) c=some en→Owns g c en→g.blk c≠j)∧(∀ o z,g.G j o=some z→False)∧j < w.heap.size) →
   RepIs g.G (LI.els l').flatten ys→Q (.s (.c (.ar fresh)),(fresh,.arr e l')::u) →
   Calls P f vs.toArray w (fun en w'=>∃ s',en=.returned s'∧w'.ownsRow B e (LI.sz l') s' (LI.els l').length ys∧RowTo w w' s s')→Calls P f vs.toArray w fun
     | .returned v,w''=>∃ x u v' g',Q (x,u)∧a.put o.dst v=a.put o.dst v'∧Post U g B h fresh w x u v' w'' g'
     | .panicked chain,w''=>Qe (.panic chain) a w''
     | .outgrown,_=>LetsOut Qe:=by
  intro s e l' u ys hA hu hs hys hQ hcall
  refine Calls.mono hcall ?_
  rintro en w' ⟨s',rfl,hrow,ht⟩
  obtain ⟨g',hp⟩:=Post.rowTo (s:=s) hr hf hA hu hs hrow hys ht
  exact ⟨_,_,_,g',hQ,rfl,hp⟩
 unfold bltRes at hq
 split at hq
 ·rename_i e x _
  cases hvs with
  | cons hx hrest =>
   cases hrest
   unfold clnOp at hq
   split at hq
   ·rename_i l hsrc
    cases hz:szOk T e l with
    | false=>rw [hz] at hq;exact hq.elim
    | true =>
     rw [hz,cond_true] at hq
     obtain ⟨hel,hpos⟩:=szOk_info hT hz
     obtain ⟨news,hsr⟩:=srcOf_src hr hx hsrc hpos
     rcases hq with ⟨hfit,hq⟩ | ⟨_,hq⟩
     ·have hm:(LI.els l).length≤1073741824:=by have:=of_decide_eq_true hfit;rw [LLaws.len] at this;exact this
      exact go (s:=.slice none 0 0) (u:=[]) (fun c en hc=>.inl hc) (fun b e' hb=>by simp [look] at hb) (fun j hj=>by simp [Value.ownBlock] at hj) hsr.rep hq
       (hO (LI.sz l) w _ _ news B hel hsr.cells hsr.len hsr.rep.one hm hr.base)
     ·exact hq.elim
   ·exact hq.elim
 ·rename_i e s i v _
  cases hvs with
  | cons hs hrest =>
   cases hrest with
   | cons hi hrest =>
    cases hrest with
    | cons hv hrest =>
     cases hrest
     unfold insOp at hq
     split at hq
     ·rename_i l u n ho hn
      split at hq
      ·rename_i l2 hsrc
       cases hz:(szOk T e l && (szOk T e l2 && keq n.k .i64)) with
       | false=>rw [hz] at hq;exact hq.elim
       | true =>
        rw [hz,cond_true] at hq
        simp only [Bool.and_eq_true] at hz
        obtain ⟨hz1,hz2,hk⟩:=hz
        obtain ⟨hel,hpos⟩:=szOk_info hT hz1
        obtain ⟨hel2,hpos2⟩:=szOk_info hT hz2
        have hzz:LI.sz l=LI.sz l2:=by unfold ElOK at hel hel2;rw [hel] at hel2;simpa using hel2
        obtain ⟨h0,hq⟩:=test_holds hq
        obtain ⟨h1,hq⟩:=test_holds hq
        have h0':=of_decide_eq_true h0
        have h1':=of_decide_eq_true h1
        rw [LLaws.len] at h1'
        obtain ⟨hA,hu,⟨xs,hrow,hxs⟩,hblk⟩:=owned_rep hr hs ho
        have hr1:=hr.kill hA
        obtain ⟨news,hsr⟩:=srcOf_src hr1 hv hsrc hpos2
        split at hq
        ·rename_i l' hins
         rcases hq with ⟨hfit,hq⟩ | ⟨_,hq⟩
         ·unfold insL at hins
          split at hins
          ·rename_i l1 ha1
           obtain ⟨e1,s1,_⟩:=LLaws.app _ _ _ ha1
           obtain ⟨e2,s2,_⟩:=LLaws.app _ _ _ hins
           obtain ⟨e3,s3⟩:=LLaws.sub l 0 n.n.toNat
           obtain ⟨e4,s4⟩:=LLaws.sub l n.n.toNat (LI.len l)
           have hsz:LI.sz l'=LI.sz l:=by rw [s2,s1,s3]
           have hlen:(LI.els l').length=(LI.els l).length+(LI.els l2).length:=by
            rw [e2,e1,e3,e4,LLaws.len];simp;omega
           have hreps:RepIs g.G (LI.els l').flatten (xs.take (n.n.toNat * LI.sz l)++news++xs.drop (n.n.toNat * LI.sz l)):=by
            rw [e2,List.flatten_append,e1,List.flatten_append]
            have p1:=RepIs.piece (l0:=l) hxs 0 n.n.toNat
            have p2:=RepIs.piece (l0:=l) hxs n.n.toNat (LI.len l)
            rw [Nat.zero_mul,List.drop_zero] at p1
            rw [LLaws.len,List.take_of_length_le (by rw [hrow.1];exact Nat.le_refl _)] at p2
            exact (p1.append hsr.rep).append (by rw [LLaws.len];exact p2)
           have hni:=natOf_rep hi hn
           rw [keq_i64 hk] at hni
           have hni2:n.n=((n.n.toNat:Nat):Int):=by omega
           rw [hni2] at hni
           subst hni
           have hfit':(LI.els l).length+(LI.els l2).length≤1073741824:=by
            have:=of_decide_eq_true hfit;rw [LLaws.len,hlen] at this;exact this
           refine go hA hu hblk hreps hq ?_
           rw [hsz,hlen]
           exact hO (LI.sz l) w _ _ n.n.toNat _ _ xs news B hel hrow hxs.one hsr.cells (by rw [hsr.len,hzz]) hsr.rep.one
            (fun j hj hm hj'=>by
             obtain ⟨k,h5,h6⟩:=srcOf_lies hr1 hv hsrc hm hpos2
             rw [hj'] at h5;cases h5
             obtain ⟨_,_,h7,h8,_⟩:=hblk j hj
             rcases h6 with ⟨b,en,h9,h10,h11⟩ | ⟨o,z,h9⟩
             ·exact h7 b en h9 h10 h11
             ·exact h8 o z h9) (by omega) hfit' hr.base
          ·cases hins
         ·exact hq.elim
        ·exact hq.elim
      ·exact hq.elim
     ·exact hq.elim
 ·rename_i e s i j _
  cases hvs with
  | cons hs hrest =>
   cases hrest with
   | cons hi hrest =>
    cases hrest with
    | cons hj hrest =>
     cases hrest
     unfold delOp at hq
     split at hq
     ·rename_i l u n m ho hn hm
      cases hz:(szOk T e l && (keq n.k .i64 && keq m.k .i64)) with
      | false=>rw [hz] at hq;exact hq.elim
      | true =>
       rw [hz,cond_true] at hq
       simp only [Bool.and_eq_true] at hz
       obtain ⟨hz1,hk,hk2⟩:=hz
       obtain ⟨hel,hpos⟩:=szOk_info hT hz1
       obtain ⟨h0,hq⟩:=test_holds hq
       obtain ⟨h1,hq⟩:=test_holds hq
       obtain ⟨h2,hq⟩:=test_holds hq
       have h0':=of_decide_eq_true h0
       have h1':=of_decide_eq_true h1
       have h2':=of_decide_eq_true h2
       rw [LLaws.len] at h2'
       obtain ⟨hA,hu,⟨xs,hrow,hxs⟩,hblk⟩:=owned_rep hr hs ho
       split at hq
       ·rename_i l' ha1
        rcases hq with ⟨hfit,hq⟩ | ⟨_,hq⟩
        ·obtain ⟨e1,s1,_⟩:=LLaws.app _ _ _ ha1
         obtain ⟨e3,s3⟩:=LLaws.sub l 0 n.n.toNat
         obtain ⟨e4,s4⟩:=LLaws.sub l m.n.toNat (LI.len l)
         have hsz:LI.sz l'=LI.sz l:=by rw [s1,s3]
         have hlen:(LI.els l').length=n.n.toNat+((LI.els l).length - m.n.toNat):=by
          rw [e1,e3,e4,LLaws.len];simp;omega
         have hreps:RepIs g.G (LI.els l').flatten (xs.take (n.n.toNat * LI.sz l)++xs.drop (m.n.toNat * LI.sz l)):=by
          rw [e1,List.flatten_append]
          have p1:=RepIs.piece (l0:=l) hxs 0 n.n.toNat
          have p2:=RepIs.piece (l0:=l) hxs m.n.toNat (LI.len l)
          rw [Nat.zero_mul,List.drop_zero] at p1
          rw [LLaws.len,List.take_of_length_le (by rw [hrow.1];exact Nat.le_refl _)] at p2
          exact p1.append (by rw [LLaws.len];exact p2)
         have hni:=natOf_rep hi hn
         rw [keq_i64 hk] at hni
         have hni2:n.n=((n.n.toNat:Nat):Int):=by omega
         rw [hni2] at hni
         subst hni
         have hmi:=natOf_rep hj hm
         rw [keq_i64 hk2] at hmi
         have hmi2:m.n=((m.n.toNat:Nat):Int):=by omega
         rw [hmi2] at hmi
         subst hmi
         have hfit':(LI.els l).length≤1073741824:=by
          have:=of_decide_eq_true hfit;rw [LLaws.len] at this;exact this
         refine go hA hu hblk hreps hq ?_
         rw [hsz,hlen]
         exact hO (LI.sz l) w _ n.n.toNat m.n.toNat _ xs B hel hrow hxs.one (by omega) (by omega) hfit' hr.base
        ·exact hq.elim
       ·exact hq.elim
     ·exact hq.elim
 ·exact hq.elim
theorem RepS.im0 {s:S L}{v:Value}(hs:allIm s=true)(h:RepS g s v):RepS (g0 g.G) s v:=by
 cases s with
 | c x =>
  cases x<;>first | (simp [allIm,cellsOf] at hs;done) | skip
  exact h
 | agg cs =>
  obtain ⟨vs,hv,hc⟩:=h
  refine ⟨vs,hv,hc.mono fun x u hx hr=>?_⟩
  have:=List.all_eq_true.1 hs x hx
  cases x<;>first | (simp at this;done) | skip
  exact hr
theorem plainAll_rep:∀ {r:List (X L)} {ys:List (S L)} {vs:List Value},plainAll r=some ys→All2 (RepX g) r vs→All2 (RepS (g0 g.G)) ys vs
 | [],ys,vs,h,hv=>by cases h;cases hv;exact .nil
 | .s s::r,ys,vs,h,hv=>by
  cases hv with
  | cons hx hrest =>
   unfold plainAll at h
   cases hn:noList s with
   | false=>rw [hn] at h;cases h
   | true =>
    rw [hn,cond_true] at h
    split at h
    ·rename_i zs hz
     cases h
     exact .cons (RepS.im0 (noList_im hn) hx) (plainAll_rep hz hrest)
    ·cases h
 | .tup _::_,_,_,h,_=>by cases h
theorem rdRes_sound [LLaws L](hT:TabOK P T)(hE:RepE U g env a)(hr:RepH U g B h w)(_hf:¬ U fresh){f:FuncId}{xs:List (X L)}{off:Nat}{e:TypeId}(hc:callee env o.op=some (f,xs))(hen:Enters P f)(hO:RdOK P oD f off e)
  (hq:(rdRes T f off e xs h).holds oD Q):OpWp P U g B h w fresh a o Q:=by
 obtain ⟨vs,hvs,hrun,_⟩:=callee_run (w:=w) hE hc hen
 intro Qe
 unfold Oper.wp
 rw [hrun,Oper.upon_enter]
 unfold rdRes at hq
 split at hq
 ·rename_i x r
  cases hvs with
  | cons hx hrest =>
   split at hq
   ·rename_i b ofs ys hcx hpl
    have hxp:=cOf_rep hx hcx
    simp only [RepC] at hxp
    subst hxp
    cases ho:Nat.beq ofs 0 with
    | false=>rw [ho] at hq;exact hq.elim
    | true =>
    rw [ho,cond_true] at hq
    obtain rfl:ofs=0:=Nat.eq_of_beq_eq_true ho
    split at hq
    ·rename_i cs t hb
     obtain ⟨cells,hcell,hcs,_⟩:=hr.ent b _ hb
     split at hq
     ·rename_i c hn
      obtain ⟨sv,hsv,hcv⟩:=hcs.get (by rw [← nth_eq];exact hn)
      split at hq
      ·rename_i l hsrc
       cases hz:szOk T e l with
       | false=>rw [hz] at hq;exact hq.elim
       | true =>
        rw [hz,cond_true] at hq
        obtain ⟨hel,hpos⟩:=szOk_info hT hz
        obtain ⟨news,hsr⟩:=srcOf_src hr (x:=.s (.c c)) (v:=sv) hcv hsrc hpos
        obtain ⟨rs,hd,hq⟩:=hq
        refine Calls.mono (hO l ys rs hd g.G w (g.blk b) cells t sv news _ hcell hsv hsr.form hsr.len hsr.rep hel (plainAll_rep hpl hrest)) ?_
        rintro en w' ⟨c',rfl,hrx,h4⟩
        have hq:Out.holds oD (cond (rs.all noList) (.ret (packRes rs,[])) (.fail 275)) Q:=hq
        cases hall:rs.all noList with
        | false=>rw [hall] at hq;exact hq.elim
        | true =>
         rw [hall] at hq
         have h6:RepX (g0 g.G) (packRes rs) c':=RepX.packN hall hrx
         have:=RepX.packG (g:=g) rfl (List.all_eq_true.2 fun x hx=>noList_im (List.all_eq_true.1 hall x hx)) h6
         exact ⟨_,_,_,_,hq,rfl,(Post.later (G1:=g.G) (G':=g.G) (.nil h) (fun _ _ _ h=>h) hr (fun _ _ _ h=>.inl h) h4 (fun _ _ _ h=>h) (fun _ _ _ h=>.inl h) (cells_later hr h4) this.1 (by rw [this.2];simp)).1⟩
      ·exact hq.elim
     ·exact hq.elim
    ·exact hq.elim
   ·exact hq.elim
 ·exact hq.elim
end
end Go.Ev
/- From state to state; renaming; a part of the heap by itself, and back. -/
namespace Go.Ev
open Go.RowKit
variable {L:Type} [LI L]
structure Tr (K:Nat→Prop) (g:Gh) (h:Hp L) (w:World) (g':Gh) (h':Hp L) (w':World):Prop where
  le:GhLe K g g'
  nf:∀ k o z,g'.G k o=some z→g.G k o=some z∨(∃ b e,look h b=some e∧Owns g b e∧g.blk b=k)∨w.heap.size≤k
  nb:∀ b e,look h' b=some e→Owns g' b e→(∃ c e',look h c=some e'∧Owns g c e'∧g.blk c=g'.blk b)∨w.heap.size≤g'.blk b
  ws:Same w w'
  fr:∀ k,k < w.heap.size→(∀ b e,look h b=some e→Owns g b e→g.blk b≠k)→w'.heap[k]?=w.heap[k]?
section
variable {K K' U U1 U2:Nat→Prop} {g g1 g2 g':Gh} {B:Nat} {h h1 h2 h' u:Hp L} {w w1 w2 w':World} {fresh:Nat}
theorem Post.tr {x:X L}{v:Value}(hp:Post U g B h fresh w x u v w' g'):Tr U g h w g' (u++h) w':=⟨hp.le,hp.nf,hp.nb,hp.ws,hp.fr⟩
omit [LI L] in
theorem Tr.refl (K:Nat→Prop)(g:Gh)(h:Hp L)(w:World):Tr K g h w g h w :=
  ⟨.refl _ _,fun _ _ _ hz=>.inl hz,fun b e hb ho=>.inl ⟨b,e,hb,ho,rfl⟩,.refl w,fun _ _ _=>rfl⟩
omit [LI L] in
theorem Tr.trans (a:Tr K g h w g1 h1 w1)(b:Tr K' g1 h1 w1 g2 h2 w2)(hk:∀ x,K x→K' x):Tr K g h w g2 h2 w2:=by
  refine ⟨a.le.trans (b.le.weaken hk),?_,?_,a.ws.trans b.ws,?_⟩
  · intro k o z hz
    rcases b.nf k o z hz with h1 | ⟨c,e,h1,h2,h3⟩ | h1
    · exact a.nf k o z h1
    · rcases a.nb c e h1 h2 with ⟨c',e',h4,h5,h6⟩ | h4
      · exact .inr (.inl ⟨c',e',h4,h5,h6.trans h3⟩)
      · exact .inr (.inr (h3 ▸ h4))
    · exact .inr (.inr (Nat.le_trans a.ws.size h1))
  · intro c e h1 h2
    rcases b.nb c e h1 h2 with ⟨c',e',h4,h5,h6⟩ | h4
    · rcases a.nb c' e' h4 h5 with ⟨c2,e2,h7,h8,h9⟩ | h7
      · exact .inl ⟨c2,e2,h7,h8,h9.trans h6⟩
      · exact .inr (h6 ▸ h7)
    · exact .inr (Nat.le_trans a.ws.size h4)
  · intro k hk hn
    rw [b.fr k (Nat.lt_of_lt_of_le hk a.ws.size) ?_,a.fr k hk hn]
    intro c e h1 h2 h3
    rcases a.nb c e h1 h2 with ⟨c',e',h4,h5,h6⟩ | h4
    · exact hn c' e' h4 h5 (h6.trans h3)
    · omega
omit [LI L] in
theorem Tr.weaken (a:Tr K g h w g1 h1 w1)(hk:∀ x,K' x→K x):Tr K' g h w g1 h1 w1:=⟨a.le.weaken hk,a.nf,a.nb,a.ws,a.fr⟩
def Gh.ren (g:Gh)(φ:Nat→Nat):Gh:=⟨fun b=>g.blk (φ b),fun b=>g.sv (φ b),g.G⟩
variable {φ φ2:Nat→Nat}
theorem ren_v (b:Nat):(g.ren φ).v b=g.v (φ b):=rfl
theorem ren_p (p:Nat×Nat):(g.ren φ).p p=g.p (renP φ p):=rfl
theorem RepC.ren {x:C L}{v:Value}:RepC (g.ren φ) x v↔RepC g (renC φ x) v:=by
  cases x<;>simp only [RepC,renC,ren_v]<;>try rfl
  simp only [List.map_map]
  have:(Gh.ren g φ).p=g.p∘renP φ:=funext fun p=>ren_p p
  rw [this]
theorem RepCs.ren {cs:List (C L)}{vs:List Value}:All2 (RepC (g.ren φ)) cs vs↔All2 (RepC g) (cs.map (renC φ)) vs:=by
  constructor
  · intro h
    induction h with
    | nil=>exact .nil
    | cons h _ ih=>exact .cons (RepC.ren.1 h) ih
  · intro h
    induction cs generalizing vs with
    | nil=>cases h;exact .nil
    | cons c cs ih=>cases h with | cons a b=>exact .cons (RepC.ren.2 a) (ih b)
theorem RepS.ren {x:S L}{v:Value}:RepS (g.ren φ) x v↔RepS g (renS φ x) v:=by
  cases x with
  | c x=>exact RepC.ren
  | agg cs=>simp only [RepS,renS,RepCs.ren]
theorem RepSs.ren {cs:List (S L)}{vs:List Value}:All2 (RepS (g.ren φ)) cs vs↔All2 (RepS g) (cs.map (renS φ)) vs:=by
  constructor
  · intro h
    induction h with
    | nil=>exact .nil
    | cons h _ ih=>exact .cons (RepS.ren.1 h) ih
  · intro h
    induction cs generalizing vs with
    | nil=>cases h;exact .nil
    | cons c cs ih=>cases h with | cons a b=>exact .cons (RepS.ren.2 a) (ih b)
theorem RepX.ren {x:X L}{v:Value}:RepX (g.ren φ) x v↔RepX g (renX φ x) v:=by
  cases x with
  | s x=>exact RepS.ren
  | tup l=>simp only [RepX,renX,RepSs.ren]
omit [LI L] in
theorem idsC_ren (x:C L):idsC (renC φ x)=(idsC x).map φ:=by
  cases x<;>simp [idsC,renC,renP,List.map_map,Function.comp_def]
omit [LI L] in
theorem idsCs_ren (cs:List (C L)):(cs.map (renC φ)).flatMap idsC=(cs.flatMap idsC).map φ:=by
  induction cs with
  | nil=>rfl
  | cons c cs ih=>simp only [List.map_cons,List.flatMap_cons,idsC_ren,ih,List.map_append]
omit [LI L] in
theorem idsS_ren (x:S L):idsS (renS φ x)=(idsS x).map φ:=by
  cases x with
  | c x=>simp [idsS,renS,cellsOf,idsC_ren]
  | agg cs=>simpa [idsS,renS,cellsOf] using idsCs_ren cs
omit [LI L] in
theorem idsX_ren (x:X L):idsX (renX φ x)=(idsX x).map φ:=by
  cases x with
  | s x=>exact idsS_ren x
  | tup l =>
    simp only [idsX,renX]
    induction l with
    | nil=>rfl
    | cons c cs ih=>simp only [List.map_cons,List.flatMap_cons,idsS_ren,ih,List.map_append]
omit [LI L] in
theorem idsEn_ren (e:En L):idsEn (renEn φ e)=(idsEn e).map φ:=by
  cases e with
  | var cs t=>exact idsCs_ren cs
  | _=>simp [idsEn,renEn]
theorem RepEn.ren {i:Nat}{e:En L}:RepEn (g.ren φ) w B i e↔RepEn g w B (φ i) (renEn φ e):=by
  cases e with
  | var cs t=>simp only [RepEn,renEn,RepCs.ren];rfl
  | arr e l=>rfl
  | fro e l tip=>rfl
  | pre _ _=>rfl
  | win _ _ _ _=>rfl
  | fvar _=>rfl
  | dead=>rfl
omit [LI L] in
theorem Owns.ren {i:Nat}{e:En L}:Owns (g.ren φ) i e↔Owns g (φ i) (renEn φ e):=by
  cases e<;>rfl
omit [LI L] in
theorem Alias.ren {i:Nat}{e:En L}:Alias (g.ren φ) i e↔Alias g (φ i) (renEn φ e):=by
  cases e<;>rfl
theorem RepH.sub (hr:RepH U g B h w)(hsub:∀ i e,look h1 i=some e→look h (φ i)=some (renEn φ e))
    (hinj:∀ i j e e',look h1 i=some e→look h1 j=some e'→φ i=φ j→i=j) (hid:∀ i e,look h1 i=some e→U1 i∧∀ c∈idsEn e,U1 c):RepH U1 (g.ren φ) B h1 w:=by
  refine ⟨hr.fz,?_,hid,?_,?_,?_,?_,hr.base⟩
  · intro i e hi
    exact RepEn.ren.2 (hr.ent _ _ (hsub i e hi))
  · intro i j e e' hi hj o1 o2 hne
    exact hr.dis _ _ _ _ (hsub i e hi) (hsub j e' hj) (Owns.ren.1 o1) (Owns.ren.1 o2) fun hc=>hne (hinj i j e e' hi hj hc)
  · intro i e hi ho
    exact hr.own _ _ (hsub i e hi) (Owns.ren.1 ho)
  · intro i e hi ho o v hv
    obtain ⟨t,l,he,hl⟩:=hr.free _ _ (hsub i e hi) (Owns.ren.1 ho) o v hv
    cases e<;>simp only [renEn] at he<;>first | (cases he;exact ⟨_,_,rfl,hl⟩) | cases he
  · intro b e hb
    exact Alias.ren.2 (hr.pre _ _ (hsub b _ hb))
omit [LI L] in
theorem sub_owner (hsub:∀ i e,look h1 i=some e→look h (φ i)=some (renEn φ e)){c:Nat}{e:En L}(hc:look h1 c=some e)(ho:Owns (g.ren φ) c e):look h (φ c)=some (renEn φ e)∧Owns g (φ c) (renEn φ e):=⟨hsub c e hc,Owns.ren.1 ho⟩
open Classical in
noncomputable def Gh.back (g g2:Gh) (U U2:Nat→Prop) (φ2:Nat→Nat):Gh :=
  ⟨fun b=>if U b then g.blk b else if ex:∃ i,U2 i∧φ2 i=b then g2.blk ex.choose else 0,
   fun b=>if U b then g.sv b else if ex:∃ i,U2 i∧φ2 i=b then g2.sv ex.choose else (none,0,0),g2.G⟩
theorem Gh.back_old (b:Nat)(hb:U b):(Gh.back g g2 U U2 φ2).blk b=g.blk b∧(Gh.back g g2 U U2 φ2).sv b=g.sv b:=by
  simp [Gh.back,hb]
theorem Gh.back_new (hle:GhLe K (g.ren φ) g2)(hφ2:∀ i,U2 i→(K i∧φ2 i=φ i∧U (φ i))∨¬ U (φ2 i))(hinj:∀ i j,U2 i→U2 j→φ2 i=φ2 j→i=j)(i:Nat)(hi:U2 i) :
    (Gh.back g g2 U U2 φ2).blk (φ2 i)=g2.blk i∧(Gh.back g g2 U U2 φ2).sv (φ2 i)=g2.sv i:=by
  rcases hφ2 i hi with ⟨hk,he,hu⟩ | hn
  · have:=Gh.back_old (g:=g) (g2:=g2) (U2:=U2) (φ2:=φ2) (φ2 i) (he ▸ hu)
    rw [this.1,this.2,he]
    exact ⟨(hle.blk i hk).symm,(hle.sv i hk).symm⟩
  · have ex:∃ j,U2 j∧φ2 j=φ2 i:=⟨i,hi,rfl⟩
    have hc:ex.choose=i:=hinj _ _ ex.choose_spec.1 hi ex.choose_spec.2
    simp only [Gh.back,hn,if_false,ex,dif_pos,hc,and_self]
theorem RepH.back (hr:RepH U g B h w)(R:Nat→Prop)(hsub:∀ i e,look h1 i=some e→look h (φ i)=some (renEn φ e))(hR:∀ i e,look h1 i=some e→R (φ i))
    (tr:Tr K (g.ren φ) h1 w g2 h2 w') (hr2:RepH U2 g2 B h2 w')
    (hφ2:∀ i,U2 i→(K i∧φ2 i=φ i∧U (φ i))∨¬ U (φ2 i)) (hinj:∀ i j,U2 i→U2 j→φ2 i=φ2 j→i=j)
    (hh:∀ b e',look h' b=some e'→(∃ i e2,b=φ2 i∧look h2 i=some e2∧e'=renEn φ2 e2)∨(e'=.dead∧U b)∨(look h b=some e'∧¬ R b)) :
    RepH (fun b=>U b∨∃ i,U2 i∧b=φ2 i) (Gh.back g g2 U U2 φ2) B h' w'∧Tr U g h w (Gh.back g g2 U U2 φ2) h' w'∧GhLe U2 g2 ((Gh.back g g2 U U2 φ2).ren φ2):=by
  have old:=fun b hb=>Gh.back_old (g:=g) (g2:=g2) (U:=U) (U2:=U2) (φ2:=φ2) b hb
  have new:=fun i hi=>Gh.back_new (U:=U) tr.le hφ2 hinj i hi
  generalize hg':Gh.back g g2 U U2 φ2=g' at old new ⊢
  have hG:g'.G=g2.G:=by rw [← hg'];rfl
  have le1:GhLe U g g':=⟨fun b hb=>(old b hb).1,fun b hb=>(old b hb).2,fun k o v hv=>hG ▸ tr.le.G k o v hv⟩
  have le2:GhLe U2 g2 (g'.ren φ2):=⟨fun i hi=>(new i hi).1,fun i hi=>(new i hi).2,fun k o v hv=>by show g'.G k o=_;rw [hG];exact hv⟩
  -- blocks of what was not handed over
  have apart:∀ b e,look h b=some e→¬ R b→Owns g b e→∀ c e1,look h1 c=some e1→Owns (g.ren φ) c e1→g.blk (φ c)≠g.blk b:=by
    intro b e hb hRb ho c e1 hc hoc
    have:=sub_owner hsub hc hoc
    exact hr.dis _ _ _ _ this.1 hb this.2 ho fun he=>hRb (he ▸ hR c e1 hc)
  -- owners behind
  have cls:∀ b e',look h' b=some e'→Owns g' b e'→(∃ i e2,b=φ2 i∧look h2 i=some e2∧e'=renEn φ2 e2∧Owns g2 i e2∧g'.blk b=g2.blk i)∨(look h b=some e'∧¬ R b∧Owns g b e'∧g'.blk b=g.blk b):=by
    intro b e' hb ho
    rcases hh b e' hb with ⟨i,e2,hbi,h2i,he⟩ | ⟨he,_⟩ | ⟨hb',hRb⟩
    · have hi:=(hr2.ids i e2 h2i).1
      subst hbi;subst he
      exact .inl ⟨i,e2,rfl,h2i,rfl,(Owns.congr le2 hi).1 (Owns.ren.2 ho),(new i hi).1⟩
    · subst he;exact ho.elim
    · have hU:=(hr.ids b e' hb').1
      exact .inr ⟨hb',hRb,(Owns.congr le1 hU).1 ho,(old b hU).1⟩
  have nbk:∀ i e2,look h2 i=some e2→Owns g2 i e2→(∃ c e',look h c=some e'∧Owns g c e'∧g.blk c=g2.blk i∧R c)∨w.heap.size≤g2.blk i:=by
    intro i e2 hi ho
    rcases tr.nb i e2 hi ho with ⟨c,e1,hc,hoc,hbc⟩ | hs
    · have:=sub_owner hsub hc hoc
      exact .inl ⟨φ c,_,this.1,this.2,hbc,hR c e1 hc⟩
    · exact .inr hs
  refine ⟨⟨?_,?_,?_,?_,?_,?_,?_,hr2.base⟩,⟨le1,?_,?_,tr.ws,?_⟩,le2⟩
  · intro k o v hv
    exact hr2.fz k o v (hG ▸ hv)
  · intro b e' hb
    rcases hh b e' hb with ⟨i,e2,hbi,h2i,he⟩ | ⟨he,_⟩ | ⟨hb',hRb⟩
    · subst hbi;subst he
      have hi:=hr2.ids i e2 h2i
      exact RepEn.ren.1 (RepEn.mono le2 hi.1 hi.2 (hr2.ent i e2 h2i))
    · subst he;trivial
    · have hU:=hr.ids b e' hb'
      refine RepEn.mono le1 hU.1 hU.2 ((hr.ent b e' hb').frame fun ho=>?_)
      exact tr.fr _ (hr.lt_size hb' ho) fun c e1 hc hoc=>apart b e' hb' hRb ho c e1 hc hoc
  · intro b e' hb
    rcases hh b e' hb with ⟨i,e2,hbi,h2i,he⟩ | ⟨he,hU⟩ | ⟨hb',hRb⟩
    · subst hbi;subst he
      have hi:=hr2.ids i e2 h2i
      refine ⟨.inr ⟨i,hi.1,rfl⟩,fun c hc=>?_⟩
      rw [idsEn_ren,List.mem_map] at hc
      obtain ⟨j,hj,rfl⟩:=hc
      exact .inr ⟨j,hi.2 j hj,rfl⟩
    · subst he;exact ⟨.inl hU,by simp [idsEn]⟩
    · have hU:=hr.ids b e' hb'
      exact ⟨.inl hU.1,fun c hc=>.inl (hU.2 c hc)⟩
  · intro b b' e e' hb hb' ho ho' hne
    rcases cls b e hb ho with ⟨i,e2,hbi,h2i,he,hoi,hki⟩ | ⟨hb1,hRb,ho1,hk1⟩<;>rcases cls b' e' hb' ho' with ⟨j,e2',hbj,h2j,he',hoj,hkj⟩ | ⟨hb1',hRb',ho1',hk1'⟩
    · rw [hki,hkj]
      exact hr2.dis i j e2 e2' h2i h2j hoi hoj fun hij=>hne (by rw [hbi,hbj,hij])
    · rw [hki,hk1']
      rcases nbk i e2 h2i hoi with ⟨c,ec,hc,hoc,hbc,hRc⟩ | hs
      · rw [← hbc];exact hr.dis c b' ec e' hc hb1' hoc ho1' fun he=>hRb' (he ▸ hRc)
      · have:=hr.lt_size hb1' ho1';omega
    · rw [hk1,hkj]
      rcases nbk j e2' h2j hoj with ⟨c,ec,hc,hoc,hbc,hRc⟩ | hs
      · rw [← hbc];exact hr.dis b c e ec hb1 hc ho1 hoc fun he=>hRb (he ▸ hRc)
      · have:=hr.lt_size hb1 ho1;omega
    · rw [hk1,hk1']
      exact hr.dis b b' e e' hb1 hb1' ho1 ho1' hne
  · intro b e hb ho
    rcases cls b e hb ho with ⟨i,e2,hbi,h2i,he,hoi,hki⟩ | ⟨hb1,hRb,ho1,hk1⟩
    · rw [hki];exact hr2.own i e2 h2i hoi
    · rw [hk1];exact hr.own b e hb1 ho1
  · intro b e hb ho o v hv
    rcases cls b e hb ho with ⟨i,e2,hbi,h2i,he,hoi,hki⟩ | ⟨hb1,hRb,ho1,hk1⟩
    · rw [hki,hG] at hv
      obtain ⟨t,l,he2,hl⟩:=hr2.free i e2 h2i hoi o v hv
      subst he2
      exact ⟨t,l,he,hl⟩
    · rw [hk1,hG] at hv
      rcases tr.nf _ o v hv with h3 | ⟨c,e1,hc,hoc,hbc⟩ | h3
      · exact hr.free b e hb1 ho1 o v h3
      · exact absurd hbc (apart b e hb1 hRb ho1 c e1 hc hoc)
      · have:=hr.lt_size hb1 ho1;omega
  · intro b e hb
    rcases hh b _ hb with ⟨i,e2,hbi,h2i,he⟩ | ⟨he,hU⟩ | ⟨hb',hRb⟩
    · subst hbi;subst he
      have hi:=hr2.ids i _ h2i
      exact Alias.ren.1 ((hr2.pre i _ h2i).mono le2 hi.1 hi.2)
    · subst he;trivial
    · have hU:=hr.ids b _ hb'
      exact (hr.pre b _ hb').mono le1 hU.1 hU.2
  · intro k o z hz
    rw [hG] at hz
    rcases tr.nf k o z hz with h3 | ⟨c,e1,hc,hoc,hbc⟩ | h3
    · exact .inl h3
    · have:=sub_owner hsub hc hoc
      exact .inr (.inl ⟨_,_,this.1,this.2,hbc⟩)
    · exact .inr (.inr h3)
  · intro b e hb ho
    rcases cls b e hb ho with ⟨i,e2,hbi,h2i,he,hoi,hki⟩ | ⟨hb1,hRb,ho1,hk1⟩
    · rw [hki]
      rcases nbk i e2 h2i hoi with ⟨c,ec,hc,hoc,hbc,_⟩ | hs
      · exact .inl ⟨c,ec,hc,hoc,hbc⟩
      · exact .inr hs
    · exact .inl ⟨b,e,hb1,ho1,hk1.symm⟩
  · intro k hk hn
    refine tr.fr k hk fun c e1 hc hoc=>?_
    have:=sub_owner hsub hc hoc
    exact hn _ _ this.1 this.2
end
end Go.Ev
/- Carving out a state, and laying it back. -/
namespace Go.Ev
open Go.RowKit
variable {L:Type}
def Lt (n:Nat):Nat→Prop:=fun b=>b < n
def Gr (V:Nat→Prop)(nx n:Nat):Nat→Prop:=fun b=>V b∨(nx≤b∧b < n)
theorem Gr.of {V:Nat→Prop}{nx n b:Nat}(h:V b):Gr V nx n b:=.inl h
theorem Gr.lt {V:Nat→Prop}{nx n:Nat}(hV:∀ b,V b→b < nx)(hn:nx≤n):∀ b,Gr V nx n b→b < n:=fun b h=>h.elim (fun h=>Nat.lt_of_lt_of_le (hV b h) hn) fun h=>h.2
theorem Gr.trans {V:Nat→Prop}{a b c:Nat}(h1:a≤b)(h2:b≤c):∀ x,Gr (Gr V a b) b c x→Gr V a c x:=by
 rintro x ((h | h) | h)
 ·exact .inl h
 ·exact .inr ⟨h.1,by omega⟩
 ·exact .inr ⟨by omega,h.2⟩
theorem Gr.more {V:Nat→Prop}{a b c:Nat}(h:b≤c):∀ x,Gr V a b x→Gr V a c x:=fun _ hx=>hx.imp id fun hx=>⟨hx.1,Nat.lt_of_lt_of_le hx.2 h⟩
theorem Gr.self {V:Nat→Prop}{a:Nat}:∀ x,Gr V a a x→V x:=fun _ hx=>hx.elim id fun h=>by omega
theorem mem_iff {n:Nat}{l:List Nat}:mem n l=true↔n∈l:=by
 induction l with
 | nil=>simp [mem]
 | cons x r ih =>
  simp only [mem,Bool.or_eq_true,ih,List.mem_cons]
  have:Nat.beq x n=true↔n=x:=by rw [Nat.beq_eq];exact eq_comm
  rw [this]
theorem subset_iff {a b:List Nat}:subset a b=true↔∀ x∈a,x∈b:=by
 simp [subset,List.all_eq_true,mem_iff]
theorem below_iff {n:Nat}{a:List Nat}:below n a=true↔∀ x∈a,x < n:=by
 simp only [below,List.all_eq_true,Nat.ble_eq]
 exact ⟨fun h x hx=>h x hx,fun h x hx=>h x hx⟩
theorem nodup_iff {a:List Nat}:nodup a=true↔a.Nodup:=by
 induction a with
 | nil=>simp [nodup]
 | cons x r ih =>
  simp only [nodup,Bool.and_eq_true,Bool.not_eq_true',ih,List.nodup_cons]
  rw [← Bool.not_eq_true,mem_iff]
theorem idx_spec {b:Nat}{l:List Nat}(h:b∈l):∀ i,∃ j,idx b l i=some (i+j)∧l[j]?=some b:=by
 induction l with
 | nil=>simp at h
 | cons x r ih =>
  intro i
  simp only [idx]
  by_cases hx:x=b
  ·subst hx;exact ⟨0,by simp,by simp⟩
  ·have hb:Nat.beq x b=false:=by rw [← Bool.not_eq_true,Nat.beq_eq];exact hx
   have hm:b∈r:=by rcases List.mem_cons.1 h with h | h;exact absurd h.symm hx;exact h
   obtain ⟨j,hj,hl⟩:=ih hm (i+1)
   exact ⟨j+1,by rw [hb];simp only [cond_false,hj];congr 1;omega,by simpa using hl⟩
theorem numAt_spec {b:Nat}{R:List Nat}(h:b∈R):R[numAt R b]?=some b:=by
 obtain ⟨j,hj,hl⟩:=idx_spec h 0
 simp only [numAt,hj,Nat.zero_add];exact hl
def at0 (R:List Nat)(i:Nat):Nat:=match nth R i with | some b=>b | none=>0
theorem at0_num {b:Nat}{R:List Nat}(h:b∈R):at0 R (numAt R b)=b:=by
 simp [at0,nth_eq,numAt_spec h]
theorem restrict_look {h:Hp L}{R:List Nat}{b:Nat}{e:En L}(hb:look (restrict h R) b=some e):b∈R∧look h b=some e:=by
 induction R with
 | nil=>simp [restrict,look] at hb
 | cons x r ih =>
  simp only [restrict,List.filterMap_cons] at hb
  cases hx:look h x with
  | none=>simp only [hx] at hb;have:=ih hb;exact ⟨by simp [this.1],this.2⟩
  | some e' =>
   simp only [hx] at hb
   rw [look_cons] at hb
   split at hb
   ·rename_i hxb;subst hxb;cases hb;exact ⟨by simp,hx⟩
   ·have:=ih hb;exact ⟨by simp [this.1],this.2⟩
theorem look_restrict {h:Hp L}{R:List Nat}{b:Nat}(hb:b∈R):look (restrict h R) b=look h b:=by
 induction R with
 | nil=>simp at hb
 | cons x r ih =>
  simp only [restrict,List.filterMap_cons]
  cases hx:look h x with
  | none =>
   simp only []
   rcases List.mem_cons.1 hb with rfl | hm
   ·by_cases hr:b∈r
    ·exact ih hr
    ·rw [hx]
     cases hl:look (restrict h r) b with
     | none=>exact hl
     | some e=>exact absurd (restrict_look hl).1 hr
   ·exact ih hm
  | some e =>
   simp only []
   rw [look_cons]
   split
   ·rename_i hxb;subst hxb;exact hx.symm
   ·rename_i hxb
    rcases List.mem_cons.1 hb with rfl | hm
    ·exact absurd rfl hxb
    ·exact ih hm
theorem look_renHp {φ:Nat→Nat}{h:Hp L}{b:Nat}{e':En L}(hinj:∀ p∈h,∀ q∈h,φ p.1=φ q.1→p.1=q.1)(hb:look (renHp φ h) b=some e'):∃ i e,b=φ i∧look h i=some e∧e'=renEn φ e:=by
 induction h with
 | nil=>simp [renHp,look] at hb
 | cons p r ih =>
  obtain ⟨k,e⟩:=p
  simp only [renHp,List.map_cons] at hb
  rw [look_cons] at hb
  split at hb
  ·rename_i hk;cases hb;exact ⟨k,e,hk.symm,by simp [look_cons],rfl⟩
  ·rename_i hk
   obtain ⟨i,e2,h1,h2,h3⟩:=ih (fun p hp q hq=>hinj p (by simp [hp]) q (by simp [hq])) hb
   refine ⟨i,e2,h1,?_,h3⟩
   rw [look_cons,if_neg,h2]
   intro hki
   exact hk (by rw [h1,hki])
theorem renC_id {φ ψ:Nat→Nat}(x:C L)(h:∀ b∈idsC x,ψ (φ b)=b):renC ψ (renC φ x)=x:=by
 have e:∀ l:List (Nat×Nat),(∀ p∈l,ψ (φ p.1)=p.1)→(l.map (renP φ)).map (renP ψ)=l:=by
  intro l hl
  rw [List.map_map]
  conv=>rhs;rw [← List.map_id l]
  apply List.map_congr_left
  intro p hp
  simp [renP,hl p hp]
 cases x with
 | ptr b off=>simp only [renC];rw [h b (by simp [idsC])]
 | eptr b i sz off=>simp only [renC];rw [h b (by simp [idsC])]
 | sptr b base i n sz off=>simp only [renC];rw [h b (by simp [idsC])]
 | ar b=>simp only [renC];rw [h b (by simp [idsC])]
 | clo f a c =>
  simp only [renC]
  rw [e a fun p hp=>h _ (by simp only [idsC,List.mem_append,List.mem_map];exact .inl ⟨p,hp,rfl⟩),e c fun p hp=>h _ (by simp only [idsC,List.mem_append,List.mem_map];exact .inr ⟨p,hp,rfl⟩)]
 | _=>rfl
theorem renCs_id {φ ψ:Nat→Nat}(cs:List (C L))(h:∀ b∈cs.flatMap idsC,ψ (φ b)=b):(cs.map (renC φ)).map (renC ψ)=cs:=by
 rw [List.map_map]
 conv=>rhs;rw [← List.map_id cs]
 apply List.map_congr_left
 intro c hc
 exact renC_id c fun b hb=>h b (List.mem_flatMap.2 ⟨c,hc,hb⟩)
theorem renS_id {φ ψ:Nat→Nat}(x:S L)(h:∀ b∈idsS x,ψ (φ b)=b):renS ψ (renS φ x)=x:=by
 cases x with
 | c x=>simp only [renS];rw [renC_id x (by simpa [idsS,cellsOf] using h)]
 | agg cs=>simp only [renS];rw [renCs_id cs (by simpa [idsS,cellsOf] using h)]
theorem renX_id {φ ψ:Nat→Nat}(x:X L)(h:∀ b∈idsX x,ψ (φ b)=b):renX ψ (renX φ x)=x:=by
 cases x with
 | s x=>simp only [renX];rw [renS_id x h]
 | tup l =>
  simp only [renX]
  congr 1
  rw [List.map_map]
  conv=>rhs;rw [← List.map_id l]
  apply List.map_congr_left
  intro c hc
  exact renS_id c fun b hb=>h b (List.mem_flatMap.2 ⟨c,hc,hb⟩)
theorem renEn_id {φ ψ:Nat→Nat}(e:En L)(h:∀ b∈idsEn e,ψ (φ b)=b):renEn ψ (renEn φ e)=e:=by
 cases e with
 | var cs t=>simp only [renEn];rw [renCs_id cs h]
 | pre b k=>simp only [renEn];rw [h b (by simp [idsEn])]
 | win b z lo hi=>simp only [renEn];rw [h b (by simp [idsEn])]
 | _=>rfl
structure Carved (φ:Nat→Nat) (R:List Nat) (num:Nat→Nat) (n:Nat) (xs:List (X L)) (h:Hp L) (c:Cst L):Prop where
 hn:c.n=n
 hxs:c.xs=xs.map (renX num)
 hnum:∀ b∈R,φ (num b)=b
 lt:∀ b∈R,num b < n
 hidx:∀ x∈xs,∀ b∈idsX x,b∈R
 at_:∀ i e,look c.hp i=some e→φ i∈R∧i=num (φ i)∧look h (φ i)=some (renEn φ e)∧∀ j∈idsEn e,j < n
theorem carve_spec {φ:Nat→Nat}{R:List Nat}{num:Nat→Nat}{n:Nat}{xs:List (X L)}{h:Hp L}{c:Cst L}(hc:carve R num n xs h=some c)(hφ:∀ b∈R,φ (num b)=b):Carved φ R num n xs h c:=by
 unfold carve at hc
 cases hb:(nodup (R.map num) && (below n (R.map num) && ((xs.all fun x=>subset (idsX x) R) && ((restrict h R).all fun p=>subset (idsEn p.2) R)))) with
 | false=>rw [hb] at hc;cases hc
 | true =>
  rw [hb] at hc
  cases hc
  simp only [Bool.and_eq_true,List.all_eq_true,below_iff,subset_iff] at hb
  obtain ⟨_,h2,h3,h4⟩:=hb
  have hlt:∀ b∈R,num b < n:=fun b hb=>h2 _ (List.mem_map.2 ⟨b,hb,rfl⟩)
  refine ⟨rfl,rfl,hφ,hlt,h3,?_⟩
  intro i e hi
  have hinj:∀ p∈restrict h R,∀ q∈restrict h R,num p.1=num q.1→p.1=q.1:=by
   intro p hp q hq hpq
   have hp':=(restrict_look (look_of_key (d:=p.1) (x:=p.2) hp).choose_spec).1
   have hq':=(restrict_look (look_of_key (d:=q.1) (x:=q.2) hq).choose_spec).1
   rw [← hφ _ hp',← hφ _ hq',hpq]
  obtain ⟨b,e0,hib,hb0,he⟩:=look_renHp hinj hi
  have hbR:=restrict_look hb0
  have hids:=h4 _ (look_mem hb0)
  subst hib;subst he
  rw [hφ b hbR.1]
  refine ⟨hbR.1,rfl,?_,?_⟩
  ·rw [renEn_id e0 fun j hj=>hφ j (hids j hj)];exact hbR.2
  ·intro j hj
   rw [idsEn_ren,List.mem_map] at hj
   obtain ⟨b',hb',rfl⟩:=hj
   exact hlt b' (hids b' hb')
section
variable [LI L]
variable {φ:Nat→Nat} {R:List Nat} {num:Nat→Nat} {n B:Nat} {xs:List (X L)} {h:Hp L} {c:Cst L} {U:Nat→Prop} {g:Gh} {w:World}
theorem Carved.rep (hc:Carved φ R num n xs h c)(hr:RepH U g B h w):RepH (Lt n) (g.ren φ) B c.hp w :=
 hr.sub (fun i e hi=>(hc.at_ i e hi).2.2.1) (fun i j e e' hi hj hij=>by rw [(hc.at_ i e hi).2.1,(hc.at_ j e' hj).2.1,hij])
  (fun i e hi=>⟨by rw [(hc.at_ i e hi).2.1];exact hc.lt _ (hc.at_ i e hi).1,(hc.at_ i e hi).2.2.2⟩)
theorem Carved.repX (hc:Carved φ R num n xs h c){x:X L}{v:Value}(hx:x∈xs)(hv:RepX g x v):RepX (g.ren φ) (renX num x) v :=
 RepX.ren.2 (by rw [renX_id x fun b hb=>hc.hnum b (hc.hidx x hx b hb)];exact hv)
omit [LI L] in
theorem Carved.idsLt (hc:Carved φ R num n xs h c){x:X L}(hx:x∈xs):∀ b∈idsX (renX num x),b < n:=by
 intro b hb
 rw [idsX_ren,List.mem_map] at hb
 obtain ⟨b',hb',rfl⟩:=hb
 exact hc.lt b' (hc.hidx x hx b' hb')
theorem Carved.repXs (hc:Carved φ R num n xs h c){vs:List Value}(hv:All2 (RepX g) xs vs):All2 (RepX (g.ren φ)) c.xs vs:=by
 rw [hc.hxs]
 have:∀ ys:List (X L),(∀ y∈ys,y∈xs)→∀ us,All2 (RepX g) ys us→All2 (RepX (g.ren φ)) (ys.map (renX num)) us:=by
  intro ys hys us hu
  induction hu with
  | nil=>exact .nil
  | cons a _ ih=>exact .cons (hc.repX (hys _ (by simp)) a) (ih fun y hy=>hys y (by simp [hy]))
 exact this xs (fun _ h=>h) vs hv
omit [LI L] in
theorem trav_look (h:Hp L):∀ (k:Nat) (todo acc:List Nat),(∀ b∈acc,∃ e,look h b=some e)→∀ b∈trav h k todo acc,∃ e,look h b=some e
 | 0,todo,acc,ha,b,hb=>ha b hb
 | k+1,[],acc,ha,b,hb=>ha b hb
 | k+1,c::r,acc,ha,b,hb=>by
  simp only [trav] at hb
  cases hm:mem c acc with
  | true=>rw [hm] at hb;exact trav_look h k r acc ha b hb
  | false =>
   rw [hm] at hb
   simp only [cond_false] at hb
   split at hb
   ·rename_i e he
    exact trav_look h k _ _ (fun d hd=>by rcases List.mem_append.1 hd with h1 | h1;exact ha d h1;simp at h1;exact ⟨e,h1 ▸ he⟩) b hb
   ·exact trav_look h k r acc ha b hb
omit [LI L] in
theorem canon_spec (hc:canon xs h=some c):Carved (at0 (travX h xs [])) (travX h xs []) (numAt (travX h xs [])) (travX h xs []).length xs h c :=
 carve_spec hc fun _ hb=>at0_num hb
omit [LI L] in
theorem canon_nodup (hc:canon xs h=some c):(travX h xs []).Nodup:=by
 unfold canon carve at hc
 cases hb:nodup ((travX h xs []).map (numAt (travX h xs []))) with
 | false=>rw [hb] at hc;cases hc
 | true=>exact (List.Pairwise.of_map _ (fun a b hab he=>hab (by rw [he])) (nodup_iff.1 hb))
theorem sum_back {V:Nat→Prop}{nx:Nat}{kp:List Nat}{d:Cst L}{g2:Gh}{w':World}(hV:∀ b,V b→b < nx)(hr:RepH V g B h w)(hc:canon xs h=some c)(hkp:below (travX h xs []).length kp=true)
  (tr:Tr (fun i=>i∈kp) (g.ren (at0 (travX h xs []))) c.hp w g2 d.hp w') (hr2:RepH (Lt d.n) g2 B d.hp w') :
  ∃ g':Gh,RepH (Gr V nx (nx+d.n)) g' B (sumOut kp (travX h xs []) h nx d).2.1 w'∧Tr V g h w g' (sumOut kp (travX h xs []) h nx d).2.1 w' ∧
   (∀ (x:X L) v,(∀ b∈idsX x,b < d.n)→RepX g2 x v→RepX g' (renX (backId kp (travX h xs []) nx) x) v)∧(∀ x:X L,(∀ b∈idsX x,b < d.n)→∀ b∈idsX (renX (backId kp (travX h xs []) nx) x),Gr V nx (nx+d.n) b):=by
 have hs:=canon_spec hc
 have hnd:=canon_nodup hc
 generalize hRe:travX h xs []=R at *
 have hRV:∀ b∈R,V b:=by
  intro b hb
  rw [← hRe] at hb
  obtain ⟨e,he⟩:=trav_look h _ _ [] (by simp) b hb
  exact (hr.ids b e he).1
 have hRl:∀ b∈R,b < nx:=fun b hb=>hV b (hRV b hb)
 have hkp':=below_iff.1 hkp
 have hin:∀ i∈kp,∃ b,R[i]?=some b∧backId kp R nx i=b∧at0 R i=b∧V b:=by
  intro i hi
  have hlt:=hkp' i hi
  refine ⟨R[i],by simp [hlt],?_,?_,hRV _ (by simp)⟩
  ·simp [backId,mem_iff.2 hi,nth_eq,hlt]
  ·simp [at0,nth_eq,hlt]
 have hout:∀ i,i ∉ kp→backId kp R nx i=nx+i:=by
  intro i hi
  have:mem i kp=false:=by rw [← Bool.not_eq_true,mem_iff];exact hi
  simp [backId,this]
 have hφ2:∀ i,Lt d.n i→(i∈kp∧backId kp R nx i=at0 R i∧V (at0 R i))∨¬ V (backId kp R nx i):=by
  intro i _
  by_cases hi:i∈kp
  ·obtain ⟨b,h1,h2,h3,h4⟩:=hin i hi
   exact .inl ⟨hi,by rw [h2,h3],by rw [h3];exact h4⟩
  ·exact .inr (by rw [hout i hi];intro hv;have:=hV _ hv;omega)
 have hinj:∀ i j,Lt d.n i→Lt d.n j→backId kp R nx i=backId kp R nx j→i=j:=by
  intro i j _ _ hij
  by_cases hi:i∈kp<;>by_cases hj:j∈kp
  ·obtain ⟨b,h1,h2,_,_⟩:=hin i hi
   obtain ⟨b',h1',h2',_,_⟩:=hin j hj
   have:b=b':=by rw [← h2,← h2',hij]
   subst this
   have hli:=(List.getElem?_eq_some_iff.1 h1)
   have hlj:=(List.getElem?_eq_some_iff.1 h1')
   exact (List.getElem_inj hnd).1 (hli.2.trans hlj.2.symm)
  ·obtain ⟨b,_,h2,_,h4⟩:=hin i hi
   rw [h2,hout j hj] at hij;have:=hV b h4;omega
  ·obtain ⟨b,_,h2,_,h4⟩:=hin j hj
   rw [h2,hout i hi] at hij;have:=hV b h4;omega
  ·rw [hout i hi,hout j hj] at hij;omega
 have hdkey:∀ p∈d.hp,Lt d.n p.1:=fun p hp=>let ⟨y,hy⟩:=look_of_key (d:=p.1) (x:=p.2) hp;(hr2.ids _ _ hy).1
 have hb:=RepH.back (h':=(sumOut kp R h nx d).2.1) hr (fun b=>b∈R) (fun i e hi=>(hs.at_ i e hi).2.2.1) (fun i e hi=>(hs.at_ i e hi).1) tr hr2 hφ2 hinj (by
  intro b e' hb
  simp only [sumOut] at hb
  rw [List.append_assoc,look_append] at hb
  cases h1:look (renHp (backId kp R nx) d.hp) b with
  | some x =>
   rw [h1] at hb;cases hb
   exact .inl (look_renHp (fun p hp q hq hpq=>hinj _ _ (hdkey p hp) (hdkey q hq) hpq) h1)
  | none =>
   rw [h1] at hb
   simp only [] at hb
   rw [look_append] at hb
   cases h2:look (R.map fun b=>(b,(En.dead:En L))) b with
   | some x =>
    rw [h2] at hb;cases hb
    have:=look_mem h2
    simp only [List.mem_map,Prod.mk.injEq] at this
    obtain ⟨b',hb',rfl,rfl⟩:=this
    exact .inr (.inl ⟨rfl,hRV _ hb'⟩)
   | none =>
    rw [h2] at hb
    refine .inr (.inr ⟨hb,fun hR=>?_⟩)
    obtain ⟨y,hy⟩:=look_of_key (l:=R.map fun b=>(b,(En.dead:En L))) (d:=b) (x:=.dead) (List.mem_map.2 ⟨b,hR,rfl⟩)
    rw [hy] at h2;cases h2)
 have hlt2:∀ i,i < d.n→Gr V nx (nx+d.n) (backId kp R nx i):=by
  intro i hi
  by_cases hk:i∈kp
  ·obtain ⟨b,_,h2,_,h4⟩:=hin i hk;exact .inl (h2 ▸ h4)
  ·exact .inr (by rw [hout i hk];omega)
 refine ⟨_,hb.1.weaken ?_,hb.2.1,?_,?_⟩
 ·rintro b (hb | ⟨i,hi,rfl⟩)
  ·exact .inl hb
  ·exact hlt2 i hi
 ·intro x v hx hv
  exact RepX.ren.1 (RepX.mono hb.2.2 hx hv)
 ·intro x hx b hb
  rw [idsX_ren,List.mem_map] at hb
  obtain ⟨i,hi,rfl⟩:=hb
  exact hlt2 i (hx i hi)
end
end Go.Ev
/- What every outcome of the evaluator keeps: the heap grows, slots that are not written stay; two ways that meet. -/
namespace Go.Ev
open Go.RowKit
variable {L:Type}
namespace Out
variable {R Q:Type}
def allR:Out L R→(R→Prop)→Prop
 | .ret r,q=>q r
 | .br _ a b,q=>allR a q∧allR b q
 | .ix _ _ k,q=>∀ cs,allR (k cs) q
 | .call _ _ k,q=>∀ rs,allR (k rs) q
 | .sum _ _ k,q=>∀ e d,allR (k e d) q
 | .fail _,_=>True
theorem allR_mono {o:Out L R}{p q:R→Prop}(h:allR o p)(hpq:∀ r,p r→q r):allR o q:=by
 induction o with
 | ret r=>exact hpq r h
 | br c a b iha ihb=>exact ⟨iha h.1,ihb h.2⟩
 | ix l i k ih=>exact fun cs=>ih cs (h cs)
 | call f args k ih=>exact fun cs=>ih cs (h cs)
 | sum f c k ih=>exact fun e d=>ih e d (h e d)
 | fail n=>trivial
theorem allR_true {o:Out L R}{q:R→Prop}(h:∀ r,q r):allR o q:=by
 induction o with
 | ret r=>exact h r
 | br c a b iha ihb=>exact ⟨iha,ihb⟩
 | ix l i k ih=>exact fun cs=>ih cs
 | call f args k ih=>exact fun cs=>ih cs
 | sum f c k ih=>exact fun e d=>ih e d
 | fail n=>trivial
theorem allR_bind {o:Out L R}{f:R→Out L Q}{q:Q→Prop}(h:allR o fun r=>allR (f r) q):allR (o.bind f) q:=by
 induction o with
 | ret r=>exact h
 | br c a b iha ihb=>exact ⟨iha h.1,ihb h.2⟩
 | ix l i k ih=>exact fun cs=>ih cs (h cs)
 | call g args k ih=>exact fun cs=>ih cs (h cs)
 | sum g c k ih=>exact fun e d=>ih e d (h e d)
 | fail n=>trivial
theorem holds_all [LI L]{oD:OrcD L}{o:Out L R}{p q:R→Prop}(h:holds oD o p)(hq:allR o q):holds oD o fun r=>p r∧q r:=by
 induction o with
 | ret r=>exact ⟨h,hq⟩
 | br c a b iha ihb=>exact h.imp (fun x=>⟨x.1,iha x.2 hq.1⟩) (fun x=>⟨x.1,ihb x.2 hq.2⟩)
 | ix l i k ih=>obtain ⟨cs,h1,h2⟩:=h;exact ⟨cs,h1,ih cs h2 (hq cs)⟩
 | call f args k ih=>obtain ⟨rs,h1,h2⟩:=h;exact ⟨rs,h1,ih rs h2 (hq rs)⟩
 | sum f c k ih=>obtain ⟨e,d,h1,h2⟩:=h;exact ⟨e,d,h1,ih e d h2 (hq e d)⟩
 | fail n=>exact h
end Out
def ExtH (h:Hp L)(nx:Nat)(r:X L×Hp L×Nat):Prop:=(∃ u,r.2.1=u++h)∧nx≤r.2.2
structure ExtS (W:List Nat) (s s':Sx L):Prop where
 hp:∃ u,s'.hp=u++s.hp
 nx:s.nx≤s'.nx
 env:∀ d x,d ∉ W→look s'.env d=some x→look s.env d=some x
theorem ExtS.refl (W:List Nat)(s:Sx L):ExtS W s s:=⟨⟨[],rfl⟩,Nat.le_refl _,fun _ _ _ h=>h⟩
theorem ExtS.trans {W:List Nat}{a b c:Sx L}(h:ExtS W a b)(k:ExtS W b c):ExtS W a c:=by
 obtain ⟨u,hu⟩:=h.hp
 obtain ⟨v,hv⟩:=k.hp
 exact ⟨⟨v++u,by rw [hv,hu,List.append_assoc]⟩,Nat.le_trans h.nx k.nx,fun d x hd hx=>h.env d x hd (k.env d x hd hx)⟩
theorem ExtS.weaken {W V:List Nat}{a b:Sx L}(h:ExtS W a b)(k:∀ d∈W,d∈V):ExtS V a b:=⟨h.hp,h.nx,fun d x hd hx=>h.env d x (fun hw=>hd (k d hw)) hx⟩
theorem look_keepE {env:List (Nat×X L)}{live:List Nat}{d:Nat}{x:X L}(h:look (keepE env live) d=some x):look env d=some x:=by
 induction live with
 | nil=>simp [keepE,look] at h
 | cons k r ih =>
  simp only [keepE] at h
  split at h
  ·rename_i y hy
   rw [look_cons] at h
   split at h
   ·rename_i hk;subst hk;cases h;exact hy
   ·exact ih h
  ·exact ih h
theorem look_putE {env:List (Nat×X L)}{o:Option Tmp}{y:X L}{d:Nat}{x:X L}(h:look (putE env o y) d=some x)(hd:o≠some d):look env d=some x:=by
 cases o with
 | none=>exact h
 | some k =>
  simp only [putE] at h
  rw [look_cons] at h
  split at h
  ·rename_i hk;subst hk;exact absurd rfl hd
  ·exact h
variable [LI L]
def LeX (y x:X L):Prop:=(∀ (g:Gh) v,RepX g y v→RepX g x v)∧∀ b∈idsX x,b∈idsX y
theorem LeX.refl (x:X L):LeX x x:=⟨fun _ _ h=>h,fun _ h=>h⟩
structure Wk (s r:Sx L):Prop where
 hp:r.hp=s.hp
 nx:s.nx≤r.nx
 env:∀ d x,look r.env d=some x→∃ y,look s.env d=some y∧LeX y x
theorem Wk.refl (s:Sx L):Wk s s:=⟨rfl,Nat.le_refl _,fun _ x h=>⟨x,h,.refl x⟩⟩
theorem Wk.trans {a b c:Sx L}(h:Wk a b)(k:Wk b c):Wk a c :=
 ⟨k.hp.trans h.hp,Nat.le_trans h.nx k.nx,fun d x hx=>let ⟨y,hy,l1⟩:=k.env d x hx;let ⟨z,hz,l2⟩:=h.env d y hy;⟨z,hz,fun g v hv=>l1.1 g v (l2.1 g v hv),fun b hb=>l2.2 b (l1.2 b hb)⟩⟩
theorem RepE.weak {U V:Nat→Prop}{g:Gh}{e e':List (Nat×X L)}{a:Act}(h:RepE U g e a)(hw:∀ d x,look e' d=some x→∃ y,look e d=some y∧LeX y x)(hu:∀ b,U b→V b):RepE V g e' a :=
 ⟨fun d x hx=>let ⟨y,hy,l⟩:=hw d x hx;let ⟨v,hv,hr⟩:=h.val d y hy;⟨v,hv,l.1 g v hr⟩,fun d x hx b hb=>let ⟨y,hy,l⟩:=hw d x hx;hu b (h.ids d y hy b (l.2 b hb)),h.defers⟩
theorem mX_rep [LLaws L]{c:Bool}{x y z:X L}(h:mX c x y=some z):(c=true→LeX x z)∧(c=false→LeX y z):=by
 unfold mX at h
 split at h
 ·split at h
  ·rename_i hz
   cases h
   exact ⟨fun hc=>⟨fun g v hv=>(mI_rep hz).1 hc hv,by simp [idsX,idsS,cellsOf,idsC]⟩,fun hc=>⟨fun g v hv=>(mI_rep hz).2 hc hv,by simp [idsX,idsS,cellsOf,idsC]⟩⟩
  ·cases h
 ·rename_i a b a' b'
  cases hk:(Nat.beq a a' && Nat.beq b b') with
  | false=>rw [hk] at h;cases h
  | true =>
   rw [hk] at h;cases h
   simp only [Bool.and_eq_true,Nat.beq_eq] at hk
   obtain ⟨rfl,rfl⟩:=hk
   exact ⟨fun _=>.refl _,fun _=>.refl _⟩
 ·cases h
theorem mEnv_rep [LLaws L]{c:Bool}{W:List Nat}{e1 e2 e0:List (Nat×X L)}(h1:∀ d x,d ∉ W→look e1 d=some x→look e0 d=some x)(h2:∀ d x,d ∉ W→look e2 d=some x→look e0 d=some x) :
  ∀ {live:List Nat} {m:List (Nat×X L)},mEnv c W e1 e2 live=some m →
   (∀ d x,look m d=some x→(c=true→∃ y,look e1 d=some y∧LeX y x)∧(c=false→∃ y,look e2 d=some y∧LeX y x)∧(d ∉ W→look e0 d=some x))
 | [],m,h,d,x,hx=>by simp [mEnv] at h;subst h;simp [look] at hx
 | k::r,m,h,d,x,hx=>by
  simp only [mEnv] at h
  split at h
  ·rename_i m' hm'
   split at h
   ·rename_i x1 x2 hx1 hx2
    cases hw:mem k W with
    | true =>
     rw [hw] at h
     simp only [cond_true] at h
     split at h
     ·rename_i z hz
      cases h
      rw [look_cons] at hx
      split at hx
      ·rename_i hk;subst hk;cases hx
       exact ⟨fun hc=>⟨x1,hx1,(mX_rep hz).1 hc⟩,fun hc=>⟨x2,hx2,(mX_rep hz).2 hc⟩,fun hd=>absurd (mem_iff.1 hw) hd⟩
      ·exact mEnv_rep h1 h2 hm' d x hx
     ·cases h
    | false =>
     rw [hw] at h
     cases h
     rw [look_cons] at hx
     split at hx
     ·rename_i hk;subst hk;cases hx
      have hd:k ∉ W:=fun hm=>by rw [mem_iff.2 hm] at hw;cases hw
      have e1':=h1 k _ hd hx1
      have e2':=h2 k _ hd hx2
      rw [e1'] at e2';cases e2'
      exact ⟨fun _=>⟨_,hx1,.refl _⟩,fun _=>⟨_,hx2,.refl _⟩,fun _=>e1'⟩
     ·exact mEnv_rep h1 h2 hm' d x hx
   ·cases h;exact mEnv_rep h1 h2 hm' d x hx
  ·cases h
theorem mrg_all [LLaws L]{live W:List Nat}{hl:Nat}{c:Bool}{A Bo:Out L (Sx L)}{s0:Sx L}(hA:A.allR (ExtS W s0))(hB:Bo.allR (ExtS W s0)):(mrg live W hl c A Bo).allR (ExtS W s0):=by
 unfold mrg
 split
 ·rename_i s t
  cases hk:(Nat.beq s.hp.length hl && Nat.beq t.hp.length hl) with
  | false=>exact ⟨hA,hB⟩
  | true =>
   simp only [cond_true]
   split
   ·rename_i m hm
    have hA:ExtS W s0 s:=hA
    have hB:ExtS W s0 t:=hB
    exact ⟨hA.hp,Nat.le_trans hA.nx (Nat.le_max_left _ _),fun d x hd hx=>(mEnv_rep hA.env hB.env hm d x hx).2.2 hd⟩
   ·exact ⟨hA,hB⟩
 ·exact ⟨hA,hB⟩
theorem mrg_holds [LLaws L]{oD:OrcD L}{live W:List Nat}{c:Bool}{A Bo:Out L (Sx L)}{s0:Sx L}{h0:Hp L}(h00:∃ u,s0.hp=u++h0)(hA:A.allR (ExtS W s0))(hB:Bo.allR (ExtS W s0)){Q:Sx L→Prop}
  (h:(mrg live W h0.length c A Bo).holds oD Q):(c=true∧A.holds oD fun s=>∃ r,Q r∧Wk s r)∨(c=false∧Bo.holds oD fun s=>∃ r,Q r∧Wk s r):=by
 have plain:∀ {A Bo:Out L (Sx L)},(Out.br c A Bo).holds oD Q→(c=true∧A.holds oD fun s=>∃ r,Q r∧Wk s r)∨(c=false∧Bo.holds oD fun s=>∃ r,Q r∧Wk s r):=by
  intro A Bo h
  exact h.imp (fun x=>⟨x.1,Out.holds_mono x.2 fun r hr=>⟨r,hr,.refl r⟩⟩) (fun x=>⟨x.1,Out.holds_mono x.2 fun r hr=>⟨r,hr,.refl r⟩⟩)
 unfold mrg at h
 split at h
 ·rename_i s t
  cases hk:(Nat.beq s.hp.length h0.length && Nat.beq t.hp.length h0.length) with
  | false=>rw [hk] at h;exact plain h
  | true =>
   rw [hk] at h
   simp only [cond_true] at h
   split at h
   ·rename_i m hm
    have hA:ExtS W s0 s:=hA
    have hB:ExtS W s0 t:=hB
    simp only [Bool.and_eq_true,Nat.beq_eq] at hk
    have same:∀ r:Sx L,ExtS W s0 r→r.hp.length=h0.length→r.hp=h0:=by
     intro r hr hlen
     obtain ⟨u,hu⟩:=hr.hp
     obtain ⟨u0,hu0⟩:=h00
     rw [hu,hu0] at hlen ⊢
     simp only [List.length_append] at hlen
     have e1:u=[]:=List.eq_nil_of_length_eq_zero (by omega)
     have e2:u0=[]:=List.eq_nil_of_length_eq_zero (by omega)
     rw [e1,e2];rfl
    have e1:=same s hA hk.1
    have e2:=same t hB hk.2
    have h:Q { env:=m,hp:=s.hp,nx:=Nat.max s.nx t.nx }:=h
    cases c with
    | true=>exact .inl ⟨rfl,_,h,rfl,Nat.le_max_left _ _,fun d x hx=>(mEnv_rep hA.env hB.env hm d x hx).1 rfl⟩
    | false=>exact .inr ⟨rfl,_,h,by rw [e1,e2],Nat.le_max_right _ _,fun d x hx=>(mEnv_rep hA.env hB.env hm d x hx).2.1 rfl⟩
   ·exact plain h
 ·exact plain h
end Go.Ev
/- A state in its plain form. -/
namespace Go.Ev
open Go.RowKit
variable {L:Type} [LI L]
structure Pre (V:Nat→Prop) (g:Gh) (B:Nat) (h:Hp L) (nx:Nat) (w:World) (h':Hp L) (n':Nat) (g':Gh):Prop where
 rep:RepH (Gr V nx n') g' B h' w
 tr:Tr V g h w g' h' w
 le:nx≤n'
 ext:∃ u,h'=u++h
section
variable {V:Nat→Prop} {g g1 g2:Gh} {B:Nat} {h h1 h2:Hp L} {nx n1 n2:Nat} {w:World}
theorem Pre.refl (hr:RepH V g B h w):Pre V g B h nx w h nx g:=⟨hr.weaken fun _=>Gr.of,.refl _ _ _ _,Nat.le_refl _,[],rfl⟩
theorem Pre.trans (a:Pre V g B h nx w h1 n1 g1)(b:Pre (Gr V nx n1) g1 B h1 n1 w h2 n2 g2):Pre V g B h nx w h2 n2 g2:=by
 obtain ⟨u,hu⟩:=a.ext
 obtain ⟨v,hv⟩:=b.ext
 exact ⟨b.rep.weaken (Gr.trans a.le b.le),a.tr.trans b.tr fun _=>Gr.of,Nat.le_trans a.le b.le,v++u,by rw [hv,hu,List.append_assoc]⟩
theorem RepH.revar {U:Nat→Prop}(hr:RepH U g B h w){b:Nat}{cs cs':List (C L)}{t:TypeId}(hb:look h b=some (.var cs t))(hc:∀ vs,All2 (RepC g) cs vs→All2 (RepC g) cs' vs)(hi:∀ d∈cs'.flatMap idsC,U d):RepH U g B ((b,.var cs' t)::h) w:=by
 have cls:∀ c en,look ((b,.var cs' t)::h) c=some en→(c=b∧en=.var cs' t)∨(c≠b∧look h c=some en):=by
  intro c en hc
  rw [look_cons] at hc
  split at hc
  ·rename_i he;cases hc;exact .inl ⟨he.symm,rfl⟩
  ·rename_i he;exact .inr ⟨fun h=>he h.symm,hc⟩
 have own:∀ c en,look ((b,.var cs' t)::h) c=some en→Owns g c en→∃ e',look h c=some e'∧Owns g c e':=by
  intro c en hc' ho
  rcases cls c en hc' with ⟨rfl,rfl⟩ | ⟨_,h1⟩
  ·exact ⟨_,hb,trivial⟩
  ·exact ⟨en,h1,ho⟩
 refine ⟨hr.fz,?_,?_,?_,?_,?_,?_,hr.base⟩
 ·intro c en hc'
  rcases cls c en hc' with ⟨rfl,rfl⟩ | ⟨_,h1⟩
  ·obtain ⟨vs,h2,h3,h4⟩:=hr.ent _ _ hb
   exact ⟨vs,h2,hc vs h3,h4⟩
  ·exact hr.ent c en h1
 ·intro c en hc'
  rcases cls c en hc' with ⟨rfl,rfl⟩ | ⟨_,h1⟩
  ·exact ⟨(hr.ids _ _ hb).1,hi⟩
  ·exact hr.ids c en h1
 ·intro c c' e e' h1 h2 o1 o2 hne
  obtain ⟨e1,a1,b1⟩:=own c e h1 o1
  obtain ⟨e2,a2,b2⟩:=own c' e' h2 o2
  exact hr.dis c c' e1 e2 a1 a2 b1 b2 hne
 ·intro c e h1 o1
  obtain ⟨e1,a1,b1⟩:=own c e h1 o1
  exact hr.own c e1 a1 b1
 ·intro c e h1 o1 o v hv
  rcases cls c e h1 with ⟨rfl,rfl⟩ | ⟨_,h2⟩
  ·obtain ⟨t',l,he,_⟩:=hr.free _ _ hb trivial o v hv
   cases he
  ·exact hr.free c e h2 o1 o v hv
 ·intro c en h1
  rcases cls c _ h1 with ⟨_,he⟩ | ⟨_,h2⟩
  ·subst he;trivial
  ·exact hr.pre c en h2
theorem Pre.revar (hr:RepH V g B h w){b:Nat}{cs cs':List (C L)}{t:TypeId}(hb:look h b=some (.var cs t))(hc:∀ vs,All2 (RepC g) cs vs→All2 (RepC g) cs' vs)(hi:∀ d∈cs'.flatMap idsC,V d):Pre V g B h nx w ((b,.var cs' t)::h) nx g:=by
 refine ⟨(hr.revar hb hc hi).weaken fun _=>Gr.of,⟨.refl _ _,fun _ _ _ hz=>.inl hz,?_,.refl w,fun _ _ _=>rfl⟩,Nat.le_refl _,[_],rfl⟩
 intro c e h1 o1
 rw [look_cons] at h1
 split at h1
 ·rename_i he;subst he;exact .inl ⟨b,_,hb,trivial,rfl⟩
 ·exact .inl ⟨c,e,h1,o1,rfl⟩
theorem Pre.addNil [LLaws L](hV:∀ b,V b→b < nx)(hr:RepH V g B h w){e:TypeId}{l:L}(hl:LI.mkL e []=some l):∃ g',Pre V g B h nx w ((nx,.arr e l)::h) (nx+1) g'∧g'.v nx=.slice none 0 0:=by
 have hels:=nil_els hl
 have hf:¬ V nx:=fun hv=>Nat.lt_irrefl _ (hV _ hv)
 have hk:∀ c en,look h c=some en→Owns g c en→g.blk c≠w.heap.size:=fun c en hc ho=>Nat.ne_of_lt (hr.lt_size hc ho)
 have hG:∀ o v,g.G w.heap.size o=some v→False:=fun o v hv=>Nat.lt_irrefl _ (cell_lt (hr.fz _ o v hv))
 have hrow:w.ownsRow B e (LI.sz l) (.slice none 0 0) (LI.els l).length []:=⟨by simp [hels],.inl ⟨rfl,by simp [hels]⟩⟩
 have h1:=RepH.addRow (w':=w) (s:=(none,0,0)) (xs:=[]) hr hf (k:=w.heap.size) hr.base hk hG (fun _ _ _ _=>rfl) (Nat.le_refl _) hrow (by rw [hels];exact .nil) (fun j hj=>by cases hj)
 have hle:=Gh.withRow_le (g:=g) (k:=w.heap.size) (s:=(none,0,0)) hf
 refine ⟨g.withRow nx w.heap.size (none,0,0),⟨h1.weaken ?_,⟨hle,fun _ _ _ hz=>.inl hz,?_,.refl w,fun _ _ _=>rfl⟩,Nat.le_succ _,[_],rfl⟩,by simp [Gh.v,Gh.withRow]⟩
 ·rintro b (hb | rfl)
  ·exact .inl hb
  ·exact .inr ⟨Nat.le_refl _,Nat.lt_succ_self _⟩
 ·intro b en hb ho
  rw [look_cons] at hb
  split at hb
  ·rename_i he;subst he;exact .inr (by simp [Gh.withRow])
  ·have hU:=(hr.ids b en hb).1
   exact .inl ⟨b,en,hb,(Owns.congr hle hU).1 ho,(hle.blk b hU).symm⟩
theorem All2.set {α β:Type}{R:α→β→Prop}{as:List α}{bs:List β}(h:All2 R as bs){i:Nat}{x:α}(hx:∀ b,bs[i]?=some b→R x b):All2 R (as.set i x) bs:=by
 induction h generalizing i with
 | nil=>exact .nil
 | cons a t ih =>
  cases i with
  | zero=>exact .cons (hx _ rfl) t
  | succ i=>exact .cons a (ih fun b hb=>hx b (by simpa using hb))
theorem prom1_sound [LLaws L](hV:∀ b,V b→b < nx)(hr:RepH V g B h w)(b off:Nat)(e:TypeId):∃ g',Pre V g B h nx w (prom1 b off e (h,nx)).1 (prom1 b off e (h,nx)).2 g':=by
 have same:∃ g',Pre V g B h nx w h nx g':=⟨g,.refl hr⟩
 unfold prom1
 simp only []
 split
 ·rename_i cs t hb
  split
  ·rename_i c hc
   cases hn:isNil c with
   | false=>exact same
   | true =>
    simp only [cond_true]
    split
    ·rename_i l hl
     have hcn:=isNil_eq hn
     obtain ⟨g1,hp,hv⟩:=Pre.addNil hV hr hl
     have hb1:look ((nx,En.arr e l)::h) b=some (.var cs t):=by
      rw [look_cons,if_neg]
      ·exact hb
      ·intro he;have:=hV b (hr.ids b _ hb).1;omega
     rw [nth_eq] at hc
     have hids:=(hp.rep.ids b _ hb1).2
     refine ⟨g1,hp.trans (Pre.revar (cs':=cs.set off (.ar nx)) hp.rep hb1 ?_ ?_)⟩
     ·intro vs hvs
      refine hvs.set fun u hu=>?_
      obtain ⟨u',hu',hR⟩:=hvs.get hc
      rw [hu] at hu';cases hu'
      rw [hcn] at hR
      simp only [RepC] at hR ⊢
      cases hR
      exact hv.symm
     ·intro d hd
      rw [List.mem_flatMap] at hd
      obtain ⟨c',hc',hd⟩:=hd
      rcases List.mem_or_eq_of_mem_set hc' with h1 | h1
      ·exact hids d (by simp only [idsEn,List.mem_flatMap];exact ⟨c',h1,hd⟩)
      ·subst h1;simp [idsC] at hd;subst hd
       exact .inr ⟨Nat.le_refl _,Nat.lt_succ_self _⟩
    ·exact same
  ·exact same
 ·exact same
theorem promL_sound [LLaws L](b:Nat):∀ (r:List (Nat×TypeId)) {V:Nat→Prop} {g:Gh} {h:Hp L} {nx:Nat},(∀ b,V b→b < nx)→RepH V g B h w→∃ g',Pre V g B h nx w (promL b r (h,nx)).1 (promL b r (h,nx)).2 g'
 | [],_,g,_,_,_,hr=>⟨g,.refl hr⟩
 | (off,e)::r,V,g,h,nx,hV,hr=>by
  obtain ⟨g1,h1⟩:=prom1_sound hV hr b off e
  obtain ⟨g2,h2⟩:=promL_sound b r (Gr.lt hV h1.le) h1.rep
  exact ⟨g2,h1.trans h2⟩
theorem normI_rep {G:Fz}{x:I L}{v:Value}(h:RepI G x v):RepI G (normI x) v:=by
 cases x with
 | lit k n=>cases h;exact .int
 | tt=>cases h;exact .bool
 | ff=>cases h;exact .bool
 | _=>exact h
theorem normC_rep {x:C L}{v:Value}(h:RepC g x v):RepC g (normC x) v:=by
 cases x<;>first | exact normI_rep h | exact h
omit [LI L] in
theorem normC_ids (x:C L):idsC (normC x)=idsC x:=by cases x<;>rfl
theorem normV_sound (hr:RepH V g B h w)(b:Nat):Pre V g B h nx w (normV b h) nx g:=by
 unfold normV
 split
 ·rename_i cs t hb
  refine Pre.revar hr hb ?_ ?_
  ·intro vs hvs
   clear hb
   induction hvs with
   | nil=>exact .nil
   | cons a _ ih=>exact .cons (normC_rep a) ih
  ·intro d hd
   simp only [List.mem_flatMap,List.mem_map] at hd
   obtain ⟨c,⟨c',hc',rfl⟩,hd⟩:=hd
   rw [normC_ids] at hd
   exact (hr.ids b _ hb).2 d (by simp only [idsEn,List.mem_flatMap];exact ⟨c',hc',hd⟩)
 ·exact .refl hr
theorem promR_sound [LLaws L](sl:Sl):∀ (r:List Nat) {V:Nat→Prop} {g:Gh} {h:Hp L} {nx:Nat},(∀ b,V b→b < nx)→RepH V g B h w→∃ g',Pre V g B h nx w (promR sl r (h,nx)).1 (promR sl r (h,nx)).2 g'
 | [],_,g,_,_,_,hr=>⟨g,.refl hr⟩
 | b::r,V,g,h,nx,hV,hr=>by
  simp only [promR]
  split
  ·rename_i cs t hb
   obtain ⟨g1,h1⟩:=promL_sound b (sl t) hV hr
   have h2:=normV_sound (nx:=(promL b (sl t) (h,nx)).2) h1.rep b
   have h12:=h1.trans h2
   obtain ⟨g3,h3⟩:=promR_sound sl r (Gr.lt hV h12.le) h12.rep
   exact ⟨g3,h12.trans h3⟩
  ·exact promR_sound sl r hV hr
def XLe (g g':Gh)(V':Nat→Prop)(x x':X L):Prop:=(∀ v,RepX g x v→RepX g' x' v)∧∀ b∈idsX x',V' b
theorem fixC_le [LLaws L](sl:List (Nat×TypeId))(off:Nat)(c:C L):(∀ v,RepC g c v→RepC g (fixC sl off c) v)∧∀ b∈idsC (fixC sl off c),b∈idsC c:=by
 unfold fixC
 cases hn:isNil c with
 | false=>exact ⟨fun v h=>normC_rep h,fun b hb=>by simp only [cond_false] at hb;rw [normC_ids] at hb;exact hb⟩
 | true =>
  simp only [cond_true]
  split
  ·split
   ·rename_i e he l hl
    rw [isNil_eq hn]
    refine ⟨fun v h=>?_,by simp [idsC]⟩
    simp only [RepC] at h ⊢
    cases h
    have hels:=nil_els hl
    exact .fz (k:=0) (o:=0) (vals:=fun _ _=>undef) (by rw [hels];rfl) (Nat.le_refl _) (fun h=>absurd h (Nat.lt_irrefl _)) (fun i j cs x h=>by rw [hels] at h;simp at h) (fun i j cs x h=>by rw [hels] at h;simp at h)
   ·exact ⟨fun _ h=>h,fun _ h=>h⟩
  ·exact ⟨fun _ h=>h,fun _ h=>h⟩
theorem fixCs_le [LLaws L](sl:List (Nat×TypeId)):∀ (cs:List (C L)) (off:Nat),(∀ vs,All2 (RepC g) cs vs→All2 (RepC g) (fixCs sl off cs) vs)∧∀ b∈(fixCs sl off cs).flatMap idsC,b∈cs.flatMap idsC
 | [],_=>⟨fun _ h=>h,fun _ h=>h⟩
 | c::r,off=>by
  obtain ⟨h1,h2⟩:=fixC_le (g:=g) sl off c
  obtain ⟨h3,h4⟩:=fixCs_le sl r (off+1)
  refine ⟨fun vs h=>?_,fun b hb=>?_⟩
  ·cases h with | cons a t=>exact .cons (h1 _ a) (h3 _ t)
  ·simp only [fixCs,List.flatMap_cons,List.mem_append] at hb ⊢
   exact hb.imp (h2 b) (h4 b)
theorem fixS_le [LLaws L](sl:List (Nat×TypeId))(s:S L):(∀ v,RepS g s v→RepS g (fixS sl s) v)∧∀ b∈idsS (fixS sl s),b∈idsS s:=by
 cases s with
 | c x =>
  obtain ⟨h1,h2⟩:=fixC_le (g:=g) sl 0 x
  exact ⟨h1,by simpa [idsS,cellsOf,fixS] using h2⟩
 | agg cs =>
  obtain ⟨h1,h2⟩:=fixCs_le (g:=g) sl cs 0
  exact ⟨fun v h=>by obtain ⟨vs,hv,hc⟩:=h;exact ⟨vs,hv,h1 vs hc⟩,by simpa [idsS,cellsOf,fixS] using h2⟩
theorem fixSs_le [LLaws L](sl:Sl):∀ (ts:List TypeId) (l:List (S L)),(∀ vs,All2 (RepS g) l vs→All2 (RepS g) (fixSs sl ts l) vs)∧∀ b∈(fixSs sl ts l).flatMap idsS,b∈l.flatMap idsS
 | [],l=>⟨fun _ h=>by simpa [fixSs] using h,fun _ h=>by simpa [fixSs] using h⟩
 | t::ts,[]=>⟨fun _ h=>h,fun _ h=>h⟩
 | t::ts,s::r=>by
  obtain ⟨h1,h2⟩:=fixS_le (g:=g) (sl t) s
  obtain ⟨h3,h4⟩:=fixSs_le sl ts r
  refine ⟨fun vs h=>?_,fun b hb=>?_⟩
  ·cases h with | cons a t=>exact .cons (h1 _ a) (h3 _ t)
  ·simp only [fixSs,List.flatMap_cons,List.mem_append] at hb ⊢
   exact hb.imp (h2 b) (h4 b)
theorem fixX_le [LLaws L](sl:Sl)(ts:List TypeId)(x:X L):(∀ v,RepX g x v→RepX g (fixX sl ts x) v)∧∀ b∈idsX (fixX sl ts x),b∈idsX x:=by
 cases x with
 | s s =>
  cases ts with
  | nil=>exact ⟨fun _ h=>h,fun _ h=>h⟩
  | cons t ts=>exact fixS_le (g:=g) (sl t) s
 | tup l =>
  obtain ⟨h1,h2⟩:=fixSs_le (g:=g) sl ts l
  exact ⟨fun v h=>by obtain ⟨vs,hv,hc⟩:=h;exact ⟨vs,hv,h1 vs hc⟩,h2⟩
inductive XsLe (g g':Gh) (V':Nat→Prop):List (X L)→List (X L)→Prop
 | nil:XsLe g g' V' [] []
 | cons {x x' r r'} (h:XLe g g' V' x x') (t:XsLe g g' V' r r'):XsLe g g' V' (x::r) (x'::r')
theorem XsLe.of_le {V':Nat→Prop}{g':Gh}(hg:GhLe V g g')(hV':∀ b,V b→V' b):∀ {xs:List (X L)},(∀ x∈xs,∀ b∈idsX x,V b)→XsLe g g' V' xs xs
 | [],_=>.nil
 | x::r,h=>.cons ⟨fun _ hv=>RepX.mono hg (h x (by simp)) hv,fun b hb=>hV' b (h x (by simp) b hb)⟩ (XsLe.of_le hg hV' fun y hy=>h y (by simp [hy]))
theorem XsLe.trans {V1 V2:Nat→Prop}(hg:GhLe V1 g1 g2)(hV:∀ b,V1 b→V2 b){xs ys:List (X L)}(h:XsLe g g1 V1 xs ys):XsLe g g2 V2 xs ys:=by
 induction h with
 | nil=>exact .nil
 | cons a _ ih=>exact .cons ⟨fun v hv=>RepX.mono hg a.2 (a.1 v hv),fun b hb=>hV b (a.2 b hb)⟩ ih
theorem XsLe.fix [LLaws L]{V1:Nat→Prop}(sl:Sl){xs ys:List (X L)}(h:XsLe g g1 V1 xs ys):∀ ts:List TypeId,XsLe g g1 V1 xs (fixXs sl ts ys):=by
 induction h with
 | nil=>intro ts;cases ts<;>exact .nil
 | cons a t ih =>
  intro ts
  cases ts with
  | nil=>exact .cons a t
  | cons t0 ts =>
   have:=fun x:X L=>fixX_le (g:=g1) sl [t0] x
   exact .cons ⟨fun v hv=>(this _).1 v (a.1 v hv),fun b hb=>a.2 b ((this _).2 b hb)⟩ (ih ts)
theorem promX_sound [LLaws L]:∀ (ts:List (Option TypeId)) (xs:List (X L)) {V:Nat→Prop} {g:Gh} {h:Hp L} {nx:Nat},(∀ b,V b→b < nx)→RepH V g B h w→(∀ x∈xs,∀ b∈idsX x,V b) →
  ∃ g',Pre V g B h nx w (promX ts xs (h,nx)).2.1 (promX ts xs (h,nx)).2.2 g'∧XsLe g g' (Gr V nx (promX ts xs (h,nx)).2.2) xs (promX ts xs (h,nx)).1
 | [],xs,V,g,h,nx,hV,hr,hi=>by
  simp only [promX]
  exact ⟨g,.refl hr,XsLe.of_le (.refl _ _) (fun _=>Gr.of) hi⟩
 | some e::ts,[],V,g,h,nx,hV,hr,hi=>by simp only [promX];exact ⟨g,.refl hr,.nil⟩
 | none::ts,[],V,g,h,nx,hV,hr,hi=>by simp only [promX];exact ⟨g,.refl hr,.nil⟩
 | none::ts,x::r,V,g,h,nx,hV,hr,hi=>by
  obtain ⟨g1,h1,h2⟩:=promX_sound ts r hV hr fun y hy=>hi y (by simp [hy])
  exact ⟨g1,h1,.cons ⟨fun v hv=>RepX.mono h1.tr.le (hi x (by simp)) hv,fun b hb=>.inl (hi x (by simp) b hb)⟩ h2⟩
 | some e::ts,x::r,V,g,h,nx,hV,hr,hi=>by
  have keep:∃ g',Pre V g B h nx w (promX ts r (h,nx)).2.1 (promX ts r (h,nx)).2.2 g'∧XsLe g g' (Gr V nx (promX ts r (h,nx)).2.2) (x::r) (x::(promX ts r (h,nx)).1):=by
   obtain ⟨g1,h1,h2⟩:=promX_sound ts r hV hr fun y hy=>hi y (by simp [hy])
   exact ⟨g1,h1,.cons ⟨fun v hv=>RepX.mono h1.tr.le (hi x (by simp)) hv,fun b hb=>.inl (hi x (by simp) b hb)⟩ h2⟩
  simp only [promX]
  split
  ·rename_i c hc
   cases hn:isNil c with
   | false=>exact keep
   | true =>
    simp only [cond_true]
    split
    ·rename_i l hl
     obtain ⟨g1,hp,hv⟩:=Pre.addNil hV hr hl
     obtain ⟨g2,h1,h2⟩:=promX_sound ts r (V:=Gr V nx (nx+1)) (g:=g1) (h:=(nx,.arr e l)::h) (nx:=nx+1) (Gr.lt hV (Nat.le_succ _)) hp.rep fun y hy b hb=>.inl (hi y (by simp [hy]) b hb)
     refine ⟨g2,hp.trans h1,.cons ⟨fun v hx=>?_,fun b hb=>?_⟩ ?_⟩
     ·have hr1:=cOf_rep hx hc
      rw [isNil_eq hn] at hr1
      simp only [RepC] at hr1
      cases hr1
      have:RepX g1 (.s (.c (.ar nx)):X L) (.slice none 0 0):=by simp only [RepX,RepS,RepC];exact hv.symm
      exact RepX.mono h1.tr.le (fun b hb=>by simp [idsX,idsS,cellsOf,idsC] at hb;subst hb;exact .inr ⟨Nat.le_refl _,Nat.lt_succ_self _⟩) this
     ·simp [idsX,idsS,cellsOf,idsC] at hb;subst hb
      exact .inr ⟨Nat.le_refl _,Nat.lt_of_lt_of_le (Nat.lt_succ_self _) h1.le⟩
     ·have hmono:XsLe g g2 (Gr V nx (promX ts r ((nx,.arr e l)::h,nx+1)).2.2) r (promX ts r ((nx,.arr e l)::h,nx+1)).1:=by
       have aux:∀ {xs ys:List (X L)},(∀ x∈xs,∀ b∈idsX x,V b)→XsLe g1 g2 (Gr (Gr V nx (nx+1)) (nx+1) (promX ts r ((nx,.arr e l)::h,nx+1)).2.2) xs ys→XsLe g g2 (Gr V nx (promX ts r ((nx,.arr e l)::h,nx+1)).2.2) xs ys:=by
        intro xs ys hxs hle
        induction hle with
        | nil=>exact .nil
        | cons a t ih=>exact .cons ⟨fun v hv=>a.1 v (RepX.mono hp.tr.le (hxs _ (by simp)) hv),fun b hb=>Gr.trans (Nat.le_succ _) h1.le b (a.2 b hb)⟩ (ih fun y hy=>hxs y (by simp [hy]))
       exact aux (fun y hy=>hi y (by simp [hy])) h2
      exact hmono
    ·exact keep
  ·exact keep
theorem Pre.freeze [LLaws L](hr:RepH V g B h w){u:Hp L}(hf:Frz h u):∃ G1,Pre V g B h nx w (u++h) nx { g with G:=G1 }:=by
 obtain ⟨G1,h1,h2,h3⟩:=hr.freezeL u hf
 refine ⟨G1,h2.weaken fun _=>Gr.of,⟨⟨fun _ _=>rfl,fun _ _=>rfl,h1⟩,fun k o z hz=>?_,fun b e hb ho=>?_,.refl w,fun _ _ _=>rfl⟩,Nat.le_refl _,u,rfl⟩
 ·rcases h3 k o z hz with h4 | h4
  ·exact .inl h4
  ·exact .inr (.inl h4)
 ·rcases hf.at_ hb with h4 | ⟨e',l,h4,he⟩
  ·refine .inl ⟨b,e,h4,?_,rfl⟩
   cases e<;>exact ho
  ·subst he
   exact .inl ⟨b,_,h4,ho.2,rfl⟩
theorem pur1_sound [LLaws L](sl:Sl)(_hV:∀ b,V b→b < nx)(hr:RepH V g B h w)(b off:Nat):∃ g',Pre V g B h nx w (pur1 sl b off h) nx g':=by
 have same:∃ g',Pre V g B h nx w h nx g':=⟨g,.refl hr⟩
 unfold pur1
 split
 ·rename_i cs t hb
  split
  ·rename_i c hc
   split
   ·rename_i x u ht
    have hf:=toI_frz ht
    obtain ⟨G1,hp⟩:=Pre.freeze (nx:=nx) hr hf
    have hb1:look (u++h) b=some (.var cs t):=by
     rw [look_append]
     cases hu:look u b with
     | none=>exact hb
     | some e =>
      obtain ⟨e',l,h1,h2,_⟩:=hf.look_of (look_mem hu)
      rw [hb] at h1;cases h1
    rw [nth_eq] at hc
    have hids:=(hp.rep.ids b _ hb1).2
    refine ⟨_,hp.trans (Pre.revar (cs':=cs.set off (fixC (sl t) off (.im x))) hp.rep hb1 ?_ ?_)⟩
    ·intro vs hvs
     refine hvs.set fun v hv=>?_
     obtain ⟨v',hv',hR⟩:=hvs.get hc
     rw [hv] at hv';cases hv'
     have hI:RepI G1 x v:=toI_rep (g:={ g with G:=G1 }) ht hf (fun _ h=>h) hp.rep hR
     exact (fixC_le (g:={ g with G:=G1 }) (sl t) off (.im x)).1 v hI
    ·intro d hd
     rw [List.mem_flatMap] at hd
     obtain ⟨c',hc',hd⟩:=hd
     rcases List.mem_or_eq_of_mem_set hc' with h1 | h1
     ·exact hids d (by simp only [idsEn,List.mem_flatMap];exact ⟨c',h1,hd⟩)
     ·subst h1
      have:=(fixC_le (g:=g) (sl t) off (.im x)).2 d hd
      simp [idsC] at this
   ·exact same
  ·exact same
 ·exact same
theorem purL_sound [LLaws L](sl:Sl)(b:Nat):∀ (r:List Nat) {V:Nat→Prop} {g:Gh} {h:Hp L} {nx:Nat},(∀ b,V b→b < nx)→RepH V g B h w→∃ g',Pre V g B h nx w (purL sl b r h) nx g'
 | [],_,g,_,_,_,hr=>⟨g,.refl hr⟩
 | off::r,V,g,h,nx,hV,hr=>by
  obtain ⟨g1,h1⟩:=pur1_sound sl hV hr b off
  obtain ⟨g2,h2⟩:=purL_sound sl b r (Gr.lt hV h1.le) h1.rep
  exact ⟨g2,h1.trans h2⟩
theorem purR_sound [LLaws L](sl:Sl)(pv:List (Nat×List Nat)):∀ (r:List Nat) {V:Nat→Prop} {g:Gh} {h:Hp L} {nx:Nat},(∀ b,V b→b < nx)→RepH V g B h w→∃ g',Pre V g B h nx w (purR sl pv r h) nx g'
 | [],_,g,_,_,_,hr=>⟨g,.refl hr⟩
 | b::r,V,g,h,nx,hV,hr=>by
  simp only [purR]
  split
  ·split
   ·rename_i offs _
    obtain ⟨g1,h1⟩:=purL_sound sl b offs hV hr
    obtain ⟨g2,h2⟩:=purR_sound sl pv r (Gr.lt hV h1.le) h1.rep
    exact ⟨g2,h1.trans h2⟩
   ·exact purR_sound sl pv r hV hr
  ·exact purR_sound sl pv r hV hr
theorem RepS.g0_any {G:Fz}{s:S L}{v:Value}(hi:idsS s=[])(ht:(cellsOf s).all (fun c=>match c with | .im _=>true | _=>false)=true){g:Gh}(hG:g.G=G)(h:RepS (g0 G) s v):RepS g s v:=by
 have key:∀ {c:C L} {v:Value},(match c with | .im _=>true | _=>false)=true→RepC (g0 G) c v→RepC g c v:=by
  intro c v hc hR
  cases c with
  | im x=>simp only [RepC] at hR ⊢;rw [hG];exact hR
  | _=>simp at hc
 cases s with
 | c x=>exact key (by simpa [cellsOf] using ht) h
 | agg cs =>
  obtain ⟨vs,hv,hc⟩:=h
  refine ⟨vs,hv,hc.mono fun c v hm hR=>key ?_ hR⟩
  exact List.all_eq_true.1 (by simpa [cellsOf] using ht) c hm
omit [LI L] in
theorem ims_all (ys:List (I L)):(ims ys).all (fun c=>match c with | .im _=>true | _=>false)=true:=by simp [ims]
theorem purS_im {s s':S L}{u:Hp L}(hp:purS h s=some (s',u)):idsS s'=[]∧(cellsOf s').all (fun c=>match c with | .im _=>true | _=>false)=true:=by
 unfold purS at hp
 split at hp
 ·split at hp
  ·cases hp;exact ⟨by simp [idsS,cellsOf,idsC],by simp [cellsOf]⟩
  ·cases hp
 ·split at hp
  ·rename_i ys u' _
   cases hp
   refine ⟨?_,ims_all ys⟩
   simp [idsS,cellsOf,ims,idsC,List.flatMap_map]
  ·cases hp
theorem purAll_im:∀ {xs:List (X L)} {ss:List (S L)} {u:Hp L},purAll h xs=some (ss,u)→∀ s∈ss,idsS s=[]∧(cellsOf s).all (fun c=>match c with | .im _=>true | _=>false)=true
 | [],ss,u,hp=>by simp [purAll] at hp;obtain ⟨rfl,_⟩:=hp;simp
 | .s x::r,ss,u,hp=>by
  simp only [purAll] at hp
  split at hp
  ·rename_i h1 h2
   cases hp
   intro s hs
   rcases List.mem_cons.1 hs with rfl | hs
   ·exact purS_im h1
   ·exact purAll_im h2 s hs
  ·cases hp
 | .tup _::r,ss,u,hp=>by simp [purAll] at hp
theorem xs_rep {g:Gh}{l:List (S L)}{vs:List Value}(h:All2 (RepS g) l vs):All2 (RepX g) (l.map .s) vs:=by
 induction h with
 | nil=>exact .nil
 | cons a _ ih=>exact .cons a ih
theorem purX_sound [LLaws L](hr:RepH V g B h w)(x:X L)(hi:∀ b∈idsX x,V b):∃ g',Pre V g B h nx w (purX x h).2 nx g'∧XLe g g' (Gr V nx nx) x (purX x h).1:=by
 have same:∀ y:X L,(∀ b∈idsX y,V b)→∃ g',Pre V g B h nx w h nx g'∧XLe g g' (Gr V nx nx) y y:=fun y hy=>⟨g,.refl hr,fun _ h=>h,fun b hb=>.inl (hy b hb)⟩
 unfold purX
 split
 ·rename_i s
  split
  ·rename_i y u hp
   have hf:=purS_frz hp
   obtain ⟨G1,hpre⟩:=Pre.freeze (nx:=nx) hr hf
   obtain ⟨i1,i2⟩:=purS_im hp
   refine ⟨_,hpre,fun v hv=>?_,fun b hb=>?_⟩
   ·have h1:RepS { g with G:=G1 } s v:=RepS.mono (U:=fun _=>True) (g:=g) (g':={ g with G:=G1 }) ⟨fun _ _=>rfl,fun _ _=>rfl,hpre.tr.le.G⟩ (fun _ _=>trivial) hv
    have h2:=purS_rep (g:={ g with G:=G1 }) hp hf (fun _ h=>h) hpre.rep h1
    exact RepS.g0_any (G:=G1) i1 i2 rfl h2
   ·simp only [idsX] at hb;rw [i1] at hb;simp at hb
  ·exact same _ hi
 ·rename_i l
  split
  ·rename_i ys u hp
   have hf:=purAll_frz hp
   obtain ⟨G1,hpre⟩:=Pre.freeze (nx:=nx) hr hf
   have him:=purAll_im hp
   refine ⟨_,hpre,fun v hv=>?_,fun b hb=>?_⟩
   ·obtain ⟨vs,rfl,hvs⟩:=hv
    have h1:All2 (RepS { g with G:=G1 }) l vs:=hvs.mono fun s v _ hR=>RepS.mono (U:=fun _=>True) (g:=g) (g':={ g with G:=G1 }) ⟨fun _ _=>rfl,fun _ _=>rfl,hpre.tr.le.G⟩ (fun _ _=>trivial) hR
    have h2:=purAll_rep (g:={ g with G:=G1 }) hf hpre.rep hp (fun _ h=>h) (xs_rep h1)
    exact ⟨vs,rfl,h2.mono fun s v hs hR=>RepS.g0_any (G:=G1) (him s hs).1 (him s hs).2 rfl hR⟩
   ·simp only [idsX,List.mem_flatMap] at hb
    obtain ⟨s,hs,hb⟩:=hb
    rw [(him s hs).1] at hb;simp at hb
  ·exact same _ hi
theorem XsLe.pre {V0 V1:Nat→Prop}{gA gB gC:Gh}{xs ys:List (X L)}(hg:GhLe V0 gA gB)(hi:∀ x∈xs,∀ b∈idsX x,V0 b)(h:XsLe gB gC V1 xs ys):XsLe gA gC V1 xs ys:=by
 induction h with
 | nil=>exact .nil
 | cons a t ih=>exact .cons ⟨fun v hv=>a.1 v (RepX.mono hg (hi _ (by simp)) hv),a.2⟩ (ih fun y hy=>hi y (by simp [hy]))
theorem XsLe.comp {V1 V2:Nat→Prop}{gA gB gC:Gh}{xs ys zs:List (X L)}(h:XsLe gA gB V1 xs ys)(k:XsLe gB gC V2 ys zs):XsLe gA gC V2 xs zs:=by
 induction h generalizing zs with
 | nil=>cases k;exact .nil
 | cons a t ih=>cases k with | cons b s=>exact .cons ⟨fun v hv=>b.1 v (a.1 v hv),b.2⟩ (ih s)
theorem XsLe.idsR {V1:Nat→Prop}{gA gB:Gh}{xs ys:List (X L)}(h:XsLe gA gB V1 xs ys):∀ y∈ys,∀ b∈idsX y,V1 b:=by
 induction h with
 | nil=>simp
 | cons a t ih =>
  intro y hy
  rcases List.mem_cons.1 hy with rfl | hy
  ·exact a.2
  ·exact ih y hy
theorem purXs_sound [LLaws L]:∀ (ps:List Bool) (xs:List (X L)) {V:Nat→Prop} {g:Gh} {h:Hp L} {nx:Nat},(∀ b,V b→b < nx)→RepH V g B h w→(∀ x∈xs,∀ b∈idsX x,V b) →
  ∃ g',Pre V g B h nx w (purXs ps xs h).2 nx g'∧XsLe g g' (Gr V nx nx) xs (purXs ps xs h).1
 | [],xs,V,g,h,nx,hV,hr,hi=>by
  cases xs<;>simp only [purXs]<;>exact ⟨g,.refl hr,XsLe.of_le (.refl _ _) (fun _=>Gr.of) hi⟩
 | b::ps,[],V,g,h,nx,hV,hr,hi=>by cases b<;>simp only [purXs]<;>exact ⟨g,.refl hr,.nil⟩
 | false::ps,x::r,V,g,h,nx,hV,hr,hi=>by
  obtain ⟨g1,h1,h2⟩:=purXs_sound ps r hV hr fun y hy=>hi y (by simp [hy])
  simp only [purXs]
  exact ⟨g1,h1,.cons ⟨fun v hv=>RepX.mono h1.tr.le (hi x (by simp)) hv,fun b hb=>.inl (hi x (by simp) b hb)⟩ h2⟩
 | true::ps,x::r,V,g,h,nx,hV,hr,hi=>by
  obtain ⟨g1,h1,h2⟩:=purX_sound (nx:=nx) hr x (hi x (by simp))
  obtain ⟨g2,h3,h4⟩:=purXs_sound ps r (V:=Gr V nx nx) (Gr.lt hV (Nat.le_refl _)) h1.rep fun y hy b hb=>.inl (hi y (by simp [hy]) b hb)
  simp only [purXs]
  have hVV:∀ b,Gr (Gr V nx nx) nx nx b→Gr V nx nx b:=fun b hb=>Gr.trans (Nat.le_refl _) (Nat.le_refl _) b hb
  refine ⟨g2,h1.trans h3,.cons ⟨fun v hv=>RepX.mono h3.tr.le h2.2 (h2.1 v hv),h2.2⟩ ?_⟩
  have h5:=XsLe.pre h1.tr.le (fun y hy=>hi y (by simp [hy])) h4
  exact XsLe.trans (V1:=Gr (Gr V nx nx) nx nx) (.refl _ _) hVV h5
theorem unpre1_sound [LLaws L](_hV:∀ b,V b→b < nx)(hr:RepH V g B h w)(b:Nat):Pre V g B h nx w (unpre1 b h) nx g:=by
 unfold unpre1
 split
 ·rename_i b0 k hb
  split
  ·rename_i e l hb0
   obtain ⟨hk,hsv⟩:=hr.preOf hb (.inl hb0)
   have hblk:g.blk b=g.blk b0:=(hr.pre b _ hb).2.2
   have hne:b≠b0:=by intro he;subst he;rw [hb] at hb0;cases hb0
   obtain ⟨xs,hrow,hxs,hbk⟩:=hr.ent b0 _ hb0
   have hown:(g.v b).ownBlock=(g.v b0).ownBlock:=by unfold Gh.v;rw [hsv];cases (g.sv b0).1<;>rfl
   have cls:∀ c en,look ((b,.arr e (LI.sub l 0 k))::(b0,.dead)::h) c=some en→(c=b∧en=.arr e (LI.sub l 0 k))∨(c=b0∧en=.dead)∨(c≠b∧c≠b0∧look h c=some en):=by
    intro c en hc
    rw [look_cons] at hc
    split at hc
    ·rename_i he;cases hc;exact .inl ⟨he.symm,rfl⟩
    ·rename_i he
     rw [look_cons] at hc
     split at hc
     ·rename_i he2;cases hc;exact .inr (.inl ⟨he2.symm,rfl⟩)
     ·rename_i he2;exact .inr (.inr ⟨fun h=>he h.symm,fun h=>he2 h.symm,hc⟩)
   have own:∀ c en,look ((b,.arr e (LI.sub l 0 k))::(b0,.dead)::h) c=some en→Owns g c en→(c=b∧en=.arr e (LI.sub l 0 k)∧Owns g b0 (.arr e l:En L))∨(c≠b∧c≠b0∧look h c=some en):=by
    intro c en hc hO
    rcases cls c en hc with ⟨rfl,rfl⟩ | ⟨_,rfl⟩ | h3
    ·refine .inl ⟨rfl,rfl,?_⟩
     simp only [Owns] at hO ⊢
     rw [← hown];exact hO
    ·exact hO.elim
    ·exact .inr h3
   refine ⟨RepH.weaken (U:=V) ⟨hr.fz,?_,?_,?_,?_,?_,?_,hr.base⟩ fun _=>Gr.of,⟨.refl _ _,fun _ _ _ hz=>.inl hz,?_,.refl w,fun _ _ _=>rfl⟩,Nat.le_refl _,[_,_],rfl⟩
   ·intro c en hc
    rcases cls c en hc with ⟨rfl,rfl⟩ | ⟨_,rfl⟩ | ⟨_,_,h3⟩
    ·refine ⟨xs.take (k * LI.sz l),?_,?_,fun j hj=>?_⟩
     ·unfold Gh.v at hrow ⊢
      rw [hsv];exact ownsRow_pre hrow hk
     ·have:=RepIs.piece hxs 0 k
      rw [Nat.zero_mul,List.drop_zero] at this
      exact this
     ·rw [hblk];exact hbk j (by rw [← hown];exact hj)
    ·trivial
    ·exact hr.ent c en h3
   ·intro c en hc
    rcases cls c en hc with ⟨rfl,rfl⟩ | ⟨rfl,rfl⟩ | ⟨_,_,h3⟩
    ·exact ⟨(hr.ids _ _ hb).1,by simp [idsEn]⟩
    ·exact ⟨(hr.ids _ _ hb0).1,by simp [idsEn]⟩
    ·exact hr.ids c en h3
   ·intro c c' e1 e2 h1 h2 o1 o2 hcc
    rcases own c e1 h1 o1 with ⟨rfl,rfl,a1⟩ | ⟨a1,a2,a3⟩<;>rcases own c' e2 h2 o2 with ⟨rfl,rfl,a4⟩ | ⟨a4,a5,a6⟩
    ·exact absurd rfl hcc
    ·rw [hblk];exact hr.dis b0 c' _ _ hb0 a6 a1 o2 fun h=>a5 h.symm
    ·rw [hblk];exact hr.dis c b0 _ _ a3 hb0 o1 a4 a2
    ·exact hr.dis c c' _ _ a3 a6 o1 o2 hcc
   ·intro c e1 h1 o1
    rcases own c e1 h1 o1 with ⟨rfl,rfl,a1⟩ | ⟨a1,a2,a3⟩
    ·rw [hblk];exact hr.own b0 _ hb0 a1
    ·exact hr.own c _ a3 o1
   ·intro c e1 h1 o1 o v hv
    rcases own c e1 h1 o1 with ⟨rfl,rfl,a1⟩ | ⟨a1,a2,a3⟩
    ·rw [hblk] at hv
     obtain ⟨_,_,h4,_⟩:=hr.free b0 _ hb0 a1 o v hv
     cases h4
    ·exact hr.free c _ a3 o1 o v hv
   ·intro c en hc
    rcases cls c en hc with ⟨rfl,rfl⟩ | ⟨rfl,rfl⟩ | ⟨_,_,h3⟩
    ·trivial
    ·trivial
    ·exact hr.pre c en h3
   ·intro c en hc hO
    rcases own c en hc hO with ⟨rfl,rfl,a1⟩ | ⟨a1,a2,a3⟩
    ·exact .inl ⟨b0,_,hb0,a1,hblk.symm⟩
    ·exact .inl ⟨c,en,a3,hO,rfl⟩
  ·exact .refl hr
 ·exact .refl hr
theorem unpreR_sound [LLaws L]:∀ (r:List Nat) {V:Nat→Prop} {h:Hp L} {nx:Nat},(∀ b,V b→b < nx)→RepH V g B h w→Pre V g B h nx w (unpreR r h) nx g
 | [],_,_,_,_,hr=>.refl hr
 | b::r,V,h,nx,hV,hr=>by
  have h1:=unpre1_sound hV hr b
  exact h1.trans (unpreR_sound r (Gr.lt hV h1.le) h1.rep)
theorem prep_sound [LLaws L](sl:Sl)(sh:Sh)(kp:List Nat){xs:List (X L)}(hV:∀ b,V b→b < nx)(hr:RepH V g B h w)(hi:∀ x∈xs,∀ b∈idsX x,V b) :
  ∃ g',Pre V g B h nx w (prep sl sh kp xs h nx).2.1 (prep sl sh kp xs h nx).2.2 g'∧XsLe g g' (Gr V nx (prep sl sh kp xs h nx).2.2) xs (prep sl sh kp xs h nx).1:=by
 obtain ⟨g0,h0,h0'⟩:=purXs_sound sh.ps xs hV hr hi
 show ∃ g',Pre V g B h nx w (promR sl (travX (promX sh.pa (purXs sh.ps xs h).1 ((purXs sh.ps xs h).2,nx)).2.1 (promX sh.pa (purXs sh.ps xs h).1 ((purXs sh.ps xs h).2,nx)).1 kp) (purR sl sh.pv (travX (promX sh.pa (purXs sh.ps xs h).1 ((purXs sh.ps xs h).2,nx)).2.1 (promX sh.pa (purXs sh.ps xs h).1 ((purXs sh.ps xs h).2,nx)).1 kp) (unpreR (travX (promX sh.pa (purXs sh.ps xs h).1 ((purXs sh.ps xs h).2,nx)).2.1 (promX sh.pa (purXs sh.ps xs h).1 ((purXs sh.ps xs h).2,nx)).1 kp) (promX sh.pa (purXs sh.ps xs h).1 ((purXs sh.ps xs h).2,nx)).2.1),(promX sh.pa (purXs sh.ps xs h).1 ((purXs sh.ps xs h).2,nx)).2.2)).1
  (promR sl (travX (promX sh.pa (purXs sh.ps xs h).1 ((purXs sh.ps xs h).2,nx)).2.1 (promX sh.pa (purXs sh.ps xs h).1 ((purXs sh.ps xs h).2,nx)).1 kp) (purR sl sh.pv (travX (promX sh.pa (purXs sh.ps xs h).1 ((purXs sh.ps xs h).2,nx)).2.1 (promX sh.pa (purXs sh.ps xs h).1 ((purXs sh.ps xs h).2,nx)).1 kp) (unpreR (travX (promX sh.pa (purXs sh.ps xs h).1 ((purXs sh.ps xs h).2,nx)).2.1 (promX sh.pa (purXs sh.ps xs h).1 ((purXs sh.ps xs h).2,nx)).1 kp) (promX sh.pa (purXs sh.ps xs h).1 ((purXs sh.ps xs h).2,nx)).2.1),(promX sh.pa (purXs sh.ps xs h).1 ((purXs sh.ps xs h).2,nx)).2.2)).2 g' ∧
  XsLe g g' (Gr V nx (promR sl (travX (promX sh.pa (purXs sh.ps xs h).1 ((purXs sh.ps xs h).2,nx)).2.1 (promX sh.pa (purXs sh.ps xs h).1 ((purXs sh.ps xs h).2,nx)).1 kp) (purR sl sh.pv (travX (promX sh.pa (purXs sh.ps xs h).1 ((purXs sh.ps xs h).2,nx)).2.1 (promX sh.pa (purXs sh.ps xs h).1 ((purXs sh.ps xs h).2,nx)).1 kp) (unpreR (travX (promX sh.pa (purXs sh.ps xs h).1 ((purXs sh.ps xs h).2,nx)).2.1 (promX sh.pa (purXs sh.ps xs h).1 ((purXs sh.ps xs h).2,nx)).1 kp) (promX sh.pa (purXs sh.ps xs h).1 ((purXs sh.ps xs h).2,nx)).2.1),(promX sh.pa (purXs sh.ps xs h).1 ((purXs sh.ps xs h).2,nx)).2.2)).2) xs (fixXs sl sh.ts (promX sh.pa (purXs sh.ps xs h).1 ((purXs sh.ps xs h).2,nx)).1)
 generalize (purXs sh.ps xs h).1=xs1 at *
 generalize (purXs sh.ps xs h).2=hh1 at *
 have hi1:∀ x∈xs1,∀ b∈idsX x,Gr V nx nx b:=h0'.idsR
 obtain ⟨g1,h1,h2⟩:=promX_sound sh.pa xs1 (Gr.lt hV (Nat.le_refl _)) h0.rep hi1
 generalize (promX sh.pa xs1 (hh1,nx)).1=ys at *
 generalize (promX sh.pa xs1 (hh1,nx)).2.1=hh2 at *
 generalize (promX sh.pa xs1 (hh1,nx)).2.2=n2 at *
 have h01:=h0.trans h1
 have hU:=unpreR_sound (travX hh2 ys kp) (Gr.lt hV h01.le) h01.rep
 have h01':=h01.trans hU
 obtain ⟨g2,h3⟩:=purR_sound sl sh.pv (travX hh2 ys kp) (Gr.lt hV h01'.le) h01'.rep
 have h02:=h01'.trans h3
 obtain ⟨g3,h4⟩:=promR_sound sl (travX hh2 ys kp) (Gr.lt hV h02.le) h02.rep
 refine ⟨g3,h02.trans h4,?_⟩
 have k1:XsLe g g1 (Gr (Gr V nx nx) nx n2) xs ys:=h0'.comp h2
 have k2:XsLe g g1 (Gr V nx n2) xs ys:=XsLe.trans (V1:=Gr (Gr V nx nx) nx n2) (.refl _ _) (fun b hb=>Gr.trans (Nat.le_refl _) h1.le b hb) k1
 have k3:XsLe g g2 (Gr V nx n2) xs ys:=XsLe.trans h3.tr.le (fun _ h=>h) k2
 exact (XsLe.trans h4.tr.le (fun b hb=>Gr.more h4.le b hb) k3).fix sl sh.ts
omit [LI L] in
theorem prom1_ext [LI L](b off:Nat)(e:TypeId)(s:Hp L×Nat):(∃ u,(prom1 b off e s).1=u++s.1)∧s.2≤(prom1 b off e s).2:=by
 have same:(∃ u,s.1=u++s.1)∧s.2≤s.2:=⟨⟨[],rfl⟩,Nat.le_refl _⟩
 unfold prom1
 split
 ·split
  ·rename_i c hc
   cases isNil c with
   | false=>exact same
   | true =>
    simp only [cond_true]
    split
    ·exact ⟨⟨[_,_],rfl⟩,Nat.le_succ _⟩
    ·exact same
  ·exact same
 ·exact same
theorem promL_ext (b:Nat):∀ (r:List (Nat×TypeId)) (s:Hp L×Nat),(∃ u,(promL b r s).1=u++s.1)∧s.2≤(promL b r s).2
 | [],s=>⟨⟨[],rfl⟩,Nat.le_refl _⟩
 | (off,e)::r,s=>by
  obtain ⟨⟨u,hu⟩,h1⟩:=prom1_ext b off e s
  obtain ⟨⟨v,hv⟩,h2⟩:=promL_ext b r (prom1 b off e s)
  exact ⟨⟨v++u,by simp only [promL];rw [hv,hu,List.append_assoc]⟩,Nat.le_trans h1 h2⟩
theorem promR_ext (sl:Sl):∀ (r:List Nat) (s:Hp L×Nat),(∃ u,(promR sl r s).1=u++s.1)∧s.2≤(promR sl r s).2
 | [],s=>⟨⟨[],rfl⟩,Nat.le_refl _⟩
 | b::r,s=>by
  simp only [promR]
  split
  ·rename_i cs t hb
   obtain ⟨⟨u,hu⟩,h1⟩:=promL_ext b (sl t) s
   have hn:∃ u',normV b (promL b (sl t) s).1=u'++(promL b (sl t) s).1:=by
    unfold normV
    split
    ·exact ⟨[_],rfl⟩
    ·exact ⟨[],rfl⟩
   obtain ⟨u',hu'⟩:=hn
   obtain ⟨⟨v,hv⟩,h2⟩:=promR_ext sl r (normV b (promL b (sl t) s).1,(promL b (sl t) s).2)
   exact ⟨⟨v++(u'++u),by rw [hv];simp only [];rw [hu',hu];simp⟩,Nat.le_trans h1 h2⟩
  ·exact promR_ext sl r s
theorem promX_ext:∀ (ts:List (Option TypeId)) (xs:List (X L)) (s:Hp L×Nat),(∃ u,(promX ts xs s).2.1=u++s.1)∧s.2≤(promX ts xs s).2.2
 | [],xs,s=>by simp only [promX];exact ⟨⟨[],rfl⟩,Nat.le_refl _⟩
 | some e::ts,[],s=>by simp only [promX];exact ⟨⟨[],rfl⟩,Nat.le_refl _⟩
 | none::ts,[],s=>by simp only [promX];exact ⟨⟨[],rfl⟩,Nat.le_refl _⟩
 | none::ts,x::r,s=>promX_ext ts r s
 | some e::ts,x::r,s=>by
  simp only [promX]
  split
  ·rename_i c hc
   cases isNil c with
   | false=>exact promX_ext ts r s
   | true =>
    simp only [cond_true]
    split
    ·rename_i l hl
     obtain ⟨⟨u,hu⟩,h1⟩:=promX_ext ts r ((s.2,.arr e l)::s.1,s.2+1)
     exact ⟨⟨u++[(s.2,.arr e l)],by simp only [] at hu;rw [hu];simp⟩,Nat.le_trans (Nat.le_succ _) h1⟩
    ·exact promX_ext ts r s
  ·exact promX_ext ts r s
theorem pur1_ext (sl:Sl)(b off:Nat)(h:Hp L):∃ u,pur1 sl b off h=u++h:=by
 have same:∃ u,h=u++h:=⟨[],rfl⟩
 unfold pur1
 split
 ·split
  ·split
   ·rename_i x u _;exact ⟨_::u,rfl⟩
   ·exact same
  ·exact same
 ·exact same
theorem purL_ext (sl:Sl)(b:Nat):∀ (r:List Nat) (h:Hp L),∃ u,purL sl b r h=u++h
 | [],h=>⟨[],rfl⟩
 | off::r,h=>by
  obtain ⟨u,hu⟩:=pur1_ext sl b off h
  obtain ⟨v,hv⟩:=purL_ext sl b r (pur1 sl b off h)
  exact ⟨v++u,by simp only [purL];rw [hv,hu,List.append_assoc]⟩
theorem purR_ext (sl:Sl)(pv:List (Nat×List Nat)):∀ (r:List Nat) (h:Hp L),∃ u,purR sl pv r h=u++h
 | [],h=>⟨[],rfl⟩
 | b::r,h=>by
  simp only [purR]
  split
  ·split
   ·rename_i offs _
    obtain ⟨u,hu⟩:=purL_ext sl b offs h
    obtain ⟨v,hv⟩:=purR_ext sl pv r (purL sl b offs h)
    exact ⟨v++u,by rw [hv,hu,List.append_assoc]⟩
   ·exact purR_ext sl pv r h
  ·exact purR_ext sl pv r h
theorem purX_ext (x:X L)(h:Hp L):∃ u,(purX x h).2=u++h:=by
 unfold purX
 split
 ·split
  ·exact ⟨_,rfl⟩
  ·exact ⟨[],rfl⟩
 ·split
  ·exact ⟨_,rfl⟩
  ·exact ⟨[],rfl⟩
theorem purXs_ext:∀ (ps:List Bool) (xs:List (X L)) (h:Hp L),∃ u,(purXs ps xs h).2=u++h
 | [],xs,h=>by cases xs<;>exact ⟨[],rfl⟩
 | b::ps,[],h=>by cases b<;>exact ⟨[],rfl⟩
 | false::ps,x::r,h=>purXs_ext ps r h
 | true::ps,x::r,h=>by
  obtain ⟨u,hu⟩:=purX_ext x h
  obtain ⟨v,hv⟩:=purXs_ext ps r (purX x h).2
  exact ⟨v++u,by simp only [purXs];rw [hv,hu,List.append_assoc]⟩
theorem unpre1_ext (b:Nat)(h:Hp L):∃ u,unpre1 b h=u++h:=by
 unfold unpre1
 split
 ·split
  ·exact ⟨[_,_],rfl⟩
  ·exact ⟨[],rfl⟩
 ·exact ⟨[],rfl⟩
theorem unpreR_ext:∀ (r:List Nat) (h:Hp L),∃ u,unpreR r h=u++h
 | [],h=>⟨[],rfl⟩
 | b::r,h=>by
  obtain ⟨u,hu⟩:=unpre1_ext b h
  obtain ⟨v,hv⟩:=unpreR_ext r (unpre1 b h)
  exact ⟨v++u,by simp only [unpreR];rw [hv,hu,List.append_assoc]⟩
theorem prep_ext (sl:Sl)(sh:Sh)(kp:List Nat)(xs:List (X L))(h:Hp L)(nx:Nat):(∃ u,(prep sl sh kp xs h nx).2.1=u++h)∧nx≤(prep sl sh kp xs h nx).2.2:=by
 obtain ⟨u0,hu0⟩:=purXs_ext sh.ps xs h
 obtain ⟨⟨u,hu⟩,h1⟩:=promX_ext sh.pa (purXs sh.ps xs h).1 ((purXs sh.ps xs h).2,nx)
 obtain ⟨u1,hu1⟩:=unpreR_ext (travX (promX sh.pa (purXs sh.ps xs h).1 ((purXs sh.ps xs h).2,nx)).2.1 (promX sh.pa (purXs sh.ps xs h).1 ((purXs sh.ps xs h).2,nx)).1 kp) (promX sh.pa (purXs sh.ps xs h).1 ((purXs sh.ps xs h).2,nx)).2.1
 obtain ⟨u2,hu2⟩:=purR_ext sl sh.pv (travX (promX sh.pa (purXs sh.ps xs h).1 ((purXs sh.ps xs h).2,nx)).2.1 (promX sh.pa (purXs sh.ps xs h).1 ((purXs sh.ps xs h).2,nx)).1 kp) (unpreR (travX (promX sh.pa (purXs sh.ps xs h).1 ((purXs sh.ps xs h).2,nx)).2.1 (promX sh.pa (purXs sh.ps xs h).1 ((purXs sh.ps xs h).2,nx)).1 kp) (promX sh.pa (purXs sh.ps xs h).1 ((purXs sh.ps xs h).2,nx)).2.1)
 obtain ⟨⟨v,hv⟩,h2⟩:=promR_ext sl (travX (promX sh.pa (purXs sh.ps xs h).1 ((purXs sh.ps xs h).2,nx)).2.1 (promX sh.pa (purXs sh.ps xs h).1 ((purXs sh.ps xs h).2,nx)).1 kp) (purR sl sh.pv (travX (promX sh.pa (purXs sh.ps xs h).1 ((purXs sh.ps xs h).2,nx)).2.1 (promX sh.pa (purXs sh.ps xs h).1 ((purXs sh.ps xs h).2,nx)).1 kp) (unpreR (travX (promX sh.pa (purXs sh.ps xs h).1 ((purXs sh.ps xs h).2,nx)).2.1 (promX sh.pa (purXs sh.ps xs h).1 ((purXs sh.ps xs h).2,nx)).1 kp) (promX sh.pa (purXs sh.ps xs h).1 ((purXs sh.ps xs h).2,nx)).2.1),(promX sh.pa (purXs sh.ps xs h).1 ((purXs sh.ps xs h).2,nx)).2.2)
 refine ⟨⟨v++(u2++(u1++(u++u0))),?_⟩,Nat.le_trans h1 h2⟩
 show (promR sl _ _).1=_
 rw [hv]
 simp only []
 rw [hu2,hu1,hu]
 simp only []
 rw [hu0]
 simp
end
end Go.Ev
/- One operation as a step; calls; summaries. -/
namespace Go.Ev
open Go.RowKit
variable {L:Type} [LI L]
def CallPost (V:Nat→Prop)(g:Gh)(B:Nat)(h:Hp L)(w:World)(nx:Nat)(Q:X L×Hp L×Nat→Prop):Ending→World→Prop :=
 fun e w'=>∃ v r g',e=.returned v∧Q r∧RepX g' r.1 v∧(∀ b∈idsX r.1,Gr V nx r.2.2 b)∧RepH (Gr V nx r.2.2) g' B r.2.1 w'∧Tr V g h w g' r.2.1 w'
def CallOK (P:Program)(f:FuncId)(args:List (X L))(h:Hp L)(nx:Nat)(Q:X L×Hp L×Nat→Prop):Prop :=
 ∀ (V:Nat→Prop) (g:Gh) (B:Nat) (w:World) (vs:List Value),(∀ b,V b→b < nx)→All2 (RepX g) args vs→(∀ x∈args,∀ b∈idsX x,V b)→RepH V g B h w→Calls P f vs.toArray w (CallPost V g B h w nx Q)
def FnSumOK (P:Program)(oD:OrcD L)(f:FuncId):Prop :=
 ∀ c e d,oD.s f c e d→CallOK P f c.xs c.hp c.n fun r=>e=.normal∧d=⟨[r.1],r.2.1,r.2.2⟩∧c.n≤r.2.2
structure CxOK (P:Program) (oD:OrcD L) (cx:Cx L):Prop where
 tab:TabOK P cx.T
 tl:TLaws L cx.T
 orc:∀ f k,cx.orc f=some k→Enters P f∧(k=.sum→FnSumOK P oD f)∧(k≠.sum→isBlt k=false→OrcOK P oD f k)∧(isBlt k=true→BltOK P f k)
 cf:∀ f args h nx Q,(cx.cf f args h nx).holds oD Q→Enters P f∧CallOK P f args h nx Q
 ext:∀ f args h nx,(cx.cf f args h nx).allR (ExtH h nx)
section
variable {P:Program} {oD:OrcD L} {cx:Cx L}
omit [LI L] in
theorem sumCall0_ext (sid:Nat)(kp:List Nat)(xs:List (X L))(h:Hp L)(nx:Nat):(sumCall0 sid kp xs h nx).allR fun r=>(∃ u,r.2.2.1=u++h)∧nx≤r.2.2.2:=by
 unfold sumCall0
 split
 ·cases below (travX h xs []).length kp with
  | true=>intro e d;exact ⟨⟨_,rfl⟩,Nat.le_add_right _ _⟩
  | false=>trivial
 ·trivial
theorem sumCall_ext (sl:Sl)(sh:Sh)(sid:Nat)(kp:List Nat)(xs:List (X L))(h:Hp L)(nx:Nat):(sumCall sl sh sid kp xs h nx).allR fun r=>(∃ u,r.2.2.1=u++h)∧nx≤r.2.2.2:=by
 obtain ⟨⟨u,hu⟩,hn⟩:=prep_ext sl sh [] xs h nx
 refine Out.allR_mono (sumCall0_ext sid kp (prep sl sh [] xs h nx).1 (prep sl sh [] xs h nx).2.1 (prep sl sh [] xs h nx).2.2) ?_
 rintro r ⟨⟨v,hv⟩,h1⟩
 exact ⟨⟨v++u,by rw [hv,hu,List.append_assoc]⟩,Nat.le_trans hn h1⟩
theorem evCall_ext (hx:∀ f args h nx,(cx.cf f args h nx).allR (ExtH h nx))(f:FuncId)(args:List (X L))(h:Hp L)(nx:Nat):(evCall cx f args h nx).allR (ExtH h nx):=by
 unfold evCall
 split
 ·obtain ⟨⟨u,hu⟩,hn⟩:=prep_ext cx.sl (cx.sh f).1 [] args h nx
  refine Out.allR_bind (Out.allR_mono (sumCall0_ext f _ (prep cx.sl (cx.sh f).1 [] args h nx).1 (prep cx.sl (cx.sh f).1 [] args h nx).2.1 (prep cx.sl (cx.sh f).1 [] args h nx).2.2) ?_)
  rintro ⟨e,xs,h',n⟩ ⟨⟨v,hv⟩,hr⟩
  simp only at hv hr
  split
  ·rename_i heq;cases heq;exact ⟨⟨v++u,by simp only [];rw [hv,hu,List.append_assoc]⟩,Nat.le_trans hn hr⟩
  ·trivial
 ·refine Out.allR_bind (Out.allR_true fun r=>?_)
  exact ⟨⟨_,rfl⟩,Nat.le_succ _⟩
 ·refine Out.allR_bind (Out.allR_true fun r=>?_)
  exact ⟨⟨_,rfl⟩,Nat.le_succ _⟩
 ·exact hx f args h nx
theorem evStep_ext (hx:∀ f args h nx,(cx.cf f args h nx).allR (ExtH h nx))(env:List (Nat×X L))(h:Hp L)(nx:Nat)(o:Op):(evStep cx env h nx o).allR (ExtH h nx):=by
 unfold evStep
 split
 ·exact evCall_ext hx _ _ h nx
 ·refine Out.allR_bind (Out.allR_true fun r=>?_)
  exact ⟨⟨_,rfl⟩,Nat.le_succ _⟩
variable {V:Nat→Prop} {g:Gh} {B:Nat} {h:Hp L} {w:World} {nx:Nat} {env:List (Nat×X L)} {a:Act} {o:Oper}
def StepWp (P:Program)(V:Nat→Prop)(g:Gh)(B:Nat)(h:Hp L)(w:World)(nx:Nat)(a:Act)(o:Oper)(Q:X L×Hp L×Nat→Prop):Prop :=
 ∀ Qe,o.wp P a w (fun a' w'=>∃ v r g',a'=a.put o.dst v∧Q r∧RepX g' r.1 v∧(∀ b∈idsX r.1,Gr V nx r.2.2 b)∧RepH (Gr V nx r.2.2) g' B r.2.1 w'∧Tr V g h w g' r.2.1 w') Qe
theorem Post.step {x:X L}{u:Hp L}{v:Value}{w':World}{g':Gh}(hp:Post V g B h nx w x u v w' g') :
  RepX g' x v∧(∀ b∈idsX x,Gr V nx (nx+1) b)∧RepH (Gr V nx (nx+1)) g' B (u++h) w'∧Tr V g h w g' (u++h) w':=by
 have key:∀ b,V b∨b=nx→Gr V nx (nx+1) b:=by
  rintro b (hb | rfl)
  ·exact .inl hb
  ·exact .inr ⟨Nat.le_refl _,Nat.lt_succ_self _⟩
 exact ⟨hp.rx,fun b hb=>key b (hp.ix b hb),hp.rh.weaken key,hp.tr⟩
theorem OpWp.step {Q:X L×Hp L×Nat→Prop}(hp:OpWp P V g B h w nx a o fun r=>Q (r.1,r.2++h,nx+1)):StepWp P V g B h w nx a o Q:=by
 intro Qe
 refine Oper.wp_mono ?_ (hp Qe)
 rintro a' w' ⟨x,u,v,g',hq,rfl,hpost⟩
 exact ⟨v,_,g',rfl,hq,hpost.step⟩
theorem XsLe.all2 {g':Gh}{V':Nat→Prop}{xs ys:List (X L)}(h:XsLe g g' V' xs ys):∀ {vs:List Value},All2 (RepX g) xs vs→All2 (RepX g') ys vs:=by
 induction h with
 | nil=>intro vs h;cases h;exact .nil
 | cons a _ ih=>intro vs h;cases h with | cons b t=>exact .cons (a.1 _ b) (ih t)
theorem XsLe.ids {g':Gh}{V':Nat→Prop}{xs ys:List (X L)}(h:XsLe g g' V' xs ys):∀ y∈ys,∀ b∈idsX y,V' b:=by
 induction h with
 | nil=>simp
 | cons a _ ih =>
  intro y hy
  rcases List.mem_cons.1 hy with rfl | hy
  ·exact a.2
  ·exact ih y hy
theorem evCall_sound [LLaws L](hx:CxOK P oD cx)(hV:∀ b,V b→b < nx)(hE:RepE V g env a)(hr:RepH V g B h w){f:FuncId}{xs:List (X L)}(hc:callee env o.op=some (f,xs)){Q:X L×Hp L×Nat→Prop}
  (hq:(evCall cx f xs h nx).holds oD Q):StepWp P V g B h w nx a o Q:=by
 have enter:∀ {Q':X L×Hp L×Nat→Prop},Enters P f→CallOK P f xs h nx Q'→StepWp P V g B h w nx a o Q':=by
  intro Q' hen hok Qe
  obtain ⟨vs,hvs,hrun,hids⟩:=callee_run (w:=w) hE hc hen
  unfold Oper.wp
  rw [hrun,Oper.upon_enter]
  refine Calls.mono (hok V g B w vs hV hvs hids hr) ?_
  rintro e w' ⟨v,r,g',rfl,hq,h1⟩
  exact ⟨v,r,g',rfl,hq,h1⟩
 unfold evCall at hq
 split at hq
 ·rename_i ho
  obtain ⟨hen,hs,_⟩:=hx.orc f _ ho
  refine enter hen ?_
  intro V g B w vs hV hvs hids hr
  obtain ⟨g1,hpre,hxle⟩:=prep_sound cx.sl (cx.sh f).1 [] (nx:=nx) hV hr hids
  have hq:((sumCall0 f (List.range (travX (prep cx.sl (cx.sh f).1 [] xs h nx).2.1 (prep cx.sl (cx.sh f).1 [] xs h nx).1 []).length) (prep cx.sl (cx.sh f).1 [] xs h nx).1 (prep cx.sl (cx.sh f).1 [] xs h nx).2.1 (prep cx.sl (cx.sh f).1 [] xs h nx).2.2).bind fun
   | (.normal,[x],h',n)=>.ret (x,h',n)
   | _=>.fail 162:Out L (X L×Hp L×Nat)).holds oD Q:=hq
  generalize (prep cx.sl (cx.sh f).1 [] xs h nx).1=ys at *
  generalize (prep cx.sl (cx.sh f).1 [] xs h nx).2.1=h1 at *
  generalize (prep cx.sl (cx.sh f).1 [] xs h nx).2.2=n1 at *
  have hvs1:All2 (RepX g1) ys vs:=hxle.all2 hvs
  have hids1:=hxle.ids
  have hV1:=Gr.lt hV hpre.le
  have hr1:=hpre.rep
  rw [Out.holds_bind] at hq
  unfold sumCall0 at hq
  split at hq
  ·rename_i c hcan
   cases hb:below (travX h1 ys []).length (List.range (travX h1 ys []).length) with
   | false=>rw [hb] at hq;exact hq.elim
   | true =>
    rw [hb] at hq
    obtain ⟨e,d,hd,hq⟩:=hq
    have hsp:=canon_spec hcan
    have hcn:=hsp.hn
    have hrc:=hsp.rep hr1
    have hxs:=hsp.repXs hvs1
    rw [← hcn] at hrc
    have hidc:∀ x∈c.xs,∀ b∈idsX x,Lt c.n b:=by
     intro x hx b hb
     rw [hsp.hxs,List.mem_map] at hx
     obtain ⟨y,hy,rfl⟩:=hx
     exact (by rw [hcn];exact hsp.idsLt hy b hb:b < c.n)
    refine Calls.mono (hs rfl c e d hd (Lt c.n) (g1.ren (at0 (travX h1 ys []))) B w vs (fun _ h=>h) hxs hidc hrc) ?_
    rintro en w' ⟨v,r,g2,rfl,⟨he,hdr,hle⟩,hrx,hri,hrh,htr⟩
    subst he;subst hdr
    have hGL:∀ b,Gr (Lt c.n) c.n r.2.2 b→Lt r.2.2 b:=Gr.lt (fun _ h=>h) hle
    obtain ⟨g',h1',h2,h3,h4⟩:=sum_back (d:=⟨[r.1],r.2.1,r.2.2⟩) hV1 hr1 hcan hb (htr.weaken fun i hi=>(by rw [hcn];exact List.mem_range.1 hi:i < c.n)) (hrh.weaken hGL)
    exact ⟨v,_,g',rfl,hq,h3 r.1 v (fun b hb=>hGL b (hri b hb)) hrx,fun b hb=>Gr.trans hpre.le (Nat.le_add_right _ _) b (h4 r.1 (fun b hb=>hGL b (hri b hb)) b hb),h1'.weaken (Gr.trans hpre.le (Nat.le_add_right _ _)),hpre.tr.trans h2 fun _=>Gr.of⟩
  ·exact hq.elim
 ·rename_i off e ho
  obtain ⟨hen,_,hok⟩:=hx.orc f _ ho
  rw [Out.holds_bind] at hq
  exact OpWp.step (rdRes_sound hx.tab hE hr (fun hv=>Nat.lt_irrefl _ (hV _ hv)) hc hen (hok.1 (fun hk=>by cases hk) rfl) hq)
 ·rename_i k hne hnr ho
  obtain ⟨hen,_,hok⟩:=hx.orc f k ho
  rw [Out.holds_bind] at hq
  cases hb:isBlt k with
  | false =>
   rw [hb,cond_false] at hq
   exact OpWp.step (orcRes_sound hE hr (fun hv=>Nat.lt_irrefl _ (hV _ hv)) hc hen ((hok.1 (fun hk=>hne hk) hb).data fun off e hk=>hnr off e hk) hq)
  | true =>
   rw [hb,cond_true] at hq
   exact OpWp.step (bltRes_sound hx.tab hE hr (fun hv=>Nat.lt_irrefl _ (hV _ hv)) hc hen (hok.2 hb) hq)
 ·obtain ⟨hen,hok⟩:=hx.cf f xs h nx Q hq
  exact enter hen hok
theorem evStep_sound [LLaws L](hx:CxOK P oD cx)(hV:∀ b,V b→b < nx)(hE:RepE V g env a)(hr:RepH V g B h w){Q:X L×Hp L×Nat→Prop}(hq:(evStep cx env h nx o.op).holds oD Q):StepWp P V g B h w nx a o Q:=by
 unfold evStep at hq
 split at hq
 ·rename_i f xs hc
  exact evCall_sound hx hV hE hr hc hq
 ·rw [Out.holds_bind] at hq
  exact OpWp.step (Good.wp (evOp_sound hx.tab hx.tl hE hr (fun hv=>Nat.lt_irrefl _ (hV _ hv)) hq))
end
end Go.Ev
/- Regions in the order of the text. -/
namespace Go.Ev
open Go.RowKit
variable {L:Type} [LI L]
section
variable {P:Program} {oD:OrcD L} {cx:Cx L}
theorem RepE.put {U V:Nat→Prop}{g g':Gh}{env:List (Nat×X L)}{a:Act}(hE:RepE U g env a)(hg:GhLe U g g')(hu:∀ b,U b→V b){dst:Option Tmp}(hd:∀ d,dst=some d→d < a.tmps.size){x:X L}{v:Value}
  (hx:RepX g' x v) (hi:∀ b∈idsX x,V b):RepE V g' (putE env dst x) (a.put dst v):=by
 cases dst with
 | none=>exact ⟨fun d y hy=>let ⟨v,hv,hr⟩:=hE.val d y hy;⟨v,hv,RepX.mono hg (hE.ids d y hy) hr⟩,fun d y hy b hb=>hu b (hE.ids d y hy b hb),hE.defers⟩
 | some k =>
  have hk:=hd k rfl
  refine ⟨fun d y hy=>?_,fun d y hy b hb=>?_,hE.defers⟩
  ·simp only [putE] at hy
   rw [look_cons] at hy
   split at hy
   ·rename_i hkd;subst hkd;cases hy
    exact ⟨v,by simp [Act.put,hk],hx⟩
   ·rename_i hkd
    obtain ⟨v',hv,hr⟩:=hE.val d y hy
    exact ⟨v',by simp [Act.put,Array.getElem?_setIfInBounds_ne hkd,hv],RepX.mono hg (hE.ids d y hy) hr⟩
  ·simp only [putE] at hy
   rw [look_cons] at hy
   split at hy
   ·cases hy;exact hi b hb
   ·exact hu b (hE.ids d y hy b hb)
theorem Act.put_size (a:Act)(dst:Option Tmp)(v:Value):(a.put dst v).tmps.size=a.tmps.size:=by
 cases dst<;>simp [Act.put]
theorem RepE.keep {U:Nat→Prop}{g:Gh}{env:List (Nat×X L)}{a:Act}(hE:RepE U g env a)(live:List Nat):RepE U g (keepE env live) a :=
 hE.weak (fun _ x hx=>⟨x,look_keepE hx,.refl x⟩) fun _ h=>h
theorem RepE.world {U:Nat→Prop}{g g':Gh}{env:List (Nat×X L)}{a:Act}(hE:RepE U g env a)(hg:GhLe U g g'):RepE U g' env a :=
 ⟨fun d y hy=>let ⟨v,hv,hr⟩:=hE.val d y hy;⟨v,hv,RepX.mono hg (hE.ids d y hy) hr⟩,hE.ids,hE.defers⟩
theorem guard_yields {U:Nat→Prop}{g:Gh}{env:List (Nat×X L)}{a:Act}{opsA:Array Oper}(hE:RepE U g env a){j d:Nat}(hd:dstOf opsA.toList j=some d){x:X L}(hx:look env d=some x){i:I L}(hi:imOf x=some i){t:Bool×Bool}(ht:boolV i=some t) :
  yielded opsA a.tmps j=some t.1:=by
 obtain ⟨v,hv,hr⟩:=hE.val d x hx
 have hdd:(opsA[j]?).bind (·.dst)=some d:=by
  unfold dstOf at hd
  rw [nth_eq] at hd
  simp only [Array.getElem?_toList] at hd
  cases ho:opsA[j]? with
  | none=>rw [ho] at hd;cases hd
  | some o=>rw [ho] at hd;exact hd
 have hvb:v=.bool t.1:=by
  cases x with
  | s x=>cases x with
   | c x=>cases x with
    | im x=>simp only [imOf,Option.some.injEq] at hi;subst hi;exact boolV_val ht hr
    | _=>simp [imOf] at hi
   | agg _=>simp [imOf] at hi
  | tup _=>simp [imOf] at hi
 simp [yielded,hdd,hv,hvb]
omit [LI L] in
theorem undefX_eq {x:X L}(h:undefX x=true):x=.tup []:=by
 unfold undefX at h
 split at h
 ·rfl
 ·cases h
theorem guard_undef {U:Nat→Prop}{g:Gh}{env:List (Nat×X L)}{a:Act}{opsA:Array Oper}(hE:RepE U g env a){j d:Nat}(hd:dstOf opsA.toList j=some d){x:X L}(hx:look env d=some x)(hu:undefX x=true) :
  yielded opsA a.tmps j=none:=by
 obtain ⟨v,hv,hr⟩:=hE.val d x hx
 have hdd:(opsA[j]?).bind (·.dst)=some d:=by
  unfold dstOf at hd
  rw [nth_eq] at hd
  simp only [Array.getElem?_toList] at hd
  cases ho:opsA[j]? with
  | none=>rw [ho] at hd;cases hd
  | some o=>rw [ho] at hd;exact hd
 rw [undefX_eq hu] at hr
 obtain ⟨vs,rfl,_⟩:=hr
 simp [yielded,hdd,hv]
theorem wanted_none {opsA:Array Oper}{a:Act}{o:Oper}{j:Nat}{want:Bool}(hg:o.guard=some (j,want))(hy:yielded opsA a.tmps j=none):Region.wanted o (yielded opsA a.tmps)=false:=by
 simp only [Region.wanted,hg,hy]
 cases want<;>rfl
theorem wanted_eq {opsA:Array Oper}{a:Act}{o:Oper}{j:Nat}{want t:Bool}(hg:o.guard=some (j,want))(hy:yielded opsA a.tmps j=some t):Region.wanted o (yielded opsA a.tmps)=(t == want):=by
 simp only [Region.wanted,hg,hy]
 cases t<;>cases want<;>rfl
theorem RepE.refine {U:Nat→Prop}{g:Gh}{env:List (Nat×X L)}{a:Act}(hE:RepE U g env a){d:Nat}{x:X L}(hx:look env d=some x){i:I L}(hi:imOf x=some i){t:Bool×Bool}(ht:boolV i=some t)(y:I L)(hy:∀ G:Fz,RepI G y (.bool t.1)) :
  RepE U g ((d,.s (.c (.im y)))::env) a:=by
 obtain ⟨v,hv,hr⟩:=hE.val d x hx
 have hvb:v=.bool t.1:=by
  cases x with
  | s x=>cases x with
   | c x=>cases x with
    | im x=>simp only [imOf,Option.some.injEq] at hi;subst hi;exact boolV_val ht hr
    | _=>simp [imOf] at hi
   | agg _=>simp [imOf] at hi
  | tup _=>simp [imOf] at hi
 refine ⟨fun k z hz=>?_,fun k z hz=>?_,hE.defers⟩
 ·rw [look_cons] at hz
  split at hz
  ·rename_i hk;subst hk;cases hz;exact ⟨v,hv,by subst hvb;exact hy g.G⟩
  ·exact hE.val k z hz
 ·rw [look_cons] at hz
  split at hz
  ·cases hz;simp [idsX,idsS,cellsOf,idsC]
  ·exact hE.ids k z hz
theorem mem_dsts {ops:List Oper}{d:Nat}:d∈dsts ops↔∃ o∈ops,o.dst=some d:=by simp [dsts]
theorem dstOf_mem {ops:List Oper}{j d:Nat}(h:dstOf ops j=some d):d∈dsts ops:=by
 unfold dstOf at h
 rw [nth_eq] at h
 split at h
 ·rename_i o ho
  exact mem_dsts.2 ⟨o,List.mem_of_getElem? ho,h⟩
 ·cases h
omit [LI L] in
theorem ext_put {W:List Nat}{s:Sx L}{dst:Option Tmp}(hd:∀ d,dst=some d→d∈W)(x:X L)(h:Hp L)(n:Nat)(hh:∃ u,h=u++s.hp)(hn:s.nx≤n):ExtS W s { env:=putE s.env dst x,hp:=h,nx:=n } :=
 ⟨hh,hn,fun d _ hdW hy=>look_putE hy fun he=>hdW (hd d he)⟩
omit [LI L] in
theorem ext_refine {W:List Nat}{s:Sx L}{d:Nat}(hd:d∈W)(x:X L):ExtS W s { s with env:=(d,x)::s.env } :=
 ⟨⟨[],rfl⟩,Nat.le_refl _,fun k _ hk hy=>by
  simp only [] at hy
  rw [look_cons] at hy
  split at hy
  ·rename_i he;subst he;exact absurd hd hk
  ·exact hy⟩
theorem evOps_ext [LLaws L](hx:∀ f args h nx,(cx.cf f args h nx).allR (ExtH h nx)){rg:Rg}(hW:rg.written=dsts rg.ops):∀ (r:List Oper),(∀ o∈r,o∈rg.ops)→∀ s:Sx L,(evOps cx rg r s).allR (ExtS rg.written s)
 | [],_,s=>⟨⟨[],rfl⟩,Nat.le_refl _,fun d x _ hx=>look_keepE hx⟩
 | o::r,hr,s=>by
  have hd:∀ d,o.dst=some d→d∈rg.written:=fun d hd=>by rw [hW];exact mem_dsts.2 ⟨o,hr o (by simp),hd⟩
  have ih:=evOps_ext hx hW r (fun o ho=>hr o (by simp [ho]))
  have exec:∀ s:Sx L,((evStep cx s.env s.hp s.nx o.op).bind fun (x,h,n)=>evOps cx rg r { env:=putE s.env o.dst x,hp:=h,nx:=n }).allR (ExtS rg.written s):=by
   intro s
   refine Out.allR_bind (Out.allR_mono (evStep_ext hx s.env s.hp s.nx o.op) ?_)
   rintro ⟨x,h,n⟩ ⟨hh,hn⟩
   exact Out.allR_mono (ih _) fun t ht=>(ext_put hd x h n hh hn).trans ht
  have skip:∀ s:Sx L,(evOps cx rg r { s with env:=putE s.env o.dst (.tup []) }).allR (ExtS rg.written s):=fun s=>Out.allR_mono (ih _) fun t ht=>(ext_put hd _ s.hp s.nx ⟨[],rfl⟩ (Nat.le_refl _)).trans ht
  simp only [evOps]
  split
  ·exact exec s
  ·rename_i j want hg
   split
   ·trivial
   ·rename_i d hdj
    have hdW:d∈rg.written:=by rw [hW];exact dstOf_mem hdj
    split
    ·split
     ·split
      ·rename_i t ht
       cases t == want<;>first | exact skip s | exact exec s
      ·have e1:=fun (y:X L)=>Out.allR_mono (exec { s with env:=(d,y)::s.env }) fun t ht=>(ext_refine hdW y).trans ht
       have e2:=fun (y:X L)=>Out.allR_mono (skip { s with env:=(d,y)::s.env }) fun t ht=>(ext_refine hdW y).trans ht
       cases want
       ·exact mrg_all (e2 _) (e1 _)
       ·exact mrg_all (e1 _) (e2 _)
      ·trivial
     ·rename_i x _ _ _
      cases undefX x with
      | true=>exact skip s
      | false=>trivial
    ·trivial
def EndsIn (V:Nat→Prop)(s0:Sx L)(g:Gh)(B:Nat)(a:Act)(w:World)(Q:Sx L→Prop)(a':Act)(w':World):Prop :=
 ∃ s' g',Q s'∧RepE (Gr V s0.nx s'.nx) g' s'.env a'∧RepH (Gr V s0.nx s'.nx) g' B s'.hp w'∧Tr V g s0.hp w g' s'.hp w'∧a'.tmps.size=a.tmps.size∧s0.nx≤s'.nx
theorem evOps_sound [LLaws L](hx:CxOK P oD cx){rg:Rg}(hW:rg.written=dsts rg.ops){opsA:Array Oper}(hops:opsA.toList=rg.ops){nt:Nat}(hnt:∀ d∈dsts rg.ops,d < nt){h0:Hp L}(hl:rg.hl=h0.length){Qx:Exit→Act→World→Prop} :
  ∀ (r:List Oper) (i:Nat),(∀ k,r[k]?=rg.ops[i+k]?)→∀ (s:Sx L) (Q:Sx L→Prop) (V:Nat→Prop) (g:Gh) (B:Nat) (a:Act) (w:World),(∃ u,s.hp=u++h0)→(evOps cx rg r s).holds oD Q→(∀ b,V b→b < s.nx)→RepE V g s.env a→RepH V g B s.hp w→nt≤a.tmps.size →
   (∀ a' w',EndsIn V s g B a w Q a' w'→Qx .normal a' w')→wpOps P opsA Qx (List.range' i r.length) a w
 | [],i,hk,s,Q,V,g,B,a,w,hu,hq,hV,hE,hH,hn,hQ=>hQ a w ⟨_,g,hq,(hE.keep _).weak (fun _ x hx=>⟨x,hx,.refl x⟩) (fun _=>Gr.of),hH.weaken fun _=>Gr.of,.refl _ _ _ _,rfl,Nat.le_refl _⟩
 | o::r,i,hk,s,Q,V,g,B,a,w,hu,hq,hV,hE,hH,hn,hQ=>by
  have hoi:rg.ops[i]?=some o:=by simpa using (hk 0).symm
  have hoA:opsA[i]?=some o:=by rw [← Array.getElem?_toList,hops];exact hoi
  have hom:∀ k,r[k]?=rg.ops[i+1+k]?:=fun k=>by have:=hk (k+1);simp only [List.getElem?_cons_succ] at this;rw [this];congr 1;omega
  have hdW:∀ d,o.dst=some d→d∈dsts rg.ops:=fun d hd=>mem_dsts.2 ⟨o,List.mem_of_getElem? hoi,hd⟩
  have hmem:∀ o'∈o::r,o'∈rg.ops:=by
   intro o' ho'
   obtain ⟨k,hk'⟩:=List.getElem?_of_mem ho'
   rw [hk] at hk'
   exact List.mem_of_getElem? hk'
  have hlt:∀ d,o.dst=some d→d < a.tmps.size:=fun d hd=>Nat.lt_of_lt_of_le (hnt d (hdW d hd)) hn
  have ih:=evOps_sound hx hW hops hnt hl (Qx:=Qx) r (i+1) hom
  -- executing
  have exec:∀ (s:Sx L) (Q:Sx L→Prop),(∃ u,s.hp=u++h0)→((evStep cx s.env s.hp s.nx o.op).bind fun (x,h,n)=>evOps cx rg r { env:=putE s.env o.dst x,hp:=h,nx:=n }).holds oD Q→(∀ b,V b→b < s.nx)→RepE V g s.env a→RepH V g B s.hp w →
    (∀ a' w',EndsIn V s g B a w Q a' w'→Qx .normal a' w')→o.wp P a w (wpOps P opsA Qx (List.range' (i+1) r.length)) Qx:=by
   intro s Q hu hq hV hE hH hQ
   rw [Out.holds_bind] at hq
   have hq2:=Out.holds_all hq (evStep_ext hx.ext s.env s.hp s.nx o.op)
   refine Oper.wp_mono ?_ (evStep_sound hx hV hE hH hq2 Qx)
   rintro a' w' ⟨v,⟨x,h',n⟩,g',rfl,⟨hq3,⟨⟨u',hu'⟩,hn'⟩⟩,hrx,hri,hrh,htr⟩
   simp only at hu' hn' hrx hri hrh htr hq3
   obtain ⟨u,hu⟩:=hu
   refine ih { env:=putE s.env o.dst x,hp:=h',nx:=n } Q (Gr V s.nx n) g' B (a.put o.dst v) w' ⟨u'++u,by simp only [hu',hu,List.append_assoc]⟩ hq3 (Gr.lt hV hn') ?_ hrh (by rw [Act.put_size];exact hn) ?_
   ·exact hE.put htr.le (fun b hb=>Gr.of hb) hlt hrx hri
   ·rintro a2 w2 ⟨s2,g2,h1,h2,h3,h4,h5,h6⟩
    exact hQ a2 w2 ⟨s2,g2,h1,h2.weak (fun _ x hx=>⟨x,hx,.refl x⟩) (Gr.trans hn' h6),h3.weaken (Gr.trans hn' h6),htr.trans h4 fun b hb=>Gr.of hb,by rw [h5,Act.put_size],Nat.le_trans hn' h6⟩
  have skip:∀ (s:Sx L) (Q:Sx L→Prop),(∃ u,s.hp=u++h0)→(evOps cx rg r { s with env:=putE s.env o.dst (.tup []) }).holds oD Q→(∀ b,V b→b < s.nx)→RepE V g s.env a→RepH V g B s.hp w →
    (∀ a' w',EndsIn V s g B a w Q a' w'→Qx .normal a' w')→wpOps P opsA Qx (List.range' (i+1) r.length) (a.put o.dst undef) w:=by
   intro s Q hu hq hV hE hH hQ
   refine ih { s with env:=putE s.env o.dst (.tup []) } Q V g B _ w hu hq hV ?_ hH (by rw [Act.put_size];exact hn) ?_
   ·exact hE.put (.refl _ _) (fun _ h=>h) hlt ⟨[],rfl,.nil⟩ (by simp [idsX])
   ·rintro a2 w2 ⟨s2,g2,h1,h2,h3,h4,h5,h6⟩
    exact hQ a2 w2 ⟨s2,g2,h1,h2,h3,h4,by rw [h5,Act.put_size],h6⟩
  have wk:∀ (s1:Sx L),s1.hp=s.hp→s1.nx=s.nx→∀ a' w',EndsIn V s1 g B a w (fun t=>∃ r,Q r∧Wk t r) a' w'→Qx .normal a' w':=by
   rintro s1 e1 e2 a' w' ⟨s2,g2,⟨r2,hr2,hw2⟩,h2,h3,h4,h5,h6⟩
   rw [e1] at h4
   rw [e2] at h2 h3 h6
   refine hQ a' w' ⟨r2,g2,hr2,h2.weak hw2.env (Gr.more hw2.nx),?_,?_,h5,Nat.le_trans h6 hw2.nx⟩
   ·rw [hw2.hp];exact h3.weaken (Gr.more hw2.nx)
   ·rw [hw2.hp];exact h4
  have hlen:(o::r).length=r.length+1:=rfl
  rw [hlen,List.range'_succ]
  simp only [wpOps,hoA]
  simp only [evOps] at hq
  split at hq
  ·rename_i hg
   have hwant:Region.wanted o (yielded opsA a.tmps)=true:=by simp [Region.wanted,hg]
   rw [if_pos hwant]
   exact .inl (exec s Q hu hq hV hE hH hQ)
  ·rename_i j want hg
   split at hq
   ·exact hq.elim
   ·rename_i d hdj
    split at hq
    ·rename_i x hxl
     split at hq
     ·rename_i v hv
      have hdj':dstOf opsA.toList j=some d:=by rw [hops];exact hdj
      split at hq
      ·rename_i t ht
       have hwant:Region.wanted o (yielded opsA a.tmps)=(t == want):=wanted_eq hg (guard_yields hE hdj' hxl hv ht)
       cases htw:(t == want) with
       | true =>
        rw [htw] at hq hwant
        rw [if_pos hwant]
        exact .inl (exec s Q hu hq hV hE hH hQ)
       | false =>
        rw [htw] at hq hwant
        rw [if_neg (by rw [hwant];simp)]
        exact skip s Q hu hq hV hE hH hQ
      ·rename_i t ht
       have hwant:Region.wanted o (yielded opsA a.tmps)=(t == want):=wanted_eq hg (guard_yields hE hdj' hxl hv ht)
       have hdW:d∈rg.written:=by rw [hW];exact dstOf_mem hdj
       have hrm:∀ o'∈o::r,o'∈rg.ops:=hmem
       -- what each way keeps
       have x1:∀ s:Sx L,((evStep cx s.env s.hp s.nx o.op).bind fun (x,h,n)=>evOps cx rg r { env:=putE s.env o.dst x,hp:=h,nx:=n }).allR (ExtS rg.written s):=by
        intro s
        refine Out.allR_bind (Out.allR_mono (evStep_ext hx.ext s.env s.hp s.nx o.op) ?_)
        rintro ⟨x,h,n⟩ ⟨hh,hn⟩
        exact Out.allR_mono (evOps_ext hx.ext hW r (fun o ho=>hrm o (by simp [ho])) _) fun t ht=>(ext_put (by rw [hW];assumption) x h n hh hn).trans ht
       have x2:∀ s:Sx L,(evOps cx rg r { s with env:=putE s.env o.dst (.tup []) }).allR (ExtS rg.written s):=fun s=>Out.allR_mono (evOps_ext hx.ext hW r (fun o ho=>hrm o (by simp [ho])) _) fun t ht=>(ext_put (by rw [hW];assumption) _ s.hp s.nx ⟨[],rfl⟩ (Nat.le_refl _)).trans ht
       have y1:=fun (y:X L)=>Out.allR_mono (x1 { s with env:=(d,y)::s.env }) fun t ht=>(ext_refine hdW y).trans ht
       have y2:=fun (y:X L)=>Out.allR_mono (x2 { s with env:=(d,y)::s.env }) fun t ht=>(ext_refine hdW y).trans ht
       rw [hl] at hq
       have htt:t=true→RepE V g ((d,.s (.c (.im .tt)))::s.env) a:=fun e=>hE.refine hxl hv ht .tt fun G=>by rw [e];exact .tt
       have hff:t=false→RepE V g ((d,.s (.c (.im .ff)))::s.env) a:=fun e=>hE.refine hxl hv ht .ff fun G=>by rw [e];exact .ff
       cases hwv:want with
       | true =>
        rw [hwv] at hq hwant
        rcases mrg_holds hu (y1 _) (y2 _) hq with ⟨ht1,hq⟩ | ⟨ht1,hq⟩
        ·rw [ht1] at hwant;rw [if_pos (by rw [hwant];rfl)]
         exact .inl (exec { s with env:=(d,.s (.c (.im .tt)))::s.env } _ hu hq hV (htt ht1) hH (wk _ rfl rfl))
        ·rw [ht1] at hwant;rw [if_neg (by rw [hwant];decide)]
         exact skip { s with env:=(d,.s (.c (.im .ff)))::s.env } _ hu hq hV (hff ht1) hH (wk _ rfl rfl)
       | false =>
        rw [hwv] at hq hwant
        rcases mrg_holds hu (y2 _) (y1 _) hq with ⟨ht1,hq⟩ | ⟨ht1,hq⟩
        ·rw [ht1] at hwant;rw [if_neg (by rw [hwant];decide)]
         exact skip { s with env:=(d,.s (.c (.im .tt)))::s.env } _ hu hq hV (htt ht1) hH (wk _ rfl rfl)
        ·rw [ht1] at hwant;rw [if_pos (by rw [hwant];rfl)]
         exact .inl (exec { s with env:=(d,.s (.c (.im .ff)))::s.env } _ hu hq hV (hff ht1) hH (wk _ rfl rfl))
      ·exact hq.elim
     ·cases hux:undefX x with
      | false=>rw [hux] at hq;exact hq.elim
      | true =>
       rw [hux] at hq
       have hdj':dstOf opsA.toList j=some d:=by rw [hops];exact hdj
       have hwant:=wanted_none hg (guard_undef hE hdj' hxl hux)
       rw [if_neg (by rw [hwant];simp)]
       exact skip s Q hu hq hV hE hH hQ
    ·exact hq.elim
end
end Go.Ev
/- Regions that draw their order: the path in the order of the text. -/
namespace Go.Ev
open Go.RowKit
variable {L:Type} [LI L]
section
variable {P:Program} {oD:OrcD L} {cx:Cx L}
theorem evDraw_ext [LLaws L]{rg:Rg}(hW:rg.written=dsts rg.ops):∀ (r:List Oper),(∀ o∈r,o∈rg.ops)→∀ (i:Nat) (fp:List Fp) (s:Sx L),s.nx≤rg.base→(evDraw cx rg r i fp s).allR (ExtS rg.written s)
 | [],_,i,fp,s,hb=>by
  simp only [evDraw]
  cases fpOk rg.ops fp with
  | true=>exact ⟨⟨[],rfl⟩,Nat.le_trans hb (Nat.le_add_right _ _),fun d x _ hx=>look_keepE hx⟩
  | false=>trivial
 | o::r,hr,i,fp,s,hb=>by
  have hd:∀ d,o.dst=some d→d∈rg.written:=fun d hd=>by rw [hW];exact mem_dsts.2 ⟨o,hr o (by simp),hd⟩
  have ih:=evDraw_ext hW r (fun o ho=>hr o (by simp [ho])) (i+1)
  have exec:∀ s:Sx L,s.nx≤rg.base→((drawOne cx rg.base o.op i s.env s.hp).bind fun (x,u,ids)=>evDraw cx rg r (i+1) (addFp i ids u fp) { env:=putE s.env o.dst x,hp:=u++s.hp,nx:=s.nx }).allR (ExtS rg.written s):=by
   intro s hb
   refine Out.allR_bind (Out.allR_true ?_)
   rintro ⟨x,u,ids⟩
   exact Out.allR_mono (ih _ _ hb) fun t ht=>(ext_put hd x (u++s.hp) s.nx ⟨u,rfl⟩ (Nat.le_refl _)).trans ht
  have skip:∀ s:Sx L,s.nx≤rg.base→(evDraw cx rg r (i+1) fp { s with env:=putE s.env o.dst (.tup []) }).allR (ExtS rg.written s):=fun s hb=>Out.allR_mono (ih _ _ hb) fun t ht=>(ext_put hd _ s.hp s.nx ⟨[],rfl⟩ (Nat.le_refl _)).trans ht
  simp only [evDraw]
  split
  ·exact exec s hb
  ·rename_i j want hg
   split
   ·trivial
   ·rename_i d hdj
    have hdW:d∈rg.written:=by rw [hW];exact dstOf_mem hdj
    split
    ·split
     ·split
      ·rename_i t ht
       cases t == want<;>first | exact skip s hb | exact exec s hb
      ·have e1:=fun (y:X L)=>Out.allR_mono (exec { s with env:=(d,y)::s.env } hb) fun t ht=>(ext_refine hdW y).trans ht
       have e2:=fun (y:X L)=>Out.allR_mono (skip { s with env:=(d,y)::s.env } hb) fun t ht=>(ext_refine hdW y).trans ht
       cases want
       ·exact mrg_all (e2 _) (e1 _)
       ·exact mrg_all (e1 _) (e2 _)
      ·trivial
     ·rename_i x _ _ _
      cases undefX x with
      | true=>exact skip s hb
      | false=>trivial
    ·trivial
def View (e e':List (Nat×X L)):Prop:=∀ d y,look e' d=some y→∃ z,look e d=some z∧LeX z y
theorem View.refl (e:List (Nat×X L)):View e e:=fun _ y hy=>⟨y,hy,.refl y⟩
theorem LeX.trans {a b c:X L}(h:LeX a b)(k:LeX b c):LeX a c:=⟨fun g v hv=>k.1 g v (h.1 g v hv),fun x hx=>h.2 x (k.2 x hx)⟩
theorem View.trans {a b c:List (Nat×X L)}(h:View a b)(k:View b c):View a c:=fun d y hy=>let ⟨z,hz,l⟩:=k d y hy;let ⟨z',hz',l'⟩:=h d z hz;⟨z',hz',l'.trans l⟩
theorem View.put {e e':List (Nat×X L)}(h:View e e')(dst:Option Tmp)(x:X L):View (putE e dst x) (putE e' dst x):=by
 cases dst with
 | none=>exact h
 | some k =>
  intro d y hy
  simp only [putE] at hy ⊢
  rw [look_cons] at hy ⊢
  split
  ·rename_i hk;rw [if_pos hk] at hy;cases hy;exact ⟨x,rfl,.refl x⟩
  ·rename_i hk;rw [if_neg hk] at hy;exact h d y hy
def guardIs (ops:List Oper)(o:Oper)(e:List (Nat×X L))(b:Bool):Prop :=
 match o.guard with
 | none=>b=true
 | some (j,want)=>(∃ d y i t,dstOf ops j=some d∧look e d=some y∧imOf y=some i∧boolV i=some t∧(t.1 == want)=b)∨(b=false∧∃ d y,dstOf ops j=some d∧look e d=some y∧undefX y=true)
structure Ev1 (L:Type) where
 ex:Bool
 env:List (Nat×X L)
 ids:List Nat
 x:X L
 u:Hp L
inductive Path (cx:Cx L) (oD:OrcD L) (base:Nat) (ops:List Oper):List Oper→Nat→List Fp→Sx L→List (Ev1 L)→List Fp→Sx L→Prop
 | nil {i fp s}:Path cx oD base ops [] i fp s [] fp s
 | exec {o r i fp s e x u ids evs fp' s'} (hv:View s.env e) (hg:guardIs ops o e true) (hs:(drawOne cx base o.op i e s.hp).holds oD fun q=>q=(x,u,ids))
   (hr:Path cx oD base ops r (i+1) (addFp i ids u fp) { env:=putE e o.dst x,hp:=u++s.hp,nx:=s.nx } evs fp' s'):Path cx oD base ops (o::r) i fp s (⟨true,e,ids,x,u⟩::evs) fp' s'
 | skip {o r i fp s e evs fp' s'} (hv:View s.env e) (hg:guardIs ops o e false)
   (hr:Path cx oD base ops r (i+1) fp { s with env:=putE e o.dst (.tup []) } evs fp' s'):Path cx oD base ops (o::r) i fp s (⟨false,e,[],.tup [],[]⟩::evs) fp' s'
theorem leX_bool {x:X L}{i:I L}(hi:imOf x=some i){t:Bool×Bool}(ht:boolV i=some t){y:I L}(hy:∀ G:Fz,RepI G y (.bool t.1)):LeX x (.s (.c (.im y))):=by
 refine ⟨fun g v hv=>?_,by simp [idsX,idsS,cellsOf,idsC]⟩
 cases x with
 | s x=>cases x with
  | c x=>cases x with
   | im x =>
    simp only [imOf,Option.some.injEq] at hi;subst hi
    have:=boolV_val ht hv;subst this;exact hy g.G
   | _=>simp [imOf] at hi
  | agg _=>simp [imOf] at hi
 | tup _=>simp [imOf] at hi
theorem View.refine {e:List (Nat×X L)}{d:Nat}{x:X L}(hx:look e d=some x){y:X L}(hy:LeX x y):View e ((d,y)::e):=by
 intro k z hz
 rw [look_cons] at hz
 split at hz
 ·rename_i hk;subst hk;cases hz;exact ⟨x,hx,hy⟩
 ·exact ⟨z,hz,.refl z⟩
theorem evDraw_path [LLaws L]{rg:Rg}(hW:rg.written=dsts rg.ops){h0:Hp L}(hl:rg.hl=h0.length):∀ (r:List Oper),(∀ o∈r,o∈rg.ops)→∀ (i:Nat) (fp:List Fp) (s:Sx L) (Q:Sx L→Prop),s.nx≤rg.base→(∃ u,s.hp=u++h0) →
  (evDraw cx rg r i fp s).holds oD Q→∃ evs fp' s',Path cx oD rg.base rg.ops r i fp s evs fp' s'∧fpOk rg.ops fp'=true∧∃ q,Q q∧Wk { env:=keepE s'.env rg.live,hp:=s'.hp,nx:=rg.base+(i+r.length) * stride } q
 | [],_,i,fp,s,Q,hb,hu,hq=>by
  simp only [evDraw] at hq
  cases hf:fpOk rg.ops fp with
  | false=>rw [hf] at hq;exact hq.elim
  | true=>rw [hf] at hq;exact ⟨[],fp,s,.nil,hf,_,hq,.refl _⟩
 | o::r,hr,i,fp,s,Q,hb,hu,hq=>by
  have hd:∀ d,o.dst=some d→d∈rg.written:=fun d hd=>by rw [hW];exact mem_dsts.2 ⟨o,hr o (by simp),hd⟩
  have ih:=evDraw_path hW hl r (fun o ho=>hr o (by simp [ho])) (i+1)
  have hi:i+1+r.length=i+(o::r).length:=by simp;omega
  rw [hi] at ih
  have exec:∀ (e:List (Nat×X L)) (Q:Sx L→Prop),View s.env e→guardIs rg.ops o e true→((drawOne cx rg.base o.op i e s.hp).bind fun (x,u,ids)=>evDraw cx rg r (i+1) (addFp i ids u fp) { env:=putE e o.dst x,hp:=u++s.hp,nx:=s.nx }).holds oD Q →
    ∃ evs fp' s',Path cx oD rg.base rg.ops (o::r) i fp s evs fp' s'∧fpOk rg.ops fp'=true∧∃ q,Q q∧Wk { env:=keepE s'.env rg.live,hp:=s'.hp,nx:=rg.base+(i+(o::r).length) * stride } q:=by
   intro e Q hv hg hq
   rw [Out.holds_bind] at hq
   obtain ⟨⟨x,u,ids⟩,hq,hs⟩:=Out.holds_ex hq
   obtain ⟨u0,hu0⟩:=hu
   obtain ⟨evs,fp',s',hp,hf,hw⟩:=ih (addFp i ids u fp) { env:=putE e o.dst x,hp:=u++s.hp,nx:=s.nx } Q hb ⟨u++u0,by simp only [hu0,List.append_assoc]⟩ hq
   exact ⟨_,fp',s',.exec hv hg hs hp,hf,hw⟩
  have skip:∀ (e:List (Nat×X L)) (Q:Sx L→Prop),View s.env e→guardIs rg.ops o e false→(evDraw cx rg r (i+1) fp { s with env:=putE e o.dst (.tup []) }).holds oD Q →
    ∃ evs fp' s',Path cx oD rg.base rg.ops (o::r) i fp s evs fp' s'∧fpOk rg.ops fp'=true∧∃ q,Q q∧Wk { env:=keepE s'.env rg.live,hp:=s'.hp,nx:=rg.base+(i+(o::r).length) * stride } q:=by
   intro e Q hv hg hq
   obtain ⟨evs,fp',s',hp,hf,hw⟩:=ih fp { s with env:=putE e o.dst (.tup []) } Q hb hu hq
   exact ⟨_,fp',s',.skip hv hg hp,hf,hw⟩
  have wk:(∃ evs fp' s',Path cx oD rg.base rg.ops (o::r) i fp s evs fp' s'∧fpOk rg.ops fp'=true∧∃ q,(∃ r,Q r∧Wk q r)∧Wk { env:=keepE s'.env rg.live,hp:=s'.hp,nx:=rg.base+(i+(o::r).length) * stride } q) →
    ∃ evs fp' s',Path cx oD rg.base rg.ops (o::r) i fp s evs fp' s'∧fpOk rg.ops fp'=true∧∃ q,Q q∧Wk { env:=keepE s'.env rg.live,hp:=s'.hp,nx:=rg.base+(i+(o::r).length) * stride } q:=by
   rintro ⟨evs,fp',s',h1,h2,q,⟨r2,h3,h4⟩,h5⟩
   exact ⟨evs,fp',s',h1,h2,r2,h3,h5.trans h4⟩
  simp only [evDraw] at hq
  split at hq
  ·rename_i hg
   have hgt:guardIs rg.ops o s.env true:=by unfold guardIs;rw [hg]
   exact exec s.env Q (.refl _) hgt hq
  ·rename_i j want hg
   split at hq
   ·exact hq.elim
   ·rename_i d hdj
    split at hq
    ·rename_i x hxl
     split at hq
     ·rename_i v hv
      split at hq
      ·rename_i t ht
       have hgi:guardIs rg.ops o s.env (t == want):=by
        unfold guardIs;rw [hg]
        exact .inl ⟨d,x,v,_,hdj,hxl,hv,ht,rfl⟩
       cases htw:(t == want) with
       | true=>rw [htw] at hq hgi;exact exec s.env Q (.refl _) hgi hq
       | false=>rw [htw] at hq hgi;exact skip s.env Q (.refl _) hgi hq
      ·rename_i t ht
       have hdW:d∈rg.written:=by rw [hW];exact dstOf_mem hdj
       have x1:∀ s:Sx L,s.nx≤rg.base→((drawOne cx rg.base o.op i s.env s.hp).bind fun (x,u,ids)=>evDraw cx rg r (i+1) (addFp i ids u fp) { env:=putE s.env o.dst x,hp:=u++s.hp,nx:=s.nx }).allR (ExtS rg.written s):=by
        intro s hb
        refine Out.allR_bind (Out.allR_true ?_)
        rintro ⟨x,u,ids⟩
        exact Out.allR_mono (evDraw_ext hW r (fun o ho=>hr o (by simp [ho])) _ _ _ hb) fun t ht=>(ext_put hd x (u++s.hp) s.nx ⟨u,rfl⟩ (Nat.le_refl _)).trans ht
       have x2:∀ s:Sx L,s.nx≤rg.base→(evDraw cx rg r (i+1) fp { s with env:=putE s.env o.dst (.tup []) }).allR (ExtS rg.written s):=fun s hb=>Out.allR_mono (evDraw_ext hW r (fun o ho=>hr o (by simp [ho])) _ _ _ hb) fun t ht=>(ext_put hd _ s.hp s.nx ⟨[],rfl⟩ (Nat.le_refl _)).trans ht
       have y1:=fun (y:X L)=>Out.allR_mono (x1 { s with env:=(d,y)::s.env } hb) fun t ht=>(ext_refine hdW y).trans ht
       have y2:=fun (y:X L)=>Out.allR_mono (x2 { s with env:=(d,y)::s.env } hb) fun t ht=>(ext_refine hdW y).trans ht
       rw [hl] at hq
       have vtt:t=true→View s.env ((d,.s (.c (.im .tt)))::s.env):=fun e=>View.refine hxl (leX_bool hv ht fun G=>by rw [e];exact .tt)
       have vff:t=false→View s.env ((d,.s (.c (.im .ff)))::s.env):=fun e=>View.refine hxl (leX_bool hv ht fun G=>by rw [e];exact .ff)
       have gtt:guardIs rg.ops o ((d,.s (.c (.im .tt)))::s.env) (true == want):=by
        unfold guardIs;rw [hg]
        exact .inl ⟨d,_,.tt,(true,true),hdj,by rw [look_cons,if_pos rfl],rfl,rfl,rfl⟩
       have gff:guardIs rg.ops o ((d,.s (.c (.im .ff)))::s.env) (false == want):=by
        unfold guardIs;rw [hg]
        exact .inl ⟨d,_,.ff,(false,true),hdj,by rw [look_cons,if_pos rfl],rfl,rfl,rfl⟩
       cases hwv:want with
       | true =>
        rw [hwv] at hq gtt gff
        rcases mrg_holds hu (y1 _) (y2 _) hq with ⟨ht1,hq⟩ | ⟨ht1,hq⟩
        ·exact wk (exec _ _ (vtt ht1) gtt hq)
        ·exact wk (skip _ _ (vff ht1) gff hq)
       | false =>
        rw [hwv] at hq gtt gff
        rcases mrg_holds hu (y2 _) (y1 _) hq with ⟨ht1,hq⟩ | ⟨ht1,hq⟩
        ·exact wk (skip _ _ (vtt ht1) gtt hq)
        ·exact wk (exec _ _ (vff ht1) gff hq)
      ·exact hq.elim
     ·cases hux:undefX x with
      | false=>rw [hux] at hq;exact hq.elim
      | true =>
       rw [hux] at hq
       have hgi:guardIs rg.ops o s.env false:=by
        unfold guardIs;rw [hg]
        exact .inr ⟨rfl,d,x,hdj,hxl,hux⟩
       exact skip s.env Q (.refl _) hgi hq
    ·exact hq.elim
end
end Go.Ev
/- Regions that draw their order: states by sets of operations. -/
namespace Go.Ev
open Go.RowKit
variable {L:Type} [LI L]
def dstAt (ops:List Oper)(k:Nat):Option Tmp:=(ops[k]?).bind (·.dst)
def envG (ops:List Oper)(F:Nat→Ev1 L)(env0:List (Nat×X L))(S:Nat→Bool):Nat→List (Nat×X L)
 | 0=>env0
 | k+1=>cond (S k) (putE (envG ops F env0 S k) (dstAt ops k) (F k).x) (envG ops F env0 S k)
def hpG (F:Nat→Ev1 L)(h0:Hp L)(S:Nat→Bool):Nat→Hp L
 | 0=>h0
 | k+1=>cond (S k) ((F k).u++hpG F h0 S k) (hpG F h0 S k)
def all (_:Nat):Bool:=true
section
variable {P:Program} {oD:OrcD L} {cx:Cx L} {ops:List Oper} {F:Nat→Ev1 L} {env0:List (Nat×X L)} {h0:Hp L} {base:Nat}
omit [LI L] in
theorem envG_look {S:Nat→Bool}{d m:Nat}:∀ n,m≤n→(∀ k,k < n→dstAt ops k=some d→S k=decide (k < m))→look (envG ops F env0 S n) d=look (envG ops F env0 all m) d:=by
 have low:∀ n,n≤m→(∀ k,k < n→dstAt ops k=some d→S k=true)→look (envG ops F env0 S n) d=look (envG ops F env0 all n) d:=by
  intro n
  induction n with
  | zero=>intro _ _;rfl
  | succ n ih =>
   intro hn hk
   have ih:=ih (by omega) fun k hkn=>hk k (by omega)
   simp only [envG,all,cond_true]
   cases hd:dstAt ops n with
   | none=>cases S n<;>simpa [putE] using ih
   | some d' =>
    by_cases he:d'=d
    ·subst he
     rw [hk n (by omega) hd]
     simp [putE,look_cons]
    ·cases S n<;>simpa [putE,look_cons,he] using ih
 intro n
 induction n with
 | zero =>
  intro hm _;have:m=0:=by omega
  subst this;rfl
 | succ n ih =>
  intro hm hk
  by_cases hmn:m=n+1
  ·subst hmn
   exact low (n+1) (Nat.le_refl _) fun k hkn hd=>by rw [hk k hkn hd];simp;omega
  ·have ih:=ih (by omega) fun k hkn=>hk k (by omega)
   rw [← ih]
   simp only [envG]
   cases hd:dstAt ops n with
   | none=>cases S n<;>rfl
   | some d' =>
    by_cases he:d'=d
    ·subst he
     have:=hk n (by omega) hd
     rw [this]
     have:decide (n < m)=false:=by simp;omega
     rw [this];rfl
    ·cases S n<;>simp [putE,look_cons,he]
omit [LI L] in
theorem hpG_look {S:Nat→Bool}{b m:Nat}:∀ n,m≤n→(∀ k,k < n→(∃ e,look (F k).u b=some e)→S k=decide (k < m))→look (hpG F h0 S n) b=look (hpG F h0 all m) b:=by
 have low:∀ n,n≤m→(∀ k,k < n→(∃ e,look (F k).u b=some e)→S k=true)→look (hpG F h0 S n) b=look (hpG F h0 all n) b:=by
  intro n
  induction n with
  | zero=>intro _ _;rfl
  | succ n ih =>
   intro hn hk
   have ih:=ih (by omega) fun k hkn=>hk k (by omega)
   simp only [hpG,all,cond_true]
   cases hd:look (F n).u b with
   | none=>cases S n<;>simpa [look_append,hd] using ih
   | some e=>rw [hk n (by omega) ⟨e,hd⟩];simp [look_append,hd]
 intro n
 induction n with
 | zero =>
  intro hm _;have:m=0:=by omega
  subst this;rfl
 | succ n ih =>
  intro hm hk
  by_cases hmn:m=n+1
  ·subst hmn
   exact low (n+1) (Nat.le_refl _) fun k hkn hd=>by rw [hk k hkn hd];simp;omega
  ·have ih:=ih (by omega) fun k hkn=>hk k (by omega)
   rw [← ih]
   simp only [hpG]
   cases hd:look (F n).u b with
   | none=>cases S n<;>simp [look_append,hd]
   | some e =>
    have:=hk n (by omega) ⟨e,hd⟩
    rw [this]
    have:decide (n < m)=false:=by simp;omega
    rw [this];rfl
omit [LI L] in
theorem envG_congr {S S':Nat→Bool}:∀ n,(∀ k,k < n→S k=S' k)→envG ops F env0 S n=envG ops F env0 S' n
 | 0,_=>rfl
 | n+1,h=>by simp only [envG];rw [h n (by omega),envG_congr n fun k hk=>h k (by omega)]
omit [LI L] in
theorem hpG_congr {S S':Nat→Bool}:∀ n,(∀ k,k < n→S k=S' k)→hpG F h0 S n=hpG F h0 S' n
 | 0,_=>rfl
 | n+1,h=>by simp only [hpG];rw [h n (by omega),hpG_congr n fun k hk=>h k (by omega)]
structure Fact (cx:Cx L) (oD:OrcD L) (base:Nat) (ops:List Oper) (F:Nat→Ev1 L) (env0:List (Nat×X L)) (h0:Hp L) (fpF:List Fp) (k:Nat) (o:Oper):Prop where
 view:View (envG ops F env0 all k) (F k).env
 guard:guardIs ops o (F k).env (F k).ex
 exec:(F k).ex=true→(drawOne cx base o.op k (F k).env (hpG F h0 all k)).holds oD fun q=>q=((F k).x,(F k).u,(F k).ids)
 skip:(F k).ex=false→(F k).x=.tup []∧(F k).u=[]
 fp:(F k).ids≠[]∨(F k).u≠[]→⟨k,(F k).ids,(F k).u.map (·.1)⟩∈fpF
theorem Path.fp_sub {r:List Oper}{i:Nat}{fp:List Fp}{s:Sx L}{evs:List (Ev1 L)}{fp':List Fp}{s':Sx L}(hp:Path cx oD base ops r i fp s evs fp' s'):∀ p∈fp,p∈fp':=by
 induction hp with
 | nil=>exact fun _ h=>h
 | exec hv hg hs hr ih =>
  intro p hp
  refine ih p ?_
  unfold addFp
  split
  ·exact hp
  ·simp [hp]
 | skip hv hg hr ih=>exact ih
omit [LI L] in
theorem addFp_mem {i:Nat}{d:List Nat}{u:Hp L}{fp:List Fp}(h:d≠[]∨u≠[]):⟨i,d,u.map (·.1)⟩∈addFp i d u fp:=by
 unfold addFp
 split
 ·simp at h
 ·simp
theorem Path.facts {r:List Oper}{i:Nat}{fp:List Fp}{s:Sx L}{evs:List (Ev1 L)}{fp':List Fp}{s':Sx L}(hp:Path cx oD base ops r i fp s evs fp' s') :
  (∀ m e,evs[m]?=some e→F (i+m)=e)→(∀ m,r[m]?=ops[i+m]?)→View (envG ops F env0 all i) s.env→s.hp=hpG F h0 all i →
   (∀ m o,r[m]?=some o→Fact cx oD base ops F env0 h0 fp' (i+m) o)∧View (envG ops F env0 all (i+r.length)) s'.env∧s'.hp=hpG F h0 all (i+r.length):=by
 induction hp with
 | nil=>intro _ _ hv hh;exact ⟨by simp,hv,hh⟩
 | @exec o r i fp s e x u ids evs fp' s' hv hg hs hr ih =>
  intro hF ho hview hh
  have hF0:F i=⟨true,e,ids,x,u⟩:=hF 0 _ rfl
  have hoi:ops[i]?=some o:=by simpa using (ho 0).symm
  have hdi:dstAt ops i=o.dst:=by simp [dstAt,hoi]
  have h1:=ih (fun m e' he=>by have:=hF (m+1) e' (by simpa using he);rw [← this];congr 1;omega) (fun m=>by have:=ho (m+1);simp only [List.getElem?_cons_succ] at this;rw [this];congr 1;omega)
   (by
    simp only [envG,all,cond_true,hdi,hF0]
    exact (hview.trans hv).put _ _)
   (by simp only [hpG,all,cond_true,hF0,hh])
  have hlen:i+1+r.length=i+(o::r).length:=by simp;omega
  rw [hlen] at h1
  refine ⟨?_,h1.2⟩
  intro m o' hm
  cases m with
  | zero =>
   simp at hm;subst hm
   exact ⟨by rw [Nat.add_zero,hF0];exact hview.trans hv,by rw [Nat.add_zero,hF0];exact hg,(fun _=>by rw [Nat.add_zero,hF0];rw [hh] at hs;exact hs),(fun h=>by rw [Nat.add_zero,hF0] at h;cases h),
    (fun h=>by rw [Nat.add_zero,hF0] at h ⊢;exact hr.fp_sub _ (addFp_mem h))⟩
  | succ m =>
   have:=h1.1 m o' (by simpa using hm)
   have e1:i+1+m=i+(m+1):=by omega
   rw [e1] at this;exact this
 | @skip o r i fp s e evs fp' s' hv hg hr ih =>
  intro hF ho hview hh
  have hF0:F i=⟨false,e,[],.tup [],[]⟩:=hF 0 _ rfl
  have hoi:ops[i]?=some o:=by simpa using (ho 0).symm
  have hdi:dstAt ops i=o.dst:=by simp [dstAt,hoi]
  have h1:=ih (fun m e' he=>by have:=hF (m+1) e' (by simpa using he);rw [← this];congr 1;omega) (fun m=>by have:=ho (m+1);simp only [List.getElem?_cons_succ] at this;rw [this];congr 1;omega)
   (by
    simp only [envG,all,cond_true,hdi,hF0]
    exact (hview.trans hv).put _ _)
   (by simp only [hpG,all,cond_true,hF0,hh];rfl)
  have hlen:i+1+r.length=i+(o::r).length:=by simp;omega
  rw [hlen] at h1
  refine ⟨?_,h1.2⟩
  intro m o' hm
  cases m with
  | zero =>
   simp at hm;subst hm
   exact ⟨by rw [Nat.add_zero,hF0];exact hview.trans hv,by rw [Nat.add_zero,hF0];exact hg,(fun h=>by rw [Nat.add_zero,hF0] at h;cases h),(fun _=>by rw [Nat.add_zero,hF0];exact ⟨rfl,rfl⟩),
    fun h=>by rw [Nat.add_zero,hF0] at h;simp at h⟩
  | succ m =>
   have:=h1.1 m o' (by simpa using hm)
   have e1:i+1+m=i+(m+1):=by omega
   rw [e1] at this;exact this
/- Order. -/
def Closed (ops:List Oper)(S:Nat→Bool):Prop:=∀ j o,ops[j]?=some o→S j=true→∀ e∈o.after,Region.binds .any e=true→S e.on=true
theorem edgeTo_spec {i j:Nat}(h:edgeTo ops i j=true):∃ o,ops[j]?=some o∧∃ e∈o.after,Region.binds .any e=true∧e.on=i:=by
 unfold edgeTo at h
 rw [nth_eq] at h
 split at h
 ·rename_i o ho
  simp only [List.any_eq_true,Bool.and_eq_true,Nat.beq_eq] at h
  obtain ⟨e,he,h1,h2⟩:=h
  exact ⟨o,ho,e,by simpa using he,h2,h1⟩
 ·cases h
theorem waits_first {n:Nat}:∀ {i j:Nat},waits ops n i j=true→∃ o,ops[j]?=some o∧∃ e∈o.after,Region.binds .any e=true∧(e.on=i∨∃ n',n' < n∧waits ops n' i e.on=true):=by
 intro i j h
 cases n with
 | zero =>
  obtain ⟨o,ho,e,he,hb,hi⟩:=edgeTo_spec h
  exact ⟨o,ho,e,he,hb,.inl hi⟩
 | succ n =>
  simp only [waits,Bool.or_eq_true] at h
  rcases h with h | h
  ·obtain ⟨o,ho,e,he,hb,hi⟩:=edgeTo_spec h
   exact ⟨o,ho,e,he,hb,.inl hi⟩
  ·rw [nth_eq] at h
   split at h
   ·rename_i o ho
    simp only [List.any_eq_true,Bool.and_eq_true] at h
    obtain ⟨e,he,h1,h2⟩:=h
    exact ⟨o,ho,e,by simpa using he,h1,.inr ⟨n,Nat.lt_succ_self _,h2⟩⟩
   ·cases h
theorem edgesOk_spec:∀ (r:List Oper) (i:Nat),edgesOk r i=true→∀ k o,r[k]?=some o→∀ e∈o.after,Region.binds .any e=true→e.on < i+k
 | [],_,_,k,o,hk=>by simp at hk
 | p::r,i,h,k,o,hk=>by
  simp only [edgesOk,Bool.and_eq_true,List.all_eq_true,Bool.or_eq_true,Bool.not_eq_true',Nat.ble_eq] at h
  intro e he hb
  cases k with
  | zero =>
   simp at hk;subst hk
   rcases h.1 e (by simpa using he) with h1 | h1
   ·rw [h1] at hb;cases hb
   ·omega
  | succ k =>
   have:=edgesOk_spec r (i+1) h.2 k o (by simpa using hk) e he hb
   omega
theorem waits_lt (hed:edgesOk ops 0=true):∀ {n i j:Nat},waits ops n i j=true→i < j:=by
 intro n
 induction n using Nat.strongRecOn with
 | _ n ih =>
  intro i j h
  obtain ⟨o,ho,e,he,hb,hi⟩:=waits_first h
  have h1:=edgesOk_spec ops 0 hed j o ho e he hb
  rcases hi with rfl | ⟨n',hn',hw⟩
  ·omega
  ·have:=ih n' hn' hw;omega
theorem waits_closed {S:Nat→Bool}(hc:Closed ops S):∀ {n i j:Nat},waits ops n i j=true→(∀ o,ops[j]?=some o→∀ e∈o.after,Region.binds .any e=true→S e.on=true)→S i=true:=by
 intro n
 induction n using Nat.strongRecOn with
 | _ n ih =>
  intro i j h hj
  obtain ⟨o,ho,e,he,hb,hi⟩:=waits_first h
  have h1:=hj o ho e he hb
  rcases hi with rfl | ⟨n',hn',hw⟩
  ·exact h1
  ·exact ih n' hn' hw fun o' ho' e' he' hb'=>hc _ o' ho' h1 e' he' hb'
theorem ordered_next (hed:edgesOk ops 0=true){S:Nat→Bool}(hc:Closed ops S){i k:Nat}(hi:S i=false)(hrdy:∀ o,ops[i]?=some o→∀ e∈o.after,Region.binds .any e=true→S e.on=true)
  (h:ordered ops k i=true):S k=decide (k < i):=by
 simp only [ordered,Bool.or_eq_true] at h
 rcases h with h | h
 ·have:=waits_lt hed h
  rw [waits_closed hc h hrdy];simp [this]
 ·have hlt:=waits_lt hed h
  cases hk:S k with
  | false=>simp;omega
  | true =>
   have:=waits_closed hc h fun o ho e he hb=>hc k o ho hk e he hb
   rw [hi] at this;cases this
theorem ordered_comm {i k:Nat}(h:ordered ops k i=true):ordered ops i k=true:=by
 simp only [ordered,Bool.or_eq_true] at h ⊢;exact h.symm
theorem tmpsOkFrom_spec {i:Nat}{d:Tmp}:∀ (r:List Oper) (j:Nat),tmpsOkFrom ops i d r j=true→∀ k o,r[k]?=some o→i≠j+k→d∈named ops o→ordered ops i (j+k)=true
 | [],_,_,k,o,hk=>by simp at hk
 | p::r,j,h,k,o,hk=>by
  simp only [tmpsOkFrom,Bool.and_eq_true,Bool.or_eq_true,Nat.beq_eq,Bool.not_eq_true'] at h
  intro hne hd
  cases k with
  | zero =>
   simp at hk;subst hk
   rcases h.1 with h1 | h1 | h1
   ·exact absurd h1 hne
   ·rw [mem_iff.2 hd] at h1;cases h1
   ·exact h1
  | succ k =>
   have e1:j+1+k=j+(k+1):=by omega
   have:=tmpsOkFrom_spec r (j+1) h.2 k o (by simpa using hk) (by rw [e1];exact hne) hd
   rw [e1] at this;exact this
theorem tmpsOk_spec:∀ (r:List Oper) (i:Nat),tmpsOk ops r i=true→∀ k o d,r[k]?=some o→o.dst=some d→∀ j o',ops[j]?=some o'→i+k≠j→d∈named ops o'→ordered ops (i+k) j=true
 | [],_,_,k,o,d,hk=>by simp at hk
 | p::r,i,h,k,o,d,hk=>by
  simp only [tmpsOk,Bool.and_eq_true] at h
  intro hd j o' hj hne hn
  cases k with
  | zero =>
   simp at hk;subst hk
   rw [hd] at h
   have:=tmpsOkFrom_spec ops 0 h.1 j o' hj (by simpa using hne) hn
   simpa using this
  | succ k =>
   have e1:i+1+k=i+(k+1):=by omega
   have:=tmpsOk_spec r (i+1) h.2 k o d (by simpa using hk) hd j o' hj (by rw [e1];exact hne) hn
   rw [e1] at this;exact this
theorem clash_iff {a b:List Nat}:clash a b=true↔∃ x,x∈a∧x∈b:=by
 simp [clash,List.any_eq_true,mem_iff]
theorem fpOk_spec:∀ {fp:List Fp},fpOk ops fp=true→∀ p∈fp,∀ q∈fp,p.i≠q.i→(∀ x,x∈p.w→x ∉ q.d∧x ∉ q.w)∨ordered ops p.i q.i=true
 | [],_,p,hp=>by simp at hp
 | f::r,h,p,hp=>by
  simp only [fpOk,Bool.and_eq_true,List.all_eq_true,Bool.or_eq_true,Bool.not_eq_true'] at h
  intro q hq hne
  have key:∀ q∈r,((∀ x,x∈f.w→x ∉ q.d∧x ∉ q.w)∧(∀ x,x∈q.w→x ∉ f.d∧x ∉ f.w))∨ordered ops f.i q.i=true:=by
   intro q hq
   rcases h.1 q hq with h1 | h1
   ·simp only [Bool.or_eq_false_iff] at h1
    obtain ⟨h1,h2,h3⟩:=h1
    rw [← Bool.not_eq_true,clash_iff] at h1 h2 h3
    exact .inl ⟨fun x hx=>⟨fun hd=>h1 ⟨x,hx,hd⟩,fun hw=>h3 ⟨x,hx,hw⟩⟩,fun x hx=>⟨fun hd=>h2 ⟨x,hx,hd⟩,fun hw=>h3 ⟨x,hw,hx⟩⟩⟩
   ·exact .inr h1
  rcases List.mem_cons.1 hp with rfl | hp'<;>rcases List.mem_cons.1 hq with rfl | hq'
  ·exact absurd rfl hne
  ·exact (key q hq').imp (·.1) id
  ·exact (key p hp').imp (·.2) ordered_comm
  ·exact fpOk_spec h.2 p hp' q hq' hne
end
end Go.Ev
/- Regions that draw their order: any order. -/
namespace Go.Ev
open Go.RowKit
variable {L:Type} [LI L]
omit [LI L] in
theorem renC_one (x:C L):renC (fun b=>b) x=x:=by
 have e:∀ l:List (Nat×Nat),l.map (renP fun b=>b)=l:=fun l=>by
  conv=>rhs;rw [← List.map_id l]
  exact List.map_congr_left fun p _=>rfl
 cases x<;>simp only [renC,e]
omit [LI L] in
theorem renEn_one (e:En L):renEn (fun b=>b) e=e:=by
 cases e with
 | var cs t =>
  simp only [renEn]
  congr 1
  conv=>rhs;rw [← List.map_id cs]
  exact List.map_congr_left fun c _=>renC_one c
 | _=>rfl
section
variable {P:Program} {oD:OrcD L} {cx:Cx L} {ops:List Oper} {F:Nat→Ev1 L} {env0:List (Nat×X L)} {h0:Hp L} {base:Nat}
variable {U U2 K:Nat→Prop} {g g2:Gh} {B:Nat} {H u:Hp L} {w w':World}
theorem draw_back (hH:RepH U g B H w)(ids:List Nat)(tr:Tr K g (restrict H ids) w g2 (u++restrict H ids) w')(h2:RepH U2 g2 B (u++restrict H ids) w')(hK:∀ b,U2 b→(K b∧U b)∨¬ U b) :
  ∃ g',RepH (fun b=>U b∨U2 b) g' B (u++H) w'∧Tr U g H w g' (u++H) w'∧GhLe U2 g2 g':=by
 have hb:=RepH.back (φ:=fun b=>b) (φ2:=fun b=>b) (h':=u++H) hH (fun b=>b∈ids) (fun i e hi=>by rw [renEn_one];exact (restrict_look hi).2) (fun i e hi=>(restrict_look hi).1) tr h2
  (fun i hi=>(hK i hi).imp (fun h=>⟨h.1,rfl,h.2⟩) id) (fun i j _ _ h=>h) (by
   intro b e' hb
   rw [look_append] at hb
   cases h1:look u b with
   | some x =>
    rw [h1] at hb;cases hb
    exact .inl ⟨b,e',rfl,by rw [look_append,h1],(renEn_one e').symm⟩
   | none =>
    rw [h1] at hb
    by_cases hm:b∈ids
    ·exact .inl ⟨b,e',rfl,by rw [look_append,h1];simp only [];rw [look_restrict hm];exact hb,(renEn_one e').symm⟩
    ·exact .inr (.inr ⟨hb,hm⟩))
 refine ⟨_,hb.1.weaken ?_,hb.2.1,hb.2.2⟩
 rintro b (h | ⟨i,hi,rfl⟩)
 ·exact .inl h
 ·exact .inr hi
omit [LI L] in
theorem restrict_congr {H H':Hp L}{ids:List Nat}(h:∀ b∈ids,look H b=look H' b):restrict H ids=restrict H' ids:=by
 induction ids with
 | nil=>rfl
 | cons x r ih =>
  have ih:=ih fun b hb=>h b (by simp [hb])
  simp only [restrict,List.filterMap_cons] at ih ⊢
  rw [h x (by simp),ih]
omit [LI L] in
theorem callee_none {env:List (Nat×X L)}{o:Op}(h:isCall o=false):callee env o=none:=by
 unfold callee
 split
 ·simp [isCall] at h
 ·rfl
omit [LI L] in
theorem keepE_look_iff {env:List (Nat×X L)}{live:List Nat}{d:Nat}{x:X L}(h:look (keepE env live) d=some x):d∈live:=by
 induction live with
 | nil=>simp [keepE,look] at h
 | cons k r ih =>
  simp only [keepE] at h
  split at h
  ·rw [look_cons] at h
   split at h
   ·rename_i hk;subst hk;simp
   ·simp [ih h]
  ·simp [ih h]
theorem draw_exec [LLaws L](hx:CxOK P oD cx){o:Oper}{i:Nat}{env:List (Nat×X L)}{hpr:Hp L}{x:X L}{ids:List Nat}{a:Act}(hs:(drawOne cx base o.op i env hpr).holds oD fun q=>q=(x,u,ids))
  (hE:RepE U g (keepE env (opTmps o.op)) a) (hH:RepH U g B H w) (hlook:∀ b∈ids,look H b=look hpr b) (hU:∀ b,base+i * stride≤b→b < base+i * stride+stride→¬ U b) (Qe:Exit→Act→World→Prop) :
  o.wp P a w (fun a' w'=>∃ v g',a'=a.put o.dst v∧RepX g' x v∧(∀ b∈idsX x,U b∨(base+i * stride≤b∧b < base+i * stride+stride))∧RepH (fun b=>U b∨(base+i * stride≤b∧b < base+i * stride+stride)) g' B (u++H) w'∧Tr U g H w g' (u++H) w') Qe:=by
 unfold drawOne at hs
 simp only [] at hs
 generalize hfr:base+i * stride=fresh at *
 generalize hev:keepE env (opTmps o.op)=e at *
 cases hlow:lowIds e (restrict hpr (opIds e hpr o.op)) fresh o.op with
 | false=>rw [hlow] at hs;exact hs.elim
 | true =>
  rw [hlow] at hs
  simp only [cond_true] at hs
  rw [Out.holds_bind] at hs
  have hs:=Out.holds_all hs (evStep_ext hx.ext e (restrict hpr (opIds e hpr o.op)) fresh o.op)
  have hs:(evStep cx e (restrict H ids) fresh o.op).holds oD fun r=>r.1=x∧r.2.1=u++restrict H ids∧r.2.2≤fresh+stride∧ids=opIds e hpr o.op:=by
   obtain ⟨r0,hr0,hs0⟩:=Out.holds_ex hs
   obtain ⟨x',h',n⟩:=r0
   obtain ⟨hr1,⟨u',hu'⟩,_⟩:=hr0
   simp only at hr1 hu'
   cases hn:Nat.ble n (fresh+stride) with
   | false=>rw [hn] at hr1;exact hr1.elim
   | true =>
    rw [hn] at hr1
    have hr1:(x',h'.take (h'.length - (restrict hpr (opIds e hpr o.op)).length),opIds e hpr o.op)=(x,u,ids):=hr1
    simp only [Prod.mk.injEq] at hr1
    obtain ⟨hx1,hu1,hid⟩:=hr1
    have hrr:restrict H ids=restrict hpr ids:=restrict_congr hlook
    have hu2:u'=u:=by
     rw [← hu1,hu'];simp
    rw [hrr,← hid]
    refine Out.holds_mono hs0 ?_
    rintro r rfl
    exact ⟨hx1,by simp only [← hu2,hu'],Nat.le_of_ble_eq_true hn,rfl⟩
  cases hcall:isCall o.op with
  | false =>
   unfold evStep at hs
   rw [callee_none hcall] at hs
   simp only [] at hs
   rw [Out.holds_bind] at hs
   have hsub:RepH U g B (restrict H ids) w:=RepH.sub (φ:=fun b=>b) hH (fun j e hj=>by rw [renEn_one];exact (restrict_look hj).2) (fun _ _ _ _ _ _ h=>h) (fun j e hj=>hH.ids j e (restrict_look hj).2)
   refine Oper.wp_mono ?_ (Good.wp (evOp_sound hx.tab hx.tl hE hsub (hU fresh (Nat.le_refl _) (by simp [stride])) hs) Qe)
   rintro a' w' ⟨x',u',v,g2,hq,rfl,hp⟩
   obtain ⟨h1,h2,_,_⟩:=hq
   simp only at h1 h2
   have hu2:u'=u:=List.append_cancel_right h2
   subst h1;subst hu2
   obtain ⟨g',h3,h4,h5⟩:=draw_back (K:=U) hH ids hp.tr hp.rh (fun b hb=>by
    by_cases hb':U b
    ·exact .inl ⟨hb',hb'⟩
    ·exact .inr hb')
   have key:∀ b,U b∨b=fresh→U b∨(fresh≤b∧b < fresh+stride):=by
    rintro b (hb | rfl)
    ·exact .inl hb
    ·exact .inr ⟨Nat.le_refl _,by simp [stride]⟩
   refine ⟨v,g',rfl,RepX.mono h5 hp.ix hp.rx,fun b hb=>key b (hp.ix b hb),h3.weaken ?_,h4⟩
   rintro b (hb | hb)
   ·exact .inl hb
   ·exact key b hb
  | true =>
   simp only [lowIds,hcall,cond_true,Bool.and_eq_true,below_iff,List.all_eq_true,Nat.ble_eq] at hlow
   obtain ⟨hl1,hl2⟩:=hlow
   have hids:ids=opIds e hpr o.op:=by
    obtain ⟨_,hr0,_⟩:=Out.holds_ex hs
    exact hr0.2.2.2
   have hrr:restrict H ids=restrict hpr (opIds e hpr o.op):=by rw [← hids];exact restrict_congr hlook
   have hV:∀ b,(U b∧b < fresh)→b < fresh:=fun _ h=>h.2
   have hEV:RepE (fun b=>U b∧b < fresh) g e a:=by
    refine ⟨hE.val,fun d y hy b hb=>⟨hE.ids d y hy b hb,hl1 b ?_⟩,hE.defers⟩
    unfold opdIds
    rw [List.mem_flatMap]
    have hd:d∈opTmps o.op:=by rw [← hev] at hy;exact keepE_look_iff hy
    unfold opTmps at hd
    rw [List.mem_filterMap] at hd
    obtain ⟨q,hq,hqd⟩:=hd
    cases q with
    | tmp t =>
     simp only [Option.some.injEq] at hqd
     subst hqd
     exact ⟨.tmp t,hq,by simp only [opd,hy];exact hb⟩
    | _=>cases hqd
   have hsub:RepH (fun b=>U b∧b < fresh) g B (restrict H ids) w:=RepH.sub (φ:=fun b=>b) hH (fun j e hj=>by rw [renEn_one];exact (restrict_look hj).2) (fun _ _ _ _ _ _ h=>h) (fun j ej hj=>by
    have h1:=hH.ids j ej (restrict_look hj).2
    have h2:=hl2 (j,ej) (by rw [← hrr];exact look_mem hj)
    exact ⟨⟨h1.1,h2.1⟩,fun c hc=>⟨h1.2 c hc,h2.2 c hc⟩⟩)
   refine Oper.wp_mono ?_ (evStep_sound hx hV hEV hsub hs Qe)
   rintro a' w' ⟨v,⟨x',h',n⟩,g2,rfl,⟨h1,h2,hn,_⟩,hrx,hri,hrh,htr⟩
   simp only at h1 h2 hn hrx hri hrh htr
   subst h1;subst h2
   have key:∀ b,Gr (fun b=>U b∧b < fresh) fresh n b→U b∨(fresh≤b∧b < fresh+stride):=by
    rintro b (hb | hb)
    ·exact .inl hb.1
    ·exact .inr ⟨hb.1,Nat.lt_of_lt_of_le hb.2 hn⟩
   obtain ⟨g',h3,h4,h5⟩:=draw_back (K:=fun b=>U b∧b < fresh) hH ids htr hrh (fun b hb=>by
    rcases hb with hb | hb
    ·exact .inl ⟨hb,hb.1⟩
    ·exact .inr (hU b hb.1 (Nat.lt_of_lt_of_le hb.2 hn)))
   refine ⟨v,g',rfl,RepX.mono h5 hri hrx,fun b hb=>key b (hri b hb),h3.weaken ?_,h4⟩
   rintro b (hb | hb)
   ·exact .inl hb
   ·exact key b hb
end
end Go.Ev
/- Regions that draw their order: all orders come to the same. -/
namespace Go.Ev
open Go.RowKit
variable {L:Type} [LI L]
section
variable {P:Program} {oD:OrcD L} {cx:Cx L} {ops:List Oper} {F:Nat→Ev1 L} {env0:List (Nat×X L)} {h0:Hp L} {base:Nat}
omit [LI L] in
theorem envG_other {S S':Nat→Bool}{d:Nat}:∀ n,(∀ k,k < n→dstAt ops k=some d→S k=S' k)→look (envG ops F env0 S n) d=look (envG ops F env0 S' n) d
 | 0,_=>rfl
 | n+1,h=>by
  have ih:=envG_other n fun k hk=>h k (by omega)
  simp only [envG]
  cases hd:dstAt ops n with
  | none=>cases S n<;>cases S' n<;>simpa [putE] using ih
  | some d' =>
   by_cases he:d'=d
   ·subst he
    rw [h n (by omega) hd]
    cases S' n<;>simp [putE,look_cons,ih]
   ·cases S n<;>cases S' n<;>simpa [putE,look_cons,he] using ih
omit [LI L] in
theorem hpG_other {S S':Nat→Bool}{b:Nat}:∀ n,(∀ k,k < n→(∃ e,look (F k).u b=some e)→S k=S' k)→look (hpG F h0 S n) b=look (hpG F h0 S' n) b
 | 0,_=>rfl
 | n+1,h=>by
  have ih:=hpG_other n fun k hk=>h k (by omega)
  simp only [hpG]
  cases hd:look (F n).u b with
  | none=>cases S n<;>cases S' n<;>simpa [look_append,hd] using ih
  | some e =>
   rw [h n (by omega) ⟨e,hd⟩]
   cases S' n<;>simp [look_append,hd,ih]
def cnt (S:Nat→Bool):Nat→Nat
 | 0=>0
 | n+1=>cnt S n+cond (S n) 0 1
def addS (S:Nat→Bool)(i:Nat):Nat→Bool:=fun k=>S k || k == i
theorem cnt_add {S:Nat→Bool}{i:Nat}(hi:S i=false):∀ n,(n≤i→cnt (addS S i) n=cnt S n)∧(i < n→cnt (addS S i) n+1=cnt S n)
 | 0=>⟨fun _=>rfl,fun h=>by omega⟩
 | n+1=>by
  have ih:=cnt_add hi n
  constructor
  ·intro hn
   have hne:(n == i)=false:=by simp;omega
   simp only [cnt,addS,hne,Bool.or_false]
   rw [← ih.1 (by omega)]
  ·intro hn
   by_cases he:n=i
   ·subst he
    have:=ih.1 (Nat.le_refl _)
    simp only [cnt,addS,beq_self_eq_true,Bool.or_true,hi,cond_true,cond_false,Nat.add_zero] at this ⊢
    omega
   ·have hne:(n == i)=false:=by simp;exact he
    have:=ih.2 (by omega)
    simp only [cnt,addS,hne,Bool.or_false] at this ⊢
    omega
theorem cnt_zero {S:Nat→Bool}:∀ n,cnt S n=0→∀ k,k < n→S k=true
 | 0,_,k,hk=>by omega
 | n+1,h,k,hk=>by
  simp only [cnt] at h
  by_cases he:k=n
  ·subst he
   cases hs:S k with
   | true=>rfl
   | false=>rw [hs] at h;simp at h
  ·exact cnt_zero n (by omega) k (by omega)
def US (V:Nat→Prop)(base n:Nat)(S:Nat→Bool):Nat→Prop:=fun b=>V b∨∃ k,k < n∧S k=true∧base+k * stride≤b∧b < base+k * stride+stride
theorem US_fresh {V:Nat→Prop}{n:Nat}{S:Nat→Bool}(hV:∀ b,V b→b < base){i:Nat}(hi:S i=false):∀ b,base+i * stride≤b→b < base+i * stride+stride→¬ US V base n S b:=by
 rintro b h1 h2 (h | ⟨k,_,hk,h3,h4⟩)
 ·have:=hV b h;omega
 ·have hne:k≠i:=fun he=>by subst he;rw [hi] at hk;cases hk
  unfold stride at *
  omega
structure Known (cx:Cx L) (oD:OrcD L) (base:Nat) (ops:List Oper) (F:Nat→Ev1 L) (env0:List (Nat×X L)) (h0:Hp L) (fpF:List Fp) (nt:Nat):Prop where
 fact:∀ k o,ops[k]?=some o→Fact cx oD base ops F env0 h0 fpF k o
 fp:fpOk ops fpF=true
 tmps:tmpsOk ops ops 0=true
 edges:edgesOk ops 0=true
 nt:∀ d∈dsts ops,d < nt
theorem named_dst {o:Oper}{d:Nat}(h:o.dst=some d):d∈named ops o:=by simp [named,h]
theorem named_tmp {o:Oper}{d:Nat}(h:d∈opTmps o.op):d∈named ops o:=by
 unfold opTmps at h;unfold named
 rw [List.mem_append,List.mem_append];exact .inr (.inr h)
theorem named_guard {o:Oper}{j:Nat}{want:Bool}{d:Nat}(hg:o.guard=some (j,want))(h:dstOf ops j=some d):d∈named ops o:=by
 simp [named,hg,h]
structure SI (V:Nat→Prop) (base:Nat) (ops:List Oper) (F:Nat→Ev1 L) (env0:List (Nat×X L)) (h0:Hp L) (B:Nat) (gS:Gh) (wS:World) (nt:Nat) (S:Nat→Bool) (g:Gh) (a:Act) (w:World):Prop where
 e:RepE (US V base ops.length S) g (envG ops F env0 S ops.length) a
 h:RepH (US V base ops.length S) g B (hpG F h0 S ops.length) w
 t:Tr V gS h0 wS g (hpG F h0 S ops.length) w
 z:nt≤a.tmps.size
variable {V:Nat→Prop} {B:Nat} {gS:Gh} {wS:World} {nt:Nat} {S:Nat→Bool} {g:Gh} {a:Act} {w:World} {fpF:List Fp}
theorem US_add {n i:Nat}(hi:i < n):∀ b,(US V base n S b∨(base+i * stride≤b∧b < base+i * stride+stride))→US V base n (addS S i) b:=by
 rintro b ((h | ⟨k,hk,hs,h1,h2⟩) | ⟨h1,h2⟩)
 ·exact .inl h
 ·exact .inr ⟨k,hk,by simp [addS,hs],h1,h2⟩
 ·exact .inr ⟨i,hi,by simp [addS],h1,h2⟩
omit [LI L] in
theorem Tr.look_eq [LI L]{K:Nat→Prop}{g g':Gh}{h h' h'':Hp L}{w w':World}(t:Tr K g h w g' h' w')(hl:∀ d,look h'' d=look h' d):Tr K g h w g' h'' w' :=
 ⟨t.le,t.nf,fun b e hb ho=>t.nb b e (hl b ▸ hb) ho,t.ws,t.fr⟩
theorem SI.add (hk:Known cx oD base ops F env0 h0 fpF nt)(hc:Closed ops S){i:Nat}{o:Oper}(ho:ops[i]?=some o)(hi:S i=false)
  (hrdy:∀ o',ops[i]?=some o'→∀ e∈o'.after,Region.binds .any e=true→S e.on=true) (hs:SI V base ops F env0 h0 B gS wS nt S g a w) {v:Value} {g':Gh} {w':World}
  (hx:RepX g' (F i).x v) (hix:∀ b∈idsX (F i).x,US V base ops.length S b∨(base+i * stride≤b∧b < base+i * stride+stride))
  (hh:RepH (fun b=>US V base ops.length S b∨(base+i * stride≤b∧b < base+i * stride+stride)) g' B ((F i).u++hpG F h0 S ops.length) w')
  (ht:Tr (US V base ops.length S) g (hpG F h0 S ops.length) w g' ((F i).u++hpG F h0 S ops.length) w') :
  SI V base ops F env0 h0 B gS wS nt (addS S i) g' (a.put o.dst v) w':=by
 have hil:i < ops.length:=(List.getElem?_eq_some_iff.1 ho).1
 have hdi:dstAt ops i=o.dst:=by simp [dstAt,ho]
 have hord:∀ k d,dstAt ops k=some d→d∈named ops o→S k=decide (k < i):=by
  intro k d hd hn
  by_cases hki:k=i
  ·subst hki;rw [hi];simp
  ·cases hok:ops[k]? with
   | none=>simp [dstAt,hok] at hd
   | some ok =>
    have hdk:ok.dst=some d:=by simpa [dstAt,hok] using hd
    have:=tmpsOk_spec ops 0 hk.tmps k ok d hok hdk i o ho (by simpa using hki) hn
    exact ordered_next hk.edges hc hi hrdy (by simpa using this)
 have hlk:∀ d,look (envG ops F env0 (addS S i) ops.length) d=look (putE (envG ops F env0 S ops.length) o.dst (F i).x) d:=by
  intro d
  by_cases hd:o.dst=some d
  ·have h1:=envG_look (F:=F) (env0:=env0) (S:=addS S i) (d:=d) (m:=i+1) ops.length hil (fun k hkn hdk=>by
    by_cases hki:k=i
    ·subst hki;simp [addS]
    ·have hne:(k == i)=false:=by simp;exact hki
     simp only [addS,hne,Bool.or_false]
     rw [hord k d hdk (named_dst hd)]
     apply decide_eq_decide.2;omega)
   rw [h1]
   simp [envG,all,hdi,hd,putE,look_cons]
  ·have h1:=envG_other (F:=F) (env0:=env0) (S:=addS S i) (S':=S) (d:=d) ops.length (fun k hkn hdk=>by
    have hki:k≠i:=fun he=>by subst he;rw [hdi] at hdk;exact hd hdk
    have hne:(k == i)=false:=by simp;exact hki
    simp [addS,hne])
   rw [h1]
   cases ho':o.dst with
   | none=>rfl
   | some d'=>simp only [putE];rw [look_cons,if_neg];intro he;subst he;exact hd ho'
 have hlh:∀ b,look (hpG F h0 (addS S i) ops.length) b=look ((F i).u++hpG F h0 S ops.length) b:=by
  intro b
  rw [look_append]
  cases hu:look (F i).u b with
  | some e =>
   have h1:=hpG_look (F:=F) (h0:=h0) (S:=addS S i) (b:=b) (m:=i+1) ops.length hil (fun k hkn ⟨ek,hek⟩=>by
    by_cases hki:k=i
    ·subst hki;simp [addS]
    ·have hne:(k == i)=false:=by simp;exact hki
     simp only [addS,hne,Bool.or_false]
     have f1:=(hk.fact k _ (List.getElem?_eq_getElem hkn)).fp (.inr fun h=>by rw [h] at hek;simp [look] at hek)
     have f2:=(hk.fact i o ho).fp (.inr fun h=>by rw [h] at hu;simp [look] at hu)
     rcases fpOk_spec hk.fp _ f1 _ f2 hki with h3 | h3
     ·exact absurd (List.mem_map.2 ⟨_,look_mem hu,rfl⟩) (h3 b (List.mem_map.2 ⟨_,look_mem hek,rfl⟩)).2
     ·have h4:S k=decide (k < i):=ordered_next hk.edges hc hi hrdy h3
      rw [h4]
      apply decide_eq_decide.2;omega)
   rw [h1]
   simp [hpG,all,look_append,hu]
  | none =>
   exact hpG_other (F:=F) (h0:=h0) (S:=addS S i) (S':=S) (b:=b) ops.length (fun k hkn ⟨ek,hek⟩=>by
    have hki:k≠i:=fun he=>by subst he;rw [hu] at hek;cases hek
    have hne:(k == i)=false:=by simp;exact hki
    simp [addS,hne])
 have hlt:∀ d,o.dst=some d→d < a.tmps.size:=fun d hd=>Nat.lt_of_lt_of_le (hk.nt d (mem_dsts.2 ⟨o,List.mem_of_getElem? ho,hd⟩)) hs.z
 refine ⟨?_,?_,?_,by rw [Act.put_size];exact hs.z⟩
 ·have h1:=hs.e.put (V:=US V base ops.length (addS S i)) ht.le (fun b hb=>US_add hil b (.inl hb)) hlt hx (fun b hb=>US_add hil b (hix b hb))
  exact h1.weak (fun d x hx=>⟨x,by rw [← hlk d];exact hx,.refl x⟩) fun _ h=>h
 ·exact (hh.weaken (US_add hil)).of_look hlh
 ·exact (hs.t.trans ht fun b hb=>.inl hb).look_eq hlh
theorem draw_any [LLaws L](hx:CxOK P oD cx){opsA:Array Oper}(hops:opsA.toList=ops)(hV:∀ b,V b→b < base)(hk:Known cx oD base ops F env0 h0 fpF nt){Qx:Exit→Act→World→Prop}{sz:Nat}
  (hQ:∀ S g a w,(∀ k,k < ops.length→S k=true)→SI V base ops F env0 h0 B gS wS nt S g a w→a.tmps.size=sz→Qx .normal a w) :
  ∀ (fuel:Nat) (listed:Array Bool) (g:Gh) (a:Act) (w:World),listed.size=ops.length→cnt (fun k=>listed.getD k false) ops.length≤fuel→Closed ops (fun k=>listed.getD k false)→SI V base ops F env0 h0 B gS wS nt (fun k=>listed.getD k false) g a w→a.tmps.size=sz →
   wpAny P .any opsA Qx fuel listed a w:=by
 have hszA:opsA.size=ops.length:=by rw [← hops,Array.length_toList]
 have hgA:∀ k,opsA[k]?=ops[k]?:=fun k=>by rw [← hops,Array.getElem?_toList]
 -- nothing is ready: all is done
 have hdone:∀ (listed:Array Bool),listed.size=ops.length→Region.ready .any opsA listed=[]→∀ k,k < ops.length→listed.getD k false=true:=by
  intro listed hsz hr k
  induction k using Nat.strongRecOn with
  | _ k ih =>
   intro hkl
   cases hlk:listed.getD k false with
   | true=>rfl
   | false =>
    have hin:k∈Region.ready .any opsA listed:=by
     unfold Region.ready
     rw [List.mem_filter]
     refine ⟨List.mem_range.2 (by omega),?_⟩
     have h1:listed.getD k true=false:=by
      simp only [Array.getD_eq_getD_getElem?] at hlk ⊢
      rw [Array.getElem?_eq_getElem (by omega)] at hlk ⊢
      exact hlk
     obtain ⟨o,ho⟩:∃ o,ops[k]?=some o:=⟨_,List.getElem?_eq_getElem hkl⟩
     rw [h1,hgA,ho]
     simp only [Bool.not_false,Bool.true_and,Option.map_some,Option.getD_some,Array.all_eq_true]
     intro j hj
     cases hb:Region.binds .any o.after[j] with
     | false=>rfl
     | true =>
      have hlt:=edgesOk_spec ops 0 hk.edges k o ho _ (Array.getElem_mem hj) hb
      simp only [Bool.not_true,Bool.false_or]
      exact ih _ (by omega) (by omega)
    rw [hr] at hin;simp at hin
 intro fuel
 induction fuel with
 | zero =>
  intro listed g a w hsz hcnt hc hs hz
  have hall:=cnt_zero (S:=fun k=>listed.getD k false) ops.length (by omega)
  refine ⟨?_,hQ _ g a w hall hs hz⟩
  unfold Region.ready
  rw [List.filter_eq_nil_iff]
  intro k hk'
  have hkl:k < ops.length:=by rw [List.mem_range] at hk';omega
  have h1:=hall k hkl
  have h2:listed.getD k true=true:=by
   simp only [Array.getD_eq_getD_getElem?] at h1 ⊢
   rw [Array.getElem?_eq_getElem (by omega)] at h1 ⊢
   exact h1
  simp [h2]
 | succ fuel ih =>
  intro listed g a w hsz hcnt hc hs hz
  refine ⟨fun hr=>hQ _ g a w (hdone listed hsz hr) hs hz,?_⟩
  intro i hi
  unfold Region.ready at hi
  rw [List.mem_filter] at hi
  obtain ⟨hir,hi2⟩:=hi
  have hil:i < ops.length:=by rw [List.mem_range] at hir;omega
  simp only [Bool.and_eq_true,Bool.not_eq_true'] at hi2
  obtain ⟨o,ho⟩:∃ o,ops[i]?=some o:=⟨_,List.getElem?_eq_getElem hil⟩
  have hi0:listed.getD i false=false:=by
   have h1:=hi2.1
   simp only [Array.getD_eq_getD_getElem?] at h1 ⊢
   rw [Array.getElem?_eq_getElem (by omega)] at h1 ⊢
   exact h1
  have hrdy:∀ o',ops[i]?=some o'→∀ e∈o'.after,Region.binds .any e=true→listed.getD e.on false=true:=by
   intro o' ho' e he hb
   have h1:=hi2.2
   rw [hgA,ho'] at h1
   simp only [Option.map_some,Option.getD_some,Array.all_eq_true] at h1
   obtain ⟨j,hj,rfl⟩:=Array.mem_iff_getElem.1 he
   have:=h1 j hj
   rw [hb] at this
   simpa using this
  have hS':∀ k,(listed.setIfInBounds i true).getD k false=addS (fun k=>listed.getD k false) i k:=by
   intro k
   simp only [addS,Array.getD_eq_getD_getElem?]
   by_cases hki:k=i
   ·subst hki;simp [hsz,hil]
   ·have hne:(k == i)=false:=by simp;exact hki
    rw [Array.getElem?_setIfInBounds_ne (Ne.symm hki),hne,Bool.or_false]
  have hSf:(fun k=>(listed.setIfInBounds i true).getD k false)=addS (fun k=>listed.getD k false) i:=funext hS'
  have next:∀ g' a' w',SI V base ops F env0 h0 B gS wS nt (addS (fun k=>listed.getD k false) i) g' a' w'→a'.tmps.size=sz→wpAny P .any opsA Qx fuel (listed.setIfInBounds i true) a' w':=by
   intro g' a' w' hs' hz'
   refine ih _ g' a' w' (by simp [hsz]) ?_ ?_ (by rw [hSf];exact hs') hz'
   ·rw [hSf]
    have:=(cnt_add (S:=fun k=>listed.getD k false) hi0 ops.length).2 hil
    omega
   ·rw [hSf]
    intro j oj hoj hj e he hb
    simp only [addS,Bool.or_eq_true,beq_iff_eq] at hj ⊢
    rcases hj with hj | rfl
    ·exact .inl (hc j oj hoj hj e he hb)
    ·exact .inl (hrdy oj hoj e he hb)
  have hf:=hk.fact i o ho
  -- the slots that it names
  have hnam:∀ d,d∈named ops o→look (envG ops F env0 (fun k=>listed.getD k false) ops.length) d=look (envG ops F env0 all i) d:=by
   intro d hd
   refine envG_look ops.length (Nat.le_of_lt hil) fun k hkn hdk=>?_
   by_cases hki:k=i
   ·subst hki;rw [hi0];simp
   ·have hok:ops[k]?=some ops[k]:=List.getElem?_eq_getElem hkn
    have hdk':(ops[k]).dst=some d:=by simpa [dstAt,hok] using hdk
    have:=tmpsOk_spec ops 0 hk.tmps k _ d hok hdk' i o ho (by simpa using hki) hd
    exact ordered_next hk.edges hc hi0 hrdy (by simpa using this)
  have hview:∀ d y,d∈named ops o→look (F i).env d=some y→∃ z,look (envG ops F env0 (fun k=>listed.getD k false) ops.length) d=some z∧LeX z y:=by
   intro d y hd hy
   obtain ⟨z,hz,hl⟩:=hf.view d y hy
   exact ⟨z,by rw [hnam d hd];exact hz,hl⟩
  have hwant:Region.wanted o (yielded opsA a.tmps)=(F i).ex:=by
   have hg:=hf.guard
   unfold guardIs at hg
   cases hgu:o.guard with
   | none=>rw [hgu] at hg;rw [hg];simp [Region.wanted,hgu]
   | some jw =>
    obtain ⟨j,want⟩:=jw
    rw [hgu] at hg
    have hE0:∀ d y,dstOf ops j=some d→look (F i).env d=some y→RepE (US V base ops.length fun k=>listed.getD k false) g [(d,y)] a:=by
     intro d y hdj hy
     obtain ⟨z,hz,hl⟩:=hview d y (named_guard hgu hdj) hy
     exact hs.e.weak (fun k x hx=>by
      rw [look_cons] at hx
      split at hx
      ·rename_i hkd;subst hkd;cases hx;exact ⟨z,hz,hl⟩
      ·simp [look] at hx) fun _ h=>h
    rcases hg with ⟨d,y,v,t,hdj,hy,hv,ht,hb⟩ | ⟨hb,d,y,hdj,hy,hu⟩
    ·rw [← hb]
     exact wanted_eq hgu (guard_yields (hE0 d y hdj hy) (by rw [hops];exact hdj) (by simp [look_cons]) hv ht)
    ·rw [hb]
     exact wanted_none hgu (guard_undef (hE0 d y hdj hy) (by rw [hops];exact hdj) (by simp [look_cons]) hu)
  unfold wpOp
  rw [hgA,ho]
  simp only []
  cases hex:(F i).ex with
  | true =>
   rw [hex] at hwant
   rw [if_pos hwant]
   refine .inl (Oper.wp_mono ?_ (draw_exec hx (hf.exec hex) (hs.e.weak (fun d y hy=>hview d y (named_tmp (keepE_look_iff hy)) (look_keepE hy)) fun _ h=>h) hs.h ?_ (US_fresh hV hi0) Qx))
   ·rintro a' w' ⟨v,g',rfl,hrx,hri,hrh,htr⟩
    exact next g' _ w' (SI.add hk hc ho hi0 hrdy hs hrx hri hrh htr) (by rw [Act.put_size];exact hz)
   ·intro b hb
    refine hpG_look ops.length (Nat.le_of_lt hil) fun k hkn ⟨ek,hek⟩=>?_
    by_cases hki:k=i
    ·subst hki;rw [hi0];simp
    ·have f1:=(hk.fact k _ (List.getElem?_eq_getElem hkn)).fp (.inr fun h=>by rw [h] at hek;simp [look] at hek)
     have f2:=hf.fp (.inl fun h=>by rw [h] at hb;simp at hb)
     rcases fpOk_spec hk.fp _ f1 _ f2 hki with h3 | h3
     ·exact absurd hb (h3 b (List.mem_map.2 ⟨_,look_mem hek,rfl⟩)).1
     ·exact ordered_next hk.edges hc hi0 hrdy h3
  | false =>
   rw [hex] at hwant
   rw [if_neg (by rw [hwant];simp)]
   obtain ⟨hxt,hut⟩:=hf.skip hex
   refine next g _ w (SI.add (v:=undef) hk hc ho hi0 hrdy hs (by rw [hxt];exact ⟨[],rfl,.nil⟩) (by rw [hxt];simp [idsX]) ?_ ?_) (by rw [Act.put_size];exact hz)
   ·rw [hut];exact hs.h.weaken fun _ h=>.inl h
   ·rw [hut];exact .refl _ _ _ _
end
end Go.Ev
/- Regions and code. -/
namespace Go.Ev
open Go.RowKit
variable {L:Type} [LI L]
def exitOf:Ex→Exit
 | .normal=>.normal
 | .exit id=>.exit id
 | .ret=>.ret
def EndsC (V:Nat→Prop)(s0:Sx L)(g:Gh)(B:Nat)(a:Act)(w:World)(Q:Ex×Sx L→Prop):Exit→Act→World→Prop:=fun e a' w' =>
 ∃ x s' g',Q (x,s')∧exitOf x=e∧RepE (Gr V s0.nx s'.nx) g' s'.env a'∧RepH (Gr V s0.nx s'.nx) g' B s'.hp w'∧Tr V g s0.hp w g' s'.hp w'∧a'.tmps.size=a.tmps.size∧s0.nx≤s'.nx
def LoopOK (P:Program)(oD:OrcD L)(nt:Nat)(q:LoopA)(b:Code):Prop :=
 ∀ c e d,oD.s q.sid c e d→∀ (g:Gh) (B:Nat) (a:Act) (w:World),RepE (Lt c.n) g (zipE q.live c.xs) a→RepH (Lt c.n) g B c.hp w→nt≤a.tmps.size →
  (Code.loop b).wp P (fun ex a' w'=>exitOf e=ex∧∃ g',RepE (Lt d.n) g' (zipE q.out d.xs) a'∧RepH (Lt d.n) g' B d.hp w'∧Tr (fun i=>i∈q.kp) g c.hp w g' d.hp w'∧a'.tmps.size=a.tmps.size) a w
section
variable {P:Program} {oD:OrcD L} {cx:Cx L} {V:Nat→Prop} {g g1:Gh} {B:Nat} {w w1:World} {a a1:Act} {s s1:Sx L} {Q:Ex×Sx L→Prop}
theorem EndsC.after (ht:Tr V g s.hp w g1 s1.hp w1)(hn:s.nx≤s1.nx)(hz:a1.tmps.size=a.tmps.size){e:Exit}{a2:Act}{w2:World}(h:EndsC (Gr V s.nx s1.nx) s1 g1 B a1 w1 Q e a2 w2):EndsC V s g B a w Q e a2 w2:=by
 obtain ⟨x,s',g',hq,he,h1,h2,h3,h4,h5⟩:=h
 exact ⟨x,s',g',hq,he,h1.weak (fun _ y hy=>⟨y,hy,.refl y⟩) (Gr.trans hn h5),h2.weaken (Gr.trans hn h5),ht.trans h3 fun _=>Gr.of,h4.trans hz,Nat.le_trans hn h5⟩
theorem EndsC.mono {Q':Ex×Sx L→Prop}{e:Exit}{a2:Act}{w2:World}(h:EndsC V s g B a w Q e a2 w2)(hq:∀ r,Q r→Q' r):EndsC V s g B a w Q' e a2 w2:=by
 obtain ⟨x,s',g',h0,h1⟩:=h
 exact ⟨x,s',g',hq _ h0,h1⟩
theorem EndsC.here (hE:RepE V g s.env a)(hH:RepH V g B s.hp w){x:Ex}(hq:Q (x,s)):EndsC V s g B a w Q (exitOf x) a w :=
 ⟨x,s,g,hq,rfl,hE.weak (fun _ y hy=>⟨y,hy,.refl y⟩) (fun _=>Gr.of),hH.weaken fun _=>Gr.of,.refl _ _ _ _,rfl,Nat.le_refl _⟩
theorem RepH.drawn {U:Nat→Prop}{h:Hp L}(hr:RepH U g B h w)(n:Nat):RepH U g B h { w with drawn:=n } :=
 ⟨hr.fz,fun b e hb=>(hr.ent b e hb).frame fun _=>rfl,hr.ids,hr.dis,hr.own,hr.free,hr.pre,hr.base⟩
theorem cnt_le (S:Nat→Bool):∀ n,cnt S n≤n
 | 0=>Nat.le_refl _
 | n+1=>by
  have:=cnt_le S n
  simp only [cnt]
  cases S n
  ·simp only [cond_false];omega
  ·simp only [cond_true];omega
theorem rep_false (n k:Nat):(Array.replicate n false).getD k false=false:=by
 rw [Array.getD_eq_getD_getElem?,Array.getElem?_replicate]
 split<;>rfl
theorem evRegion_sound [LLaws L](hx:CxOK P oD cx)(hm:P.follows .mixedOrders=true){id nt:Nat}{ops:Array Oper}{draw:Bool}{live:List Nat}(hB:regB nt ops.toList draw=true){Qs:Sx L→Prop}
  (hq:(evRegion cx live ops.toList draw s).holds oD Qs) (hV:∀ b,V b→b < s.nx) (hE:RepE V g s.env a) (hH:RepH V g B s.hp w) (hn:nt≤a.tmps.size) :
  (Code.region id ops draw).wp P (EndsC V s g B a w fun r=>r.1=.normal∧Qs r.2) a w:=by
 unfold regB at hB
 simp only [Bool.and_eq_true,below_iff] at hB
 obtain ⟨hd,hB⟩:=hB
 have fin:∀ a' w',EndsIn V s g B a w Qs a' w'→EndsC V s g B a w (fun r=>r.1=.normal∧Qs r.2) .normal a' w':=by
  rintro a' w' ⟨s',g',h0,h1⟩
  exact ⟨.normal,s',g',⟨rfl,h0⟩,rfl,h1⟩
 cases draw with
 | false =>
  simp only [evRegion,cond_false] at hq
  refine wp_region ?_
  have hr:List.range ops.size=List.range' 0 ops.toList.length:=by rw [List.range_eq_range',Array.length_toList]
  rw [hr]
  exact evOps_sound hx rfl rfl hd (h0:=s.hp) rfl ops.toList 0 (fun k=>by simp) s Qs V g B a w ⟨[],rfl⟩ hq hV hE hH hn fin
 | true =>
  simp only [evRegion,cond_true] at hq
  simp only [Bool.not_true,Bool.false_or,Bool.and_eq_true] at hB
  obtain ⟨htm,hed,_⟩:=hB
  obtain ⟨evs,fp',s',hpath,hfp,q,hqq,hwk⟩:=evDraw_path (rg:=⟨ops.toList,live,dsts ops.toList,s.hp.length,s.nx⟩) rfl (h0:=s.hp) rfl ops.toList (fun _ h=>h) 0 [] s Qs (Nat.le_refl _) ⟨[],rfl⟩ hq
  obtain ⟨hfact,hview,hhp⟩:=hpath.facts (F:=fun k=>(evs[k]?).getD ⟨false,[],[],.tup [],[]⟩) (env0:=s.env) (h0:=s.hp) (fun m e he=>by simp [he]) (fun m=>by simp) (.refl _) rfl
  refine wp_region_any hm ?_
  refine draw_any (V:=V) (gS:=g) (wS:={ w with drawn:=w.drawn+1 }) (sz:=a.tmps.size) (B:=B) (nt:=nt) hx rfl hV ⟨fun k o ho=>by have:=hfact k o ho;rw [Nat.zero_add] at this;exact this,hfp,htm,hed,hd⟩ ?_ ops.size (Array.replicate ops.size false) g a _ (by simp) ?_ ?_ ?_ rfl
  ·intro S g' a' w' hall hs hz
   rw [Nat.zero_add] at hview hhp
   have e1:=envG_congr (ops:=ops.toList) (F:=fun k=>(evs[k]?).getD ⟨false,[],[],.tup [],[]⟩) (env0:=s.env) (S:=S) (S':=Go.Ev.all) ops.toList.length (fun k hk=>hall k hk)
   have e2:=hpG_congr (F:=fun k=>(evs[k]?).getD ⟨false,[],[],.tup [],[]⟩) (h0:=s.hp) (S:=S) (S':=Go.Ev.all) ops.toList.length (fun k hk=>hall k hk)
   have hs1:=hs.e
   have hs2:=hs.h
   have hs3:=hs.t
   rw [e1] at hs1
   rw [e2,← hhp] at hs2 hs3
   have hU:∀ b,US V s.nx ops.toList.length S b→Gr V s.nx q.nx b:=by
    have hle:s.nx+(0+ops.toList.length) * stride≤q.nx:=hwk.nx
    rintro b (hb | ⟨k,hk,_,h1,h2⟩)
    ·exact .inl hb
    ·unfold stride at *
     exact .inr ⟨by omega,by omega⟩
   refine fin a' w' ⟨q,g',hqq,?_,?_,?_,hz,Nat.le_trans (Nat.le_add_right _ _) hwk.nx⟩
   ·refine hs1.weak (fun d y hy=>?_) hU
    obtain ⟨z,hz,hl⟩:=hwk.env d y hy
    obtain ⟨z',hz',hl'⟩:=hview d z (look_keepE hz)
    exact ⟨z',hz',hl'.trans hl⟩
   ·rw [hwk.hp];exact hs2.weaken hU
   ·rw [hwk.hp]
    exact ⟨hs3.le,hs3.nf,hs3.nb,⟨hs3.ws.os,hs3.ws.tape,hs3.ws.output,hs3.ws.size⟩,hs3.fr⟩
  ·have:=cnt_le (fun k=>(Array.replicate ops.size false).getD k false) ops.toList.length
   rw [Array.length_toList] at this ⊢
   exact this
  ·intro j o _ hj
   simp only [rep_false] at hj;cases hj
  ·have hS:∀ k,(Array.replicate ops.size false).getD k false=false:=rep_false _
   have e1:∀ (F:Nat→Ev1 L) (n:Nat),envG ops.toList F s.env (fun k=>(Array.replicate ops.size false).getD k false) n=s.env:=by
    intro F n
    induction n with
    | zero=>rfl
    | succ n ih=>simp only [envG];rw [hS n];exact ih
   have e2:∀ (F:Nat→Ev1 L) (n:Nat),hpG F s.hp (fun k=>(Array.replicate ops.size false).getD k false) n=s.hp:=by
    intro F n
    induction n with
    | zero=>rfl
    | succ n ih=>simp only [hpG];rw [hS n];exact ih
   refine ⟨?_,?_,?_,hn⟩
   ·rw [e1];exact hE.weak (fun _ y hy=>⟨y,hy,.refl y⟩) fun _ h=>.inl h
   ·rw [e2];exact (hH.drawn _).weaken fun _ h=>.inl h
   ·rw [e2];exact .refl _ _ _ _
end
end Go.Ev
