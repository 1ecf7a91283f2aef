/- An evaluator of the model's code on abstract states, proved sound (part 2 of 4). -/
import Derived.Test.YtciofnpmlgbdaaaGreatDoorEa
import Derived.Laws.StructEq
import Derived.Laws.BytesString
import Derived.Laws.OwnMore
import Derived.Laws.IdiomStrings
/- append, make, copy, as operations. -/
namespace Go.Ev
variable {L:Type} [LI L]
theorem Post.row {U:Nat→Prop}{g:Gh}{B:Nat}{h u1:Hp L}{w w':World}{f k:Nat}{s:Option Addr×Nat×Nat}{e:TypeId}{l':L}(hr:RepH U g B h w)(hf:¬ U f)
  (hA:∀ c en,look (u1++h) c=some en→look h c=some en∨(en=.dead∧∃ e',look h c=some e')) (hk:(∃ b e,look h b=some e∧Owns g b e∧g.blk b=k)∨w.heap.size≤k)
  (hh:RepH (fun b=>U b∨b=f) (g.withRow f k s) B ((f,.arr e l')::(u1++h)) w') (hs:Same w w') (hfr:∀ j,j < w.heap.size→(∀ b e,look h b=some e→Owns g b e→g.blk b≠j)→w'.heap[j]?=w.heap[j]?)
  (hu:∀ b e,look u1 b=some e→∃ e',look h b=some e') :
  Post U g B h f w (.s (.c (.ar f))) ((f,.arr e l')::u1) (.slice s.1 s.2.1 s.2.2) w' (g.withRow f k s):=by
 have hle:=Gh.withRow_le (g:=g) (k:=k) (s:=s) hf
 refine ⟨hle,by simp [RepX,RepS,RepC,Gh.v,Gh.withRow],by simp [idsX,idsS,cellsOf,idsC],hh,fun _ _ _ hz=>.inl hz,?_,hs,hfr,?_⟩
 ·intro b en hb hO
  rw [List.cons_append,look_cons] at hb
  split at hb
  ·rename_i hbf;subst hbf
   have:(g.withRow f k s).blk f=k:=by simp [Gh.withRow]
   rw [this];exact hk
  ·rcases hA b en hb with h1 | ⟨rfl,_⟩
   ·have hU:=(hr.ids b en h1).1
    exact .inl ⟨b,en,h1,(Owns.congr hle hU).1 hO,(hle.blk b hU).symm⟩
   ·exact hO.elim
 ·intro b en hb
  rw [look_cons] at hb
  split at hb
  ·rename_i hbf;exact .inl hbf.symm
  ·exact .inr (hu b en hb)
omit [LI L] in
theorem isNil_eq {c:C L}(h:isNil c=true):c=.im (.val (.slice none 0 0)):=by
 unfold isNil at h;split at h
 ·rfl
 ·cases h
theorem nil_els [LLaws L]{e:TypeId}{l:L}(h:LI.mkL e []=some l):LI.els l=[]:=by
 exact List.eq_nil_of_length_eq_zero (LLaws.mkL e [] l h).length.symm
theorem RepC.nil_val {g:Gh}{v:Value}(h:RepC g (.im (.val (.slice none 0 0)):C L) v):v=.slice none 0 0:=by
 cases h;rfl
theorem cOf_rep {g:Gh}{x:X L}{v:Value}{c:C L}(hx:RepX g x v)(hc:cOf x=some c):RepC g c v:=by
 unfold cOf at hc;split at hc
 ·cases hc;exact hx
 ·cases hc
theorem srcOf_src [LLaws L]{U:Nat→Prop}{g:Gh}{B:Nat}{h:Hp L}{w:World}(hr:RepH U g B h w){e:TypeId}{x:X L}{v:Value}{l:L}(hx:RepX g x v)(hs:srcOf h e x=some l)(hz:0 < LI.sz l):∃ news,Src' g.G w l v news:=by
 unfold srcOf at hs
 split at hs
 ·rename_i c hc
  have hcr:=cOf_rep hx hc
  cases hn:isNil c with
  | true =>
   rw [hn,cond_true] at hs
   rw [isNil_eq hn] at hcr
   have hv:=hcr.nil_val;subst hv
   have he:=nil_els hs
   exact ⟨[],by rw [he];exact .nil,by simp [he],none,0,by simp [he],by simp [he],by simp [he]⟩
  | false =>
   rw [hn,cond_false] at hs
   split at hs
   ·rename_i l2 u hl;cases hs;exact src_of hr hl hz hcr
   ·cases hs
 ·cases hs
def FullV (G:Fz)(l0:Option L)(v:Value):Prop:=∃ a n,v=.slice a n n∧match l0 with | none=>n=0 | some l=>RepI G (.fz l) v
theorem fullOf_rep {g:Gh}{c:C L}{v:Value}{l0:Option L}(hc:RepC g c v)(hl:fullOf c=some l0):FullV g.G l0 v:=by
 unfold fullOf at hl
 split at hl
 ·cases hl
  obtain ⟨h1,a,n,hv⟩:=hc
  exact ⟨a,n,hv,h1⟩
 ·cases hl
  obtain ⟨a,hv⟩:=hc
  exact ⟨a,0,hv,rfl⟩
 ·cases hl
theorem appendFull_sound [LLaws L]{P:Program}{T:Tab}(hT:TabOK P T){t ty e:TypeId}(ht:P.underlying t=some (.slice e))(hzok:zOk T e=true){oD:OrcD L}{U:Nat→Prop}{g:Gh}{B:Nat}{h:Hp L}{w:World}{fresh:Nat}(hr:RepH U g B h w)(hf:¬ U fresh)
  {l0:Option L} {l2:L} (hsz:sizeT T e=LI.sz l2) {v v2:Value} (hv:FullV g.G l0 v) {news:List Value} (hs:Src' g.G w l2 v2 news) {Q:X L×Hp L→Prop} (hq:(appendFull T fresh e l0 l2).holds oD Q) :
  ∃ y u,Q (y,u)∧∃ v' w' g',(Builtin.append_ #[t,t] ty #[v,v2]).run P w=.ok v' w'∧Post U g B h fresh w y u v' w' g':=by
 unfold appendFull at hq
 split at hq
 ·rename_i l hl
  split at hq
  ·rename_i l' happ
   cases hcd:Nat.beq (sizeT T e) (LI.sz l) with
   | false=>rw [hcd] at hq;exact hq.elim
   | true =>
    rw [hcd,cond_true] at hq
    rcases hq with ⟨hpos2,hq⟩ | ⟨_,hq⟩
    ·rcases hq with ⟨hfit,hq⟩ | ⟨_,hq⟩
     ·obtain ⟨info,z,hi,hz,hzs,hby,hpos,hsize⟩:=zOk_info hT hzok
      have hszl:sizeT T e=LI.sz l:=Nat.eq_of_beq_eq_true hcd
      obtain ⟨a,n,rfl,hv'⟩:=hv
      have hz0:0 < LI.sz l:=by rw [← hszl,hsize];exact hpos
      have hfz:RepI g.G (.fz l) (.slice a n n):=by
       cases l0 with
       | none =>
        have he:=nil_els hl
        simp only at hv';subst hv'
        exact .fz (k:=0) (o:=0) (vals:=fun _ _=>.nilFunc) (by simp [he]) (Nat.le_refl _) (by simp) (by simp [he]) (by simp [he])
       | some l1=>cases hl;exact hv'
      obtain ⟨olds,hso⟩:=src_fz hr.fz hz0 hfz
      obtain ⟨hels,hs1,hs2⟩:=LLaws.app l l2 l' happ
      have hlen:(LI.els l').length=(LI.els l).length+(LI.els l2).length:=by rw [hels];simp
      have hm:0 < (LI.els l2).length:=by have:=of_decide_eq_true hpos2;rwa [LLaws.len] at this
      have hfit':(LI.els l).length+(LI.els l2).length≤1073741824:=by
       have:=of_decide_eq_true hfit;rw [LLaws.len,hlen] at this;exact this
      obtain ⟨a1,cap1,hv1,hc1,hcell1⟩:=hso.form
      cases hv1
      obtain ⟨a2,cap2,hv2,hc2,hcell2⟩:=hs.form
      obtain ⟨ad,rfl,hcl2⟩:=hcell2 hm
      subst hv2
      have hol:olds.length=(LI.els l).length * info.size:=by rw [hso.len,← hszl,hsize]
      have hnl:news.length=(LI.els l2).length * info.size:=by rw [hs.len,← hsz,hsize]
      have hbytes:((LI.els l).length+(LI.els l2).length) * info.bytes≤140737488355328:=Nat.le_trans (Nat.mul_le_mul hfit' hby) (by decide)
      have hbase:=hr.base
      have hnew:∀ c en,look h c=some en→Owns g c en→g.blk c≠w.heap.size:=fun c en hc hO he=>Nat.lt_irrefl _ (he ▸ hr.lt_size hc hO)
      have hrep:RepIs g.G (LI.els l').flatten (olds++news):=by rw [hels,List.flatten_append];exact hso.rep.append hs.rep
      have hall:∃ v' w',(Builtin.append_ #[t,t] ty #[.slice a (LI.els l).length (LI.els l).length,.slice (some ad) (LI.els l2).length cap2]).run P w=.ok v' w'∧w'.ownsRow w.heap.size e info.size v' ((LI.els l).length+(LI.els l2).length) (olds++news)∧w.grownBy w' none:=by
       cases a with
       | some b =>
        refine run_append_arg_grows (P:=P) w t ty e info z info.size info.bytes ht hi hz rfl rfl hzs hpos b _ _ olds hol ?_ ad _ _ news hnl hcl2 (by omega) (by unfold maxLen;omega) hbytes
        intro j u hj
        rcases Nat.eq_zero_or_pos (LI.els l).length with h0 | h0
        ·rw [h0,Nat.zero_mul] at hol
         rw [List.eq_nil_of_length_eq_zero hol] at hj;simp at hj
        ·obtain ⟨ad',had,hc'⟩:=hcell1 h0
         cases had;exact hc' j u hj
       | none =>
        have h0:(LI.els l).length=0:=by
         rcases Nat.eq_zero_or_pos (LI.els l).length with h0 | h0
         ·exact h0
         ·obtain ⟨_,had,_⟩:=hcell1 h0;cases had
        rw [h0,Nat.zero_mul] at hol
        have ho:olds=[]:=List.eq_nil_of_length_eq_zero hol
        subst ho
        rw [h0] at hbytes ⊢
        obtain ⟨k,cap,w',hrun,hrow,hgrow,hwhere,_⟩:=run_append_lies (P:=P) (w:=w) t ty w.heap.size e info z info.size info.bytes ht hi hz rfl rfl hzs hpos (.slice none 0 0) 0 [] ⟨by simp,.inl ⟨rfl,rfl⟩⟩ ad (LI.els l2).length cap2 news hnl hcl2 hs.rep.one (by omega) (by unfold maxLen;omega) hbytes (Nat.le_refl _) w.heap.size rfl
        exact ⟨_,w',hrun,hrow,hgrow⟩
      obtain ⟨v',w',hrun,hrow,hgrow⟩:=hall
      rcases hrow.2 with ⟨hv0,hn0⟩ | ⟨k,cap,cur,hv0,hbk,hk,rest⟩
      ·omega
      ·subst hv0
       have hrow':w'.ownsRow B e (LI.sz l') (.slice (some ⟨k,0,none⟩) (LI.els l').length cap) (LI.els l').length (olds++news):=by
        rw [hlen,hs1,← hszl,hsize]
        refine ⟨hrow.1,.inr ⟨k,cap,cur,rfl,by omega,hk,rest⟩⟩
       have hh:=hr.addRow (f:=fresh) hf (k:=k) (by omega) (fun c en hc hO he=>by have:=hr.lt_size hc hO;omega) (fun o v hG=>by have:=cell_lt (hr.fz _ _ _ hG);omega) (fun j hj _ _=>hgrow.block j hj (by simp)) hgrow.size (s:=(some ⟨k,0,none⟩,(LI.els l').length,cap)) hrow' hrep (fun j hj=>by simpa [Value.ownBlock] using hj.symm)
       rw [← hlen] at hrun
       exact ⟨_,_,hq,_,w',_,hrun,Post.row (u1:=[]) (s:=(some ⟨k,0,none⟩,(LI.els l').length,cap)) hr hf (fun c en hc=>.inl hc) (.inr hbk) hh ⟨hgrow.os,hgrow.tape,hgrow.output,hgrow.size⟩ (fun j hj _=>hgrow.block j hj (by simp)) (by simp [look])⟩
     ·exact hq.elim
    ·exact hq.elim
  ·exact hq.elim
 ·exact hq.elim
theorem appendOp_sound [LLaws L]{P:Program}{T:Tab}(hT:TabOK P T){t ty e:TypeId}(ht:P.underlying t=some (.slice e)){oD:OrcD L}{U:Nat→Prop}{g:Gh}{B:Nat}{h:Hp L}{w:World}{fresh:Nat}(hr:RepH U g B h w)(hf:¬ U fresh)
  {s x:X L} {v v2:Value} (hs:RepX g s v) (hx:RepX g x v2) {Q:X L×Hp L→Prop} (hq:(appendOp T h fresh e s x).holds oD Q) :
  ∃ y u,Q (y,u)∧∃ v' w' g',(Builtin.append_ #[t,t] ty #[v,v2]).run P w=.ok v' w'∧Post U g B h fresh w y u v' w' g':=by
 unfold appendOp at hq
 split at hq
 ·rename_i l2 c hsrc hc
  have hcr:=cOf_rep hs hc
  cases hcd:(Nat.beq (sizeT T e) (LI.sz l2) && zOk T e) with
  | false=>rw [hcd] at hq;exact hq.elim
  | true =>
   rw [hcd,cond_true] at hq
   rw [Bool.and_eq_true] at hcd
   have hsz:sizeT T e=LI.sz l2:=Nat.eq_of_beq_eq_true hcd.1
   obtain ⟨info,z,hi,_,_,_,hpos,hsize⟩:=zOk_info hT hcd.2
   obtain ⟨news,hsr⟩:=srcOf_src hr hx hsrc (by omega)
   cases hn:isNil c with
   | true =>
    rw [hn,cond_true] at hq
    rw [isNil_eq hn] at hcr
    have hv:=hcr.nil_val;subst hv
    split at hq
    ·rename_i l hl
     split at hq
     ·rename_i l' happ
      rcases hq with ⟨hfit,hq⟩ | ⟨_,hq⟩
      ·have he:=nil_els hl
       have ho:w.ownsRow B e (LI.sz l) (.slice none 0 0) (LI.els l).length []:=⟨by simp [he],.inl ⟨rfl,by simp [he]⟩⟩
       obtain ⟨k,sv,w',hrun,hh,hsame,hfr,hk⟩:=append_core hT (ty:=ty) ht hcd.2 hr hf hsz happ hfit ho (by rw [he];exact .nil) hsr (by simp [Value.ownBlock])
       refine ⟨_,_,hq,_,w',_,hrun,Post.row (u1:=[]) hr hf (fun c en hc=>.inl hc) ?_ hh hsame (fun j hj _=>hfr j hj (by simp [Value.ownBlock])) (by simp [look])⟩
       rcases hk with hk | hk
       ·simp [Value.ownBlock] at hk
       ·exact .inr hk
      ·exact hq.elim
     ·exact hq.elim
    ·exact hq.elim
   | false =>
    rw [hn,cond_false] at hq
    split at hq
    ·rename_i l0 hfull
     exact appendFull_sound hT ht hcd.2 hr hf hsz (fullOf_rep hcr hfull) hsr hq
    rename_i hnf;clear hnf
    split at hq
    ·rename_i b
     simp only [RepC] at hcr;subst hcr
     split at hq
     ·rename_i e' l hb
      split at hq
      ·rename_i l' happ
       cases hee:Nat.beq e e' with
       | false=>rw [hee] at hq;exact hq.elim
       | true =>
        rw [hee,cond_true] at hq
        have:e=e':=Nat.eq_of_beq_eq_true hee
        subst this
        rcases hq with ⟨hfit,hq⟩ | ⟨_,hq⟩
        ·obtain ⟨xs,ho,hxs,hbk⟩:=hr.ent b _ hb
         have hA:∀ c en,look ([(b,En.dead)]++h) c=some en→look h c=some en∨(en=.dead∧∃ e',look h c=some e'):=by
          intro c en hc
          rw [List.singleton_append,look_cons] at hc
          split at hc
          ·rename_i hbc;subst hbc;cases hc;exact .inr ⟨rfl,_,hb⟩
          ·exact .inl hc
         have hr1:=hr.kill hA
         have hOb:∀ j,(g.v b).ownBlock=some j→Owns g b (.arr e l:En L):=fun j hj=>by simp [Owns,hj]
         obtain ⟨k,sv,w',hrun,hh,hsame,hfr,hk⟩:=append_core hT (ty:=ty) ht hcd.2 hr1 hf hsz happ hfit ho hxs hsr (fun j hj=>by
          have hj':=hbk j hj;subst hj'
          refine ⟨hr.own b _ hb (hOb _ hj),fun c en hc hO=>?_,fun o zz hG=>?_⟩
          ·rw [List.singleton_append,look_cons] at hc
           split at hc
           ·cases hc;exact hO.elim
           ·rename_i hbc;exact fun he=>hr.dis b c _ en hb hc (hOb _ hj) hO hbc he.symm
          ·obtain ⟨_,_,hx',_⟩:=hr.free b _ hb (hOb _ hj) o zz hG
           cases hx')
         refine ⟨_,_,hq,_,w',_,hrun,Post.row (u1:=[(b,.dead)]) hr hf hA ?_ hh hsame (fun j hj hown=>hfr j hj fun hj'=>?_) ?_⟩
         ·rcases hk with hk | hk
          ·exact .inl ⟨b,_,hb,hOb _ hk,(hbk _ hk).symm⟩
          ·exact .inr hk
         ·exact hown b _ hb (hOb _ hj') (hbk _ hj').symm
         ·intro c en hc
          rw [look_cons] at hc
          split at hc
          ·rename_i hbc;subst hbc;exact ⟨_,hb⟩
          ·simp [look] at hc
        ·exact hq.elim
      ·exact hq.elim
     ·rename_i b0 n hb
      split at hq
      ·rename_i e' l0 hb0
       split at hq
       ·rename_i l' happ
        cases hee:Nat.beq e e' with
        | false=>rw [hee] at hq;exact hq.elim
        | true =>
         rw [hee,cond_true] at hq
         have:e=e':=Nat.eq_of_beq_eq_true hee
         subst this
         rcases hq with ⟨hfit,hq⟩ | ⟨_,hq⟩
         ·obtain ⟨xs,ho0,hxs0,hbk⟩:=hr.ent b0 _ hb0
          obtain ⟨hkn,hsv⟩:=hr.preOf hb (.inl hb0)
          have ho:w.ownsRow B e (LI.sz (LI.sub l0 0 n)) (g.v b) (LI.els (LI.sub l0 0 n)).length (xs.take (n * LI.sz l0)):=by
           unfold Gh.v at ho0 ⊢;rw [hsv];exact ownsRow_pre ho0 hkn
          have hxs:RepIs g.G (LI.els (LI.sub l0 0 n)).flatten (xs.take (n * LI.sz l0)):=by
           obtain ⟨he,hs⟩:=LLaws.sub l0 0 n
           rw [he,List.drop_zero,flatten_take n fun c hc=>LLaws.size l0 c hc]
           exact hxs0.take _
          have hsame:(g.v b).ownBlock=(g.v b0).ownBlock:=by unfold Gh.v;rw [hsv];cases (g.sv b0).1<;>rfl
          have hA:∀ c en,look ([(b,En.dead),(b0,En.dead)]++h) c=some en→look h c=some en∨(en=.dead∧∃ e',look h c=some e'):=by
           intro c en hc
           simp only [List.cons_append,List.nil_append] at hc
           rw [look_cons] at hc
           split at hc
           ·rename_i hbc;subst hbc;cases hc;exact .inr ⟨rfl,_,hb⟩
           ·rw [look_cons] at hc
            split at hc
            ·rename_i hbc;subst hbc;cases hc;exact .inr ⟨rfl,_,hb0⟩
            ·exact .inl hc
          have hr1:=hr.kill hA
          have hOb:∀ j,(g.v b).ownBlock=some j→Owns g b0 (.arr e l0:En L):=fun j hj=>by rw [hsame] at hj;simp [Owns,hj]
          have hbk':∀ j,(g.v b).ownBlock=some j→j=g.blk b0:=fun j hj=>hbk j (by rw [← hsame];exact hj)
          obtain ⟨k,sv,w',hrun,hh,hsm,hfr,hk⟩:=append_core hT (ty:=ty) ht hcd.2 hr1 hf hsz happ hfit ho hxs hsr (fun j hj=>by
           have hj':=hbk' j hj;subst hj'
           refine ⟨hr.own b0 _ hb0 (hOb _ hj),fun c en hc hO=>?_,fun o zz hG=>?_⟩
           ·simp only [List.cons_append,List.nil_append] at hc
            rw [look_cons] at hc
            split at hc
            ·cases hc;exact hO.elim
            ·rw [look_cons] at hc
             split at hc
             ·cases hc;exact hO.elim
             ·rename_i hbc;exact fun he=>hr.dis b0 c _ en hb0 hc (hOb _ hj) hO hbc he.symm
           ·obtain ⟨_,_,hx',_⟩:=hr.free b0 _ hb0 (hOb _ hj) o zz hG
            cases hx')
          refine ⟨_,_,hq,_,w',_,hrun,Post.row (u1:=[(b,.dead),(b0,.dead)]) hr hf hA ?_ hh hsm (fun j hj hown=>hfr j hj fun hj'=>?_) ?_⟩
          ·rcases hk with hk | hk
           ·exact .inl ⟨b0,_,hb0,hOb _ hk,(hbk' _ hk).symm⟩
           ·exact .inr hk
          ·exact hown b0 _ hb0 (hOb _ hj') (hbk' _ hj').symm
          ·intro c en hc
           rw [look_cons] at hc
           split at hc
           ·rename_i hbc;subst hbc;exact ⟨_,hb⟩
           ·rw [look_cons] at hc
            split at hc
            ·rename_i hbc;subst hbc;exact ⟨_,hb0⟩
            ·simp [look] at hc
         ·exact hq.elim
       ·exact hq.elim
      ·exact hq.elim
     ·exact hq.elim
    ·exact hq.elim
 ·exact hq.elim
end Go.Ev
/- The operations, one by one: those that compute, and those on variables. -/
namespace Go.Ev
variable {L:Type} [LI L]
section
variable {P:Program} {T:Tab} {oD:OrcD L} {U:Nat→Prop} {g:Gh} {B:Nat} {h:Hp L} {w:World} {fresh:Nat} {env:List (Nat×X L)} {a:Act} {o:Oper} {Q:X L×Hp L→Prop}
def Good (P:Program)(U:Nat→Prop)(g:Gh)(B:Nat)(h:Hp L)(w:World)(fresh:Nat)(a:Act)(o:Oper)(Q:X L×Hp L→Prop):Prop :=
 ∃ x u,Q (x,u)∧Fine U g B h fresh w ((execOp a.eval o).run P w) x u
theorem Good.value {x:X L}{u:Hp L}{v:Value}{w':World}{g':Gh}(hq:Q (x,u))(hrun:(execOp a.eval o).run P w=.ok (.value v) w')(hp:Post U g B h fresh w x u v w' g'):Good P U g B h w fresh a o Q :=
 ⟨x,u,hq,_,v,w',g',hrun,.inl rfl,hp⟩
theorem Good.pure {x:X L}{v:Value}(hq:Q (x,[]))(hrun:(execOp a.eval o).run P w=.ok (.value v) w)(hr:RepH U g B h w)(hx:RepX g x v)(hi:∀ b∈idsX x,U b):Good P U g B h w fresh a o Q :=
 .value hq hrun (.pure hr hx hi)
theorem Good.pureI {x:I L}{v:Value}(hq:(oneI x:Res L).holds oD Q)(hrun:(execOp a.eval o).run P w=.ok (.value v) w)(hr:RepH U g B h w)(hx:RepI g.G x v):Good P U g B h w fresh a o Q :=
 .pure hq hrun hr hx (by simp [idsX,idsS,cellsOf,idsC])
theorem op_move {x:Operand}(ho:o.op=.move x∨o.op=.assign x)(hE:RepE U g env a)(hr:RepH U g B h w)(hq:Q (opd env x,[])):Good P U g B h w fresh a o Q:=by
 refine .pure hq (v:=a.eval x) ?_ hr (opd_rep hE x) (opd_ids hE x)
 rcases ho with ho | ho<;>simp [execOp,ho]
theorem imOf_rep {x:X L}{v:Value}{i:I L}(hx:RepX g x v)(hi:imOf x=some i):RepI g.G i v:=by
 unfold imOf at hi;split at hi
 ·cases hi;exact hx
 ·cases hi
theorem intV_rep {i:I L}{v:Value}{n:IntV}(hi:RepI g.G i v)(hn:intV i=some n):v=.int n.k n.n:=by
 unfold intV at hn;split at hn
 ·cases hn;cases hi;rfl
 ·cases hn;cases hi;rfl
 ·cases hn
theorem boolV_rep {i:I L}{v:Value}{b:Bool×Bool}(hi:RepI g.G i v)(hn:boolV i=some b):v=.bool b.1:=by
 unfold boolV at hn;split at hn
 ·cases hn;cases hi;rfl
 ·cases hn;cases hi;rfl
 ·cases hn;cases hi;rfl
 ·cases hn
theorem rep_mkInt (G:Fz)(known:Bool)(k:IntKind)(n:Int):RepI G (mkInt known k n:I L) (.int k n):=by
 cases known;exact .int;exact .lit
theorem rep_mkBool (G:Fz)(known b:Bool):RepI G (mkBool known b:I L) (.bool b):=by
 cases known
 ·exact .bool
 ·cases b;exact .ff;exact .tt
theorem op_pick {c x y:Operand}(ho:o.op=.pick c x y)(hE:RepE U g env a)(hr:RepH U g B h w)(hq:(evOp T h fresh (opd env) (.pick c x y)).holds oD Q):Good P U g B h w fresh a o Q:=by
 simp only [evOp] at hq
 split at hq
 ·rename_i i hi
  have hci:=imOf_rep (opd_rep hE c) hi
  have run:∀ t,a.eval c=.bool t→(execOp a.eval o).run P w=.ok (.value (if t then a.eval x else a.eval y)) w:=by
   intro t ht;simp [execOp,ho,ht,asBool]
  split at hq
  ·rename_i t hb
   have hrun:=run t (boolV_rep hci hb)
   cases t with
   | true=>exact .pure hq (v:=a.eval x) (by simpa using hrun) hr (opd_rep hE x) (opd_ids hE x)
   | false=>exact .pure hq (v:=a.eval y) (by simpa using hrun) hr (opd_rep hE y) (opd_ids hE y)
  ·rename_i t hb
   have hrun:=run t (boolV_rep hci hb)
   have parted:(Out.br t (.ret (opd env x,[])) (.ret (opd env y,[])):Res L).holds oD Q→Good P U g B h w fresh a o Q:=by
    rintro (⟨ht,hq'⟩ | ⟨ht,hq'⟩)
    ·exact .pure hq' (v:=a.eval x) (by rw [hrun,ht];rfl) hr (opd_rep hE x) (opd_ids hE x)
    ·exact .pure hq' (v:=a.eval y) (by rw [hrun,ht];rfl) hr (opd_rep hE y) (opd_ids hE y)
   split at hq
   ·rename_i p q hp hp'
    have h1:=imOf_rep (opd_rep hE x) hp
    have h2:=imOf_rep (opd_rep hE y) hp'
    split at hq
    ·rename_i p' q' hbp hbq
     have e1:=boolV_rep h1 hbp
     have e2:=boolV_rep h2 hbq
     refine .pureI (v:=.bool (cond t p'.1 q'.1)) hq ?_ hr .bool
     rw [hrun,e1,e2];cases t<;>rfl
    ·exact parted hq
   ·exact parted hq
  ·exact hq.elim
 ·exact hq.elim
omit [LI L] in
theorem zeroC_eq {i:TI}{z:List (C L)}(h:zeroC i=some z):∃ vs,i.zero=some vs∧z=vs.map ofC∧(vs.map (ofC (L:=L))).all solid=true:=by
 unfold zeroC at h
 split at h
 ·rename_i vs hvs
  cases hs:(vs.map (ofC (L:=L))).all solid with
  | true=>rw [hs] at h;cases h;exact ⟨vs,hvs,rfl,hs⟩
  | false=>rw [hs] at h;cases h
 ·cases h
theorem rep_ofCs (g:Gh)(vs:List Value):All2 (RepC g) (vs.map (ofC (L:=L))) vs:=by
 induction vs with
 | nil=>exact .nil
 | cons v r ih=>exact .cons (RepC.ofC v) ih
theorem ones {g:Gh}{cs:List (C L)}{vs:List Value}(h:All2 (RepC g) cs vs)(hs:cs.all solid=true):∀ u∈vs,u.oneCell'=true:=by
 induction h with
 | nil=>simp
 | cons h _ ih =>
  intro u hu
  simp only [List.all_cons,Bool.and_eq_true] at hs
  rcases List.mem_cons.1 hu with rfl | hu
  ·exact RepC.one h hs.1
  ·exact ih hs.2 u hu
theorem one_ofCs {g:Gh}{vs:List Value}(hs:(vs.map (ofC (L:=L))).all solid=true):∀ u∈vs,u.oneCell'=true:=ones (rep_ofCs g vs) hs
theorem op_alloc (hT:TabOK P T){t:TypeId}(ho:o.op=.alloc t)(hr:RepH U g B h w)(hf:¬ U fresh)(hq:(evOp T h fresh (opd env) (.alloc t)).holds oD Q):Good P U g B h w fresh a o Q:=by
 simp only [evOp] at hq
 split at hq
 ·rename_i i hi
  split at hq
  ·rename_i z hz
   obtain ⟨info,d,h1,_,_,_,_,h6⟩:=tab_info hT hi
   obtain ⟨vs,hvs,rfl,hsol⟩:=zeroC_eq hz
   rw [h6] at hvs
   cases hzz:info.zero with
   | none=>rw [hzz] at hvs;cases hvs
   | some zv =>
    rw [hzz] at hvs;simp only [Option.map_some,Option.some.injEq] at hvs
    have hc:=rep_ofCs (L:=L) g vs
    have hp:=Post.newVar (t:=t) (B:=B) hr hf hc (one_ofCs (g:=g) hsol) (by simp [idsC_ofC])
    refine .value hq ?_ hp
    subst hvs
    simp [execOp,ho,Instr.alloc,zeroValue,typeInfo,Sem.run,program,h1,hzz,newVar,newRow,newObj]
  ·exact hq.elim
 ·exact hq.elim
end
end Go.Ev
/- More operations: variables, numbers, structs. -/
namespace Go.Ev
variable {L:Type} [LI L]
section
variable {P:Program} {T:Tab} {oD:OrcD L} {U:Nat→Prop} {g:Gh} {B:Nat} {h:Hp L} {w:World} {fresh:Nat} {env:List (Nat×X L)} {a:Act} {o:Oper} {Q:X L×Hp L→Prop}
theorem op_box {t:TypeId}{x:Operand}(ho:o.op=.box t x)(hE:RepE U g env a)(hr:RepH U g B h w)(hf:¬ U fresh)(hq:(evOp T h fresh (opd env) (.box t x)).holds oD Q):Good P U g B h w fresh a o Q:=by
 simp only [evOp] at hq
 have hx:=opd_rep hE x
 have hxi:=opd_ids hE x
 split at hq
 ·rename_i s hs
  rw [hs] at hx hxi
  cases hsol:(cellsOf s).all solid with
  | false=>rw [hsol] at hq;exact hq.elim
  | true =>
   rw [hsol,cond_true] at hq
   obtain ⟨vs,hvc,hvs,hone⟩:=RepS.cells hx hsol
   refine .value hq ?_ (Post.newVar (t:=t) hr hf hvs hone hxi)
   simp [execOp,ho,Instr.box,newVar,newRow,newObj,Sem.run,hvc]
 ·exact hq.elim
theorem op_load [LLaws L](hT:TabOK P T){t:TypeId}{x:Operand}(ho:o.op=.load t x)(hE:RepE U g env a)(hr:RepH U g B h w)(hq:(evOp T h fresh (opd env) (.load t x)).holds oD Q):Good P U g B h w fresh a o Q:=by
 simp only [evOp] at hq
 split at hq
 ·rename_i i c hi hc
  obtain ⟨y,u,hqy,v,g',hrun,hp⟩:=loadOp_sound (fresh:=fresh) hT hi hr (cOf_rep (opd_rep hE x) hc) hq
  refine .value hqy ?_ hp
  simp [execOp,ho,hrun]
 ·exact hq.elim
theorem op_store [LLaws L](hT:TabOK P T){t:TypeId}{x y:Operand}(ho:o.op=.store t x y)(hE:RepE U g env a)(hr:RepH U g B h w)(hq:(evOp T h fresh (opd env) (.store t x y)).holds oD Q):Good P U g B h w fresh a o Q:=by
 simp only [evOp] at hq
 have hy:=opd_rep hE y
 have hyi:=opd_ids hE y
 split at hq
 ·rename_i i c s hi hc hs
  rw [hs] at hy hyi
  obtain ⟨z,u,hqz,w',g',hrun,hp⟩:=storeOp_sound (fresh:=fresh) hT hi hr (cOf_rep (opd_rep hE x) hc) hy hyi hq
  exact ⟨z,u,hqz,.skip,undef,w',g',by simp [execOp,ho,hrun],.inr ⟨rfl,rfl⟩,hp⟩
 ·exact hq.elim
theorem op_nilCheck {x:Operand}(ho:o.op=.nilCheck x)(hE:RepE U g env a)(hr:RepH U g B h w)(hq:(evOp T h fresh (opd env) (.nilCheck x)).holds oD Q):Good P U g B h w fresh a o Q:=by
 simp only [evOp] at hq
 have hx:=opd_rep hE x
 have hxi:=opd_ids hE x
 have ids:∀ {c:C L},cOf (opd env x)=some c→∀ b∈idsX (.s (.c c)),U b:=by
  intro c hc b hb
  unfold cOf at hc
  split at hc
  ·rename_i c' he;cases hc;rw [he] at hxi;exact hxi b hb
  ·cases hc
 split at hq
 ·rename_i b off hc
  have hcr:=cOf_rep hx hc
  have he:=hcr;simp only [RepC] at he
  exact .pure hq (v:=a.eval x) (by simp [execOp,ho,he]) hr hcr (ids hc)
 ·rename_i b i sz off hc
  have hcr:=cOf_rep hx hc
  have he:=hcr;simp only [RepC] at he
  exact .pure hq (v:=a.eval x) (by simp [execOp,ho,he]) hr hcr (ids hc)
 ·rename_i b base i n sz off hc
  have hcr:=cOf_rep hx hc
  have hcr':=hcr
  obtain ⟨m,_,_,he⟩:=hcr'
  exact .pure hq (v:=a.eval x) (by simp [execOp,ho,he]) hr hcr (ids hc)
 ·rename_i cs off hc
  have hcr:=cOf_rep hx hc
  have hcr':=hcr
  obtain ⟨k,p,he,_⟩:=hcr'
  exact .pure hq (v:=a.eval x) (by simp [execOp,ho,he]) hr hcr (ids hc)
 ·rename_i f p q hc
  have hcr:=cOf_rep hx hc
  have he:=hcr;simp only [RepC] at he
  exact .pure hq (v:=a.eval x) (by simp [execOp,ho,he]) hr hcr (ids hc)
 ·rename_i f p q hc
  have hcr:=cOf_rep hx hc
  have hcr':=hcr
  obtain ⟨vs,_,he⟩:=hcr'
  exact .pure hq (v:=a.eval x) (by simp [execOp,ho,he]) hr hcr (ids hc)
 ·exact hq.elim
theorem keq_eq {a b:IntKind}(h:keq a b=true):a=b:=by cases a<;>cases b<;>first | rfl | cases h
theorem chk_holds {y:IntV}{r:Res L}(h:(chk y r).holds oD Q):y.n≠0∧r.holds oD Q:=by
 unfold chk at h
 cases hk:y.known<;>rw [hk] at h
 ·rcases h with ⟨_,h⟩ | ⟨h1,h⟩
  ·exact h.elim
  ·exact ⟨of_decide_eq_false h1,h⟩
 ·simp only [cond_true] at h
  cases hd:decide (y.n=0) with
  | true=>rw [hd] at h;exact h.elim
  | false=>rw [hd] at h;exact ⟨of_decide_eq_false hd,h⟩
theorem run_binOp_int {op:BinOp}{t t2:TypeId}{x y:Operand}(ho:o.op=.binOp op t x y t2){i j:IntV}(h1:a.eval x=.int i.k i.n)(h2:a.eval y=.int j.k j.n)(hr:RepH U g B h w)(hq:(intBin op i j:Res L).holds oD Q):Good P U g B h w fresh a o Q:=by
 unfold intBin at hq
 cases hs:isShr op with
 | true =>
  rw [hs,cond_true] at hq
  unfold intShr at hq
  cases op<;>first | (cases hs;done) | skip
  cases hkn:j.known with
  | false=>rw [hkn] at hq;exact hq.elim
  | true =>
   rw [hkn,cond_true] at hq
   cases hc:(decide (0≤j.n) && Nat.ble j.n.toNat i.k.bits) with
   | false=>rw [hc] at hq;exact hq.elim
   | true =>
    rw [hc,cond_true] at hq
    rw [Bool.and_eq_true] at hc
    have h0:=of_decide_eq_true hc.1
    have h1':=Nat.le_of_ble_eq_true hc.2
    have base:∀ {r:Value},(binOp .shr t (.int i.k i.n) (.int j.k j.n)).run P w=.ok r w→(execOp a.eval o).run P w=.ok (.value r) w:=by
     intro r hr'
     simp only [execOp,ho,h1,h2,Sem.run_bind]
     have:(eqGuard .shr t x y (.int i.k i.n) (.int j.k j.n)).run P w=.ok () w:=by
      unfold eqGuard;split<;>simp
     rw [this];simp [hr']
    refine .pureI hq (base ?_) hr (rep_mkInt _ _ _ _)
    have hmin:min j.n.toNat i.k.bits=j.n.toNat:=Nat.min_eq_left h1'
    have hfd:i.n.fdiv (2 ^ j.n.toNat)=i.n / 2 ^ j.n.toNat:=Int.fdiv_eq_ediv_of_nonneg _ (Int.le_of_lt (Int.pow_pos (by decide)))
    simp [binOp,Op.shift,hmin,hfd,Int.not_lt.2 h0]
 | false =>
 rw [hs,cond_false] at hq
 cases hk:keq i.k j.k with
 | false=>rw [hk] at hq;exact hq.elim
 | true =>
  rw [hk,cond_true] at hq
  have hkk:=keq_eq hk
  rw [← hkk] at h2
  have base:∀ {r:Value},(binOp op t (.int i.k i.n) (.int i.k j.n)).run P w=.ok r w→(execOp a.eval o).run P w=.ok (.value r) w:=by
   intro r hr'
   simp only [execOp,ho,h1,h2,Sem.run_bind]
   have:(eqGuard op t x y (.int i.k i.n) (.int i.k j.n)).run P w=.ok () w:=by
    unfold eqGuard;split<;>simp
   rw [this];simp [hr']
  cases op<;>dsimp only at hq
  case add=>exact .pureI hq (base (by simp [binOp,Op.intArith])) hr (rep_mkInt _ _ _ _)
  case sub=>exact .pureI hq (base (by simp [binOp,Op.intArith])) hr (rep_mkInt _ _ _ _)
  case mul=>exact .pureI hq (base (by simp [binOp,Op.intArith])) hr (rep_mkInt _ _ _ _)
  case quo=>obtain ⟨hne,hq⟩:=chk_holds hq;exact .pureI hq (base (by simp [binOp,Op.intDiv,hne])) hr (rep_mkInt _ _ _ _)
  case rem=>obtain ⟨hne,hq⟩:=chk_holds hq;exact .pureI hq (base (by simp [binOp,Op.intDiv,hne])) hr (rep_mkInt _ _ _ _)
  case eql=>exact .pureI hq (base (by simp [binOp,Op.intCmp])) hr (rep_mkBool _ _ _)
  case neq=>exact .pureI hq (base (by simp [binOp,Op.intCmp])) hr (rep_mkBool _ _ _)
  case lss=>exact .pureI hq (base (by simp [binOp,Op.intCmp])) hr (rep_mkBool _ _ _)
  case leq=>exact .pureI hq (base (by simp [binOp,Op.intCmp])) hr (rep_mkBool _ _ _)
  case gtr=>exact .pureI hq (base (by simp [binOp,Op.intCmp])) hr (rep_mkBool _ _ _)
  case geq=>exact .pureI hq (base (by simp [binOp,Op.intCmp])) hr (rep_mkBool _ _ _)
  case and=>exact .pureI hq (base (by simp [binOp,Op.intBits,andI])) hr (rep_mkInt _ _ _ _)
  all_goals exact hq.elim
theorem run_binOp_str {op:BinOp}{t t2:TypeId}{x y:Operand}(ho:o.op=.binOp op t x y t2){s r:ByteArray}(h1:a.eval x=.string s)(h2:a.eval y=.string r)(hr:RepH U g B h w)(hq:(strBin op s r:Res L).holds oD Q):Good P U g B h w fresh a o Q:=by
 have base:∀ {v:Value},(binOp op t (.string s) (.string r)).run P w=.ok v w→(execOp a.eval o).run P w=.ok (.value v) w:=by
  intro v hr'
  simp only [execOp,ho,h1,h2,Sem.run_bind]
  have:(eqGuard op t x y (.string s) (.string r)).run P w=.ok () w:=by
   unfold eqGuard;split<;>simp
  rw [this];simp [hr']
 unfold strBin at hq
 cases op<;>dsimp only at hq
 case add =>
  rcases hq with ⟨hfit,hq⟩ | ⟨_,hq⟩
  ·refine .pureI hq (base ?_) hr .str
   have hf:=of_decide_eq_true hfit
   have hf':s.size+r.size≤1073741824:=hf
   simp [binOp,Op.stringOp]
   omega
  ·exact hq.elim
 case eql=>exact .pureI hq (base (by simp [binOp,Op.stringOp,ByteArray.toList_eq])) hr .bool
 case neq=>exact .pureI hq (base (by simp [binOp,Op.stringOp,ByteArray.toList_eq])) hr .bool
 case lss=>exact .pureI hq (base (by simp [binOp,Op.stringOp,ByteArray.toList_eq])) hr .bool
 case leq=>exact .pureI hq (base (by simp [binOp,Op.stringOp,ByteArray.toList_eq])) hr .bool
 case gtr=>exact .pureI hq (base (by simp [binOp,Op.stringOp,ByteArray.toList_eq])) hr .bool
 case geq=>exact .pureI hq (base (by simp [binOp,Op.stringOp,ByteArray.toList_eq])) hr .bool
 all_goals exact hq.elim
end
end Go.Ev
/- Equality of aggregates; the rest of the computing operations. -/
namespace Go.Ev
variable {L:Type} [LI L]
section
variable {P:Program} {T:Tab} {oD:OrcD L} {U:Nat→Prop} {g:Gh} {B:Nat} {h:Hp L} {w:World} {fresh:Nat} {env:List (Nat×X L)} {a:Act} {o:Oper} {Q:X L×Hp L→Prop}
def ValAt (g:Gh)(i:TI)(xs:List (C L))(v:Value):Prop :=
  (i.isAgg=true∧∃ cx:Array Value,v=.agg cx∧∀ (j:Nat) x,j < i.size→xs[j]?=some x→∃ u,cx[j]?=some u∧RepC g x u)∨(i.isAgg=false∧∃ x r,xs=x::r∧RepC g x v)
theorem run_part {t:TypeId}{i:TI}(hT:TabOK P T)(ht:T t=some i)(cs:Array Value)(off:Nat)(w:World) :
    (Go.part t cs off).run P w = if i.isAgg then .ok (.agg (cs.extract off (off + i.size))) w else match cs[off]? with | some v => .ok v w | none => .halt (.stuck "part: no such cell") w := by
  simp only [Go.part,Sem.run_bind,run_isAgg hT ht,Result.andThen_ok]
  cases i.isAgg
  · simp only [Bool.false_eq_true,if_false]
    cases cs[off]?<;>rfl
  · simp [run_size hT ht]
theorem valAt_part (hT:TabOK P T){t:TypeId}{i:TI}(ht:T t=some i){cx:Array Value}{xs:List (C L)}{off size:Nat}(hle:off+Nat.max 1 i.size≤size)(hx:∀ (j:Nat) x,j < size→xs[j]?=some x→∃ u,cx[j]?=some u∧RepC g x u)
    (hne:i.isAgg=false→xs.drop off≠[]) (w:World):∃ v,(Go.part t cx off).run P w=.ok v w∧ValAt g i (xs.drop off) v:=by
  rw [run_part hT ht]
  have h1:1≤Nat.max 1 i.size:=Nat.le_max_left _ _
  have h2:i.size≤Nat.max 1 i.size:=Nat.le_max_right _ _
  cases hagg:i.isAgg with
  | true =>
    refine ⟨_,rfl,.inl ⟨hagg,_,rfl,fun j x hj hxj=>?_⟩⟩
    rw [List.getElem?_drop] at hxj
    obtain ⟨u,hu,hR⟩:=hx (off+j) x (by omega) hxj
    refine ⟨u,?_,hR⟩
    have hlt:off+j < cx.size:=(Array.getElem?_eq_some_iff.1 hu).1
    rw [Array.getElem?_extract]
    have:j < min (off+i.size) cx.size - off:=by omega
    simp [this,hu]
  | false =>
    cases hd:xs.drop off with
    | nil=>exact absurd hd (hne hagg)
    | cons x r =>
      have hx0:xs[off]?=some x:=by
        have:(xs.drop off)[0]?=some x:=by rw [hd];rfl
        simpa using this
      obtain ⟨u,hu,hR⟩:=hx off x (by omega) hx0
      exact ⟨u,by simp [hu],.inr ⟨hagg,x,r,rfl,hR⟩⟩
theorem eqI_sound {ty:Ty}{x y:I L}{vx vy:Value}{b:Bool}(he:eqI ty x y=some b)(hx:RepI g.G x vx)(hy:RepI g.G y vy){t:TypeId}{d:TypeDesc}(hu:P.underlying t=some d)(hd:ty=descTy d)(m:Nat)(w:World):(Op.equalIn (m+1) t vx vy).run P w=.ok b w:=by
  unfold eqI at he
  split at he
  · rename_i k
    cases d<;>simp [descTy] at hd
    subst hd
    split at he
    · rename_i p q hp hq
      have e1:=intV_rep hx hp
      have e2:=intV_rep hy hq
      cases hkq:keq p.k q.k with
      | false=>rw [hkq] at he;cases he
      | true =>
        rw [hkq] at he;simp only [cond_true,Option.some.injEq] at he
        subst he;subst e1;subst e2
        rw [← keq_eq hkq]
        exact run_equalIn_int w m t p.k _ _ _ hu
    · cases he
  · cases d<;>simp [descTy] at hd
    split at he
    · rename_i p q hp hq
      have e1:=boolV_rep hx hp
      have e2:=boolV_rep hy hq
      simp only [Option.some.injEq] at he
      subst he;subst e1;subst e2
      exact run_equalIn_bool w m t _ _ hu
    · cases he
  · cases d<;>simp [descTy] at hd
    split at he
    · rename_i s r
      cases hx;cases hy
      simp only [Option.some.injEq] at he;subst he
      rw [← ByteArray.toList_eq,← ByteArray.toList_eq]
      exact run_equalIn_string w m t s r hu
    · cases he
  · cases he
theorem tab_eq (hT : TabOK P T) {t : TypeId} {i : TI} (h : T t = some i) (he : i.eq = true) : P.stoodInHeld t = false ∧ P.eqGuardType P.depth t = false ∧ ∀ fs, P.underlying t = some (.struct fs) → ∀ f ∈ fs.toList, f.name ≠ "_" := by
  have h2:=hT t i h
  unfold tiOf at h2
  split at h2
  · rename_i info d h3 h4;cases h2
    simp only [Bool.and_eq_true,Bool.not_eq_true'] at he
    refine ⟨he.1.1,he.1.2,fun fs hfs f hf=>?_⟩
    rw [h4] at hfs;cases hfs
    have:=he.2
    simp only at this
    rw [Array.all_eq_true'] at this
    simpa using this f (by simpa using hf)
  · cases h2
theorem eqT_sound (hT:TabOK P T):∀ (n:Nat) {t:TypeId} {i:TI} {xs ys:List (C L)} {vx vy:Value} {b:Bool} (m:Nat) (w:World),T t=some i→eqT T n t xs ys=some b→ValAt g i xs vx→ValAt g i ys vy→(Op.equalIn (m+n) t vx vy).run P w=.ok b w
  | 0,_,_,_,_,_,_,_,_,_,_,he,_,_=>by simp [eqT] at he
  | n+1,t,i,xs,ys,vx,vy,b,m,w,ht,he,hx,hy=>by
    simp only [eqT,ht] at he
    cases hie:i.eq with
    | false=>rw [hie] at he;cases he
    | true =>
      rw [hie,cond_true] at he
      obtain ⟨hs1,hs2,hs3⟩:=tab_eq hT ht hie
      obtain ⟨info,d,h1,h2,h3,h4,_⟩:=tab_info hT ht
      have leaf:eqHead i.ty xs ys=some b→i.isAgg=false→(Op.equalIn (m+(n+1)) t vx vy).run P w=.ok b w:=by
        clear he
        intro he hag
        rcases hx with ⟨h,_⟩ | ⟨_,x',r1,e1,hx⟩
        · rw [hag] at h;cases h
        · rcases hy with ⟨h,_⟩ | ⟨_,y',r2,e2,hy⟩
          · rw [hag] at h;cases h
          · subst e1;subst e2
            unfold eqHead at he
            split at he
            · rename_i e1 e2;cases e1;cases e2
              exact eqI_sound he hx hy h2 h3 (m+n) w
            · cases he
      -- a list of parts
      have parts:∀ {cx cy:Array Value},(∀ (j:Nat) x,j < i.size→xs[j]?=some x→∃ u,cx[j]?=some u∧RepC g x u)→(∀ (j:Nat) x,j < i.size→ys[j]?=some x→∃ u,cy[j]?=some u∧RepC g x u) →
          ∀ {off:Nat} {ft:TypeId} {c:Bool},cond (Nat.ble (off+Nat.max 1 (sizeT T ft)) i.size) (eqT T n ft (xs.drop off) (ys.drop off)) none=some c →
          ∃ u v,(Go.part ft cx off).run P w=.ok u w∧(Go.part ft cy off).run P w=.ok v w∧(Op.equalIn (m+n) ft u v).run P w=.ok c w:=by
        intro cx cy hcx hcy off ft c hc
        cases hle:Nat.ble (off+Nat.max 1 (sizeT T ft)) i.size with
        | false=>rw [hle] at hc;cases hc
        | true =>
          rw [hle,cond_true] at hc
          have hle':=Nat.le_of_ble_eq_true hle
          cases hft:T ft with
          | none=>cases n<;>simp [eqT,hft] at hc
          | some fi =>
            have hsz:sizeT T ft=fi.size:=by simp [sizeT,hft]
            rw [hsz] at hle'
            have hne:fi.isAgg=false→xs.drop off≠[]∧ys.drop off≠[]:=by
              intro hag
              cases n with
              | zero=>simp [eqT] at hc
              | succ n =>
                simp only [eqT,hft] at hc
                cases hfe:fi.eq with
                | false=>rw [hfe] at hc;cases hc
                | true =>
                  rw [hfe,cond_true] at hc
                  have:∀ ty,fi.ty=ty→(match ty with | .array .. | .struct _=>true | _=>false)=false:=by
                    intro ty hty;rw [← hty];exact hag
                  have head:∀ ty,eqHead ty (xs.drop off) (ys.drop off)=some c→xs.drop off≠[]∧ys.drop off≠[]:=by
                    intro ty hh
                    unfold eqHead at hh
                    split at hh
                    · rename_i e1 e2;exact ⟨by rw [e1];simp,by rw [e2];simp⟩
                    · cases hh
                  split at hc
                  · exact head _ hc
                  · exact head _ hc
                  · exact head _ hc
                  · rename_i hty;exact absurd (this _ hty) (by simp)
                  · rename_i hty;exact absurd (this _ hty) (by simp)
                  · cases hc
            obtain ⟨u,p1,p2⟩:=valAt_part hT hft hle' hcx (fun hh=>(hne hh).1) w
            obtain ⟨v,q1,q2⟩:=valAt_part hT hft hle' hcy (fun hh=>(hne hh).2) w
            exact ⟨u,v,p1,q1,eqT_sound hT n m w hft hc p2 q2⟩
      cases d
      case int k=>simp only [descTy] at h3;rw [h3] at he;exact leaf (by rw [h3];exact he) (by simp [TI.isAgg,h3])
      case bool=>simp only [descTy] at h3;rw [h3] at he;exact leaf (by rw [h3];exact he) (by simp [TI.isAgg,h3])
      case string=>simp only [descTy] at h3;rw [h3] at he;exact leaf (by rw [h3];exact he) (by simp [TI.isAgg,h3])
      case struct fs =>
        simp only [descTy] at h3;rw [h3] at he
        have hag:i.isAgg=true:=by simp [TI.isAgg,h3]
        rcases hx with ⟨_,cx,rfl,hcx⟩ | ⟨h,_⟩
        · rcases hy with ⟨_,cy,rfl,hcy⟩ | ⟨h,_⟩
          · have hfo:P.fieldsOf t=fs:=by simp [Program.fieldsOf,h2]
            rw [← Nat.add_assoc,run_equalIn_struct w (m+n) t cx cy (by rw [hfo];exact h2) hs1,hfo]
            have hnames:=hs3 fs h2
            clear hfo h2 h3 hs3 leaf
            generalize fs.toList=l at he hnames
            induction l generalizing b with
            | nil=>simp [eqT.eqFs] at he;subst he;simp [Op.eqFields]
            | cons f r ih =>
              simp only [List.map_cons,eqT.eqFs] at he
              split at he
              · rename_i c c' hc hc'
                cases he
                obtain ⟨u,v,e1,e2,e3⟩:=parts hcx hcy hc
                have:=ih _ hc' (fun x hx=>hnames x (by simp [hx]))
                simp only [Op.eqFields,hnames f (by simp),ne_eq,not_false_eq_true,if_true,Sem.run_bind,e1,e2,e3,Result.andThen_ok]
                cases c
                · simp
                · simpa using this
              · cases he
          · rw [hag] at h;cases h
        · rw [hag] at h;cases h
      case array len e =>
        simp only [descTy] at h3;rw [h3] at he
        have hag:i.isAgg=true:=by simp [TI.isAgg,h3]
        rcases hx with ⟨_,cx,rfl,hcx⟩ | ⟨h,_⟩
        · rcases hy with ⟨_,cy,rfl,hcy⟩ | ⟨h,_⟩
          · dsimp only at he
            cases hsz1:Nat.ble 1 (sizeT T e) with
            | false=>rw [hsz1] at he;cases he
            | true =>
             rw [hsz1,cond_true] at he
             cases hte:T e with
             | none=>simp [sizeT,hte] at hsz1
             | some ei =>
              obtain ⟨einfo,_,k1,_,_,k4,_⟩:=tab_info hT hte
              have hsz:sizeT T e=P.cellsOf e:=by simp [sizeT,hte,k4,Program.cellsOf,k1]
              rw [← Nat.add_assoc,run_equalIn_array w (m+n) cx cy h2 k1]
              rw [hsz] at he
              clear h2 h3 leaf
              generalize List.range len=l at he
              induction l generalizing b with
              | nil=>simp [eqT.eqFs] at he;subst he;simp [Op.eqItems]
              | cons f r ih =>
                simp only [eqT.eqFs] at he
                split at he
                · rename_i c c' hc hc'
                  cases he
                  rw [← hsz] at hc
                  obtain ⟨u,v,e1,e2,e3⟩:=parts hcx hcy hc
                  rw [hsz] at e1 e2
                  have:=ih _ hc'
                  simp only [Op.eqItems,Sem.run_bind,e1,e2,e3,Result.andThen_ok]
                  cases c
                  · simp
                  · simpa using this
                · cases he
          · rw [hag] at h;cases h
        · rw [hag] at h;cases h
      all_goals (simp only [descTy] at h3;rw [h3] at he;cases he)
end
end Go.Ev
/- Operations: operators, conversions, fields, closures, len, min, max. -/
namespace Go.Ev
variable {L:Type} [LI L]
section
variable {P:Program} {T:Tab} {oD:OrcD L} {U:Nat→Prop} {g:Gh} {B:Nat} {h:Hp L} {w:World} {fresh:Nat} {env:List (Nat×X L)} {a:Act} {o:Oper} {Q:X L×Hp L→Prop}
theorem str_rep {G:Fz}{s:ByteArray}{v:Value}(h:RepI G (.str s:I L) v):v=.string s:=by cases h;rfl
theorem eqT_tab {n:Nat}{t:TypeId}{xs ys:List (C L)}{b:Bool}(h:eqT T n t xs ys=some b):∃ i,T t=some i∧i.eq=true:=by
 cases n with
 | zero=>simp only [eqT] at h;cases h
 | succ n =>
  rw [eqT] at h
  split at h
  ·rename_i i hi
   cases hh:i.eq with
   | true=>exact ⟨i,hi,hh⟩
   | false=>rw [hh] at h;cases h
  ·cases h
theorem op_binOp (hT:TabOK P T){op:BinOp}{t t2:TypeId}{x y:Operand}(ho:o.op=.binOp op t x y t2)(hE:RepE U g env a)(hr:RepH U g B h w)(hq:(evOp T h fresh (opd env) (.binOp op t x y t2)).holds oD Q):Good P U g B h w fresh a o Q:=by
 simp only [evOp] at hq
 have hx:=opd_rep hE x
 have hy:=opd_rep hE y
 split at hq
 ·rename_i xs ys ex ey
  rw [ex] at hx;rw [ey] at hy
  obtain ⟨vx,hvx,hcx⟩:=hx
  obtain ⟨vy,hvy,hcy⟩:=hy
  have main:∀ b,(cond (match T t with | some i=>i.isAgg | none=>false) (eqT T 8 t xs ys) none)=some b→(Op.equalIn 10000 t (.agg vx.toArray) (.agg vy.toArray)).run P w=.ok b w∧P.eqGuardType P.depth t=false:=by
   intro b hb
   cases ht:T t with
   | none=>rw [ht] at hb;cases hb
   | some i =>
    rw [ht] at hb
    cases hag:i.isAgg with
    | false=>simp only [hag,cond_false] at hb;cases hb
    | true =>
     simp only [hag,cond_true] at hb
     obtain ⟨i',hi',hie⟩:=eqT_tab hb
     rw [ht] at hi';cases hi'
     refine ⟨?_,(tab_eq hT ht hie).2.1⟩
     have vat:∀ {cs:List (C L)} {vs:List Value},All2 (RepC g) cs vs→ValAt g i cs (.agg vs.toArray):=by
      intro cs vs hc
      exact .inl ⟨hag,_,rfl,fun j x _ hj=>let ⟨u,h1,h2⟩:=hc.get hj;⟨u,by simpa using h1,h2⟩⟩
     exact eqT_sound hT 8 9992 w ht hb (vat hcx) (vat hcy)
  have guard:P.eqGuardType P.depth t=false→(eqGuard op t x y (.agg vx.toArray) (.agg vy.toArray)).run P w=.ok () w:=by
   intro hg
   unfold eqGuard;split<;>simp [program,Sem.run,hg]
  split at hq
  ·rename_i b hb
   obtain ⟨h1,h2⟩:=main b hb
   refine .pureI (v:=.bool b) hq ?_ hr .bool
   simp only [execOp,ho,hvx,hvy,Sem.run_bind,guard h2,Result.andThen_ok,run_eql_struct,h1,Sem.run_pure]
  ·rename_i b hb
   obtain ⟨h1,h2⟩:=main b hb
   refine .pureI (v:=.bool (!b)) hq ?_ hr .bool
   simp only [execOp,ho,hvx,hvy,Sem.run_bind,guard h2,Result.andThen_ok,run_neq_struct,h1,Sem.run_pure]
  ·exact hq.elim
 ·split at hq
  ·rename_i i j hi hj
   have h1:=imOf_rep hx hi
   have h2:=imOf_rep hy hj
   split at hq
   ·rename_i p q hp hq'
    exact run_binOp_int ho (intV_rep h1 hp) (intV_rep h2 hq') hr hq
   ·split at hq
    ·exact run_binOp_str ho (str_rep h1) (str_rep h2) hr hq
    ·have base:∀ {b c:Bool} {v:Value},a.eval x=.bool b→a.eval y=.bool c→(binOp op t (.bool b) (.bool c)).run P w=.ok v w→(execOp a.eval o).run P w=.ok (.value v) w:=by
      intro b c v e1 e2 hv
      simp only [execOp,ho,e1,e2,Sem.run_bind]
      have:(eqGuard op t x y (.bool b) (.bool c)).run P w=.ok () w:=by
       unfold eqGuard;split<;>simp
      rw [this];simp [hv]
     cases hbt:isBoolT T t with
     | false=>rw [hbt] at hq;exact hq.elim
     | true =>
      rw [hbt,cond_true] at hq
      have hu:P.underlying t=some .bool:=by
       unfold isBoolT at hbt
       split at hbt
       ·rename_i i hi
        obtain ⟨info,d,_,h2,h3,_⟩:=tab_info hT hi
        split at hbt
        ·rename_i hty
         rw [h3] at hty
         cases d<;>simp [descTy] at hty
         exact h2
        ·cases hbt
       ·cases hbt
      split at hq
      ·rename_i b c hb hc
       refine .pureI (v:=.bool (b.1 == c.1)) hq (base (boolV_rep h1 hb) (boolV_rep h2 hc) ?_) hr (rep_mkBool _ _ _)
       simp [binOp,run_equal_bool w t _ _ hu]
      ·rename_i b c hb hc
       refine .pureI (v:=.bool (!(b.1 == c.1))) hq (base (boolV_rep h1 hb) (boolV_rep h2 hc) ?_) hr (rep_mkBool _ _ _)
       simp [binOp,run_equal_bool w t _ _ hu]
      ·exact hq.elim
  ·exact hq.elim
theorem op_unOp {op:UnOp}{t:TypeId}{x:Operand}(ho:o.op=.unOp op t x)(hE:RepE U g env a)(hr:RepH U g B h w)(hq:(evOp T h fresh (opd env) (.unOp op t x)).holds oD Q):Good P U g B h w fresh a o Q:=by
 simp only [evOp] at hq
 split at hq
 ·rename_i i hi
  have h1:=imOf_rep (opd_rep hE x) hi
  split at hq
  ·rename_i p hp
   have e1:=boolV_rep h1 hp
   exact .pureI (v:=.bool (!p.1)) hq (by simp [execOp,ho,e1,Op.unary]) hr (rep_mkBool _ _ _)
  ·rename_i p hp
   have e1:=intV_rep h1 hp
   exact .pureI (v:=.int p.k (p.k.wrap (0 - p.n))) hq (by simp [execOp,ho,e1,Op.unary,Op.intArith]) hr (rep_mkInt _ _ _ _)
  ·exact hq.elim
 ·exact hq.elim
omit [LI L] in
theorem nth_eq {α:Type}:∀ (l:List α) (n:Nat),nth l n=l[n]?
 | [],n=>by simp [nth]
 | x::r,0=>rfl
 | x::r,n+1=>by simp [nth,nth_eq r n]
theorem op_extract {x:Operand}{i:Nat}(ho:o.op=.extract x i)(hE:RepE U g env a)(hr:RepH U g B h w)(hq:(evOp T h fresh (opd env) (.extract x i)).holds oD Q):Good P U g B h w fresh a o Q:=by
 simp only [evOp] at hq
 have hx:=opd_rep hE x
 have hxi:=opd_ids hE x
 split at hq
 ·rename_i l hl
  rw [hl] at hx hxi
  obtain ⟨vs,hv,hc⟩:=hx
  split at hq
  ·rename_i s hs
   rw [nth_eq] at hs
   obtain ⟨v,h1,h2⟩:=hc.get hs
   refine .pure hq (v:=v) ?_ hr h2 fun b hb=>hxi b ?_
   ·simp [execOp,ho,hv,Instr.extract,h1]
   ·simp only [idsX,List.mem_flatMap] at hb ⊢;exact ⟨s,List.mem_of_getElem? hs,hb⟩
  ·exact hq.elim
 ·exact hq.elim
theorem ptrs_rep {xs:List (X L)}{l:List (Nat×Nat)}{vs:List Value}(h:ptrs xs=some l)(hx:All2 (RepX g) xs vs):vs=l.map g.p:=by
 induction hx generalizing l with
 | nil=>simp [ptrs] at h;subst h;rfl
 | cons hr _ ih =>
  unfold ptrs at h
  split at h
  ·cases ‹_=[]›
  ·rename_i b off r he
   cases he
   split at h
   ·rename_i l' hl;cases h
    simp only [RepX,RepS,RepC] at hr
    rw [ih hl,hr];rfl
   ·cases h
  ·cases h
omit [LI L] in
theorem ptrs_ids {xs:List (X L)}{l:List (Nat×Nat)}(h:ptrs xs=some l)(hi:∀ x∈xs,∀ b∈idsX x,U b):∀ p∈l,U p.1:=by
 induction xs generalizing l with
 | nil=>simp [ptrs] at h;subst h;simp
 | cons x r ih =>
  unfold ptrs at h
  split at h
  ·cases ‹_=[]›
  ·rename_i b off r' he
   cases he
   split at h
   ·rename_i l' hl;cases h
    intro p hp
    rcases List.mem_cons.1 hp with rfl | hp
    ·exact hi (.s (.c (.ptr b off))) (by simp) b (by simp [idsX,idsS,cellsOf,idsC])
    ·exact ih hl (fun x hx=>hi x (by simp [hx])) p hp
   ·cases h
  ·cases h
theorem opds_rep (hE:RepE U g env a)(l:List Operand):All2 (RepX g) (l.map (opd env)) (l.map a.eval):=by
 induction l with
 | nil=>exact .nil
 | cons x r ih=>exact .cons (opd_rep hE x) ih
theorem op_makeFunc [LLaws L]{f:FuncId}{first caps:Array Operand}(ho:o.op=.makeFunc (.func f) first caps)(hE:RepE U g env a)(hr:RepH U g B h w)(hq:(evOp T h fresh (opd env) (.makeFunc (.func f) first caps)).holds oD Q):Good P U g B h w fresh a o Q:=by
 simp only [evOp,mkFunc] at hq
 split at hq
 ·rename_i p q hp hq'
  have e1:=ptrs_rep hp (opds_rep hE first.toList)
  have e2:=ptrs_rep hq' (opds_rep hE caps.toList)
  have i1:=ptrs_ids (U:=U) hp (by simp only [List.mem_map];rintro _ ⟨x,_,rfl⟩;exact opd_ids hE x)
  have i2:=ptrs_ids (U:=U) hq' (by simp only [List.mem_map];rintro _ ⟨x,_,rfl⟩;exact opd_ids hE x)
  refine .pure hq (v:=.func (.func f) (first.map a.eval) (caps.map a.eval)) (by simp [execOp,ho,Instr.makeFunc]) hr ?_ ?_
  ·simp only [RepX,RepS,RepC]
   rw [← e1,← e2]
   simp only [Value.func.injEq,true_and]
   constructor<;>(apply Array.ext';simp)
  ·intro b hb
   simp only [idsX,idsS,cellsOf,List.flatMap_cons,List.flatMap_nil,List.append_nil,idsC,List.mem_append,List.mem_map] at hb
   rcases hb with ⟨p',hp',rfl⟩ | ⟨p',hp',rfl⟩
   ·exact i1 p' hp'
   ·exact i2 p' hp'
 ·have one:∀ {y:List (X L)} {z:X L},first.toList.map (opd env)=[z]→caps.toList.map (opd env)=[]→∃ y,first=#[y]∧caps=#[]∧opd env y=z:=by
   intro _ z h1 h2
   obtain ⟨fl⟩:=first
   obtain ⟨cl⟩:=caps
   cases cl with
   | cons=>simp at h2
   | nil =>
    match fl,h1 with
    | [y],h1=>simp at h1;exact ⟨y,rfl,rfl,h1⟩
  have run:∀ {y:Operand},first=#[y]→caps=#[]→(execOp a.eval o).run P w=.ok (.value (.func (.func f) #[a.eval y] #[])) w:=by
   rintro y rfl rfl;simp [execOp,ho,Instr.makeFunc]
  split at hq
  ·rename_i x h1 h2
   obtain ⟨y,hf,hcp,hy⟩:=one (y:=[]) h1 h2
   have hrep:=opd_rep hE y
   rw [hy] at hrep
   split at hq
   ·rename_i z u hz
    have hfz:=toI_frz hz
    obtain ⟨G',k1,k2,k3⟩:=hr.freezeL u hfz
    have hgl:GhLe (fun _=>True) g { g with G:=G' }:=⟨fun _ _=>rfl,fun _ _=>rfl,k1⟩
    have hzr:=toI_rep (g:={ g with G:=G' }) hz hfz (fun _ h=>h) k2 (RepC.mono hgl (fun _ _=>trivial) hrep)
    refine .value hq (run hf hcp) (Post.of_freeze (g':={ g with G:=G' }) hfz rfl rfl k1 k3 k2 ⟨[a.eval y],.cons hzr .nil,rfl⟩ (by simp [idsX,idsS,cellsOf,idsC]) (.refl w) (fun _ _=>rfl))
   ·exact hq.elim
  ·rename_i cs h1 h2
   obtain ⟨y,hf,hcp,hy⟩:=one (y:=[]) h1 h2
   have hrep:=opd_rep hE y
   rw [hy] at hrep
   obtain ⟨vs,hv,hcs⟩:=hrep
   split at hq
   ·rename_i zs u hz
    have hfz:=toIs_frz hz
    obtain ⟨G',k1,k2,k3⟩:=hr.freezeL u hfz
    have hgl:GhLe (fun _=>True) g { g with G:=G' }:=⟨fun _ _=>rfl,fun _ _=>rfl,k1⟩
    have hzr:=toIs_rep (g:={ g with G:=G' }) hfz k2 hz (fun _ h=>h) (RepCs.mono hgl (fun _ _=>trivial) hcs)
    refine .value hq (run hf hcp) (Post.of_freeze (g':={ g with G:=G' }) hfz rfl rfl k1 k3 k2 ⟨vs,hzr,by rw [hv];rfl⟩ (by simp [idsX,idsS,cellsOf,idsC]) (.refl w) (fun _ _=>rfl))
   ·exact hq.elim
  ·exact hq.elim
theorem shift_rep {c c':C L}{n:Nat}{v:Value}(hs:shift c n=some c')(hc:RepC g c v):∃ k o,v=.pointer (some ⟨k,o,none⟩)∧RepC g c' (.pointer (some ⟨k,o+n,none⟩))∧idsC c'=idsC c:=by
 unfold shift at hs
 split at hs
 ·cases hs;exact ⟨_,_,hc,rfl,rfl⟩
 ·cases hs;exact ⟨_,_,hc,by simp [RepC,Nat.add_assoc],rfl⟩
 ·cases hs
  obtain ⟨m,h1,h2,rfl⟩:=hc
  exact ⟨_,_,rfl,⟨m,h1,h2,by rw [Nat.add_assoc]⟩,rfl⟩
 ·cases hs
  obtain ⟨k,p,rfl,h2⟩:=hc
  exact ⟨_,_,rfl,⟨k,p,by rw [Nat.add_assoc],h2⟩,rfl⟩
 ·cases hs
omit [LI L] in
theorem cOf_ids {x:X L}{c:C L}(hc:cOf x=some c):idsX x=idsC c:=by
 unfold cOf at hc;split at hc
 ·cases hc;simp [idsX,idsS,cellsOf]
 ·cases hc
theorem op_fieldAddr (hT:TabOK P T){t:TypeId}{x:Operand}{f:Nat}(ho:o.op=.fieldAddr t x f)(hE:RepE U g env a)(hr:RepH U g B h w)(hq:(evOp T h fresh (opd env) (.fieldAddr t x f)).holds oD Q):Good P U g B h w fresh a o Q:=by
 simp only [evOp] at hq
 split at hq
 ·rename_i i c hi hc
  split at hq
  ·rename_i fs hfs
   split at hq
   ·rename_i off ft hf
    cases hz:Nat.beq (sizeT T ft) 0 with
    | true=>rw [hz] at hq;exact hq.elim
    | false =>
     rw [hz,cond_false] at hq
     split at hq
     ·rename_i c' hs
      obtain ⟨k,p,hv,hR,hids⟩:=shift_rep hs (cOf_rep (opd_rep hE x) hc)
      obtain ⟨info,d,_,h2,h3,_⟩:=tab_info hT hi
      rw [hfs] at h3
      cases d<;>simp [descTy] at h3
      rename_i fa
      subst h3
      rw [nth_eq,List.getElem?_map] at hf
      cases hfa:fa.toList[f]? with
      | none=>rw [hfa] at hf;cases hf
      | some fl =>
       rw [hfa] at hf;simp at hf
       obtain ⟨rfl,rfl⟩:=hf
       cases hft:T fl.type with
       | none=>simp [sizeT,hft] at hz
       | some fi =>
        have hz':fi.size≠0:=by
         intro he;simp [sizeT,hft,he] at hz
        refine .pure hq (v:=.pointer (some ⟨k,p+fl.offset,none⟩)) ?_ hr hR ?_
        ·have hfa':fa[f]?=some fl:=by simpa using hfa
         simp [execOp,ho,Instr.fieldAt,run_underlying h2,hfa',hv,Instr.sureAddr,fieldPlace,run_size hT hft,hz',addr_add]
        ·intro b hb
         have:idsX (.s (.c c'):X L)=idsC c':=by simp [idsX,idsS,cellsOf]
         rw [this,hids,← cOf_ids hc] at hb
         exact opd_ids hE x b hb
     ·exact hq.elim
   ·exact hq.elim
  ·exact hq.elim
 ·exact hq.elim
end
end Go.Ev
/- Operations: fields, builds, indexes. -/
namespace Go.Ev
variable {L:Type} [LI L]
section
variable {P:Program} {T:Tab} {oD:OrcD L} {U:Nat→Prop} {g:Gh} {B:Nat} {h:Hp L} {w:World} {fresh:Nat} {env:List (Nat×X L)} {a:Act} {o:Oper} {Q:X L×Hp L→Prop}
theorem part_val (hT:TabOK P T){t:TypeId}{i:TI}(ht:T t=some i){cs:List (C L)}{vs:List Value}(hc:All2 (RepC g) cs vs){off:Nat}{s:S L}(hp:part i.isAgg cs off i.size=some s)(w:World) :
  ∃ v,(Go.part t vs.toArray off).run P w=.ok v w∧RepS g s v:=by
 rw [run_part hT ht]
 rcases part_eq hp with ⟨ha,hle,rfl⟩ | ⟨ha,x,hx,rfl⟩
 ·refine ⟨.agg ((vs.drop off).take i.size).toArray,?_,_,rfl,(hc.drop off).take i.size⟩
  rw [ha]
  simp only [if_true]
  congr 2
  apply Array.ext'
  simp [List.take_drop]
 ·obtain ⟨v,hv,hR⟩:=hc.get hx
  refine ⟨v,?_,hR⟩
  rw [ha];simp [hv]
theorem op_field (hT:TabOK P T){t:TypeId}{x:Operand}{f:Nat}(ho:o.op=.field t x f)(hE:RepE U g env a)(hr:RepH U g B h w)(hq:(evOp T h fresh (opd env) (.field t x f)).holds oD Q):Good P U g B h w fresh a o Q:=by
 simp only [evOp] at hq
 have hx:=opd_rep hE x
 have hxi:=opd_ids hE x
 split at hq
 ·rename_i i cs hi hcs
  rw [hcs] at hx hxi
  obtain ⟨vs,hv,hc⟩:=hx
  split at hq
  ·rename_i fs hfs
   split at hq
   ·rename_i off ft hf
    split at hq
    ·rename_i fi hfi
     split at hq
     ·rename_i s hs
      obtain ⟨info,d,_,h2,h3,_⟩:=tab_info hT hi
      rw [hfs] at h3
      cases d<;>simp [descTy] at h3
      rename_i fa
      subst h3
      rw [nth_eq,List.getElem?_map] at hf
      cases hfa:fa.toList[f]? with
      | none=>rw [hfa] at hf;cases hf
      | some fl =>
       rw [hfa] at hf;simp at hf
       obtain ⟨rfl,rfl⟩:=hf
       obtain ⟨v,hrun,hR⟩:=part_val hT hfi hc hs w
       have hfa':fa[f]?=some fl:=by simpa using hfa
       refine .pure hq (v:=v) ?_ hr hR fun b hb=>hxi b ?_
       ·simp [execOp,ho,Instr.field,run_underlying h2,hfa',hv,asAgg,hrun]
       ·exact part_ids hs b hb
     ·exact hq.elim
    ·exact hq.elim
   ·exact hq.elim
  ·exact hq.elim
 ·exact hq.elim
theorem foldl_set {α:Type}(off:Nat)(ys:List α):∀ (k:Nat) (xs:List α),off+k+ys.length≤xs.length →
  (ys.zipIdx k).foldl (fun (cs:Array α) (p:α×Nat)=>cs.setIfInBounds (off+p.2) p.1) xs.toArray=(xs.take (off+k)++ys++xs.drop (off+k+ys.length)).toArray:=by
 induction ys with
 | nil=>intro k xs _;simp
 | cons y r ih =>
  intro k xs hle
  simp only [List.length_cons] at hle
  rw [List.zipIdx_cons,List.foldl_cons]
  have e:(xs.toArray.setIfInBounds (off+k) y)=(xs.set (off+k) y).toArray:=by simp
  rw [e,ih (k+1) (xs.set (off+k) y) (by simp;omega)]
  congr 1
  have h1:(xs.set (off+k) y).take (off+(k+1))=xs.take (off+k)++[y]:=by
   rw [← Nat.add_assoc,List.take_succ_eq_append_getElem (by simp;omega),List.take_set_of_le (Nat.le_refl _)]
   simp
  have h2:(xs.set (off+k) y).drop (off+(k+1)+r.length)=xs.drop (off+k+(r.length+1)):=by
   rw [List.drop_set_of_lt (by omega)];congr 1;omega
  rw [h1,h2]
  simp
theorem fill_sound {sizes:Nat→Option (Nat×Nat)}:∀ {parts:List (Nat×X L)} {vparts:List (Nat×Value)} {cells cs:List (C L)} {vs:List Value},fillParts sizes cells parts=some cs→All2 (RepC g) cells vs →
  All2 (fun p q=>p.1=q.1∧RepX g p.2 q.2) parts vparts→∃ vs',Instr.fill sizes vs.toArray vparts=some vs'.toArray∧All2 (RepC g) cs vs'
 | [],_,cells,cs,vs,hf,hc,hp=>by cases hp;simp [fillParts] at hf;subst hf;exact ⟨vs,rfl,hc⟩
 | (i,x)::r,_,cells,cs,vs,hf,hc,hp=>by
  cases hp with
  | cons h1 h2 =>
   rename_i q qs
   obtain ⟨j,v⟩:=q
   obtain ⟨hij,hx⟩:=h1
   simp only at hij hx;subst hij
   simp only [fillParts] at hf
   split at hf
   ·rename_i off n s hs
    cases hcd:(Nat.beq (cellsOf s).length n && Nat.ble (off+n) cells.length && (cellsOf s).all solid) with
    | false=>rw [hcd] at hf;cases hf
    | true =>
     rw [hcd,cond_true] at hf
     simp only [Bool.and_eq_true] at hcd
     have hn:(cellsOf s).length=n:=Nat.eq_of_beq_eq_true hcd.1.1
     have hle:=Nat.le_of_ble_eq_true hcd.1.2
     obtain ⟨us,hu,hcu,_⟩:=RepS.cells hx hcd.2
     have hul:us.length=n:=by rw [← hcu.length,hn]
     have hcl:=hc.length
     obtain ⟨vs',h3,h4⟩:=fill_sound (vs:=vs.take off++us++vs.drop (off+us.length)) hf (hc.splice hcu off) h2
     refine ⟨vs',?_,h4⟩
     simp only [Instr.fill,hs,hu]
     have hsz:us.toArray.size=n:=by simpa using hul
     have hcond:(us.toArray.size≠n || off+us.toArray.size > vs.toArray.size)=false:=by simp;omega
     have hfold:(us.toArray.zipIdx.foldl (fun cs (x:Value×Nat)=>cs.setIfInBounds (off+x.2) x.1) vs.toArray)=(vs.take off++us++vs.drop (off+us.length)).toArray:=by
      have:=foldl_set off us 0 vs (by omega)
      simp only [Nat.add_zero] at this
      rw [← this]
      simp
     rw [if_neg (by simpa using hcond)]
     rw [← h3]
     congr 1
   ·cases hf
theorem parts_rep (hE:RepE U g env a)(ps:List (Nat×Operand)):All2 (fun (p:Nat×X L) (q:Nat×Value)=>p.1=q.1∧RepX g p.2 q.2) (ps.map fun p=>(p.1,opd env p.2)) (ps.map fun p=>(p.1,a.eval p.2)):=by
 induction ps with
 | nil=>exact .nil
 | cons p r ih=>exact .cons ⟨rfl,opd_rep hE p.2⟩ ih
omit [LI L] in
theorem fill_ids {sizes:Nat→Option (Nat×Nat)}:∀ {parts:List (Nat×X L)} {cells cs:List (C L)},fillParts sizes cells parts=some cs→(∀ b∈cells.flatMap idsC,U b)→(∀ p∈parts,∀ b∈idsX p.2,U b)→∀ b∈cs.flatMap idsC,U b
 | [],cells,cs,hf,hc,_=>by simp [fillParts] at hf;subst hf;exact hc
 | (i,x)::r,cells,cs,hf,hc,hp=>by
  simp only [fillParts] at hf
  split at hf
  ·rename_i off n s hs
   cases hcd:(Nat.beq (cellsOf s).length n && Nat.ble (off+n) cells.length && (cellsOf s).all solid) with
   | false=>rw [hcd] at hf;cases hf
   | true =>
    rw [hcd,cond_true] at hf
    refine fill_ids hf ?_ fun p hp'=>hp p (by simp [hp'])
    intro b hb
    simp only [Ev.splice,List.flatMap_append,List.mem_append] at hb
    rcases hb with (hb | hb) | hb
    ·refine hc b ?_
     simp only [List.mem_flatMap] at hb ⊢
     obtain ⟨x,hx,hm⟩:=hb;exact ⟨x,List.mem_of_mem_take hx,hm⟩
    ·exact hp (i,.s s) (by simp) b hb
    ·refine hc b ?_
     simp only [List.mem_flatMap] at hb ⊢
     obtain ⟨x,hx,hm⟩:=hb;exact ⟨x,List.mem_of_mem_drop hx,hm⟩
  ·cases hf
end
end Go.Ev
/- Operations: builds, indexes. -/
namespace Go.Ev
variable {L:Type} [LI L]
section
variable {P:Program} {T:Tab} {oD:OrcD L} {U:Nat→Prop} {g:Gh} {B:Nat} {h:Hp L} {w:World} {fresh:Nat} {env:List (Nat×X L)} {a:Act} {o:Oper} {Q:X L×Hp L→Prop}
theorem run_places (hT:TabOK P T)(fs:List Field)(hall:∀ f∈fs,hasT T f.type=true)(w:World) :
  (fs.mapM fun (f:Field)=>do pure (f.offset,← sizeOf f.type):Sem (List (Nat×Nat))).run P w=.ok (fs.map fun f=>(f.offset,sizeT T f.type)) w:=by
 induction fs generalizing w with
 | nil=>simp
 | cons f r ih =>
  have hf:=hall f (by simp)
  unfold hasT at hf
  split at hf
  ·rename_i i hi
   have hs:sizeT T f.type=i.size:=by simp [sizeT,hi]
   simp only [List.mapM_cons,Sem.run_bind,run_size hT hi,ih (fun x hx=>hall x (by simp [hx])),Sem.run_pure,Result.andThen_ok,List.map_cons,hs]
  ·cases hf
theorem zero_run (hT:TabOK P T){t:TypeId}{i:TI}(hi:T t=some i){z:List (C L)}(hz:zeroC i=some z):∃ zv vs,(∀ w,(zeroValue t).run P w=.ok zv w)∧zv.cells=vs.toArray∧All2 (RepC g) z vs∧z.flatMap idsC=[]∧z.all solid=true:=by
 obtain ⟨info,d,h1,_,_,_,_,h6⟩:=tab_info hT hi
 obtain ⟨vs,hvs,rfl,hsol⟩:=zeroC_eq hz
 rw [h6] at hvs
 cases hzz:info.zero with
 | none=>rw [hzz] at hvs;cases hvs
 | some zv =>
  rw [hzz] at hvs;simp only [Option.map_some,Option.some.injEq] at hvs
  refine ⟨zv,vs,fun w=>by simp [zeroValue,typeInfo,Sem.run,program,h1,hzz],by rw [← hvs],rep_ofCs g vs,by simp [idsC_ofC],hsol⟩
theorem op_build (hT:TabOK P T){t:TypeId}{parts:Array (Nat×Operand)}(ho:o.op=.build t parts)(hE:RepE U g env a)(hr:RepH U g B h w)(hq:(evOp T h fresh (opd env) (.build t parts)).holds oD Q):Good P U g B h w fresh a o Q:=by
 simp only [evOp] at hq
 split at hq
 ·rename_i s hs
  unfold buildS at hs
  split at hs
  ·rename_i i hi
   split at hs
   ·rename_i z hz
    obtain ⟨info,d,_,h2,h3,_⟩:=tab_info hT hi
    obtain ⟨zv,vs,hzr,hzc,hrz,hzi,_⟩:=zero_run (g:=g) hT hi hz
    have hpr:=parts_rep hE parts.toList
    have hpi:∀ p∈(parts.toList.map fun p=>(p.1,opd env p.2)),∀ b∈idsX p.2,U b:=by
     simp only [List.mem_map];rintro _ ⟨p,_,rfl⟩;exact opd_ids hE p.2
    have hpa:(parts.map fun (x:Nat×Operand)=>(x.1,a.eval x.2)).toList=parts.toList.map fun p=>(p.1,a.eval p.2):=by simp
    split at hs
    ·rename_i fs hfs
     split at hs
     ·rename_i cs hcs
      cases hs
      cases hall:fs.all fun p=>hasT T p.2 with
      | false=>rw [hall] at hcs;cases hcs
      | true =>
       rw [hall,cond_true] at hcs
       rw [hfs] at h3
       cases d<;>simp [descTy] at h3
       rename_i fa
       subst h3
       obtain ⟨vs',hf1,hf2⟩:=fill_sound hcs hrz hpr
       refine .pure hq (v:=.agg vs'.toArray) ?_ hr ⟨vs',rfl,hf2⟩ (fill_ids hcs (by rw [hzi];simp) hpi)
       have hpl:=run_places (P:=P) hT fa.toList (fun f hf=>by
        rw [List.all_eq_true] at hall
        exact hall (f.offset,f.type) (List.mem_map.2 ⟨f,hf,rfl⟩)) w
       have hpl':(fa.mapM fun (f:Field)=>do pure (f.offset,← sizeOf f.type):Sem (Array (Nat×Nat))).run P w=.ok (fa.toList.map fun f=>(f.offset,sizeT T f.type)).toArray w:=by
        rw [Array.mapM_eq_mapM_toList,Sem.run_map,hpl]
        rfl
       have hplace:(fun x:Nat=>(fa.toList.map fun f=>(f.offset,sizeT T f.type)).toArray[x]?)=placeOf T (fa.toList.map fun f=>(f.offset,f.type)):=by
        funext j
        rw [placeOf,nth_eq]
        simp only [List.getElem?_toArray,List.getElem?_map]
        cases fa.toList[j]?<;>rfl
       simp only [execOp,ho,Instr.build,Sem.run_bind,hzr,Result.andThen_ok,run_underlying h2,hpl']
       rw [hplace,hzc,hpa,hf1]
       simp
     ·cases hs
    ·rename_i n e hfs
     split at hs
     ·rename_i cs hcs
      cases hs
      cases hall:hasT T e with
      | false=>rw [hall] at hcs;cases hcs
      | true =>
       rw [hall,cond_true] at hcs
       rw [hfs] at h3
       cases d<;>simp [descTy] at h3
       obtain ⟨rfl,rfl⟩:=h3
       obtain ⟨vs',hf1,hf2⟩:=fill_sound hcs hrz hpr
       refine .pure hq (v:=.agg vs'.toArray) ?_ hr ⟨vs',rfl,hf2⟩ (fill_ids hcs (by rw [hzi];simp) hpi)
       unfold hasT at hall
       split at hall
       ·rename_i ei hei
        have hs:sizeT T e=ei.size:=by simp [sizeT,hei]
        rw [hs] at hf1
        simp only [execOp,ho,Instr.build,Sem.run_bind,hzr,Result.andThen_ok,run_underlying h2,run_size hT hei]
        rw [hzc,hpa,hf1]
        simp
       ·cases hall
     ·cases hs
    ·cases hs
   ·cases hs
  ·cases hs
 ·exact hq.elim
theorem test_holds {R:Type}{known c:Bool}{r:Out L R}{q:R→Prop}(hq:(test known c r).holds oD q):c=true∧r.holds oD q:=by
 unfold test at hq
 cases known
 ·rcases hq with ⟨h1,h2⟩ | ⟨_,h2⟩
  ·exact ⟨h1,h2⟩
  ·exact h2.elim
 ·cases c
  ·exact hq.elim
  ·exact ⟨rfl,hq⟩
theorem tries_holds {R:Type}{i:Int}{k:Nat→Out L R}{q:R→Prop}:∀ {n j:Nat},(tries i k n j).holds oD q→∃ m:Nat,j≤m∧m < j+n∧i=(m:Int)∧(k m).holds oD q
 | 0,j,hq=>hq.elim
 | n+1,j,hq=>by
  rcases hq with ⟨h1,h2⟩ | ⟨_,h2⟩
  ·exact ⟨j,Nat.le_refl _,by omega,of_decide_eq_true h1,h2⟩
  ·obtain ⟨m,a1,a2,a3,a4⟩:=tries_holds h2
   exact ⟨m,by omega,by omega,a3,a4⟩
theorem place_holds {R:Type}{n:Nat}{i:IntV}{k:Nat→Out L R}{q:R→Prop}(hq:(place n i k).holds oD q):∃ m:Nat,m < n∧i.n=(m:Int)∧(k m).holds oD q:=by
 unfold place at hq
 cases hkn:i.known<;>rw [hkn] at hq
 ·obtain ⟨m,_,h2,h3,h4⟩:=tries_holds hq
  exact ⟨m,by omega,h3,h4⟩
 ·simp only [cond_true] at hq
  cases h0:decide (0≤i.n) with
  | false=>rw [h0] at hq;exact hq.elim
  | true =>
   rw [h0,cond_true] at hq
   cases h1:decide (i.n < (n:Int)) with
   | false=>rw [h1] at hq;exact hq.elim
   | true =>
    rw [h1,cond_true] at hq
    have:=of_decide_eq_true h0
    have:=of_decide_eq_true h1
    exact ⟨i.n.toNat,by omega,by omega,hq⟩
theorem natOf_rep {x:X L}{v:Value}{n:IntV}(hx:RepX g x v)(hn:natOf x=some n):v=.int n.k n.n:=by
 unfold natOf at hn
 split at hn
 ·rename_i i hi;exact intV_rep (imOf_rep hx hi) hn
 ·cases hn
theorem partOf_rep [LLaws L]{g:Gh}(hr:RepH U g B h w){c:C L}{v:Value}{b0 lo hi:Nat}{e:TypeId}{l:L}(hp:partOf h c=some (b0,e,l,lo,hi))(hc:RepC g c v) :
  look h b0=some (.arr e l)∧lo≤hi∧hi≤(LI.els l).length∧(∃ a cap,v=.slice a (hi - lo) cap)∧(lo < hi→∃ cap,v=.slice (some ⟨g.blk b0,lo * LI.sz l,none⟩) (hi - lo) cap):=by
 unfold partOf at hp
 split at hp
 ·rename_i b
  simp only [RepC] at hc;subst hc
  split at hp
  ·rename_i e' l' hb
   cases hp
   rw [LLaws.len]
   obtain ⟨xs,hro,hx,hbk⟩:=hr.ent _ _ hb
   rcases own_cells hro hx with ⟨hv,he⟩ | ⟨k,cap,hv,_⟩
   ·exact ⟨hb,Nat.zero_le _,Nat.le_refl _,⟨none,0,by rw [hv,he];rfl⟩,fun h0=>by rw [he] at h0;simp at h0⟩
   ·have hk:=hbk k (by rw [hv];rfl)
    subst hk
    refine ⟨hb,Nat.zero_le _,Nat.le_refl _,⟨_,_,hv⟩,fun _=>⟨cap,by rw [hv];simp⟩⟩
  ·rename_i b1 k hb
   split at hp
   ·rename_i e' l' hb1
    cases hp
    obtain ⟨h1,h2⟩:=hr.preOf hb (.inl hb1)
    obtain ⟨xs,hro,hx,hbk⟩:=hr.ent _ _ hb1
    refine ⟨hb1,Nat.zero_le _,h1,⟨_,_,by unfold Gh.v;rw [h2];rfl⟩,fun h0=>?_⟩
    rcases own_cells hro hx with ⟨hv,he⟩ | ⟨k',cap,hv,_⟩
    ·rw [he] at h1;simp at h1;omega
    ·have hk:=hbk k' (by rw [hv];rfl)
     subst hk
     refine ⟨(g.sv b0).2.2,?_⟩
     unfold Gh.v at hv ⊢
     simp only [Value.slice.injEq] at hv
     rw [h2,hv.1];simp
   ·cases hp
  ·rename_i b1 z lo' hi' hb
   split at hp
   ·rename_i e' l' hb1
    cases hz:Nat.beq z (LI.sz l') with
    | false=>rw [hz] at hp;cases hp
    | true =>
     rw [hz] at hp;cases hp
     have hzz:=Nat.eq_of_beq_eq_true hz
     subst hzz
     obtain ⟨h1,h2,h3⟩:=hr.winOf hb (.inl hb1)
     obtain ⟨xs,hro,hx,hbk⟩:=hr.ent _ _ hb1
     refine ⟨hb1,h1,h2,⟨_,_,by unfold Gh.v;rw [h3]⟩,fun h0=>?_⟩
     rcases own_cells hro hx with ⟨hv,he⟩ | ⟨k',cap,hv,hcap,_⟩
     ·rw [he] at h2;simp at h2;omega
     ·have hk:=hbk k' (by rw [hv];rfl)
      subst hk
      unfold Gh.v at hv ⊢
      simp only [Value.slice.injEq] at hv
      refine ⟨(g.sv b0).2.2 - lo,?_⟩
      rw [h3,hv.1,if_neg (by omega)]
      show Value.slice (some ((⟨g.blk b0,0,none⟩:Addr).add (lo * LI.sz l))) _ _=_
      rw [addr_add,Nat.zero_add]
   ·cases hp
  ·cases hp
 ·cases hp
theorem op_indexAddr [LLaws L](hT:TabOK P T){t:TypeId}{x y:Operand}(ho:o.op=.indexAddr t x y)(hE:RepE U g env a)(hr:RepH U g B h w)(hq:(evOp T h fresh (opd env) (.indexAddr t x y)).holds oD Q):Good P U g B h w fresh a o Q:=by
 simp only [evOp,indexAddrOp] at hq
 split at hq
 ·rename_i ti c j hti hc hj
  have hcr:=cOf_rep (opd_rep hE x) hc
  have hci:=opd_ids hE x
  rw [cOf_ids hc] at hci
  have hy:=natOf_rep (opd_rep hE y) hj
  obtain ⟨info,d,_,h2,h3,_⟩:=tab_info hT hti
  split at hq
  ·rename_i n e hty
   split at hq
   ·rename_i b off hsel
    have hcb:c=.ptr b off:=by
     cases hk:(LI.selT L t && !j.known) with
     | false=>rw [hk] at hsel;cases hsel
     | true =>
      rw [hk,cond_true] at hsel
      split at hsel
      ·cases hsel;rfl
      ·cases hsel
    subst hcb
    cases hhe:hasT T e with
    | false=>rw [hhe] at hq;exact hq.elim
    | true =>
    rw [hhe,cond_true] at hq
    rcases hq with ⟨hb,hq⟩ | ⟨_,hq⟩
    ·rw [Bool.and_eq_true] at hb
     have h0:=of_decide_eq_true hb.1
     have h1:=of_decide_eq_true hb.2
     obtain ⟨m,hm⟩:=Int.eq_ofNat_of_zero_le h0
     rw [hty] at h3
     cases d<;>simp [descTy] at h3
     obtain ⟨rfl,rfl⟩:=h3
     have hv:=hcr;simp only [RepC] at hv
     have hR:RepC g (.sptr b off j.n n (sizeT T e) 0:C L) (.pointer (some ⟨g.blk b,off+m * sizeT T e,none⟩)):=⟨m,hm,by omega,by rw [Nat.add_zero]⟩
     refine .pure hq (v:=.pointer (some ⟨g.blk b,off+m * sizeT T e,none⟩)) ?_ hr hR (by intro b' hb';exact hci b' (by simpa [idsX,idsS,cellsOf,idsC] using hb'))
     cases hte:T e with
     | none=>simp [hasT,hte] at hhe
     | some ei =>
      have hsz:sizeT T e=ei.size:=by simp [sizeT,hte]
      have hmn:m < n:=by omega
      simp [execOp,ho,Instr.indexAt,hy,asIntOf,run_underlying h2,hv,Instr.sureAddr,run_size hT hte,addr_add,hm,hsz,hmn]
    ·exact hq.elim
   cases hhe:hasT T e with
   | false=>rw [hhe] at hq;exact hq.elim
   | true =>
   rw [hhe,cond_true] at hq
   obtain ⟨m,hm,hjm,hq⟩:=place_holds hq
   split at hq
   ·rename_i c' hs
    obtain ⟨k,p,hv,hR,hids⟩:=shift_rep hs hcr
    rw [hty] at h3
    cases d<;>simp [descTy] at h3
    obtain ⟨rfl,rfl⟩:=h3
    have hidX:∀ b∈idsX (.s (.c c'):X L),U b:=by
     intro b hb
     have:idsX (.s (.c c'):X L)=idsC c':=by simp [idsX,idsS,cellsOf]
     rw [this,hids] at hb;exact hci b hb
    refine .pure hq (v:=.pointer (some ⟨k,p+m * sizeT T e,none⟩)) ?_ hr hR hidX
    cases hte:T e with
    | none=>simp [hasT,hte] at hhe
    | some ei =>
     have hsz:sizeT T e=ei.size:=by simp [sizeT,hte]
     simp [execOp,ho,Instr.indexAt,hy,asIntOf,run_underlying h2,hv,Instr.sureAddr,run_size hT hte,addr_add,hjm,hsz,hm]
   ·exact hq.elim
  ·rename_i e hty
   rw [hty] at h3
   cases d<;>simp [descTy] at h3
   subst h3
   -- an index into a slice
   have run:∀ {l:L} {ad:Option Addr} {cap:Nat} {k q m:Nat},a.eval x=.slice ad (LI.els l).length cap→Nat.beq (sizeT T e) (LI.sz l)=true→ad=some ⟨k,q,none⟩→j.n=(m:Int)→m < (LI.els l).length→hasT T e=true →
     (execOp a.eval o).run P w=.ok (.value (.pointer (some ⟨k,q+m * LI.sz l,none⟩))) w:=by
    intro l ad cap k q m hv hs had hjm hlt hh
    have hsz:=Nat.eq_of_beq_eq_true hs
    unfold hasT at hh
    split at hh
    ·rename_i ei hei
     have hsz':sizeT T e=ei.size:=by simp [sizeT,hei]
     rw [hsz'] at hsz
     subst had
     simp [execOp,ho,Instr.indexAt,hy,asIntOf,run_underlying h2,hv,hjm,hlt,run_size hT hei,addr_add,hsz]
    ·cases hh
   -- frozen memory
   have frozen:∀ {l:L},RepI g.G (.fz l) (a.eval x)→(cond (Nat.beq (sizeT T e) (LI.sz l) && hasT T e) (test j.known (decide (0≤j.n)) (.ix l j.n.toNat fun cs=>one (.fp cs 0))) (.fail 224):Res L).holds oD Q→Good P U g B h w fresh a o Q:=by
    intro l hI hq
    cases hcd:(Nat.beq (sizeT T e) (LI.sz l) && hasT T e) with
    | false=>rw [hcd] at hq;exact hq.elim
    | true =>
     rw [hcd,cond_true] at hq
     rw [Bool.and_eq_true] at hcd
     obtain ⟨h0,hq⟩:=test_holds hq
     obtain ⟨cs,hcs,hq⟩:=hq
     have h0':=of_decide_eq_true h0
     generalize hv:a.eval x=v at hI
     cases hI with
     | @fz _ ad n cap k q vals hn hc ha hG hx =>
      subst hn
      have hlt:j.n.toNat < (LI.els l).length:=(List.getElem?_eq_some_iff.1 hcs).1
      have had:=ha (by omega)
      refine .pure hq (v:=.pointer (some ⟨k,q+j.n.toNat * LI.sz l,none⟩)) (run hv hcd.1 had (by omega) hlt hcd.2) hr ?_ (by simp [idsX,idsS,cellsOf,idsC])
      exact ⟨k,q+j.n.toNat * LI.sz l,rfl,fun i y hy=>⟨vals j.n.toNat i,hG _ _ cs y hcs hy,hx _ _ cs y hcs hy⟩⟩
   split at hq
   ·rename_i b
    simp only [RepC] at hcr
    split at hq
    ·rename_i e' l hb
     cases hcd:(Nat.beq (sizeT T e) (LI.sz l) && hasT T e) with
     | false=>rw [hcd] at hq;exact hq.elim
     | true =>
      rw [hcd,cond_true] at hq
      rw [Bool.and_eq_true] at hcd
      obtain ⟨h0,hq⟩:=test_holds hq
      obtain ⟨h1,hq⟩:=test_holds hq
      have h0':=of_decide_eq_true h0
      have h1':=of_decide_eq_true h1
      rw [LLaws.len] at h1'
      obtain ⟨xs,hro,hx,hbk⟩:=hr.ent b _ hb
      rcases own_cells hro hx with ⟨_,he⟩ | ⟨k,cap,hv,_,_,_,_,_⟩
      ·rw [he] at h1';simp at h1';omega
      ·have hk:k=g.blk b:=hbk k (by rw [hv];rfl)
       subst hk
       have hsz:=Nat.eq_of_beq_eq_true hcd.1
       refine .pure hq (v:=.pointer (some ⟨g.blk b,0+j.n.toNat * LI.sz l,none⟩)) (run (hcr.trans hv) hcd.1 rfl (by omega) (by omega) hcd.2) hr ?_ ?_
       ·simp [RepX,RepS,RepC,hsz]
       ·intro d hd
        simp [idsX,idsS,cellsOf,idsC] at hd
        subst hd;exact hci d (by simp [idsC])
    ·rename_i e' l tip hb
     exact frozen (by rw [hcr];exact (hr.ent b _ hb).1) hq
    ·rename_i b0 k0 hb
     split at hq
     ·rename_i e' l hb0
      cases hcd:(Nat.beq (sizeT T e) (LI.sz l) && hasT T e) with
      | false=>rw [hcd] at hq;exact hq.elim
      | true =>
       rw [hcd,cond_true] at hq
       rw [Bool.and_eq_true] at hcd
       obtain ⟨h0,hq⟩:=test_holds hq
       obtain ⟨h1,hq⟩:=test_holds hq
       have h0':=of_decide_eq_true h0
       have h1':=of_decide_eq_true h1
       obtain ⟨hsub,_⟩:=LLaws.sub l 0 k0
       obtain ⟨_,_,p3,_,p5⟩:=partOf_rep (c:=.ar b) (v:=g.v b) (b0:=b0) (lo:=0) (hi:=k0) (e:=e') (l:=l) hr (by simp [partOf,hb,hb0]) rfl
       rw [LLaws.len,hsub] at h1'
       have hlk:((LI.els l).take k0).length=k0:=by simp;omega
       simp only [List.drop_zero,hlk] at h1'
       obtain ⟨cap,hv⟩:=p5 (by omega)
       have hsz:=Nat.eq_of_beq_eq_true hcd.1
       refine .pure hq (v:=.pointer (some ⟨g.blk b0,0 * LI.sz l+j.n.toNat * LI.sz l,none⟩)) ?_ hr ?_ ?_
       ·have:=run (l:=LI.sub l 0 k0) (ad:=some ⟨g.blk b0,0 * LI.sz l,none⟩) (cap:=cap) (k:=g.blk b0) (q:=0 * LI.sz l) (m:=j.n.toNat) (by rw [hcr,hv,hsub];simp [hlk]) (by rw [(LLaws.sub l 0 k0).2];exact hcd.1) rfl (by omega) (by rw [hsub];simp [hlk];omega) hcd.2
        rw [(LLaws.sub l 0 k0).2] at this
        exact this
       ·simp [RepX,RepS,RepC,hsz]
       ·intro d hd
        simp [idsX,idsS,cellsOf,idsC] at hd
        subst hd;exact (hr.ids _ _ hb0).1
     ·exact hq.elim
    ·rename_i b0 z lo hi hb
     split at hq
     ·rename_i e' l hb0
      cases hcd:(Nat.beq (sizeT T e) (LI.sz l) && Nat.beq z (LI.sz l) && hasT T e) with
      | false=>rw [hcd] at hq;exact hq.elim
      | true =>
       rw [hcd,cond_true] at hq
       rw [Bool.and_eq_true,Bool.and_eq_true] at hcd
       obtain ⟨h0,hq⟩:=test_holds hq
       obtain ⟨h1,hq⟩:=test_holds hq
       have h0':=of_decide_eq_true h0
       have h1':=of_decide_eq_true h1
       obtain ⟨hsub,_⟩:=LLaws.sub l lo hi
       obtain ⟨_,p2,p3,_,p5⟩:=partOf_rep (c:=.ar b) (v:=g.v b) (b0:=b0) (lo:=lo) (hi:=hi) (e:=e') (l:=l) hr (by simp [partOf,hb,hb0,hcd.1.2]) rfl
       rw [LLaws.len,hsub] at h1'
       have hlk:(((LI.els l).take hi).drop lo).length=hi - lo:=by simp;omega
       rw [hlk] at h1'
       obtain ⟨cap,hv⟩:=p5 (by omega)
       have hsz:=Nat.eq_of_beq_eq_true hcd.1.1
       refine .pure hq (v:=.pointer (some ⟨g.blk b0,lo * LI.sz l+j.n.toNat * LI.sz l,none⟩)) ?_ hr ?_ ?_
       ·have:=run (l:=LI.sub l lo hi) (ad:=some ⟨g.blk b0,lo * LI.sz l,none⟩) (cap:=cap) (k:=g.blk b0) (q:=lo * LI.sz l) (m:=j.n.toNat) (by rw [hcr,hv,hsub,hlk]) (by rw [(LLaws.sub l lo hi).2];exact hcd.1.1) rfl (by omega) (by rw [hsub,hlk];omega) hcd.2
        rw [(LLaws.sub l lo hi).2] at this
        exact this
       ·simp [RepX,RepS,RepC,hsz,Nat.add_mul]
       ·intro d hd
        simp [idsX,idsS,cellsOf,idsC] at hd
        subst hd;exact (hr.ids _ _ hb0).1
     ·exact hq.elim
    ·exact hq.elim
   ·exact frozen hcr hq
   ·exact hq.elim
  ·exact hq.elim
 ·exact hq.elim
end
end Go.Ev
/- Operations: index, len, min, max, conversions. -/
namespace Go.Ev
variable {L:Type} [LI L]
section
variable {P:Program} {T:Tab} {oD:OrcD L} {U:Nat→Prop} {g:Gh} {B:Nat} {h:Hp L} {w:World} {fresh:Nat} {env:List (Nat×X L)} {a:Act} {o:Oper} {Q:X L×Hp L→Prop}
theorem op_index [LLaws L](hT:TabOK P T){t:TypeId}{x y:Operand}(ho:o.op=.index t x y)(hE:RepE U g env a)(hr:RepH U g B h w)(hq:(evOp T h fresh (opd env) (.index t x y)).holds oD Q):Good P U g B h w fresh a o Q:=by
 simp only [evOp,indexOp] at hq
 have hx:=opd_rep hE x
 have hxi:=opd_ids hE x
 split at hq
 ·rename_i ti cs j hti hcs hj
  rw [hcs] at hx hxi
  obtain ⟨vs,hv,hc⟩:=hx
  have hy:=natOf_rep (opd_rep hE y) hj
  obtain ⟨info,d,_,h2,h3,_⟩:=tab_info hT hti
  split at hq
  ·rename_i n e hty
   rw [hty] at h3
   cases d<;>simp [descTy] at h3
   obtain ⟨rfl,rfl⟩:=h3
   split at hq
   ·rename_i ei hei
    split at hq
    ·rename_i xs u hsel
     have hsel':selIs (fun k=>match part ei.isAgg cs (k * ei.size) ei.size with | some s=>toIs h (cellsOf s) | none=>none) j.n n 0=some (xs,u):=by
      cases hk:(LI.selT L t && !j.known) with
      | false=>rw [hk] at hsel;cases hsel
      | true=>rw [hk,cond_true] at hsel;exact hsel
     rcases hq with ⟨hb,hq⟩ | ⟨_,hq⟩
     ·rw [Bool.and_eq_true] at hb
      have h0:=of_decide_eq_true hb.1
      have h1:=of_decide_eq_true hb.2
      obtain ⟨m,hm⟩:=Int.eq_ofNat_of_zero_le h0
      have hmn:m < n:=by omega
      obtain ⟨x',u',hf,_,_⟩:=selIs_spec hsel' m (Nat.zero_le _) (by omega) hm
      split at hf
      ·rename_i s hs
       obtain ⟨v,hrun,hR⟩:=part_val hT hei hc hs w
       obtain ⟨y',u2,hQ,g',hp⟩:=packSel_sound (fresh:=fresh) hr hm hmn hsel' (v:=v) (fun s' hs'=>by rw [hs] at hs';cases hs';exact hR) hq
       refine .value hQ (v:=v) ?_ hp
       simp [execOp,ho,Instr.index,hy,asIntOf,run_underlying h2,hv,hm,hmn,run_size hT hei,hrun]
      ·cases hf
     ·exact hq.elim
    obtain ⟨m,hm,hjm,hq⟩:=place_holds hq
    split at hq
    ·rename_i s hs
     obtain ⟨v,hrun,hR⟩:=part_val hT hei hc hs w
     refine .pure hq (v:=v) ?_ hr hR fun b hb=>hxi b (part_ids hs b hb)
     simp [execOp,ho,Instr.index,hy,asIntOf,run_underlying h2,hv,hjm,hm,run_size hT hei,hrun]
    ·exact hq.elim
   ·exact hq.elim
  ·exact hq.elim
 ·rename_i ti s j hti hcs hj
  rw [hcs] at hx
  have hv:a.eval x=.string s:=str_rep hx
  have hy:=natOf_rep (opd_rep hE y) hj
  obtain ⟨info,d,_,h2,h3,_⟩:=tab_info hT hti
  split at hq
  ·rename_i hty
   rw [hty] at h3
   cases d<;>simp [descTy] at h3
   rcases hq with ⟨h0,hq⟩ | ⟨_,hq⟩
   ·rcases hq with ⟨h1,hq⟩ | ⟨_,hq⟩
    ·have h0':=of_decide_eq_true h0
     have h1':=of_decide_eq_true h1
     have hlt:j.n.toNat < s.size:=by omega
     refine .pureI (v:=.int .u8 ((s[j.n.toNat]?.getD 0).toNat:Int)) hq ?_ hr .int
     have hsome:s[j.n.toNat]?=some s[j.n.toNat]:=by simp [hlt]
     simp [execOp,ho,Instr.index,hy,asIntOf,run_underlying h2,hv,h0',hsome]
    ·exact hq.elim
   ·exact hq.elim
  ·exact hq.elim
 ·exact hq.elim
theorem listOf_len [LLaws L](hr:RepH U g B h w){c:C L}{l:L}{u:Hp L}{v:Value}(hl:listOf h c=some (l,u))(hc:RepC g c v):∃ ad cap,v=.slice ad (LI.els l).length cap∧(LI.els l).length≤cap:=by
 obtain ⟨G',hle,h2,_⟩:=hr.freezeL u (listOf_frz hl)
 have hI:=listOf_rep (g:={ g with G:=G' }) hl (listOf_frz hl) (fun _ h=>h) h2 (RepC.mono (U:=fun _=>True) (g:=g) (g':={ g with G:=G' }) ⟨fun _ _=>rfl,fun _ _=>rfl,hle⟩ (fun _ _=>trivial) hc)
 cases hI with
 | fz hn hc _ _ _=>exact ⟨_,_,by rw [hn],by omega⟩
theorem op_len [LLaws L](hT:TabOK P T){t:TypeId}{x:Operand}(ho:o.op=.call { callee:=.builtin .len,args:=#[x],argTypes:=#[t] })(hE:RepE U g env a)(hr:RepH U g B h w){c:C L}(hc:cOf (opd env x)=some c)(hq:(lenOp T h t c).holds oD Q):Good P U g B h w fresh a o Q:=by
 have hcr:=cOf_rep (opd_rep hE x) hc
 unfold lenOp at hq
 split at hq
 ·rename_i i hi
  obtain ⟨info,d,_,h2,h3,_⟩:=tab_info hT hi
  have run:∀ {v:Value},(Builtin.len_ #[t] o.type #[a.eval x]).run P w=.ok v w→(execOp a.eval o).run P w=.ok (.value v) w:=by
   intro v hv
   simp [execOp,ho,resolve,invoke,builtin,hv]
  split at hq
  ·rename_i hty
   rw [hty] at h3
   cases d<;>simp [descTy] at h3
   split at hq
   ·rename_i s
    have hv:=str_rep hcr
    exact .pureI (v:=.int .i64 s.size) hq (run (by simp [Builtin.len_,run_underlying h2,hv,goInt])) hr .int
   ·exact hq.elim
  ·rename_i e hty
   rw [hty] at h3
   cases d<;>simp [descTy] at h3
   subst h3
   cases hn:isNil c with
   | true =>
    rw [hn,cond_true] at hq
    rw [isNil_eq hn] at hcr
    have hv:=hcr.nil_val
    exact .pureI (v:=.int .i64 0) hq (run (by simp [Builtin.len_,run_underlying h2,hv,goInt])) hr .lit
   | false =>
    rw [hn,cond_false] at hq
    split at hq
    ·rename_i l u hl
     obtain ⟨ad,cap,hv,_⟩:=listOf_len hr hl hcr
     rw [LLaws.len] at hq
     exact .pureI (v:=.int .i64 ((LI.els l).length:Int)) hq (run (by simp [Builtin.len_,run_underlying h2,hv,goInt])) hr .int
    ·exact hq.elim
  ·exact hq.elim
 ·exact hq.elim
end
end Go.Ev
/- Operations: min, max, conversions, make, append, copy. -/
namespace Go.Ev
variable {L:Type} [LI L]
section
variable {P:Program} {T:Tab} {oD:OrcD L} {U:Nat→Prop} {g:Gh} {B:Nat} {h:Hp L} {w:World} {fresh:Nat} {env:List (Nat×X L)} {a:Act} {o:Oper} {Q:X L×Hp L→Prop}
theorem foldInts_sound {f:Int→Int→Int}{F:Value→Value→Sem Value}(hF:∀ k x y w,(F (.int k x) (.int k y)).run P w=.ok (.int k (f x y)) w) :
  ∀ {xs:List (X L)} {vs:List Value} {i r:IntV},foldInts f i xs=some r→All2 (RepX g) xs vs→∀ w,(vs.foldlM F (.int i.k i.n)).run P w=.ok (.int r.k r.n) w
 | [],_,i,r,hf,hx,w=>by cases hx;simp [foldInts] at hf;subst hf;simp
 | x::xs,_,i,r,hf,hx,w=>by
  cases hx with
  | cons h1 h2 =>
   simp only [foldInts] at hf
   split at hf
   ·rename_i y hy
    split at hf
    ·rename_i b hb
     cases hk:keq i.k b.k with
     | false=>rw [hk] at hf;cases hf
     | true =>
      rw [hk,cond_true] at hf
      have hv:=intV_rep (imOf_rep h1 hy) hb
      rw [← keq_eq hk] at hv
      subst hv
      have:=foldInts_sound hF hf h2 w
      simp only [List.foldlM_cons,Sem.run_bind,hF,Result.andThen_ok]
      exact this
    ·cases hf
   ·cases hf
theorem op_minmax {x:Operand}{xs:List Operand}{ts:Array TypeId}{b:Builtin}{f:Int→Int→Int}(ho:o.op=.call { callee:=.builtin b,args:=(x::xs).toArray,argTypes:=ts })(hb:(b=.min∧f=min2)∨(b=.max∧f=max2))(hE:RepE U g env a)(hr:RepH U g B h w)
  {i r:IntV} (hi:natOf (opd env x)=some i) (hf:foldInts f i (xs.map (opd env))=some r) (hq:(oneI (mkInt r.known r.k r.n):Res L).holds oD Q):Good P U g B h w fresh a o Q:=by
 have hx:=natOf_rep (opd_rep hE x) hi
 refine .pureI (v:=.int r.k r.n) hq ?_ hr (rep_mkInt _ _ _ _)
 rcases hb with ⟨rfl,rfl⟩ | ⟨rfl,rfl⟩
 ·have:=foldInts_sound (P:=P) (F:=Builtin.min2) (fun k x y w=>by simp [Builtin.min2,min2]) hf (opds_rep hE xs) w
  simp [execOp,ho,resolve,invoke,builtin,Builtin.min_,hx,this]
 ·have:=foldInts_sound (P:=P) (F:=Builtin.max2) (fun k x y w=>by simp [Builtin.max2,max2]) hf (opds_rep hE xs) w
  simp [execOp,ho,resolve,invoke,builtin,Builtin.max_,hx,this]
theorem foldl_push (ns:List Int):∀ s:ByteArray,ns.foldl (fun r n=>r.push (UInt8.ofNat n.toNat)) s=⟨s.data++(ns.map fun n=>n.toNat.toUInt8).toArray⟩:=by
 induction ns with
 | nil=>intro s;simp
 | cons n r ih =>
  intro s
  rw [List.foldl_cons,ih]
  congr 1
  apply Array.ext'
  simp [ByteArray.push,Nat.toUInt8]
theorem isByteT_eq (hT:TabOK P T){e:TypeId}(hbt:isByteT T e=true):P.underlying e=some (.int .u8):=by
 unfold isByteT at hbt
 split at hbt
 ·rename_i i hi
  obtain ⟨info,d,_,m2,m3,_⟩:=tab_info hT hi
  split at hbt
  ·rename_i hty
   rw [m3] at hty
   cases d<;>simp [descTy] at hty
   subst hty;exact m2
  ·cases hbt
 ·cases hbt
def byteAt (s:ByteArray)(i:Nat):Int:=match s.data[i]? with | some b=>(b.toNat:Int) | none=>0
theorem byteAt_eq {s:ByteArray}{i:Nat}(h:i < s.data.size):byteAt s i=(s.data[i].toNat:Int):=by
 unfold byteAt
 rw [Array.getElem?_eq_getElem h]
theorem Post.bytes [LLaws L](hr:RepH U g B h w){e:TypeId}{s:ByteArray}{l:L}(hl:LI.ofStr e s=some l)(cap:Nat)(hcap:s.size≤cap)(fz:Nat×Nat) :
  ∃ g',Post U g B h fresh w (.s (.c (.im (.fz l)))) [] (.slice (some ⟨w.heap.size,0,none⟩) s.size cap) (w.drew.alloc (.cells (bytesRow s cap) e fz)) g':=by
 obtain ⟨hlen,hsz,hrep⟩:=LLaws.ofStr e s l hl
 let w':=w.drew.alloc (.cells (bytesRow s cap) e fz)
 let G':Fz:=fun k o=>if k=w.heap.size∧o < s.size then (bytesRow s cap)[o]? else g.G k o
 have hnew:w'.heap[w.heap.size]?=some (.cells (bytesRow s cap) e fz):=heap_alloc_new (w:=w.drew)
 have hle:FzLe g.G G':=by
  intro k o v hv
  show (if _ then _ else _)=_
  rw [if_neg]
  ·exact hv
  ·rintro ⟨hk,_⟩;subst hk;exact Nat.lt_irrefl _ (cell_lt (hr.fz _ _ _ hv))
 have hbelow:RowKit.Below w.heap.size w w':=⟨rfl,rfl,rfl,by show _≤(w.drew.alloc _).heap.size;rw [size_alloc'];exact Nat.le_succ _,fun k hk=>heap_alloc_old (w:=w.drew) hk⟩
 have hsound:∀ k o v,G' k o=some v→w'.cell? ⟨k,o,none⟩=some v:=by
  intro k o v hv
  change (if _ then _ else _)=_ at hv
  split at hv
  ·rename_i hc
   obtain ⟨rfl,_⟩:=hc
   rw [cell_of_block hnew];exact hv
  ·have hc:=hr.fz k o v hv
   rw [World.cell?_of_block (a:=⟨k,o,none⟩) (hbelow.block k (cell_lt hc))];exact hc
 have hnf:∀ k o v,G' k o=some v→g.G k o=some v∨w.heap.size≤k:=by
  intro k o v hv
  change (if _ then _ else _)=_ at hv
  split at hv
  ·rename_i hc;exact .inr (Nat.le_of_eq hc.1.symm)
  ·exact .inl hv
 have hrl:=hr.later hbelow hle hnf hsound
 have hval:∀ i,i < s.size→G' w.heap.size i=some (.int .u8 (byteAt s i)):=by
  intro i hi
  show (if _ then _ else _)=_
  rw [if_pos ⟨rfl,hi⟩,bytesRow_at s cap i hi]
  rw [byteAt_eq hi]
 have hI:RepI G' (.fz l) (.slice (some ⟨w.heap.size,0,none⟩) s.size cap):=by
  have key:∀ (i j:Nat) cs x,(LI.els l)[i]?=some cs→cs[j]?=some x→j=0∧i < s.size∧∀ G:Fz,RepI G x (.int .u8 (byteAt s i)):=by
   intro i j cs x hi hj
   have hcl:cs.length=1:=by rw [← hsz];exact LLaws.size l cs (List.mem_of_getElem? hi)
   have hj0:j=0:=by have:=(List.getElem?_eq_some_iff.1 hj).1;omega
   subst hj0
   have hlt:i < s.size:=by rw [← hlen];exact (List.getElem?_eq_some_iff.1 hi).1
   refine ⟨rfl,hlt,fun G=>?_⟩
   have hf:=flatten_get (fun c hc=>LLaws.size l c hc) hi hj
   rw [hsz,Nat.mul_one,Nat.add_zero] at hf
   obtain ⟨v,hv,hR⟩:=(hrep G).get hf
   have hlt':i < s.data.size:=hlt
   simp only [List.getElem?_map,Array.getElem?_toList,Array.getElem?_eq_getElem hlt',Option.map_some,Option.some.injEq] at hv
   subst hv
   rw [byteAt_eq hlt'];exact hR
  refine .fz (k:=w.heap.size) (o:=0) (vals:=fun i _=>.int .u8 (byteAt s i)) hlen.symm hcap (fun _=>rfl) ?_ ?_
  ·intro i j cs x hi hj
   obtain ⟨rfl,hlt,_⟩:=key i j cs x hi hj
   rw [hsz,Nat.mul_one,Nat.zero_add,Nat.add_zero]
   exact hval i hlt
  ·intro i j cs x hi hj
   exact (key i j cs x hi hj).2.2 G'
 refine ⟨{ g with G:=G' },⟨⟨fun _ _=>rfl,fun _ _=>rfl,hle⟩,hI,by simp [idsX,idsS,cellsOf,idsC],hrl.weaken fun _=>.inl,fun k o z hz=>(hnf k o z hz).imp id .inr,fun b e' hb hO=>.inl ⟨b,e',hb,?_,rfl⟩,⟨rfl,rfl,rfl,hbelow.size⟩,fun k hk _=>hbelow.block k hk,fun b e' hb=>by simp [look] at hb⟩⟩
 cases e'<;>exact hO
theorem op_convert [LLaws L](hT:TabOK P T){src dst:TypeId}{x:Operand}(ho:o.op=.convert src dst x)(hE:RepE U g env a)(hr:RepH U g B h w)(hq:(evOp T h fresh (opd env) (.convert src dst x)).holds oD Q):Good P U g B h w fresh a o Q:=by
 simp only [evOp] at hq
 split at hq
 ·rename_i si di c hsi hdi hc
  have hcr:=cOf_rep (opd_rep hE x) hc
  obtain ⟨_,d1,_,h2,h3,_⟩:=tab_info hT hsi
  obtain ⟨_,d2,_,k2,k3,_⟩:=tab_info hT hdi
  split at hq
  ·rename_i kk k i hs hd
   rw [hs] at h3;rw [hd] at k3
   cases d1<;>simp [descTy] at h3
   cases d2<;>simp [descTy] at k3
   subst k3
   split at hq
   ·rename_i v hv
    have hx:=intV_rep hcr hv
    exact .pureI (v:=.int k (k.wrap v.n)) hq (by simp [execOp,ho,hx,convert,run_underlying h2,run_underlying k2,Conv.intToInt]) hr (rep_mkInt _ _ _ _)
   ·exact hq.elim
  ·rename_i e hs hd
   rw [hs] at h3;rw [hd] at k3
   cases d1<;>simp [descTy] at h3
   cases d2<;>simp [descTy] at k3
   subst h3
   cases hbt:isByteT T e with
   | false=>rw [hbt] at hq;exact hq.elim
   | true =>
    rw [hbt,cond_true] at hq
    have hu:P.underlying e=some (.int .u8):=by
     unfold isByteT at hbt
     split at hbt
     ·rename_i i hi
      obtain ⟨info,d,_,m2,m3,_⟩:=tab_info hT hi
      split at hbt
      ·rename_i hty
       rw [m3] at hty
       cases d<;>simp [descTy] at hty
       subst hty;exact m2
      ·cases hbt
     ·cases hbt
    split at hq
    ·rename_i l u hl
     split at hq
     ·rename_i s hs'
      obtain ⟨ns,hels,rfl⟩:=LLaws.bytes l s hs'
      obtain ⟨ad,cap,hv,hle⟩:=listOf_len hr hl hcr
      have hlen:(LI.els l).length=ns.length:=by rw [hels];simp
      cases hns:ns with
      | nil =>
       subst hns
       refine .pureI (v:=.string ⟨#[]⟩) hq ?_ hr .str
       have hl0:(LI.els l).length=0:=by rw [hlen];rfl
       rw [hl0] at hv
       cases ad with
       | none=>simp [execOp,ho,hv,convert,run_underlying h2,run_underlying k2,run_underlying hu,Conv.bytesToString];rfl
       | some ad =>
        have:=run_bytesToString (P:=P) w ad 0 cap [] (by simp [loadCells,loadCellsFrom])
        simp [execOp,ho,hv,convert,run_underlying h2,run_underlying k2,run_underlying hu,this];rfl
      | cons n0 nr =>
       have hsz:LI.sz l=1:=by
        have:=LLaws.size l [.int .u8 n0] (by rw [hels,hns];simp)
        simpa using this.symm
       obtain ⟨news,hsr⟩:=src_of hr hl (by omega) hcr
       obtain ⟨ad',cap',hv',_,hcell⟩:=hsr.form
       rw [hv] at hv';cases hv'
       obtain ⟨ad0,rfl,hcells⟩:=hcell (by rw [hlen,hns];simp)
       have hnews:news=ns.map (Value.int .u8):=by
        have hrep:=hsr.rep
        have hfl:(LI.els l).flatten=ns.map (fun n=>(.int .u8 n:I L)):=by rw [hels];clear hels hns hlen hq hs' ;induction ns with | nil=>rfl | cons a r ih=>simp [ih]
        rw [hfl] at hrep
        clear hcells hcell hsr hfl hq hels hns hlen hs'
        induction ns generalizing news with
        | nil=>cases hrep;rfl
        | cons m r ih =>
         cases hrep with
         | cons p1 p2=>cases p1;rw [ih _ p2];rfl
       have hload:=run_loadCells_list (P:=P) w ad0 news hcells
       have hnl:news.length=(LI.els l).length:=by rw [hnews,hlen];simp
       rw [hnl,hnews] at hload
       have:=run_bytesToString (P:=P) w ad0 (LI.els l).length cap ns hload
       rw [foldl_push] at this
       refine .pureI (v:=.string ⟨(ns.map fun n=>n.toNat.toUInt8).toArray⟩) hq ?_ hr .str
       simp [execOp,ho,hv,convert,run_underlying h2,run_underlying k2,run_underlying hu,this]
     ·exact hq.elim
    ·exact hq.elim
  ·rename_i e s hs hd
   rw [hs] at h3;rw [hd] at k3
   cases d1<;>simp [descTy] at h3
   cases d2<;>simp [descTy] at k3
   subst k3
   cases hcd:(isByteT T e && zOk T e) with
   | false=>rw [hcd] at hq;exact hq.elim
   | true =>
    rw [hcd,cond_true] at hq
    rw [Bool.and_eq_true] at hcd
    have hv:=str_rep hcr
    split at hq
    ·rename_i l hl
     have hcap:=grownCap_ge w s.size 0 e
     obtain ⟨g',hp⟩:=Post.bytes (fresh:=fresh) hr hl (grownCap w s.size 0 e) hcap ((bytesRow s (grownCap w s.size 0 e)).size,(bytesRow s (grownCap w s.size 0 e)).size+1)
     refine .value hq ?_ hp
     have:=run_bytes_of_string (P:=P) w src dst e s h2 k2 (isByteT_eq hT hcd.1)
     simp [execOp,ho,hv,this]
    ·exact hq.elim
  ·exact hq.elim
 ·exact hq.elim
end
end Go.Ev
/- Operations: make, append, copy. -/
namespace Go.Ev
variable {L:Type} [LI L]
section
variable {P:Program} {T:Tab} {oD:OrcD L} {U:Nat→Prop} {g:Gh} {B:Nat} {h:Hp L} {w:World} {fresh:Nat} {env:List (Nat×X L)} {a:Act} {o:Oper} {Q:X L×Hp L→Prop}
theorem sliceElem_eq (hT:TabOK P T){t e:TypeId}(h:sliceElem T t=some e):P.underlying t=some (.slice e):=by
 unfold sliceElem at h
 split at h
 ·rename_i i hi
  split at h
  ·rename_i e' hty
   cases h
   obtain ⟨_,d,_,h2,h3,_⟩:=tab_info hT hi
   rw [hty] at h3
   cases d<;>simp [descTy] at h3
   subst h3;exact h2
  ·cases h
 ·cases h
theorem made_flat (z:Array Value)(n:Nat)(hz:0 < z.size):(madeCells z (n * z.size)).toList=(List.replicate n z.toList).flatten:=by
 apply List.ext_getElem?
 intro p
 have hu:∀ c∈List.replicate n z.toList,c.length=z.size:=by intro c hc;rw [List.eq_of_mem_replicate hc];simp
 by_cases hp:p < n * z.size
 ·have hm:p % z.size < z.size:=Nat.mod_lt _ hz
  have hd:p / z.size < n:=Nat.div_lt_of_lt_mul (by rw [Nat.mul_comm];exact hp)
  have h1:(List.replicate n z.toList)[p / z.size]?=some z.toList:=by simp [hd]
  have h2:z.toList[p % z.size]?=some z[p % z.size]:=by simp [hm]
  have h3:=flatten_get hu h1 h2
  rw [Nat.mul_comm,Nat.div_add_mod] at h3
  rw [h3]
  simp [madeCells,hp,hm]
 ·have h1:(madeCells z (n * z.size)).toList.length≤p:=by simp [madeCells];omega
  have h2:(List.replicate n z.toList).flatten.length≤p:=by rw [flatten_length hu];simp;omega
  rw [List.getElem?_eq_none h1,List.getElem?_eq_none h2]
theorem All2.replicate_flatten {α β:Type}{R:α→β→Prop}{as:List α}{bs:List β}(h:All2 R as bs):∀ n:Nat,All2 R (List.replicate n as).flatten (List.replicate n bs).flatten
 | 0=>.nil
 | n+1=>by simp only [List.replicate_succ,List.flatten_cons];exact h.append (All2.replicate_flatten h n)
theorem run_make_room {w:World}(base:Nat)(t e:TypeId)(i:TypeInfo)(z:Value)(size:Nat)(ht:P.underlying t=some (.slice e))(hi:P.info? e=some i)(hz:i.zero=some z)(hsize:i.size=size)
  (kl kc:IntKind) (n c:Nat) (hnc:n≤c) (hbytes:i.bytes * c≤281474976710656) (h63:c≤maxLen) (hbase:base≤w.heap.size) :
  ∃ w',(Instr.makeSlice t (.int kl (n:Int)) (.int kc (c:Int))).run P w=.ok (.slice (some ⟨w.heap.size,0,none⟩) n c) w' ∧
   w'.ownsRow base e size (.slice (some ⟨w.heap.size,0,none⟩) n c) n (madeCells z.cells (n * size)).toList∧w.grownBy w' none:=by
 subst hsize
 have h63':(c:Int)≤9223372036854775807:=by
  have h:=h63
  simp [maxLen] at h
  omega
 have hb':(i.bytes:Int) * (c:Int)≤281474976710656:=by
  have h:((i.bytes * c:Nat):Int)≤281474976710656:=by omega
  rwa [Int.natCast_mul] at h
 have hr:=run_make (P:=P) w t e i z ht hi hz kl kc n c (by omega) (by omega) hb' h63'
 simp only [Int.toNat_natCast] at hr
 have hle:n * i.size≤c * i.size:=Nat.mul_le_mul_right _ hnc
 refine ⟨_,hr,⟨by simp [size_madeCells],.inr ⟨w.heap.size,c,_,rfl,hbase,heap_alloc_new,hnc,h63,size_madeCells _ _,?_⟩⟩,World.grownBy_alloc w _ none⟩
 apply List.ext_getElem?
 intro p
 by_cases hp:p < n * i.size
 ·simp [hp,madeCells,show p < c * i.size by omega]
 ·simp [List.getElem?_take,hp,madeCells]
theorem Post.newRow (hr:RepH U g B h w)(hf:¬ U fresh){w':World}{s:Option Addr×Nat×Nat}{e:TypeId}{l:L}{xs:List Value}(hgrow:w.grownBy w' none)(hs:s.1=some ⟨w.heap.size,0,none⟩)
  (hrow:w'.ownsRow B e (LI.sz l) (.slice s.1 s.2.1 s.2.2) (LI.els l).length xs) (hxs:RepIs g.G (LI.els l).flatten xs) :
  Post U g B h fresh w (.s (.c (.ar fresh))) [(fresh,.arr e l)] (.slice s.1 s.2.1 s.2.2) w' (g.withRow fresh w.heap.size s):=by
 refine Post.row (u1:=[]) hr hf (fun c en hc=>.inl hc) (.inr (Nat.le_refl _)) ?_ ⟨hgrow.os,hgrow.tape,hgrow.output,hgrow.size⟩ (fun j hj _=>hgrow.block j hj (by simp)) (by simp [look])
 refine hr.addRow hf hr.base (fun c en hc hO he=>Nat.lt_irrefl _ (he ▸ hr.lt_size hc hO)) (fun o v hG=>Nat.lt_irrefl _ (cell_lt (hr.fz _ _ _ hG))) (fun j hj _ _=>hgrow.block j hj (by simp)) hgrow.size hrow hxs ?_
 intro j hj
 rw [hs] at hj
 simpa [Value.ownBlock] using hj.symm
theorem op_makeSlice [LLaws L](hT:TabOK P T)(hTL:TLaws L T){t:TypeId}{x y:Operand}(ho:o.op=.makeSlice t x y)(hE:RepE U g env a)(hr:RepH U g B h w)(hf:¬ U fresh)(hq:(evOp T h fresh (opd env) (.makeSlice t x y)).holds oD Q):Good P U g B h w fresh a o Q:=by
 simp only [evOp] at hq
 split at hq
 ·rename_i e he
  have ht:=sliceElem_eq hT he
  unfold makeOp at hq
  split at hq
  ·rename_i n c hn hc
   have hx:=natOf_rep (opd_rep hE x) hn
   have hy:=natOf_rep (opd_rep hE y) hc
   cases hz:zOk T e with
   | false=>rw [hz] at hq;exact hq.elim
   | true =>
    rw [hz,cond_true] at hq
    obtain ⟨info,z,hi,hzz,hzs,hby,hpos,hsize⟩:=zOk_info hT hz
    have reps:∀ {m:Nat} {l:L},LI.rep e m=some l→(LI.els l).length=m∧LI.sz l=info.size∧RepIs g.G (LI.els l).flatten (madeCells z.cells (m * info.size)).toList:=by
     intro m l hl
     obtain ⟨i,zl,cs,hti,hzi,hels,hsz,hall⟩:=hTL.rep e m l hl
     have hs2:sizeT T e=i.size:=by simp [sizeT,hti]
     refine ⟨by rw [hels];simp,by rw [hsz,← hs2,hsize],?_⟩
     obtain ⟨info',_,k1,_,_,_,_,k6⟩:=tab_info hT hti
     rw [hi] at k1;cases k1
     rw [k6,hzz] at hzi;simp only [Option.map_some,Option.some.injEq] at hzi
     rw [← hzs,made_flat z.cells m (by omega),hels,hzi]
     refine All2.replicate_flatten ?_ m
     clear hzi hels
     induction hall with
     | nil=>exact .nil
     | cons h1 _ ih=>exact .cons (h1 _) ih
    cases hsame:sameOpd x y with
    | true =>
     rw [hsame,cond_true] at hq
     have hxy:a.eval y=a.eval x:=by
      unfold sameOpd at hsame
      split at hsame
      ·rw [Nat.eq_of_beq_eq_true hsame]
      ·cases hsame
     obtain ⟨h0,hq⟩:=test_holds hq
     obtain ⟨h1,hq⟩:=test_holds hq
     have h0':=of_decide_eq_true h0
     have h1':n.n.toNat≤1073741824:=of_decide_eq_true h1
     split at hq
     ·rename_i l hl
      obtain ⟨r1,r2,r3⟩:=reps hl
      have hbytes:info.bytes * n.n.toNat≤281474976710656:=Nat.le_trans (Nat.mul_le_mul hby h1') (by decide)
      obtain ⟨w',hrun,hrow,hgrow⟩:=run_make_full (P:=P) w B t e info z info.size ht hi hzz rfl n.k n.k n.n.toNat hbytes (by unfold maxLen;omega) hr.base
      have hnn:((n.n.toNat:Nat):Int)=n.n:=by omega
      rw [hnn] at hrun
      refine .value hq ?_ (Post.newRow (s:=(some ⟨w.heap.size,0,none⟩,n.n.toNat,n.n.toNat)) hr hf hgrow rfl (by rw [r1,r2];exact hrow) r3)
      simp [execOp,ho,hxy,hx,hrun]
     ·exact hq.elim
    | false =>
     rw [hsame,cond_false] at hq
     cases hk:(n.known && decide (n.n=0)) with
     | false =>
      rw [hk,cond_false] at hq
      obtain ⟨h0,hq⟩:=test_holds hq
      obtain ⟨h1,hq⟩:=test_holds hq
      obtain ⟨h2,hq⟩:=test_holds hq
      have h0':=of_decide_eq_true h0
      have h1':=of_decide_eq_true h1
      have h2':c.n.toNat≤1073741824:=of_decide_eq_true h2
      split at hq
      ·rename_i l hl
       obtain ⟨r1,r2,r3⟩:=reps hl
       have hbytes:info.bytes * c.n.toNat≤281474976710656:=Nat.le_trans (Nat.mul_le_mul hby h2') (by decide)
       obtain ⟨w',hrun,hrow,hgrow⟩:=run_make_room (P:=P) (w:=w) B t e info z info.size ht hi hzz rfl n.k c.k n.n.toNat c.n.toNat (by omega) hbytes (by unfold maxLen;omega) hr.base
       have hnn:((n.n.toNat:Nat):Int)=n.n:=by omega
       have hcc:((c.n.toNat:Nat):Int)=c.n:=by omega
       rw [hnn,hcc] at hrun
       refine .value hq ?_ (Post.newRow (s:=(some ⟨w.heap.size,0,none⟩,n.n.toNat,c.n.toNat)) hr hf hgrow rfl (by rw [r1,r2];exact hrow) r3)
       simp [execOp,ho,hx,hy,hrun]
      ·exact hq.elim
     | true =>
      rw [hk,cond_true] at hq
      rw [Bool.and_eq_true] at hk
      have hn0:=of_decide_eq_true hk.2
      obtain ⟨h0,hq⟩:=test_holds hq
      obtain ⟨h1,hq⟩:=test_holds hq
      have h0':=of_decide_eq_true h0
      have h1':c.n.toNat≤1073741824:=of_decide_eq_true h1
      split at hq
      ·rename_i l hl
       obtain ⟨r1,r2,r3⟩:=reps hl
       have hbytes:info.bytes * c.n.toNat≤281474976710656:=Nat.le_trans (Nat.mul_le_mul hby h1') (by decide)
       obtain ⟨w',hrun,hrow,hgrow⟩:=run_make_own (P:=P) w B t e info z info.size ht hi hzz rfl n.k c.k c.n.toNat hbytes (by unfold maxLen;omega) hr.base
       have hnn:((c.n.toNat:Nat):Int)=c.n:=by omega
       rw [hnn] at hrun
       rw [Nat.zero_mul] at r3
       refine .value hq ?_ (Post.newRow (s:=(some ⟨w.heap.size,0,none⟩,0,c.n.toNat)) (xs:=[]) hr hf hgrow rfl (by rw [r1,r2];exact hrow) (by simpa [madeCells] using r3))
       simp [execOp,ho,hx,hy,hn0,hrun]
      ·exact hq.elim
  ·exact hq.elim
 ·exact hq.elim
theorem op_append [LLaws L](hT:TabOK P T){t e:TypeId}{x y:Operand}(ho:o.op=.call { callee:=.builtin .append,args:=#[x,y],argTypes:=#[t,t] })(hE:RepE U g env a)(hr:RepH U g B h w)(hf:¬ U fresh)(he:sliceElem T t=some e)
  (hq:(appendOp T h fresh e (opd env x) (opd env y)).holds oD Q):Good P U g B h w fresh a o Q:=by
 obtain ⟨z,u,hqz,v',w',g',hrun,hp⟩:=appendOp_sound (ty:=o.type) hT (sliceElem_eq hT he) hr hf (opd_rep hE x) (opd_rep hE y) hq
 refine .value hqz ?_ hp
 simp [execOp,ho,resolve,invoke,builtin,hrun]
end
end Go.Ev
/- Operations: copy, slices of slices, slice literals. -/
namespace Go.Ev
variable {L:Type} [LI L]
section
variable {P:Program} {T:Tab} {oD:OrcD L} {U:Nat→Prop} {g:Gh} {B:Nat} {h:Hp L} {w:World} {fresh:Nat} {env:List (Nat×X L)} {a:Act} {o:Oper} {Q:X L×Hp L→Prop}
theorem Post.setArr {x:X L}{v:Value}{w':World}{b:Nat}{e:TypeId}{l l':L}(hb:look h b=some (.arr e l))(hh:RepH U g B ((b,.arr e l')::h) w')(hx:RepX g x v)(hi:∀ d∈idsX x,U d)(hs:Same w w')
  (hfr:∀ j,j < w.heap.size→(Owns g b (.arr e l:En L)→j≠g.blk b)→w'.heap[j]?=w.heap[j]?):Post U g B h fresh w x [(b,.arr e l')] v w' g:=by
 refine ⟨.refl _ _,hx,fun d hd=>.inl (hi d hd),hh.weaken fun _=>.inl,fun _ _ _ hz=>.inl hz,?_,hs,?_,?_⟩
 ·intro c en hc hO
  rw [List.singleton_append,look_cons] at hc
  refine .inl ?_
  split at hc
  ·rename_i hbc;subst hbc;cases hc;exact ⟨b,_,hb,hO,rfl⟩
  ·exact ⟨c,en,hc,hO,rfl⟩
 ·intro k hk hown
  exact hfr k hk fun hO he=>hown b _ hb hO he.symm
 ·intro c en hc
  rw [look_cons] at hc
  split at hc
  ·rename_i hbc;subst hbc;exact .inr ⟨_,hb⟩
  ·simp [look] at hc
theorem setPart [LLaws L]{g:Gh}(hr:RepH U g B h w){b:Nat}{e:TypeId}{l l':L}(hb:look h b=some (.arr e l)){els2:List (List (I L))}{lo m:Nat}(hels:LI.els l'=(LI.els l).take lo++els2++(LI.els l).drop (lo+m))(hm:els2.length=m)
  (hsz:LI.sz l'=LI.sz l) (hle:lo+m≤(LI.els l).length) (hpos:0 < m) {ys:List Value} (hys:RepIs g.G els2.flatten ys) (hs2:∀ c∈els2,c.length=LI.sz l) :
  ∃ w',(storeCells ⟨g.blk b,lo * LI.sz l,none⟩ ys).run P w=.ok () w'∧RepH U g B ((b,.arr e l')::h) w'∧Same w w'∧∀ j,j < w.heap.size→(Owns g b (.arr e l:En L)→j≠g.blk b)→w'.heap[j]?=w.heap[j]?:=by
 obtain ⟨xs,hro,hx,hbk⟩:=hr.ent b _ hb
 rcases own_cells hro hx with ⟨_,hee⟩ | ⟨k,cap,hv,hcap,hBk,hks,_,hxl⟩
 ·rw [hee] at hle;simp at hle;omega
 ·have hk:k=g.blk b:=hbk k (by rw [hv];rfl)
  subst hk
  obtain ⟨hl1,hrow⟩:=hro
  rcases hrow with ⟨hv0,_⟩ | ⟨k',cap',cur,hv',_,hcur,hnc,hml,hcs,htk⟩
  ·rw [hv] at hv0;cases hv0
  ·rw [hv] at hv';cases hv'
   have hyl:ys.length=m * LI.sz l:=by rw [← hys.length,flatten_length hs2,hm]
   have hmul1:(lo+m) * LI.sz l≤(LI.els l).length * LI.sz l:=Nat.mul_le_mul_right _ hle
   rw [Nat.add_mul] at hmul1
   have hcurl:xs.length≤cur.size:=by have:=congrArg List.length htk;simp at this;omega
   have hst:=run_storeCells_at (P:=P) (g.blk b) (lo * LI.sz l) e ys 0 cur w hcur (by omega) hys.one
   simp only [Nat.add_zero] at hst
   have hlen':(LI.els l').length=(LI.els l).length:=by rw [hels];simp;omega
   have hOb:Owns g b (.arr e l:En L):=by show (g.v b).ownBlock≠none;rw [hv];simp [Value.ownBlock]
   have hrep:RepIs g.G (LI.els l').flatten (xs.take (lo * LI.sz l)++ys++xs.drop (lo * LI.sz l+ys.length)):=by
    rw [hels,List.flatten_append,List.flatten_append,flatten_take lo fun c hc=>LLaws.size l c hc,flatten_drop (lo+m) fun c hc=>LLaws.size l c hc,Nat.add_mul,hyl]
    exact ((hx.take _).append hys).append (hx.drop _)
   have hrow':(w.setRow (g.blk b) (cur.toList.take (lo * LI.sz l)++ys++cur.toList.drop (lo * LI.sz l+ys.length)).toArray).ownsRow B e (LI.sz l') (g.v b) (LI.els l').length (xs.take (lo * LI.sz l)++ys++xs.drop (lo * LI.sz l+ys.length)):=by
    refine ⟨by rw [hlen',hsz];simp;omega,.inr ⟨g.blk b,cap,_,by rw [hv,hlen'],hBk,setRow_heap w _ _ _ _ _ hcur,by rw [hlen'];exact hcap,hml,by rw [hsz];simp;omega,?_⟩⟩
    rw [hlen',hsz,← htk]
    exact take_splice cur.toList ys ((LI.els l).length * LI.sz l) (lo * LI.sz l) (by omega) (by simp;omega)
   have hset:=hr.setArr hb (l':=l') (w':=w.setRow (g.blk b) _) hlen' (fun q _ hne=>setRow_other w _ q _ (hne hOb)) (by simp) hrow' hrep
   exact ⟨_,hst,hset,⟨rfl,rfl,rfl,by simp⟩,fun q _ hne=>setRow_other w _ q _ (hne hOb)⟩
theorem layL_els [LLaws L]{l l2 l':L}{lo n:Nat}(h:layL l l2 lo n=some l'):LI.els l'=(LI.els l).take lo++LI.els l2++(LI.els l).drop (lo+n)∧LI.sz l'=LI.sz l:=by
 unfold layL at h
 split at h
 ·rename_i l1 h1
  obtain ⟨a1,a2,a3⟩:=LLaws.app _ _ l1 h1
  obtain ⟨b1,b2,b3⟩:=LLaws.app _ _ l' h
  obtain ⟨c1,c2⟩:=LLaws.sub l 0 lo
  obtain ⟨d1,d2⟩:=LLaws.sub l (lo+n) (LI.len l)
  rw [List.drop_zero] at c1
  rw [LLaws.len] at *
  rw [List.take_length] at d1
  exact ⟨by rw [b1,a1,c1,d1],by rw [b2,a2,c2]⟩
 ·cases h
omit [LI L] in
theorem copy_run (hT:TabOK P T){t e:TypeId}{x y:Operand}(ho:o.op=.call { callee:=.builtin .copy,args:=#[x,y],argTypes:=#[t,t] })(ht:P.underlying t=some (.slice e)){ei:TI}(hei:T e=some ei)
  {n d m:Nat} {a1 a2:Option Addr} {c1 c2:Nat} (hx:a.eval x=.slice a1 d c1) (hy:a.eval y=.slice a2 m c2) (hn:Nat.min m d=n) {w':World} {cells:Array Value} (h1:(Builtin.firstCells ei.size n (.slice a2 m c2)).run P w=.ok cells w)
  (h2:(match a1 with | some ad=>storeCells ad cells.toList | none=>pure ():Sem Unit).run P w=.ok () w'):(execOp a.eval o).run P w=.ok (.value (.int .i64 n)) w':=by
 simp only [execOp,ho,resolve,invoke,builtin,Builtin.copy_]
 cases a1 with
 | none =>
  simp only at h2
  have:w'=w:=by simpa using h2.symm
  subst this
  simp [run_underlying ht,hn,run_size hT hei,h1,goInt,hx,hy,Builtin.lenOf]
 | some ad =>
  simp only at h2
  simp [run_underlying ht,hn,run_size hT hei,h1,h2,goInt,hx,hy,Builtin.lenOf]
theorem op_copyPart [LLaws L](hT:TabOK P T){t e:TypeId}{x y:Operand}(ho:o.op=.call { callee:=.builtin .copy,args:=#[x,y],argTypes:=#[t,t] })(hE:RepE U g env a)(hr:RepH U g B h w)(he:sliceElem T t=some e){c:C L}(hc:cOf (opd env x)=some c)
  {b0:Nat} {e':TypeId} {l l2:L} {lo hi:Nat} (hp:partOf h c=some (b0,e',l,lo,hi)) (hsrc:srcOf h e (opd env y)=some l2)
  (hq:(cond (Nat.beq (sizeT T e) (LI.sz l) && Nat.beq (sizeT T e) (LI.sz l2) && hasT T e && Nat.ble 1 (sizeT T e)) (match layL l (LI.sub l2 0 (Nat.min (LI.len l2) (hi - lo))) lo (Nat.min (LI.len l2) (hi - lo)) with
    | some l'=>.ret (.s (.c (.im (.int .i64 (Nat.min (LI.len l2) (hi - lo):Nat)))),[(b0,.arr e' l')])
    | none=>(.fail 258)) (.fail 257):Res L).holds oD Q):Good P U g B h w fresh a o Q:=by
 have ht:=sliceElem_eq hT he
 have hcr:=cOf_rep (opd_rep hE x) hc
 cases hcond:(Nat.beq (sizeT T e) (LI.sz l) && Nat.beq (sizeT T e) (LI.sz l2) && hasT T e && Nat.ble 1 (sizeT T e)) with
 | false=>rw [hcond] at hq;exact hq.elim
 | true =>
  rw [hcond,cond_true] at hq
  simp only [Bool.and_eq_true] at hcond
  have hs1:=Nat.eq_of_beq_eq_true hcond.1.1.1
  have hs2:=Nat.eq_of_beq_eq_true hcond.1.1.2
  have hpos:=Nat.le_of_ble_eq_true hcond.2
  have hll:LI.sz l2=LI.sz l:=by rw [← hs1,hs2]
  split at hq
  ·rename_i l' hlay
   obtain ⟨hels,hsz'⟩:=layL_els hlay
   rw [LLaws.len] at hq hels
   generalize hn:Nat.min (LI.els l2).length (hi - lo)=n at *
   have hn1:n≤(LI.els l2).length:=hn ▸ Nat.min_le_left _ _
   have hn2:n≤hi - lo:=hn ▸ Nat.min_le_right _ _
   obtain ⟨hsub1,_⟩:=LLaws.sub l2 0 n
   rw [List.drop_zero] at hsub1
   obtain ⟨p1,p2,p3,⟨av,capv,pv⟩,p5⟩:=partOf_rep hr hp hcr
   obtain ⟨news,hsr⟩:=srcOf_src hr (opd_rep hE y) hsrc (by omega)
   obtain ⟨a2,cap2,hv2,hc2,hcell⟩:=hsr.form
   obtain ⟨ei,hei⟩:∃ ei,T e=some ei:=by
    have:=hcond.1.2;unfold hasT at this;split at this
    ·exact ⟨_,by assumption⟩
    ·cases this
   have hsz:ei.size=LI.sz l:=by rw [← hs1];simp [sizeT,hei]
   by_cases hn0:n=0
   ·subst hn0
    have hel:LI.els l'=LI.els l:=by rw [hels,hsub1];simp
    obtain ⟨xs,hro,hx,hbk⟩:=hr.ent b0 _ p1
    have hset:=hr.setArr p1 (l':=l') (w':=w) (by rw [hel]) (fun _ _ _=>rfl) (Nat.le_refl _) (by rw [hel,hsz'];exact hro) (by rw [hel];exact hx)
    have hrun:=copy_run (w:=w) (o:=o) (a:=a) hT ho ht hei pv hv2 hn (w':=w) (cells:=#[]) (by cases a2<;>simp [Builtin.firstCells,loadCells,loadCellsFrom]) (by cases av<;>simp [storeCells])
    exact .value hq hrun (Post.setArr p1 hset .int (by simp [idsX,idsS,cellsOf,idsC]) (.refl w) (fun _ _ _=>rfl))
   ·obtain ⟨ad,had,hcells⟩:=hcell (by omega)
    subst had
    obtain ⟨capw,hvx⟩:=p5 (by omega)
    have hnl:news.length=(LI.els l2).length * LI.sz l:=by rw [hsr.len,hll]
    have hmul2:n * LI.sz l≤(LI.els l2).length * LI.sz l:=Nat.mul_le_mul_right _ hn1
    have htl:(news.take (n * LI.sz l)).length=n * LI.sz l:=by simp;omega
    have hload:=run_loadCells_list (P:=P) w ad (news.take (n * LI.sz l)) (fun j v hj=>hcells j v (by
     rw [List.getElem?_take] at hj;split at hj
     ·exact hj
     ·cases hj))
    rw [htl] at hload
    have hys:RepIs g.G ((LI.els l2).take n).flatten (news.take (n * LI.sz l)):=by
     rw [flatten_take n fun c hc=>LLaws.size l2 c hc,hll];exact hsr.rep.take _
    obtain ⟨w',hst,hset,hsame,hfr⟩:=setPart (P:=P) hr p1 (l':=l') (els2:=(LI.els l2).take n) (lo:=lo) (m:=n) (by rw [hels,hsub1]) (by simp;omega) hsz' (by omega) (by omega) hys (fun c hc=>by rw [← hll];exact LLaws.size l2 c (List.mem_of_mem_take hc))
    have hrun:=copy_run (w:=w) (o:=o) (a:=a) hT ho ht hei hvx hv2 hn (w':=w') (cells:=(news.take (n * LI.sz l)).toArray) (by rw [hsz];simp only [Builtin.firstCells];exact hload) (by simpa using hst)
    exact .value hq hrun (Post.setArr p1 hset .int (by simp [idsX,idsS,cellsOf,idsC]) hsame hfr)
  ·exact hq.elim
theorem op_clear [LLaws L](hT:TabOK P T)(hTL:TLaws L T){t e:TypeId}{x:Operand}(ho:o.op=.call { callee:=.builtin .clear,args:=#[x],argTypes:=#[t] })(hE:RepE U g env a)(hr:RepH U g B h w)(he:sliceElem T t=some e)
  (hq:(clearOp T h e (opd env x)).holds oD Q):Good P U g B h w fresh a o Q:=by
 have ht:=sliceElem_eq hT he
 unfold clearOp at hq
 split at hq
 ·rename_i c hc
  have hcr:=cOf_rep (opd_rep hE x) hc
  split at hq
  ·rename_i b e' l lo hi hp
   split at hq
   ·rename_i z hz
    cases hcond:(Nat.beq e e' && zOk T e && Nat.beq (LI.sz z) (LI.sz l)) with
    | false=>rw [hcond] at hq;exact hq.elim
    | true =>
     rw [hcond,cond_true] at hq
     simp only [Bool.and_eq_true] at hcond
     have hee:e=e':=Nat.eq_of_beq_eq_true hcond.1.1
     subst hee
     have hzl:LI.sz z=LI.sz l:=Nat.eq_of_beq_eq_true hcond.2
     split at hq
     ·rename_i l' hlay
      obtain ⟨hels,hsz'⟩:=layL_els hlay
      obtain ⟨p1,p2,p3,⟨av,capv,pv⟩,p5⟩:=partOf_rep hr hp hcr
      obtain ⟨info,zv,hi',hzz,hzs,hby,hpos,hsize⟩:=zOk_info hT hcond.1.2
      obtain ⟨i,zl,cs,hti,hzi,helz,hszz,hall⟩:=hTL.rep e (hi - lo) z hz
      have run:∀ {w':World} {ad:Option Addr} {n cap:Nat},a.eval x=.slice ad n cap→(match ad,n with | none,_=>pure () | some _,0=>pure () | some b,n+1=>storeCells b (Builtin.zeroCells zv.cells (n+1)).toList:Sem Unit).run P w=.ok () w'→(execOp a.eval o).run P w=.ok (.value (.tuple #[])) w':=by
       intro w' ad n cap hv hst
       simp only [execOp,ho,resolve,invoke,builtin,Builtin.clear_]
       cases ad with
       | none =>
        simp only at hst;have:w'=w:=by simpa using hst.symm
        subst this;simp [run_underlying ht,hv]
       | some ad =>
        cases n with
        | zero =>
         simp only at hst;have:w'=w:=by simpa using hst.symm
         subst this;simp [run_underlying ht,hv]
        | succ n=>simp only at hst;simp [run_underlying ht,hv,zeroValue,typeInfo,hi',hzz,hst]
      by_cases hn0:hi - lo=0
      ·rw [hn0] at hels helz
       have hel:LI.els l'=LI.els l:=by rw [hels,helz];simp
       obtain ⟨xs,hro,hx,hbk⟩:=hr.ent b _ p1
       have hset:=hr.setArr p1 (l':=l') (w':=w) (by rw [hel]) (fun _ _ _=>rfl) (Nat.le_refl _) (by rw [hel,hsz'];exact hro) (by rw [hel];exact hx)
       have hrun:=run (w':=w) pv (by rw [hn0];cases av<;>simp)
       exact .value hq hrun (Post.setArr p1 hset trivial (by simp [idsX,idsS,cellsOf,idsC]) (.refl w) (fun _ _ _=>rfl))
      ·obtain ⟨capw,hvx⟩:=p5 (by omega)
       obtain ⟨info',_,k1,_,_,k4,_,k6⟩:=tab_info hT hti
       rw [hi'] at k1;cases k1
       have hsi:info.size=LI.sz l:=by rw [← hzl,hszz,k4]
       have hzlist:zl=zv.cells.toList:=by
        rw [k6,hzz] at hzi;simpa using hzi.symm
       have hzc:(Builtin.zeroCells zv.cells (hi - lo)).toList=(List.replicate (hi - lo) zv.cells.toList).flatten:=by
        rw [← made_flat zv.cells (hi - lo) (by omega)]
        congr 1
       have hcsl:cs.length=LI.sz l:=by
        have:=LLaws.size z cs (by rw [helz];exact List.mem_replicate.2 ⟨hn0,rfl⟩)
        rw [this,hzl]
       have hys:RepIs g.G (LI.els z).flatten (Builtin.zeroCells zv.cells (hi - lo)).toList:=by
        rw [helz,hzc,← hzlist]
        refine All2.replicate_flatten ?_ _
        clear hzlist hzi k6 helz hcsl
        induction hall with
        | nil=>exact .nil
        | cons h1 _ ih=>exact .cons (h1 _) ih
       obtain ⟨w',hst,hset,hsame,hfr⟩:=setPart (P:=P) hr p1 (l':=l') (els2:=LI.els z) (lo:=lo) (m:=hi - lo) hels (by rw [helz];simp) hsz' (by omega) (by omega) hys (fun c hc=>by rw [← hzl];exact LLaws.size z c hc)
       obtain ⟨n,hn⟩:∃ n,hi - lo=n+1:=⟨hi - lo - 1,by omega⟩
       have hrun:=run (w':=w') (ad:=some ⟨g.blk b,lo * LI.sz l,none⟩) (n:=n+1) (cap:=capw) (by rw [hvx,hn]) (by rw [hn] at hst;exact hst)
       exact .value hq hrun (Post.setArr p1 hset trivial (by simp [idsX,idsS,cellsOf,idsC]) hsame hfr)
     ·exact hq.elim
   ·exact hq.elim
  ·exact hq.elim
 ·exact hq.elim
theorem op_copy [LLaws L](hT:TabOK P T){t e:TypeId}{x y:Operand}(ho:o.op=.call { callee:=.builtin .copy,args:=#[x,y],argTypes:=#[t,t] })(hE:RepE U g env a)(hr:RepH U g B h w)(he:sliceElem T t=some e)
  (hq:(copyOp T h e (opd env x) (opd env y)).holds oD Q):Good P U g B h w fresh a o Q:=by
 have ht:=sliceElem_eq hT he
 unfold copyOp at hq
 split at hq
 ·rename_i b l2 hcd hsrc
  have hdx:=cOf_rep (opd_rep hE x) hcd
  simp only [RepC] at hdx
  split at hq
  ·rename_i e' l hb
   cases hcond:(Nat.beq (sizeT T e) (LI.sz l) && Nat.beq (sizeT T e) (LI.sz l2) && hasT T e && Nat.ble 1 (sizeT T e)) with
   | false=>rw [hcond] at hq;exact hq.elim
   | true =>
    rw [hcond,cond_true] at hq
    simp only [Bool.and_eq_true] at hcond
    have hs1:=Nat.eq_of_beq_eq_true hcond.1.1.1
    have hs2:=Nat.eq_of_beq_eq_true hcond.1.1.2
    have hpos:=Nat.le_of_ble_eq_true hcond.2
    dsimp only at hq
    split at hq
    ·rename_i l' happ
     obtain ⟨hels,hz1,hz2⟩:=LLaws.app _ _ l' happ
     obtain ⟨hsub1,hsz1⟩:=LLaws.sub l2 0 (Nat.min (LI.len l2) (LI.len l))
     obtain ⟨hsub2,hsz2⟩:=LLaws.sub l (Nat.min (LI.len l2) (LI.len l)) (LI.len l)
     rw [LLaws.len,LLaws.len] at *
     generalize hn:Nat.min (LI.els l2).length (LI.els l).length=n at *
     have hn1:n≤(LI.els l2).length:=hn ▸ Nat.min_le_left _ _
     have hn2:n≤(LI.els l).length:=hn ▸ Nat.min_le_right _ _
     rw [List.drop_zero] at hsub1
     rw [List.take_length] at hsub2
     rw [hsub1,hsub2] at hels
     have hzl:LI.sz l'=LI.sz l:=by rw [hz2,hsz2]
     have hll:LI.sz l2=LI.sz l:=by rw [← hs1,hs2]
     obtain ⟨news,hsr⟩:=srcOf_src hr (opd_rep hE y) hsrc (by omega)
     obtain ⟨a2,cap2,hv2,hc2,hcell⟩:=hsr.form
     obtain ⟨xs,hro,hx,hbk⟩:=hr.ent b _ hb
     have hlen':(LI.els l').length=(LI.els l).length:=by rw [hels];simp;omega
     -- the new values
     have hrep:RepIs g.G (LI.els l').flatten (news.take (n * LI.sz l)++xs.drop (n * LI.sz l)):=by
      rw [hels,List.flatten_append,flatten_take n fun c hc=>LLaws.size l2 c hc,flatten_drop n fun c hc=>LLaws.size l c hc,hll]
      exact (hsr.rep.take _).append (hx.drop _)
     obtain ⟨ei,hei⟩:∃ ei,T e=some ei:=by
      have:=hcond.1.2;unfold hasT at this;split at this
      ·exact ⟨_,by assumption⟩
      ·cases this
     have hsz:ei.size=LI.sz l:=by rw [← hs1];simp [sizeT,hei]
     have run:∀ {w':World} {cells:Array Value},(Builtin.firstCells ei.size n (a.eval y)).run P w=.ok cells w→(∀ base dl dc,a.eval x=.slice base dl dc→(match base with | some ad=>storeCells ad cells.toList | none=>pure ():Sem Unit).run P w=.ok () w')→(execOp a.eval o).run P w=.ok (.value (.int .i64 n)) w':=by
      intro w' cells h1 h2
      have hdv:∃ base dc,a.eval x=.slice base (LI.els l).length dc:=by
       rw [hdx]
       rcases own_cells hro hx with ⟨hv,hee⟩ | ⟨k,cap,hv,_⟩
       ·exact ⟨none,0,by rw [hv,hee];rfl⟩
       ·exact ⟨_,_,hv⟩
      obtain ⟨base,dc,hdv⟩:=hdv
      have h2':=h2 base _ dc hdv
      have hmin:Nat.min (LI.els l2).length (LI.els l).length=n:=hn
      simp only [execOp,ho,resolve,invoke,builtin,Builtin.copy_]
      simp only [hv2,Builtin.lenOf] at h1 ⊢
      cases base with
      | none =>
       simp only at h2'
       have:w'=w:=by simpa using h2'.symm
       subst this
       simp [run_underlying ht,hmin,run_size hT hei,h1,goInt,hdv,hv2]
      | some ad =>
       simp only at h2'
       simp [run_underlying ht,hmin,run_size hT hei,h1,h2',goInt,hdv,hv2]
     by_cases hn0:n=0
     ·subst hn0
      have hrun:=run (w':=w) (cells:=#[]) (by
       rw [hv2];cases a2<;>simp [Builtin.firstCells,loadCells,loadCellsFrom]) (by
       intro base dl dc _;cases base<;>simp [storeCells])
      simp only [Nat.zero_mul,List.take_zero,List.nil_append,List.drop_zero] at hrep
      have hset:=hr.setArr hb (l':=l') (w':=w) hlen' (fun _ _ _=>rfl) (Nat.le_refl _) (by rw [hlen',hzl];exact hro) hrep
      exact .value hq hrun (Post.setArr hb hset .int (by simp [idsX,idsS,cellsOf,idsC]) (.refl w) (fun _ _ _=>rfl))
     ·obtain ⟨ad,had,hcells⟩:=hcell (by omega)
      subst had
      rcases own_cells hro hx with ⟨_,hee⟩ | ⟨k,cap,hv,hcap,hBk,hks,_,hxl⟩
      ·rw [hee] at hn2;simp at hn2;omega
      ·have hk:k=g.blk b:=hbk k (by rw [hv];rfl)
       subst hk
       obtain ⟨hl1,hrow⟩:=hro
       rcases hrow with ⟨hv0,_⟩ | ⟨k',cap',cur,hv',_,hcur,hnc,hml,hcs,htk⟩
       ·rw [hv] at hv0;cases hv0
       ·rw [hv] at hv';cases hv'
        have hmul1:n * LI.sz l≤(LI.els l).length * LI.sz l:=Nat.mul_le_mul_right _ hn2
        have hmul2:n * LI.sz l≤(LI.els l2).length * LI.sz l:=Nat.mul_le_mul_right _ hn1
        have hnl:news.length=(LI.els l2).length * LI.sz l:=by rw [hsr.len,hll]
        have hcurl:xs.length≤cur.size:=by have:=congrArg List.length htk;simp at this;omega
        have htl:(news.take (n * LI.sz l)).length=n * LI.sz l:=by simp;omega
        have hload:=run_loadCells_list (P:=P) w ad (news.take (n * LI.sz l)) (fun j v hj=>hcells j v (by
         rw [List.getElem?_take] at hj;split at hj
         ·exact hj
         ·cases hj))
        rw [htl] at hload
        have hone:∀ v∈news.take (n * LI.sz l),v.oneCell'=true:=fun v hv=>hsr.rep.one v (List.mem_of_mem_take hv)
        have hst:=run_storeCells_at (P:=P) (g.blk b) 0 e' (news.take (n * LI.sz l)) 0 cur w hcur (by rw [htl];omega) hone
        simp only [Nat.add_zero,Nat.zero_add,List.take_zero,List.nil_append,htl] at hst
        have hrun:=run (w':=w.setRow (g.blk b) (news.take (n * LI.sz l)++cur.toList.drop (n * LI.sz l)).toArray) (cells:=(news.take (n * LI.sz l)).toArray) (by
         rw [hv2,hsz];simp only [Builtin.firstCells];exact hload) (by
         intro base dl dc hbd
         rw [hdx,hv] at hbd;cases hbd
         simpa using hst)
        have hOb:Owns g b (.arr e' l:En L):=by show (g.v b).ownBlock≠none;rw [hv];simp [Value.ownBlock]
        have hrow':(w.setRow (g.blk b) (news.take (n * LI.sz l)++cur.toList.drop (n * LI.sz l)).toArray).ownsRow B e' (LI.sz l') (g.v b) (LI.els l').length (news.take (n * LI.sz l)++xs.drop (n * LI.sz l)):=by
         refine ⟨by rw [hlen',hzl];simp;omega,.inr ⟨g.blk b,cap,_,by rw [hv,hlen'],hBk,setRow_heap w _ _ _ _ _ hcur,by rw [hlen'];exact hcap,hml,by rw [hzl];simp;omega,?_⟩⟩
         rw [hlen',hzl,← htk]
         have:=take_splice cur.toList (news.take (n * LI.sz l)) ((LI.els l).length * LI.sz l) 0 (by omega) (by simp;omega)
         simp only [List.take_zero,List.nil_append,Nat.zero_add,htl] at this
         exact this
        have hset:=hr.setArr hb (l':=l') (w':=w.setRow (g.blk b) _) hlen' (fun q _ hne=>setRow_other w _ q _ (hne hOb)) (by simp) hrow' hrep
        exact .value hq hrun (Post.setArr hb hset .int (by simp [idsX,idsS,cellsOf,idsC]) ⟨rfl,rfl,rfl,by simp⟩ (fun q _ hne=>setRow_other w _ q _ (hne hOb)))
    ·exact hq.elim
  ·split at hq
   ·rename_i b0 e' l lo hi hp
    exact op_copyPart hT ho hE hr he hcd hp hsrc hq
   ·exact hq.elim
 ·exact hq.elim
end
end Go.Ev
/- Operations: slices of slices and of strings, slice literals. -/
namespace Go.Ev
variable {L:Type} [LI L]
section
variable {P:Program} {T:Tab} {oD:OrcD L} {U:Nat→Prop} {g:Gh} {B:Nat} {h:Hp L} {w:World} {fresh:Nat} {env:List (Nat×X L)} {a:Act} {o:Oper} {Q:X L×Hp L→Prop}
theorem Post.addView [LLaws L](hr:RepH U g B h w)(hf:¬ U fresh){b0 kb:Nat}{en:En L}(s:Option Addr×Nat×Nat)(hno:∀ (g:Gh) b,¬ Owns g b en)(hen:∀ g w B b,RepEn (L:=L) g w B b en)(hids:idsEn en=[b0])(hU0:U b0)(hal:Alias (g.withRow fresh kb s) fresh en) :
  Post U g B h fresh w (.s (.c (.ar fresh))) [(fresh,en)] (.slice s.1 s.2.1 s.2.2) w (g.withRow fresh kb s):=by
 have hle:=Gh.withRow_le (g:=g) (k:=kb) (s:=s) hf
 have old:∀ {c e},look ((fresh,en)::h) c=some e→Owns (g.withRow fresh kb s) c e→look h c=some e∧Owns g c e:=by
  intro c e hc hO
  rw [look_cons] at hc
  split at hc
  ·cases hc;exact (hno _ _ hO).elim
  ·exact ⟨hc,(Owns.congr hle (hr.ids c e hc).1).1 hO⟩
 refine ⟨hle,by simp [RepX,RepS,RepC,Gh.v,Gh.withRow],by simp [idsX,idsS,cellsOf,idsC],⟨hr.fz,?_,?_,?_,?_,?_,?_,hr.base⟩,fun _ _ _ hz=>.inl hz,?_,.refl w,fun _ _ _=>rfl,?_⟩
 ·intro c e hc
  rw [List.singleton_append,look_cons] at hc
  split at hc
  ·cases hc;exact hen _ _ _ _
  ·exact (hr.ent c e hc).mono hle (hr.ids c e hc).1 (hr.ids c e hc).2
 ·intro c e hc
  rw [List.singleton_append,look_cons] at hc
  split at hc
  ·rename_i hcf;subst hcf;cases hc;exact ⟨.inr rfl,by rw [hids];simp;exact .inl hU0⟩
  ·exact ⟨.inl (hr.ids c e hc).1,fun d hd=>.inl ((hr.ids c e hc).2 d hd)⟩
 ·intro c c' e e' h1 h2 o1 o2 hne
  obtain ⟨a1,b1⟩:=old h1 o1
  obtain ⟨a2,b2⟩:=old h2 o2
  rw [hle.blk c (hr.ids _ _ a1).1,hle.blk c' (hr.ids _ _ a2).1]
  exact hr.dis c c' e e' a1 a2 b1 b2 hne
 ·intro c e h1 o1
  obtain ⟨a1,b1⟩:=old h1 o1
  rw [hle.blk c (hr.ids _ _ a1).1];exact hr.own c e a1 b1
 ·intro c e h1 o1 p v hG
  obtain ⟨a1,b1⟩:=old h1 o1
  rw [hle.blk c (hr.ids _ _ a1).1] at hG
  exact hr.free c e a1 b1 p v hG
 ·intro c e hc
  rw [List.singleton_append,look_cons] at hc
  split at hc
  ·rename_i hcf;subst hcf;cases hc;exact hal
  ·exact (hr.pre c e hc).mono hle (hr.ids c e hc).1 (hr.ids c e hc).2
 ·intro c e h1 o1
  rw [List.singleton_append] at h1
  obtain ⟨a1,b1⟩:=old h1 o1
  exact .inl ⟨c,e,a1,b1,(hle.blk c (hr.ids _ _ a1).1).symm⟩
 ·intro c e hc
  rw [look_cons] at hc
  split at hc
  ·rename_i hcf;exact .inl hcf.symm
  ·simp [look] at hc
theorem arr_len (hr:RepH U g B h w){b0:Nat}{e:TypeId}{l0:L}(hb:look h b0=some (.arr e l0)):(g.sv b0).2.1=(LI.els l0).length:=by
 obtain ⟨xs,ho,_⟩:=hr.ent _ _ hb
 rcases ho.2 with ⟨hv,hn⟩ | ⟨_,_,_,hv,_⟩
 ·simp only [Gh.v,Value.slice.injEq] at hv;omega
 ·simp only [Gh.v,Value.slice.injEq] at hv;omega
theorem Post.addPre [LLaws L](hr:RepH U g B h w)(hf:¬ U fresh){b0 k:Nat}{e:TypeId}{l0:L}(hb:look h b0=some (.arr e l0))(hk:k≤(LI.els l0).length) :
  Post U g B h fresh w (.s (.c (.ar fresh))) [(fresh,.pre b0 k)] (.slice (g.sv b0).1 k (g.sv b0).2.2) w (g.withRow fresh (g.blk b0) ((g.sv b0).1,k,(g.sv b0).2.2)):=by
 have hU0:=(hr.ids b0 _ hb).1
 have hne:b0≠fresh:=fun he=>hf (he ▸ hU0)
 refine Post.addView hr hf ((g.sv b0).1,k,(g.sv b0).2.2) (fun _ _ h=>h) (fun _ _ _ _=>trivial) rfl hU0 ?_
 have:=arr_len hr hb
 simp only [Alias,Gh.withRow,if_neg hne,if_true]
 exact ⟨by omega,trivial,trivial⟩
theorem Post.addWin [LLaws L](hr:RepH U g B h w)(hf:¬ U fresh){b0 lo hi:Nat}{e:TypeId}{l0:L}(hb:look h b0=some (.arr e l0))(h1:lo≤hi)(h2:hi≤(LI.els l0).length) :
  Post U g B h fresh w (.s (.c (.ar fresh))) [(fresh,.win b0 (LI.sz l0) lo hi)] (.slice (if (g.sv b0).2.2=lo then (g.sv b0).1 else (g.sv b0).1.map (·.add (lo * LI.sz l0))) (hi - lo) ((g.sv b0).2.2 - lo)) w
   (g.withRow fresh 0 (if (g.sv b0).2.2=lo then (g.sv b0).1 else (g.sv b0).1.map (·.add (lo * LI.sz l0)),hi - lo,(g.sv b0).2.2 - lo)):=by
 have hU0:=(hr.ids b0 _ hb).1
 have hne:b0≠fresh:=fun he=>hf (he ▸ hU0)
 refine Post.addView hr hf (if (g.sv b0).2.2=lo then (g.sv b0).1 else (g.sv b0).1.map (·.add (lo * LI.sz l0)),hi - lo,(g.sv b0).2.2 - lo) (fun _ _ h=>h) (fun _ _ _ _=>trivial) rfl hU0 ?_
 have:=arr_len hr hb
 simp only [Alias,Gh.withRow,if_neg hne,if_true]
 exact ⟨h1,by omega,trivial⟩
theorem Post.frozen [LLaws L](hr:RepH U g B h w){u:Hp L}(hf:Frz h u){x:I L}{v:Value}(hx:∀ G',FzLe g.G G'→RepH U { g with G:=G' } B (u++h) w→RepI G' x v):∃ g',Post U g B h fresh w (.s (.c (.im x))) u v w g':=by
 obtain ⟨G',h1,h2,h3⟩:=hr.freezeL u hf
 exact ⟨{ g with G:=G' },Post.of_freeze (g':={ g with G:=G' }) hf rfl rfl h1 h3 h2 (hx G' h1 h2) (by simp [idsX,idsS,cellsOf,idsC]) (.refl w) (fun _ _=>rfl)⟩
theorem bound_run {k:IntKind}{n:Int}{y:Nat}{code:BoundsCode}(h0:0≤n)(h1:n≤(y:Int))(w:World):(Instr.sliceBound (.int k n) y code).run P w=.ok n.toNat w:=by
 simp [Instr.sliceBound,asIntOf,h0,h1]
theorem bounds_run {lo hi:Option Value}{s:Bool}{len cap l m:Nat}(hl:(lo=none∧l=0)∨∃ k n,lo=some (.int k n)∧0≤n∧n.toNat=l)(hh:(hi=none∧m=len)∨∃ k n,hi=some (.int k n)∧0≤n∧n.toNat=m)(h1:l≤m)(h2:m≤cap)(w:World) :
  (Instr.sliceBounds s len cap lo hi none).run P w=.ok (l,m,cap) w:=by
 unfold Instr.sliceBounds
 rcases hh with ⟨rfl,rfl⟩ | ⟨k,n,rfl,h0,hn⟩
 ·rcases hl with ⟨rfl,rfl⟩ | ⟨k',n',rfl,h0',hn'⟩
  ·simp
  ·simp [bound_run h0' (show n'≤((m:Nat):Int) by omega),hn']
 ·rcases hl with ⟨rfl,rfl⟩ | ⟨k',n',rfl,h0',hn'⟩
  ·simp [bound_run h0 (show n≤((cap:Nat):Int) by omega),hn]
  ·simp [bound_run h0 (show n≤((cap:Nat):Int) by omega),hn,bound_run h0' (show n'≤((m:Nat):Int) by omega),hn']
def Bd (x:Option Operand)(ρ:Operand→Value)(n:IntV)(dflt:Int):Prop:=(x=none∧n.n=dflt)∨∃ p k,x=some p∧ρ p=.int k n.n
theorem bd_of (hE:RepE U g env a){x:Option Operand}{n d:IntV}(hn:(match x.map (opd env) with | some l=>natOf l | none=>some d)=some n):Bd x a.eval n d.n:=by
 cases x with
 | none=>simp at hn;subst hn;exact .inl ⟨rfl,rfl⟩
 | some p=>exact .inr ⟨p,_,rfl,natOf_rep (opd_rep hE p) hn⟩
theorem Bd.run {x:Option Operand}{n:IntV}{d:Nat}(h:Bd x a.eval n (d:Int))(h0:0≤n.n):(x.map a.eval=none∧n.n.toNat=d)∨∃ k m,x.map a.eval=some (.int k m)∧0≤m∧m.toNat=n.n.toNat:=by
 rcases h with ⟨rfl,h⟩ | ⟨p,k,rfl,h⟩
 ·exact .inl ⟨rfl,by omega⟩
 ·exact .inr ⟨k,n.n,by simp [h],h0,rfl⟩
theorem chop_flatten {α:Type}{s:Nat}:∀ (n:Nat) {l:List α},l.length=n * s→(chop s n l).flatten=l∧(chop s n l).length=n
 | 0,l,h=>by
  have:l=[]:=List.eq_nil_of_length_eq_zero (by simpa using h)
  subst this;exact ⟨rfl,rfl⟩
 | n+1,l,h=>by
  have hs:(n+1) * s=s+n * s:=by rw [Nat.succ_mul];omega
  obtain ⟨h1,h2⟩:=chop_flatten (s:=s) n (l:=l.drop s) (by rw [List.length_drop,h,hs];omega)
  simp only [chop,List.flatten_cons,List.length_cons,h1,h2,List.take_append_drop,and_self]
theorem chop_get {α:Type}{s:Nat}:∀ (n:Nat) {l:List α} {i j:Nat} {ds:List α} {y:α},(chop s n l)[i]?=some ds→ds[j]?=some y→l[i * s+j]?=some y
 | 0,_,_,_,_,_,h,_=>by simp [chop] at h
 | n+1,l,0,j,ds,y,h,hj=>by
  simp only [chop,List.getElem?_cons_zero,Option.some.injEq] at h
  subst h
  rw [Nat.zero_mul,Nat.zero_add]
  rw [List.getElem?_take] at hj
  split at hj
  ·exact hj
  ·cases hj
 | n+1,l,i+1,j,ds,y,h,hj=>by
  simp only [chop,List.getElem?_cons_succ] at h
  have:=chop_get n h hj
  rw [List.getElem?_drop] at this
  rw [Nat.succ_mul,Nat.add_right_comm,Nat.add_comm _ s]
  exact this
theorem all2_get_r {α β:Type}{R:α→β→Prop}{as:List α}{bs:List β}(h:All2 R as bs):∀ {i:Nat} {b:β},bs[i]?=some b→∃ a,as[i]?=some a∧R a b:=by
 induction h with
 | nil=>intro i b hb;simp at hb
 | cons h1 _ ih =>
  intro i b hb
  cases i with
  | zero=>simp at hb;subst hb;exact ⟨_,rfl,h1⟩
  | succ i=>simpa using ih (by simpa using hb)
theorem arr_fz [LLaws L]{G:Fz}{k off n s:Nat}{e:TypeId}{xs:List (I L)}{l:L}(hl:LI.mkL e (chop s n ((xs.drop off).take (n * s)))=some l)(hz:LI.sz l=s)(hlen:off+n * s≤xs.length)
  (hc:∀ (j:Nat) x,xs[j]?=some x→∃ u,G k j=some u∧RepI G x u):RepI G (.fz l) (.slice (some ⟨k,off,none⟩) n n):=by
 have hLe:=LLaws.mkL e _ l hl
 obtain ⟨_,c2⟩:=chop_flatten n (l:=(xs.drop off).take (n * s)) (s:=s) (by rw [List.length_take,List.length_drop];omega)
 have hget:∀ (i j:Nat) cs x,(LI.els l)[i]?=some cs→cs[j]?=some x→∃ u,G k (off+i * s+j)=some u∧RepI G x u:=by
  intro i j cs x hi hj
  obtain ⟨ds,hd,h1⟩:=all2_get_r hLe hi
  obtain ⟨y,hy,h2⟩:=all2_get_r h1 hj
  have h3:=chop_get n hd hy
  rw [List.getElem?_take] at h3
  split at h3
  ·rw [List.getElem?_drop] at h3
   obtain ⟨u,hu,hR⟩:=hc _ _ h3
   exact ⟨u,by rw [Nat.add_assoc];exact hu,h2 _ _ hR⟩
  ·cases h3
 refine .fz (k:=k) (o:=off) (vals:=fun i j=>(G k (off+i * s+j)).getD .nilFunc) (by rw [← hLe.length,c2]) (Nat.le_refl _) (fun _=>rfl) ?_ ?_
 ·intro i j cs x hi hj
  obtain ⟨u,hu,_⟩:=hget i j cs x hi hj
  rw [hz,hu];rfl
 ·intro i j cs x hi hj
  obtain ⟨u,hu,hR⟩:=hget i j cs x hi hj
  simpa [hu] using hR
theorem op_arrSlice [LLaws L](hT:TabOK P T){t:TypeId}{x:Operand}(ho:o.op=.slice t x none none none)(hE:RepE U g env a)(hr:RepH U g B h w)(hq:(arrSliceOp T h t (opd env x)).holds oD Q):Good P U g B h w fresh a o Q:=by
 unfold arrSliceOp at hq
 split at hq
 ·rename_i ai b off hai hcx
  have hcr:=cOf_rep (opd_rep hE x) hcx
  simp only [RepC] at hcr
  split at hq
  ·rename_i n e hty
   obtain ⟨_,d,_,hd,hdt,_⟩:=tab_info hT hai
   have hun:P.underlying t=some (.array n e):=by
    rw [hty] at hdt
    cases d<;>simp [descTy] at hdt
    obtain ⟨rfl,rfl⟩:=hdt
    exact hd
   have done:∀ {xs:List (I L)} {K:L→Res L},(arrDone T xs n e off K).holds oD Q→∃ l,off+n * sizeT T e≤xs.length∧LI.mkL e (chop (sizeT T e) n ((xs.drop off).take (n * sizeT T e)))=some l∧LI.sz l=sizeT T e∧(K l).holds oD Q ∧
     (execOp a.eval o).run P w=.ok (.value (.slice (some ⟨g.blk b,off,none⟩) n n)) w:=by
    intro xs K hk
    unfold arrDone at hk
    cases hcd:(Nat.ble (off+n * sizeT T e) xs.length && (hasT T e && (Nat.ble 1 n && Nat.ble 1 (sizeT T e)))) with
    | false=>rw [hcd] at hk;exact hk.elim
    | true =>
     rw [hcd,cond_true] at hk
     simp only [Bool.and_eq_true] at hcd
     obtain ⟨h1,h2,h3,h4⟩:=hcd
     have h3':=Nat.le_of_ble_eq_true h3
     split at hk
     ·rename_i l hl
      cases hz:Nat.beq (LI.sz l) (sizeT T e) with
      | false=>rw [hz] at hk;exact hk.elim
      | true =>
       rw [hz,cond_true] at hk
       refine ⟨l,Nat.le_of_ble_eq_true h1,hl,Nat.eq_of_beq_eq_true hz,hk,?_⟩
       obtain ⟨ei,hei⟩:∃ ei,T e=some ei:=by
        unfold hasT at h2;split at h2
        ·exact ⟨_,by assumption⟩
        ·cases h2
       have hb:(Instr.sliceBounds false n n none none none).run P w=.ok (0,n,n) w:=by simp [Instr.sliceBounds]
       have hn0:n≠0:=by omega
       simp [execOp,ho,Instr.sliceAt,run_underlying hun,hcr,Instr.sureAddr,hb,run_size hT hei,hn0,Addr.add]
     ·exact hk.elim
   split at hq
   ·rename_i cs ty hb
    split at hq
    ·rename_i xs u hxs
     obtain ⟨l,hlen,hl,hz,hq,hrun⟩:=done hq
     obtain ⟨vs,hv,hR,_⟩:=hr.ent b _ hb
     have hfz:=toIs_frz hxs
     obtain ⟨G1,k1,k2,k3⟩:=hr.freezeL u hfz
     have hx:All2 (RepI G1) xs vs:=toIs_rep (g:={ g with G:=G1 }) hfz k2 hxs (fun _ h=>h) (RepCs.mono (U:=fun _=>True) (g:=g) (g':={ g with G:=G1 }) ⟨fun _ _=>rfl,fun _ _=>rfl,k1⟩ (fun _ _=>trivial) hR)
     have hb1:look (u++h) b=some (.var cs ty):=by
      rw [look_append]
      cases hu:look u b with
      | none=>exact hb
      | some y =>
       obtain ⟨_,_,_,h5⟩:=hfz _ (look_mem hu)
       rw [hb] at h5;cases h5
     obtain ⟨G2,m1,m2,m3,m4⟩:=k2.freezeVar (cs:=cs) (t:=ty) (xs:=xs) (vs:=vs) hb1 hv hx
     have hle:FzLe g.G G2:=fun k o z hz=>m1 k o z (k1 k o z hz)
     refine .value (g':={ g with G:=G2 }) hq hrun ⟨⟨fun _ _=>rfl,fun _ _=>rfl,hle⟩,?_,by simp [idsX,idsS,cellsOf,idsC],m2.weaken fun _=>.inl,?_,?_,.refl w,fun _ _ _=>rfl,?_⟩
     ·refine arr_fz hl hz hlen fun j x hj=>?_
      obtain ⟨v,h1,h2⟩:=hx.get hj
      exact ⟨v,m4 j v h1,h2.mono m1⟩
     ·intro k p z hz'
      rcases m3 k p z hz' with h1 | h1
      ·rcases k3 k p z h1 with h2 | h2
       ·exact .inl h2
       ·exact .inr (.inl h2)
      ·exact .inr (.inl ⟨b,_,hb,trivial,h1.symm⟩)
     ·intro c en hc hO
      rw [List.cons_append,look_cons] at hc
      split at hc
      ·cases hc;exact hO.elim
      ·refine .inl ?_
       have hv:({ blk:=g.blk,sv:=g.sv,G:=G2 }:Gh).v c=g.v c:=rfl
       rcases hfz.at_ hc with h1 | ⟨t',l',h1,rfl⟩
       ·refine ⟨c,en,h1,?_,rfl⟩
        cases en<;>first | exact hO | (simp only [Owns,hv] at hO ⊢;exact hO)
       ·exact ⟨c,_,h1,by simpa [Owns,hv] using hO,rfl⟩
     ·intro c en hc
      rw [look_cons] at hc
      split at hc
      ·rename_i hbc;subst hbc;exact .inr ⟨_,hb⟩
      ·obtain ⟨_,_,_,h2⟩:=hfz _ (look_mem hc)
       exact .inr ⟨_,h2⟩
    ·exact hq.elim
   ·rename_i xs hb
    obtain ⟨l,hlen,hl,hz,hq,hrun⟩:=done hq
    exact .pure hq hrun hr (arr_fz hl hz hlen fun j x hj=>hr.ent b _ hb j x hj) (by simp [idsX,idsS,cellsOf,idsC])
   ·exact hq.elim
  ·exact hq.elim
 ·exact hq.elim
theorem op_slice [LLaws L](hT:TabOK P T){t:TypeId}{x:Operand}{lo hi:Option Operand}(ho:o.op=.slice t x lo hi none)(hE:RepE U g env a)(hr:RepH U g B h w)(hf:¬ U fresh)(hq:(evOp T h fresh (opd env) (.slice t x lo hi none)).holds oD Q):Good P U g B h w fresh a o Q:=by
 simp only [evOp] at hq
 cases hia:isArrP T t with
 | true =>
  rw [hia,cond_true] at hq
  split at hq
  ·exact op_arrSlice hT ho hE hr hq
  ·exact hq.elim
 | false =>
 rw [hia,cond_false] at hq
 simp only [sliceOp] at hq
 split at hq
 ·rename_i c n hc hn
  have hcr:=cOf_rep (opd_rep hE x) hc
  have hlo:=bd_of hE hn
  split at hq
  ·-- a string
   rename_i s
   have hv:a.eval x=.string s:=str_rep hcr
   split at hq
   ·rename_i m hm
    have hhi:=bd_of hE hm
    cases hst:isStrT T t with
    | false=>rw [hst] at hq;exact hq.elim
    | true =>
     rw [hst,cond_true] at hq
     obtain ⟨h0,hq⟩:=test_holds hq
     obtain ⟨h1,hq⟩:=test_holds hq
     obtain ⟨h2,hq⟩:=test_holds hq
     have h0':=of_decide_eq_true h0
     have h1':=of_decide_eq_true h1
     have h2':=of_decide_eq_true h2
     have hu:P.underlying t=some .string:=by
      unfold isStrT at hst
      split at hst
      ·rename_i i hi'
       obtain ⟨_,d,_,m2,m3,_⟩:=tab_info hT hi'
       split at hst
       ·rename_i hty
        rw [m3] at hty
        cases d<;>simp [descTy] at hty
        exact m2
       ·cases hst
      ·cases hst
     have hb:=bounds_run (P:=P) (s:=false) (len:=s.size) (cap:=s.size) (l:=n.n.toNat) (m:=m.n.toNat) (Bd.run (d:=0) hlo h0') (Bd.run hhi (by omega)) (by omega) (by omega) w
     refine .pureI (v:=.string (s.extract n.n.toNat m.n.toNat)) hq ?_ hr .str
     simp [execOp,ho,Instr.sliceAt,Instr.slice,run_underlying hu,hv,hb]
   ·exact hq.elim
  ·split at hq
   ·rename_i l u hl
    cases hel:elOk T t l with
    | false=>rw [hel] at hq;exact hq.elim
    | true =>
     rw [hel,cond_true] at hq
     obtain ⟨e,he,hsz,hhas⟩:∃ e,sliceElem T t=some e∧sizeT T e=LI.sz l∧hasT T e=true:=by
      unfold elOk at hel
      split at hel
      ·rename_i e he;rw [Bool.and_eq_true] at hel;exact ⟨e,he,Nat.eq_of_beq_eq_true hel.1,hel.2⟩
      ·cases hel
     have hu:=sliceElem_eq hT he
     obtain ⟨ei,hei⟩:∃ ei,T e=some ei:=by
      unfold hasT at hhas;split at hhas
      ·exact ⟨_,by assumption⟩
      ·cases hhas
     have hszi:ei.size=LI.sz l:=by rw [← hsz];simp [sizeT,hei]
     split at hq
     ·rename_i m hm
      have hhi:=bd_of hE hm
      obtain ⟨h0,hqa⟩:=test_holds hq
      clear hq
      obtain ⟨h1,hqb⟩:=test_holds hqa
      clear hqa
      obtain ⟨h2,hq⟩:=test_holds hqb
      clear hqb
      have h0':=of_decide_eq_true h0
      have h1':=of_decide_eq_true h1
      have h2':=of_decide_eq_true h2
      rw [LLaws.len] at h2' hhi
      obtain ⟨ad,cap,hv,hcap⟩:=listOf_len hr hl hcr
      have hb:=bounds_run (P:=P) (s:=true) (len:=(LI.els l).length) (cap:=cap) (l:=n.n.toNat) (m:=m.n.toNat) (Bd.run (d:=0) hlo h0') (Bd.run hhi (by omega)) (by omega) (by omega) w
      have hrun:(execOp a.eval o).run P w=.ok (.value (.slice (if cap=n.n.toNat then ad else ad.map (·.add (n.n.toNat * LI.sz l))) (m.n.toNat - n.n.toNat) (cap - n.n.toNat))) w:=by
       simp [execOp,ho,Instr.sliceAt,Instr.slice,run_underlying hu,hv,hb,run_size hT hei,hszi]
      have frozen:Q (.s (.c (.im (.fz (LI.sub l n.n.toNat m.n.toNat)))),u)→Good P U g B h w fresh a o Q:=by
       intro hq
       obtain ⟨g',hp⟩:=Post.frozen (fresh:=fresh) hr (listOf_frz hl) (x:=.fz (LI.sub l n.n.toNat m.n.toNat)) (v:=.slice (if cap=n.n.toNat then ad else ad.map (·.add (n.n.toNat * LI.sz l))) (m.n.toNat - n.n.toNat) (cap - n.n.toNat)) (fun G' hle hR=>by
        have hI:=listOf_rep (g:={ g with G:=G' }) hl (listOf_frz hl) (fun _ h=>h) hR (RepC.mono (U:=fun _=>True) (g:=g) (g':={ g with G:=G' }) ⟨fun _ _=>rfl,fun _ _=>rfl,hle⟩ (fun _ _=>trivial) hcr)
        rw [hv] at hI
        exact RepI.sub hI (by omega) (by omega) (by omega))
       exact .value hq hrun hp
      unfold sliceDone at hq
      split at hq
      ·rename_i b0 hpre
       unfold isPre at hpre
       split at hpre
       ·rename_i b1
        split at hpre
        ·rename_i e' l0 hb0
         cases hkn:(n.known && decide (n.n=0)) with
         | false=>rw [hkn] at hpre;cases hpre
         | true =>
          rw [hkn] at hpre;cases hpre
          rw [Bool.and_eq_true] at hkn
          have hn0:n.n=0:=of_decide_eq_true hkn.2
          simp only [listOf,hb0,Option.some.injEq,Prod.mk.injEq] at hl
          obtain ⟨rfl,_⟩:=hl
          simp only [RepC] at hcr
          have hgv:g.v b0=.slice ad (LI.els l0).length cap:=by rw [← hcr];exact hv
          have e1:(g.sv b0).1=ad∧(g.sv b0).2.2=cap:=by
           simp only [Gh.v,Value.slice.injEq] at hgv;exact ⟨hgv.1,hgv.2.2⟩
          have hp:=Post.addPre (k:=m.n.toNat) hr hf hb0 (by omega)
          refine .value hq ?_ hp
          rw [hrun,hn0,e1.1,e1.2]
          have:(if cap=(0:Int).toNat then ad else ad.map (·.add ((0:Int).toNat * LI.sz l0)))=ad:=by
           split
           ·rfl
           ·cases ad<;>simp [Addr.add]
          rw [this];simp
        ·cases hpre
       ·cases hpre
      ·split at hq
       ·rename_i b0 hwin
        unfold isWin at hwin
        split at hwin
        ·rename_i b1
         split at hwin
         ·rename_i e' l0 hb0
          cases hwin
          simp only [listOf,hb0,Option.some.injEq,Prod.mk.injEq] at hl
          obtain ⟨rfl,_⟩:=hl
          simp only [RepC] at hcr
          have hgv:g.v b0=.slice ad (LI.els l0).length cap:=by rw [← hcr];exact hv
          have e1:(g.sv b0).1=ad∧(g.sv b0).2.2=cap:=by
           simp only [Gh.v,Value.slice.injEq] at hgv;exact ⟨hgv.1,hgv.2.2⟩
          have hp:=Post.addWin (lo:=n.n.toNat) (hi:=m.n.toNat) hr hf hb0 (by omega) (by omega)
          refine .value hq ?_ hp
          rw [hrun,e1.1,e1.2]
         ·cases hwin
        ·cases hwin
       ·exact frozen hq
     ·exact hq.elim
   ·cases hnil:isNil c with
    | false=>rw [hnil] at hq;exact hq.elim
    | true=>rw [hnil,cond_true] at hq;exact hq.elim
 ·exact hq.elim
theorem bounds3_run {lo hi mx:Option Value}{len cap l m c:Nat}{kx:IntKind}{nx:Int}(hl:(lo=none∧l=0)∨∃ k n,lo=some (.int k n)∧0≤n∧n.toNat=l)(hh:∃ k n,hi=some (.int k n)∧0≤n∧n.toNat=m)(hm:mx=some (.int kx nx))(hnx:0≤nx∧nx.toNat=c)(h1:l≤m)(h2:m≤c)(h3:c≤cap)(w:World) :
  (Instr.sliceBounds true len cap lo hi mx).run P w=.ok (l,m,c) w:=by
 unfold Instr.sliceBounds
 subst hm
 obtain ⟨k,n,rfl,h0,hn⟩:=hh
 obtain ⟨hx0,hxc⟩:=hnx
 rcases hl with ⟨rfl,rfl⟩ | ⟨k',n',rfl,h0',hn'⟩
 ·simp [bound_run hx0 (show nx≤((cap:Nat):Int) by omega),hxc,bound_run h0 (show n≤((c:Nat):Int) by omega),hn]
 ·simp [bound_run hx0 (show nx≤((cap:Nat):Int) by omega),hxc,bound_run h0 (show n≤((c:Nat):Int) by omega),hn,bound_run h0' (show n'≤((m:Nat):Int) by omega),hn']
theorem op_slice3 [LLaws L](hT:TabOK P T){t:TypeId}{x mx:Operand}{lo hi:Option Operand}(ho:o.op=.slice t x lo hi (some mx))(hE:RepE U g env a)(hr:RepH U g B h w)(hq:(evOp T h fresh (opd env) (.slice t x lo hi (some mx))).holds oD Q):Good P U g B h w fresh a o Q:=by
 simp only [evOp,slice3Op] at hq
 split at hq
 ·rename_i c n m k e hc hn hm hk he
  have hcr:=cOf_rep (opd_rep hE x) hc
  have hlo:=bd_of hE hn
  have hkv:=natOf_rep (opd_rep hE mx) hk
  have hu:=sliceElem_eq hT he
  have hhi:∃ p kk,hi=some p∧a.eval p=.int kk m.n:=by
   cases hi with
   | none=>simp at hm
   | some p=>exact ⟨p,m.k,rfl,natOf_rep (opd_rep hE p) hm⟩
  obtain ⟨p,kk,rfl,hpv⟩:=hhi
  cases hz:(n.known && decide (n.n=0) && hasT T e) with
  | false=>rw [hz] at hq;exact hq.elim
  | true =>
   rw [hz,cond_true] at hq
   rw [Bool.and_eq_true,Bool.and_eq_true] at hz
   have hn0:n.n=0:=of_decide_eq_true hz.1.2
   have hei:∃ ei,T e=some ei:=by
    have:=hz.2;unfold hasT at this;split at this
    ·exact ⟨_,by assumption⟩
    ·cases this
   -- what the operation does
   have hrun:∀ {ad:Option Addr} {len cap:Nat},a.eval x=.slice ad len cap→0≤m.n→m.n=k.n→k.n≤(cap:Int)→(∃ ei,T e=some ei)→(execOp a.eval o).run P w=.ok (.value (.slice ad m.n.toNat m.n.toNat)) w:=by
    intro ad len cap hv h0 hmk hkc ⟨ei,hei⟩
    have hb:=bounds3_run (P:=P) (len:=len) (cap:=cap) (l:=0) (m:=m.n.toNat) (c:=k.n.toNat) (lo:=lo.map a.eval) (hi:=some (a.eval p)) (mx:=some (a.eval mx)) (by have:=Bd.run (d:=0) hlo (by omega);rw [hn0] at this;simpa using this) ⟨kk,m.n,by rw [hpv],h0,rfl⟩ (by rw [hkv]) ⟨by omega,rfl⟩ (Nat.zero_le _) (by omega) (by omega) w
    have e1:k.n.toNat=m.n.toNat:=by omega
    rw [e1] at hb
    have e2:(if m.n.toNat=0 then ad else ad.map (·.add (0 * ei.size)))=ad:=by
     split
     ·rfl
     ·cases ad<;>simp [Addr.add]
    have:=run_size hT hei w
    simp [execOp,ho,Instr.sliceAt,Instr.slice,run_underlying hu,hv,hb,this]
    simpa using e2
   cases hnil:isNil c with
   | true =>
    rw [hnil,cond_true] at hq
    cases hzz:(m.known && (k.known && (decide (m.n=0) && decide (k.n=0)))) with
    | false=>rw [hzz] at hq;exact hq.elim
    | true =>
     rw [hzz,cond_true] at hq
     simp only [Bool.and_eq_true] at hzz
     have hm0:m.n=0:=of_decide_eq_true hzz.2.2.1
     have hk0:k.n=0:=of_decide_eq_true hzz.2.2.2
     rw [isNil_eq hnil] at hcr hq
     have hv:=hcr.nil_val
     have:=hrun hv (by omega) (by omega) (by omega) hei
     rw [hm0] at this
     exact .pure hq this hr (.val rfl) (by simp [idsX,idsS,cellsOf,idsC])
   | false =>
    rw [hnil,cond_false] at hq
    split at hq
    ·rename_i l u hl
     cases hel:elOk T t l with
     | false=>rw [hel] at hq;exact hq.elim
     | true =>
      rw [hel,cond_true] at hq
      obtain ⟨ad,cap,hv,hcap⟩:=listOf_len hr hl hcr
      cases hzz:(m.known && (k.known && (decide (m.n=0) && decide (k.n=0)))) with
      | true =>
       rw [hzz,cond_true] at hq
       simp only [Bool.and_eq_true] at hzz
       have hm0:m.n=0:=of_decide_eq_true hzz.2.2.1
       have hk0:k.n=0:=of_decide_eq_true hzz.2.2.2
       have:=hrun hv (by omega) (by omega) (by omega) hei
       rw [hm0] at this
       exact .pure hq this hr ⟨ad,rfl⟩ (by simp [idsX,idsS,cellsOf,idsC])
      | false =>
       rw [hzz,cond_false] at hq
       obtain ⟨h0,hq⟩:=test_holds hq
       obtain ⟨h1,hq⟩:=test_holds hq
       obtain ⟨h2,hq⟩:=test_holds hq
       have h0':=of_decide_eq_true h0
       have h1':=of_decide_eq_true h1
       have h2':=of_decide_eq_true h2
       rw [LLaws.len] at h2'
       have hrn:=hrun hv h0' h1' (by omega) hei
       have hfz:=listOf_frz hl
       obtain ⟨G',k1,k2,k3⟩:=hr.freezeL u hfz
       have hI:=listOf_rep (g:={ g with G:=G' }) hl hfz (fun _ h=>h) k2 (RepC.mono (U:=fun _=>True) (g:=g) (g':={ g with G:=G' }) ⟨fun _ _=>rfl,fun _ _=>rfl,k1⟩ (fun _ _=>trivial) hcr)
       rw [hv] at hI
       have hs:=RepI.sub (lo:=0) (hi:=m.n.toNat) (m:=m.n.toNat) hI (Nat.zero_le _) (by omega) (Nat.le_refl _)
       have e1:(if m.n.toNat=0 then ad else ad.map (·.add (0 * LI.sz l)))=ad:=by
        split
        ·rfl
        ·cases ad<;>simp [Addr.add]
       rw [e1] at hs
       simp only [Nat.sub_zero] at hs
       exact .value hq hrn (Post.of_freeze (g':={ g with G:=G' }) hfz rfl rfl k1 k3 k2 ⟨hs,ad,_,rfl⟩ (by simp [idsX,idsS,cellsOf,idsC]) (.refl w) (fun _ _=>rfl))
    ·exact hq.elim
 ·exact hq.elim
end
end Go.Ev
/- Operations: slice literals. -/
namespace Go.Ev
variable {L:Type} [LI L]
section
variable {P:Program} {T:Tab} {oD:OrcD L} {U:Nat→Prop} {g:Gh} {B:Nat} {h:Hp L} {w:World} {fresh:Nat} {env:List (Nat×X L)} {a:Act} {o:Oper} {Q:X L×Hp L→Prop}
theorem repl_eq {α:Type}(l:List α):∀ n,repl l n=(List.replicate n l).flatten
 | 0=>rfl
 | n+1=>by simp only [repl,repl_eq l n,List.replicate_succ,List.flatten_cons]
theorem All2.flatten {α β:Type}{R:α→β→Prop}{as:List (List α)}{bs:List (List β)}(h:All2 (All2 R) as bs):All2 R as.flatten bs.flatten:=by
 induction h with
 | nil=>exact .nil
 | cons h _ ih=>simp only [List.flatten_cons];exact h.append ih
theorem op_buildSlice [LLaws L](hT:TabOK P T)(hTL:TLaws L T){t:TypeId}{n:Nat}{parts:Array (Nat×Operand)}(ho:o.op=.buildSlice t n parts)(hE:RepE U g env a)(hr:RepH U g B h w)(hf:¬ U fresh)(hq:(evOp T h fresh (opd env) (.buildSlice t n parts)).holds oD Q):Good P U g B h w fresh a o Q:=by
 simp only [evOp] at hq
 split at hq
 ·rename_i e he
  have ht:=sliceElem_eq hT he
  unfold buildSliceOp at hq
  split at hq
  ·rename_i ei hei
   split at hq
   ·rename_i z hz
    split at hq
    ·rename_i cs hcs
     split at hq
     ·rename_i xs u hxs
      split at hq
      ·rename_i l hl
       cases hcd:(zOk T e && Nat.ble (n * ei.size) 16777216) with
       | false=>rw [hcd] at hl;cases hl
       | true =>
        rw [hcd,cond_true] at hl
        rw [Bool.and_eq_true] at hcd
        obtain ⟨info,zv,hi,hzz,hzs,hby,hpos,hsize⟩:=zOk_info hT hcd.1
        have hn24:=Nat.le_of_ble_eq_true hcd.2
        have hes:ei.size=info.size:=by rw [← hsize];simp [sizeT,hei]
        obtain ⟨zv',vs,hzr,hzc,hrz,hzi,hsol⟩:=zero_run (g:=g) hT hei hz
        have hzv:zv'=zv:=by
         have:=hzr w
         simp [zeroValue,typeInfo,Sem.run,program,hi,hzz] at this
         exact this.symm
        subst hzv
        have hvl:vs.length=info.size:=by rw [← hzs,hzc];simp
        -- the cells before the parts are laid
        have hrep0:All2 (RepC g) (repl z n) (madeCells zv'.cells (n * info.size)).toList:=by
         rw [← hzs,made_flat zv'.cells n (by omega),repl_eq,hzc]
         exact All2.replicate_flatten (by simpa using hrz) n
        have hpr:=parts_rep hE parts.toList
        obtain ⟨vs',hf1,hf2⟩:=fill_sound hcs hrep0 hpr
        have hfz:=toIs_frz hxs
        obtain ⟨G',hG1,hG2,hG3⟩:=hr.freezeL u hfz
        have hxr:All2 (RepI G') xs vs':=toIs_rep (g:={ g with G:=G' }) hfz hG2 hxs (fun _ h=>h) (RepCs.mono (U:=fun _=>True) (g:=g) (g':={ g with G:=G' }) ⟨fun _ _=>rfl,fun _ _=>rfl,hG1⟩ (fun _ _=>trivial) hf2)
        -- how many cells
        have hlenc:cs.length=n * info.size:=by
         have:∀ {sizes:Nat→Option (Nat×Nat)} {ps:List (Nat×X L)} {c0 c1:List (C L)},fillParts sizes c0 ps=some c1→c1.length=c0.length:=by
          intro sizes ps
          induction ps with
          | nil=>intro c0 c1 hh;simp [fillParts] at hh;rw [hh]
          | cons p r ih =>
           intro c0 c1 hh
           obtain ⟨i,x⟩:=p
           simp only [fillParts] at hh
           split at hh
           ·rename_i off m s _
            cases hc':(Nat.beq (cellsOf s).length m && Nat.ble (off+m) c0.length && (cellsOf s).all solid) with
            | false=>rw [hc'] at hh;cases hh
            | true =>
             rw [hc',cond_true] at hh
             simp only [Bool.and_eq_true] at hc'
             have e1:=Nat.eq_of_beq_eq_true hc'.1.1
             have e2:=Nat.le_of_ble_eq_true hc'.1.2
             rw [ih hh];simp [Ev.splice];omega
           ·cases hh
         rw [this hcs,hrep0.length];simp [madeCells]
        have hxl:xs.length=n * info.size:=by rw [hxr.length,← hf2.length,hlenc]
        rw [hes] at hl
        obtain ⟨c1,c2⟩:=chop_flatten n hxl
        have hLe:=LLaws.mkL e _ l hl
        have hels:(LI.els l).length=n:=by rw [← hLe.length,c2]
        have hszl:LI.sz l=info.size:=by rw [hTL.mkL e _ l ei hl hei,hes]
        have hrepl:RepIs G' (LI.els l).flatten vs':=by
         have:=hLe.flatten
         rw [c1] at this
         exact Le.rep this hxr
        have hv'l:vs'.length=n * info.size:=by rw [← hf2.length,hlenc]
        have hn1:n≤16777216:=Nat.le_trans (Nat.le_mul_of_pos_right n hpos) (by rw [← hes];exact hn24)
        let w':=w.alloc (.cells vs'.toArray e (0,0))
        have hrow:w'.ownsRow B e (LI.sz l) (.slice (some ⟨w.heap.size,0,none⟩) n n) (LI.els l).length vs':=by
         refine ⟨by rw [hels,hszl,hv'l],.inr ⟨w.heap.size,n,vs'.toArray,by rw [hels],hr.base,heap_alloc_new,by rw [hels];exact Nat.le_refl _,by unfold maxLen;omega,by rw [hszl];simpa using hv'l,?_⟩⟩
         rw [hels,hszl];simp [← hv'l]
        have hle1:GhLe (fun _=>True) g { g with G:=G' }:=⟨fun _ _=>rfl,fun _ _=>rfl,hG1⟩
        have hadd:=hG2.addRow (w':=w') hf hr.base (fun c en hc hO he'=>Nat.lt_irrefl _ (he' ▸ hG2.lt_size hc hO)) (fun p v hG=>Nat.lt_irrefl _ (cell_lt (hG2.fz _ _ _ hG))) (fun j hj _ _=>heap_alloc_old hj) (by show w.heap.size≤w'.heap.size;rw [size_alloc'];omega) (s:=(some ⟨w.heap.size,0,none⟩,n,n)) hrow hrepl (fun j hj=>by simpa [Value.ownBlock] using hj.symm)
        have hle2:=Gh.withRow_le (U:=U) (g:={ g with G:=G' }) (k:=w.heap.size) (s:=(some ⟨w.heap.size,0,none⟩,n,n)) hf
        refine .value hq (v:=.slice (some ⟨w.heap.size,0,none⟩) n n) (w':=w') ?_ ⟨(hle1.weaken fun _ _=>trivial).trans hle2,by simp [RepX,RepS,RepC,Gh.v,Gh.withRow],by simp [idsX,idsS,cellsOf,idsC],hadd,fun k p v hG=>(hG3 k p v hG).imp id .inl,?_,⟨rfl,rfl,rfl,by show w.heap.size≤w'.heap.size;rw [size_alloc'];omega⟩,fun k hk _=>heap_alloc_old hk,?_⟩
        ·have hnot:¬ (n * info.size > 2 ^ 24):=by rw [← hes];simpa using hn24
         have hpa:(parts.map fun (x:Nat×Operand)=>(x.1,a.eval x.2)).toList=parts.toList.map fun p=>(p.1,a.eval p.2):=by simp
         rw [hes] at hf1
         have hf1':Instr.fill (fun i=>some (i * info.size,info.size)) (madeCells zv'.cells (n * info.size)) (parts.toList.map fun p=>(p.1,a.eval p.2))=some vs'.toArray:=by
          have:(madeCells zv'.cells (n * info.size)).toList.toArray=madeCells zv'.cells (n * info.size):=by simp
          rw [← this];exact hf1
         simp only [execOp,ho,Instr.buildSlice,Sem.run_bind,run_underlying ht,Result.andThen_ok,run_size hT hei,hes]
         rw [if_neg hnot]
         by_cases h0:n * info.size=0
         ·rw [if_pos h0]
          have hm:((Array.range (n * info.size)).map ((#[]:Array Value)[· % (#[]:Array Value).size]!))=madeCells zv'.cells (n * info.size):=by simp [h0,madeCells]
          simp only [Sem.run_bind,Result.andThen_ok,Sem.run_pure,hm,hpa,hf1']
          simp [newRow,newObj,Sem.run,w']
         ·rw [if_neg h0]
          have hm:((Array.range (n * info.size)).map (zv'.cells[· % zv'.cells.size]!))=madeCells zv'.cells (n * info.size):=rfl
          simp only [Sem.run_bind,hzr,Result.andThen_ok,Sem.run_pure,hm,hpa,hf1']
          simp [newRow,newObj,Sem.run,w']
        ·intro b en hb hO
         rw [List.cons_append,look_cons] at hb
         split at hb
         ·rename_i hbf;subst hbf;right;simp [Gh.withRow]
         ·left
          have hU:=(hG2.ids b en hb).1
          have hO2:Owns ({ g with G:=G' }:Gh) b en:=(Owns.congr hle2 hU).1 hO
          rcases hfz.at_ hb with k1 | ⟨t',l',k1,rfl⟩
          ·exact ⟨b,en,k1,by cases en<;>exact hO2,by rw [hle2.blk b hU]⟩
          ·exact ⟨b,_,k1,hO2.2,by rw [hle2.blk b hU]⟩
        ·intro b en hb
         rw [look_cons] at hb
         split at hb
         ·rename_i hbf;exact .inl hbf.symm
         ·obtain ⟨_,_,_,k1⟩:=hfz _ (look_mem hb);exact .inr ⟨_,k1⟩
      ·exact hq.elim
     ·exact hq.elim
    ·exact hq.elim
   ·exact hq.elim
  ·exact hq.elim
 ·exact hq.elim
end
end Go.Ev
/- Every operation that enters no function. -/
namespace Go.Ev
variable {L:Type} [LI L]
section
variable {P:Program} {T:Tab} {oD:OrcD L} {U:Nat→Prop} {g:Gh} {B:Nat} {h:Hp L} {w:World} {fresh:Nat} {env:List (Nat×X L)} {a:Act} {o:Oper} {Q:X L×Hp L→Prop}
theorem map_one {α β:Type}{f:α→β}{l:List α}{y:β}(h:l.map f=[y]):∃ x,l=[x]∧f x=y:=by
 match l,h with
 | [x],h=>exact ⟨x,rfl,by simpa using h⟩
theorem map_two {α β:Type}{f:α→β}{l:List α}{y z:β}(h:l.map f=[y,z]):∃ x x',l=[x,x']∧f x=y∧f x'=z:=by
 match l,h with
 | [x,x'],h=>exact ⟨x,x',rfl,by simpa using h⟩
theorem arr_of_list {α:Type}{a:Array α}{l:List α}(h:a.toList=l):a=l.toArray:=by rw [← h]
theorem evOp_sound [LLaws L](hT:TabOK P T)(hTL:TLaws L T)(hE:RepE U g env a)(hr:RepH U g B h w)(hf:¬ U fresh)(hq:(evOp T h fresh (opd env) o.op).holds oD Q):Good P U g B h w fresh a o Q:=by
 cases hop:o.op with
 | move x=>rw [hop] at hq;exact op_move (.inl hop) hE hr hq
 | assign x=>rw [hop] at hq;exact op_move (.inr hop) hE hr hq
 | pick c x y=>rw [hop] at hq;exact op_pick hop hE hr hq
 | alloc t=>rw [hop] at hq;exact op_alloc hT hop hr hf hq
 | box t x=>rw [hop] at hq;exact op_box hop hE hr hf hq
 | build t ps=>rw [hop] at hq;exact op_build hT hop hE hr hq
 | buildSlice t n ps=>rw [hop] at hq;exact op_buildSlice hT hTL hop hE hr hf hq
 | load t x=>rw [hop] at hq;exact op_load hT hop hE hr hq
 | store t x y=>rw [hop] at hq;exact op_store hT hop hE hr hq
 | nilCheck x=>rw [hop] at hq;exact op_nilCheck hop hE hr hq
 | binOp op t x y t2=>rw [hop] at hq;exact op_binOp hT hop hE hr hq
 | unOp op t x=>rw [hop] at hq;exact op_unOp hop hE hr hq
 | convert s d x=>rw [hop] at hq;exact op_convert hT hop hE hr hq
 | makeFunc fn first caps =>
  rw [hop] at hq
  cases fn with
  | func f=>exact op_makeFunc hop hE hr hq
  | _=>exact hq.elim
 | makeSlice t x y=>rw [hop] at hq;exact op_makeSlice hT hTL hop hE hr hf hq
 | slice t x lo hi mx =>
  rw [hop] at hq
  cases mx with
  | none=>exact op_slice hT hop hE hr hf hq
  | some mx=>exact op_slice3 hT hop hE hr hq
 | fieldAddr t x f=>rw [hop] at hq;exact op_fieldAddr hT hop hE hr hq
 | field t x f=>rw [hop] at hq;exact op_field hT hop hE hr hq
 | indexAddr t x y=>rw [hop] at hq;exact op_indexAddr hT hop hE hr hq
 | index t x y=>rw [hop] at hq;exact op_index hT hop hE hr hq
 | extract x i=>rw [hop] at hq;exact op_extract hop hE hr hq
 | call c =>
  rw [hop] at hq
  obtain ⟨callee,args,argTypes⟩:=c
  cases callee with
  | value f=>exact hq.elim
  | invoke r m=>exact hq.elim
  | builtin b =>
   simp only [evOp] at hq
   split at hq
   ·rename_i x t hargs hts
    obtain ⟨p,hp,hpx⟩:=map_one hargs
    have e1:=arr_of_list hp
    have e2:=arr_of_list hts
    subst e1;subst e2
    split at hq
    ·rename_i c hc
     rw [← hpx] at hc
     exact op_len hT hop hE hr hc hq
    ·exact hq.elim
   ·rename_i s x t u hargs hts
    obtain ⟨p,p',hp,hp1,hp2⟩:=map_two hargs
    have e1:=arr_of_list hp
    have e2:=arr_of_list hts
    subst e1;subst e2
    cases htu:Nat.beq t u with
    | false=>rw [htu] at hq;exact hq.elim
    | true =>
     rw [htu,cond_true] at hq
     have:t=u:=Nat.eq_of_beq_eq_true htu
     subst this
     split at hq
     ·rename_i e he
      rw [← hp1,← hp2] at hq
      exact op_append hT hop hE hr hf he hq
     ·exact hq.elim
   ·rename_i x t hargs hts
    obtain ⟨p,hp,hpx⟩:=map_one hargs
    have e1:=arr_of_list hp
    have e2:=arr_of_list hts
    subst e1;subst e2
    split at hq
    ·rename_i e he
     rw [← hpx] at hq
     exact op_clear hT hTL hop hE hr he hq
    ·exact hq.elim
   ·rename_i s x t u hargs hts
    obtain ⟨p,p',hp,hp1,hp2⟩:=map_two hargs
    have e1:=arr_of_list hp
    have e2:=arr_of_list hts
    subst e1;subst e2
    cases htu:Nat.beq t u with
    | false=>rw [htu] at hq;exact hq.elim
    | true =>
     rw [htu,cond_true] at hq
     have:t=u:=Nat.eq_of_beq_eq_true htu
     subst this
     split at hq
     ·rename_i e he
      rw [← hp1,← hp2] at hq
      exact op_copy hT hop hE hr he hq
     ·exact hq.elim
   ·rename_i x xs hargs
    cases hal:args.toList with
    | nil=>rw [hal] at hargs;cases hargs
    | cons p ps =>
     rw [hal] at hargs
     simp only [List.map_cons,List.cons.injEq] at hargs
     have e1:=arr_of_list hal
     subst e1
     split at hq
     ·rename_i i hi
      split at hq
      ·rename_i r hr'
       rw [← hargs.1] at hi
       rw [← hargs.2] at hr'
       exact op_minmax hop (.inl ⟨rfl,rfl⟩) hE hr hi hr' hq
      ·exact hq.elim
     ·exact hq.elim
   ·rename_i x xs hargs
    cases hal:args.toList with
    | nil=>rw [hal] at hargs;cases hargs
    | cons p ps =>
     rw [hal] at hargs
     simp only [List.map_cons,List.cons.injEq] at hargs
     have e1:=arr_of_list hal
     subst e1
     split at hq
     ·rename_i i hi
      split at hq
      ·rename_i r hr'
       rw [← hargs.1] at hi
       rw [← hargs.2] at hr'
       exact op_minmax hop (.inr ⟨rfl,rfl⟩) hE hr hi hr' hq
      ·exact hq.elim
     ·exact hq.elim
   ·exact hq.elim
 | _=>rw [hop] at hq;exact hq.elim
end
end Go.Ev
/- A call of an oracle: its contract, and what it leaves. -/
namespace Go.Ev
open Go.RowKit
variable {L:Type} [LI L]
def g0 (G:Fz):Gh:=⟨fun _=>0,fun _=>(none,0,0),G⟩
def ResOK (k:OrcKind)(G':Fz)(w w':World)(rs:List (S L))(c:Value):Prop :=
 match k with
 | .keep=>RepX (g0 G') (packRes rs) c
 | .pure=>RepX (g0 G') (packRes rs) c
 | .fresh e=>∀ l:L,rs=[.c (.im (.fz l))]→∃ s:Option Addr×Nat×Nat,∃ xs,c=.slice s.1 s.2.1 s.2.2∧w'.ownsRow w.heap.size e (LI.sz l) c (LI.els l).length xs∧RepIs G' (LI.els l).flatten xs∧∀ k o v,c.ownBlock=some k→G' k o=some v→False
 | _=>False
def CellsAt (w:World)(v:Value)(m:Nat)(news:List Value):Prop :=
 ∃ a cap,v=.slice a m cap∧m≤cap∧(0 < m→∃ ad,a=some ad∧∀ (j:Nat) u,news[j]?=some u→w.cell? (ad.add j)=some u)
structure RowTo (w w':World) (s s':Value):Prop where
 same:Same w w'
 fr:∀ j,j < w.heap.size→s.ownBlock≠some j→w'.heap[j]?=w.heap[j]?
 blk:∀ j,s'.ownBlock=some j→s.ownBlock=some j∨w.heap.size≤j
def ElOK (P:Program)(e:TypeId)(z:Nat):Prop:=(P.info? e).map (·.size)=some z
def ClnOK (P:Program)(f:FuncId)(e:TypeId):Prop :=
 ∀ (z:Nat) (w:World) (v:Value) (m:Nat) (news:List Value) (B:Nat),ElOK P e z→CellsAt w v m news→news.length=m * z→(∀ u∈news,u.oneCell'=true)→m≤1073741824→B≤w.heap.size →
  Calls P f #[v] w fun en w'=>∃ s',en=.returned s'∧w'.ownsRow B e z s' m news∧RowTo w w' (.slice none 0 0) s'
def InsOK (P:Program)(f:FuncId)(e:TypeId):Prop :=
 ∀ (z:Nat) (w:World) (s v:Value) (i n m:Nat) (xs news:List Value) (B:Nat),ElOK P e z→w.ownsRow B e z s n xs→(∀ u∈xs,u.oneCell'=true)→CellsAt w v m news→news.length=m * z→(∀ u∈news,u.oneCell'=true) →
  (∀ j,s.ownBlock=some j→0 < m→v.ownBlock≠some j)→i≤n→n+m≤1073741824→B≤w.heap.size →
  Calls P f #[s,.int .i64 i,v] w fun en w'=>∃ s',en=.returned s'∧w'.ownsRow B e z s' (n+m) (xs.take (i * z)++news++xs.drop (i * z))∧RowTo w w' s s'
def DelOK (P:Program)(f:FuncId)(e:TypeId):Prop :=
 ∀ (z:Nat) (w:World) (s:Value) (i j n:Nat) (xs:List Value) (B:Nat),ElOK P e z→w.ownsRow B e z s n xs→(∀ u∈xs,u.oneCell'=true)→i≤j→j≤n→n≤1073741824→B≤w.heap.size →
  Calls P f #[s,.int .i64 i,.int .i64 j] w fun en w'=>∃ s',en=.returned s'∧w'.ownsRow B e z s' (i+(n - j)) (xs.take (i * z)++xs.drop (j * z))∧RowTo w w' s s'
def BltOK (P:Program)(f:FuncId):OrcKind→Prop
 | .cln e=>ClnOK P f e
 | .ins e=>InsOK P f e
 | .del e=>DelOK P f e
 | _=>True
def RdOK (P:Program)(oD:OrcD L)(f:FuncId)(off:Nat)(e:TypeId):Prop :=
 ∀ (l:L) ys rs,oD.c f (.c (.im (.fz l))::ys) rs→∀ (G:Fz) (w:World) (k:Nat) (cells:List Value) (t:TypeId) (sv:Value) (xs vs:List Value),w.heap[k]?=some (.cells cells.toArray t (0,0)) →
  cells[off]?=some sv→CellsAt w sv (LI.els l).length xs→xs.length=(LI.els l).length * LI.sz l→RepIs G (LI.els l).flatten xs→ElOK P e (LI.sz l)→All2 (RepS (g0 G)) ys vs →
  Calls P f (.pointer (some ⟨k,0,none⟩)::vs).toArray w fun en w'=>∃ c,en=.returned c∧RepX (g0 G) (packRes rs) c∧Below w.heap.size w w'
def DataOK (P:Program)(oD:OrcD L)(f:FuncId)(k:OrcKind):Prop :=
 ∀ args rs,oD.c f args rs→∀ (G:Fz) (w:World) (vs:List Value),(∀ k o v,G k o=some v→w.cell? ⟨k,o,none⟩=some v)→All2 (RepS (g0 G)) args vs →
  Calls P f vs.toArray w fun e w'=>∃ c G',e=.returned c∧FzLe G G'∧(∀ k o v,G' k o=some v→G k o=some v∨w.heap.size≤k)∧(∀ k o v,G' k o=some v→w'.cell? ⟨k,o,none⟩=some v)∧Below w.heap.size w w'∧ResOK k G' w w' rs c
def OrcOK (P:Program)(oD:OrcD L)(f:FuncId)(k:OrcKind):Prop :=
 match k with
 | .rd off e=>RdOK P oD f off e
 | _=>DataOK P oD f k
theorem OrcOK.data {P:Program}{oD:OrcD L}{f:FuncId}{k:OrcKind}(h:OrcOK P oD f k)(hk:∀ off e,k≠.rd off e):DataOK P oD f k:=by
 cases k<;>first | exact h | exact absurd rfl (hk _ _)
theorem OrcOK.of {P:Program}{oD:OrcD L}{f:FuncId}{k:OrcKind}(h:DataOK P oD f k)(hk:∀ off e,k≠.rd off e):OrcOK P oD f k:=by
 cases k<;>first | exact h | exact absurd rfl (hk _ _)
theorem purS_frz {h:Hp L}{s s':S L}{u:Hp L}(hp:purS h s=some (s',u)):Frz h u:=by
 unfold purS at hp
 split at hp
 ·split at hp
  ·rename_i ht;cases hp;exact toI_frz ht
  ·cases hp
 ·split at hp
  ·rename_i ht;cases hp;exact toIs_frz ht
  ·cases hp
theorem purAll_frz {h:Hp L}:∀ {xs:List (X L)} {ss:List (S L)} {u:Hp L},purAll h xs=some (ss,u)→Frz h u
 | [],ss,u,hp=>by simp [purAll] at hp;obtain ⟨_,rfl⟩:=hp;exact .nil h
 | .s x::r,ss,u,hp=>by
  simp only [purAll] at hp
  split at hp
  ·rename_i h1 h2;cases hp;exact (purS_frz h1).append (purAll_frz h2)
  ·cases hp
 | .tup _::r,ss,u,hp=>by simp [purAll] at hp
theorem rep_g0 {G:Fz}{x:I L}{v:Value}(h:RepI G x v):RepC (g0 G) (.im x) v:=h
theorem purS_rep [LLaws L]{U:Nat→Prop}{g:Gh}{B:Nat}{h u u':Hp L}{w:World}{s s':S L}{v:Value}(hp:purS h s=some (s',u))(hf:Frz h u')(hsub:∀ p∈u,p∈u')(hr:RepH U g B (u'++h) w)(hs:RepS g s v):RepS (g0 g.G) s' v:=by
 unfold purS at hp
 split at hp
 ·split at hp
  ·rename_i ht;cases hp
   exact rep_g0 (toI_rep (g:=g) ht hf hsub hr hs)
  ·cases hp
 ·split at hp
  ·rename_i ht;cases hp
   obtain ⟨vs,rfl,hc⟩:=hs
   exact ⟨vs,rfl,rep_ims (g:=g0 g.G) (toIs_rep hf hr ht hsub hc)⟩
  ·cases hp
theorem purAll_rep [LLaws L]{U:Nat→Prop}{g:Gh}{B:Nat}{h u':Hp L}{w:World}(hf:Frz h u')(hr:RepH U g B (u'++h) w) :
  ∀ {xs:List (X L)} {ss:List (S L)} {u:Hp L} {vs:List Value},purAll h xs=some (ss,u)→(∀ p∈u,p∈u')→All2 (RepX g) xs vs→All2 (RepS (g0 g.G)) ss vs
 | [],ss,u,vs,hp,_,hx=>by simp [purAll] at hp;obtain ⟨rfl,_⟩:=hp;cases hx;exact .nil
 | .s x::r,ss,u,vs,hp,hsub,hx=>by
  simp only [purAll] at hp
  split at hp
  ·rename_i h1 h2;cases hp
   cases hx with
   | cons a b=>exact .cons (purS_rep h1 hf (fun p hp=>hsub p (by simp [hp])) hr a) (purAll_rep hf hr h2 (fun p hp=>hsub p (by simp [hp])) b)
  ·cases hp
 | .tup _::r,ss,u,vs,hp,_,_=>by simp [purAll] at hp
end Go.Ev
/- Operations as steps of a region: simple ones and oracles. -/
namespace Go.Ev
open Go.RowKit
variable {L:Type} [LI L]
section
variable {P:Program} {T:Tab} {oD:OrcD L} {U:Nat→Prop} {g:Gh} {B:Nat} {h:Hp L} {w:World} {fresh:Nat} {env:List (Nat×X L)} {a:Act} {o:Oper} {Q:X L×Hp L→Prop}
def OpWp (P:Program)(U:Nat→Prop)(g:Gh)(B:Nat)(h:Hp L)(w:World)(fresh:Nat)(a:Act)(o:Oper)(Q:X L×Hp L→Prop):Prop :=
 ∀ Qe,o.wp P a w (fun a' w'=>∃ x u v g',Q (x,u)∧a'=a.put o.dst v∧Post U g B h fresh w x u v w' g') Qe
theorem Good.wp (hg:Good P U g B h w fresh a o Q):OpWp P U g B h w fresh a o Q:=by
 obtain ⟨x,u,hq,n,v,w',g',hrun,hn,hp⟩:=hg
 intro Qe
 unfold Oper.wp
 rw [hrun]
 rcases hn with rfl | ⟨rfl,rfl⟩
 ·exact ⟨x,u,v,g',hq,rfl,hp⟩
 ·exact ⟨x,u,undef,g',hq,rfl,hp⟩
def Enters (P:Program)(f:FuncId):Prop:=∀ args w,(callFunc f args).run P w=.ok (.enter f args) w
theorem callee_run (hE:RepE U g env a){f:FuncId}{xs:List (X L)}(hc:callee env o.op=some (f,xs))(hen:Enters P f):∃ vs:List Value,All2 (RepX g) xs vs∧(execOp a.eval o).run P w=.ok (.enter f vs.toArray) w∧∀ x∈xs,∀ b∈idsX x,U b:=by
 unfold callee at hc
 split at hc
 ·rename_i fo args ats hop
  split at hc
  ·rename_i f' first caps hcl
   cases hc
   have hcr:=cOf_rep (opd_rep hE fo) hcl
   have hci:=opd_ids hE fo
   rw [cOf_ids hcl] at hci
   simp only [RepC] at hcr
   have ptrsR:∀ l:List (Nat×Nat),All2 (RepX (L:=L) g) (l.map ptrX) (l.map g.p):=by
    intro l
    induction l with
    | nil=>exact .nil
    | cons p r ih=>exact .cons rfl ih
   refine ⟨first.map g.p++args.toList.map a.eval++caps.map g.p,((ptrsR first).append (opds_rep hE args.toList)).append (ptrsR caps),?_,?_⟩
   ·have e:(first.map g.p).toArray++Array.map a.eval args++(caps.map g.p).toArray=(first.map g.p++args.toList.map a.eval++caps.map g.p).toArray:=by
     apply Array.ext';simp
    have e2:(execOp a.eval o).run P w=(callFunc f ((first.map g.p).toArray++Array.map a.eval args++(caps.map g.p).toArray)).run P w:=by
     simp [execOp,hop,resolve,hcr,Deferred.ofValue,invoke]
    rw [e2,e]
    exact hen _ w
   ·intro x hx b hb
    simp only [List.mem_append,List.mem_map] at hx
    rcases hx with (⟨p,hp,rfl⟩ | ⟨y,_,rfl⟩) | ⟨p,hp,rfl⟩
    ·simp [ptrX,idsX,idsS,cellsOf,idsC] at hb;subst hb
     exact hci _ (by simp only [idsC,List.mem_append,List.mem_map];exact .inl ⟨p,hp,rfl⟩)
    ·exact opd_ids hE y b hb
    ·simp [ptrX,idsX,idsS,cellsOf,idsC] at hb;subst hb
     exact hci _ (by simp only [idsC,List.mem_append,List.mem_map];exact .inr ⟨p,hp,rfl⟩)
  ·rename_i f' agg cs hcl
   cases hc
   have hcr:=cOf_rep (opd_rep hE fo) hcl
   simp only [RepC] at hcr
   obtain ⟨us,hus,hv⟩:=hcr
   have hpk:RepX g (packI agg cs) (packV agg us):=by
    unfold packI packV
    cases agg with
    | true=>exact ⟨us,rfl,rep_ims (g:=g) hus⟩
    | false =>
     cases hus with
     | nil=>trivial
     | cons h1 _=>exact h1
   refine ⟨packV agg us::args.toList.map a.eval,.cons hpk (opds_rep hE args.toList),?_,?_⟩
   ·have e:#[packV agg us]++Array.map a.eval args++#[]=(packV agg us::args.toList.map a.eval).toArray:=by
     apply Array.ext';simp
    have e2:(execOp a.eval o).run P w=(callFunc f (#[packV agg us]++Array.map a.eval args++#[])).run P w:=by
     simp [execOp,hop,resolve,hv,Deferred.ofValue,invoke]
    rw [e2,e]
    exact hen _ w
   ·intro x hx b hb
    rcases List.mem_cons.1 hx with rfl | hx
    ·unfold packI at hb
     cases agg with
     | true =>
      exfalso
      simp only [cond_true,idsX,idsS,cellsOf,List.mem_flatMap] at hb
      obtain ⟨c,hc,hb⟩:=hb
      simp only [ims,List.mem_map] at hc
      obtain ⟨i,_,rfl⟩:=hc
      simp [idsC] at hb
     | false =>
      exfalso
      cases cs<;>simp [idsX,idsS,cellsOf,idsC] at hb
    ·simp only [List.mem_map] at hx
     obtain ⟨y,_,rfl⟩:=hx
     exact opd_ids hE y b hb
  ·cases hc
 ·cases hc
end
end Go.Ev
/- A call of an oracle: what it leaves. -/
namespace Go.Ev
open Go.RowKit
variable {L:Type} [LI L]
section
variable {P:Program} {T:Tab} {oD:OrcD L} {U:Nat→Prop} {g:Gh} {B:Nat} {h u:Hp L} {w w':World} {fresh:Nat} {env:List (Nat×X L)} {a:Act} {o:Oper} {Q:X L×Hp L→Prop}
theorem Post.later {G1 G':Fz}{x:X L}{v:Value}(hf:Frz h u)(hle1:FzLe g.G G1)(hr1:RepH U { g with G:=G1 } B (u++h) w)
  (hnf1:∀ k o z,G1 k o=some z→g.G k o=some z∨∃ b e,look h b=some e∧Owns g b e∧g.blk b=k) (hb:Below w.heap.size w w') (hle:FzLe G1 G')
  (hnew:∀ k o v,G' k o=some v→G1 k o=some v∨w.heap.size≤k) (hs:∀ k o v,G' k o=some v→w'.cell? ⟨k,o,none⟩=some v)
  (hx:RepX { g with G:=G' } x v) (hi:∀ b∈idsX x,U b):Post U g B h fresh w x u v w' { g with G:=G' }∧RepH U { g with G:=G' } B (u++h) w':=by
 have hr2:RepH U { g with G:=G' } B (u++h) w':=RepH.later hr1 hb hle hnew hs
 refine ⟨⟨⟨fun _ _=>rfl,fun _ _=>rfl,fun _ _ _ hz=>hle _ _ _ (hle1 _ _ _ hz)⟩,hx,fun b hb=>.inl (hi b hb),hr2.weaken fun _=>.inl,?_,?_,⟨hb.os,hb.tape,hb.output,hb.size⟩,fun k hk _=>hb.block k hk,?_⟩,hr2⟩
 ·intro k o z hz
  rcases hnew k o z hz with h1 | h1
  ·exact (hnf1 k o z h1).imp id .inl
  ·exact .inr (.inr h1)
 ·intro b e hb' hO
  refine .inl ?_
  rcases hf.at_ hb' with h1 | ⟨t,l,h1,rfl⟩
  ·exact ⟨b,e,h1,by cases e<;>exact hO,rfl⟩
  ·exact ⟨b,_,h1,hO.2,rfl⟩
 ·intro b e hb'
  obtain ⟨t,l,_,h1⟩:=hf _ (look_mem hb')
  exact .inr ⟨_,h1⟩
theorem Post.addRow {g1:Gh}{e:TypeId}{l:L}{c:Value}{s:Option Addr×Nat×Nat}{xs:List Value}(hf:¬ U fresh)(hp:Post U g B h fresh w (.s (.c .top)) u undef w' g1)(hh:RepH U g1 B (u++h) w')
  (hlt:∀ b e,look (u++h) b=some e→Owns g1 b e→g1.blk b < w.heap.size) (hBw:B≤w.heap.size)
  (hc:c=.slice s.1 s.2.1 s.2.2) (hrow:w'.ownsRow w.heap.size e (LI.sz l) c (LI.els l).length xs) (hxs:RepIs g1.G (LI.els l).flatten xs) (hG:∀ k o v,c.ownBlock=some k→g1.G k o=some v→False) :
  ∃ g',Post U g B h fresh w (.s (.c (.ar fresh))) ((fresh,.arr e l)::u) c w' g':=by
 subst hc
 let k:Nat:=((Value.slice s.1 s.2.1 s.2.2).ownBlock).getD w'.heap.size
 have hk:w.heap.size≤k:=by
  show w.heap.size≤((Value.slice s.1 s.2.1 s.2.2).ownBlock).getD w'.heap.size
  cases ho:(Value.slice s.1 s.2.1 s.2.2).ownBlock with
  | none=>exact hp.ws.size
  | some j=>exact (hrow.lt j ho).1
 have hrow':w'.ownsRow B e (LI.sz l) (.slice s.1 s.2.1 s.2.2) (LI.els l).length xs:=by
  obtain ⟨h1,h2⟩:=hrow
  refine ⟨h1,h2.imp id ?_⟩
  rintro ⟨k,cap,cur,hv,hb,h3⟩
  exact ⟨k,cap,cur,hv,Nat.le_trans hBw hb,h3⟩
 have hh':=RepH.addRow (w':=w') hh hf (k:=k) (Nat.le_trans hBw hk) (fun c en hc hO=>by have:=hlt c en hc hO;omega)
  (fun o v hv=>by
   cases ho:(Value.slice s.1 s.2.1 s.2.2).ownBlock with
   | none =>
    have:k=w'.heap.size:=by show ((Value.slice s.1 s.2.1 s.2.2).ownBlock).getD w'.heap.size=_;rw [ho];rfl
    have h2:=cell_lt (hh.fz k o v hv)
    omega
   | some j =>
    have:k=j:=by show ((Value.slice s.1 s.2.1 s.2.2).ownBlock).getD w'.heap.size=_;rw [ho];rfl
    exact hG j o v ho (this ▸ hv))
  (fun _ _ _ _=>rfl) (Nat.le_refl _) hrow' hxs (fun j hj=>by show j=((Value.slice s.1 s.2.1 s.2.2).ownBlock).getD w'.heap.size;rw [hj];rfl)
 have hle:=Gh.withRow_le (g:=g1) (k:=k) (s:=s) hf
 refine ⟨g1.withRow fresh k s,hp.le.trans hle,by simp [RepX,RepS,RepC,Gh.v,Gh.withRow],by simp [idsX,idsS,cellsOf,idsC],hh',hp.nf,?_,hp.ws,hp.fr,?_⟩
 ·intro b en hb hO
  rw [List.cons_append,look_cons] at hb
  split at hb
  ·rename_i hbf;subst hbf
   have:(g1.withRow fresh k s).blk fresh=k:=by simp [Gh.withRow]
   rw [this];exact .inr hk
  ·have hU:=(hh.ids b en hb).1
   have:=hp.nb b en hb ((Owns.congr hle hU).1 hO)
   rw [hle.blk b hU];exact this
 ·intro b en hb
  rw [look_cons] at hb
  split at hb
  ·rename_i hbf;exact .inl hbf.symm
  ·exact hp.uu b en hb
def allIm (s:S L):Bool:=(cellsOf s).all fun | .im _=>true | _=>false
theorem RepS.ofG {G:Fz}{s:S L}{v:Value}(hg:g.G=G)(hs:allIm s=true)(h:RepS (g0 G) s v):RepS g s v:=by
 cases s with
 | c x =>
  cases x<;>first | (simp [allIm,cellsOf] at hs;done) | skip
  simp only [RepS,RepC] at h ⊢;rw [hg];exact h
 | agg cs =>
  obtain ⟨vs,hv,hc⟩:=h
  refine ⟨vs,hv,hc.mono fun x u hx hr=>?_⟩
  have:=List.all_eq_true.1 hs x hx
  cases x<;>first | (simp at this;done) | skip
  simp only [RepC] at hr ⊢;rw [hg];exact hr
omit [LI L] in
theorem allIm_ids {s:S L}(hs:allIm s=true):idsS s=[]:=by
 unfold idsS
 rw [List.flatMap_eq_nil_iff]
 intro x hx
 have:=List.all_eq_true.1 hs x hx
 cases x<;>first | rfl | (simp at this;done)
theorem RepX.packG {G:Fz}{rs:List (S L)}{v:Value}(hg:g.G=G)(hs:rs.all allIm=true)(h:RepX (g0 G) (packRes rs) v):RepX g (packRes rs) v∧idsX (packRes rs)=[]:=by
 unfold packRes at h ⊢
 split at h
 ·simp only [List.all_cons,List.all_nil,Bool.and_true] at hs
  exact ⟨RepS.ofG hg hs h,allIm_ids hs⟩
 ·obtain ⟨vs,hv,hc⟩:=h
  refine ⟨⟨vs,hv,hc.mono fun x u hx hr=>RepS.ofG hg (List.all_eq_true.1 hs x hx) hr⟩,?_⟩
  show List.flatMap idsS rs=[]
  rw [List.flatMap_eq_nil_iff]
  exact fun x hx=>allIm_ids (List.all_eq_true.1 hs x hx)
omit [LI L] in
theorem noList_im {s:S L}(hs:noList s=true):allIm s=true:=by
 unfold noList at hs;unfold allIm
 rw [List.all_eq_true] at hs ⊢
 intro x hx
 have:=hs x hx
 revert this
 cases x<;>simp
 
theorem RepS.noG {G G':Fz}{s:S L}{v:Value}(hs:noList s=true)(h:RepS (g0 G) s v):RepS (g0 G') s v:=by
 have key:∀ (x:I L) (u:Value),(∀ l,x≠.fz l)→RepI G x u→RepI G' x u:=by
  intro x u hx hr
  cases hr with
  | fz=>exact absurd rfl (hx _)
  | val h=>exact .val h
  | _=>constructor
 cases s with
 | c x =>
  cases x<;>first | (simp [noList,cellsOf] at hs;done) | skip
  exact key _ _ (fun l hl=>by subst hl;simp [noList,cellsOf] at hs) h
 | agg cs =>
  obtain ⟨vs,hv,hc⟩:=h
  refine ⟨vs,hv,hc.mono fun x u hx hr=>?_⟩
  have:=List.all_eq_true.1 hs x hx
  cases x<;>first | (simp at this;done) | skip
  exact key _ _ (fun l hl=>by subst hl;simp at this) hr
theorem RepX.packN {G G':Fz}{rs:List (S L)}{v:Value}(hs:rs.all noList=true)(h:RepX (g0 G) (packRes rs) v):RepX (g0 G') (packRes rs) v:=by
 unfold packRes at h ⊢
 split at h
 ·simp only [List.all_cons,List.all_nil,Bool.and_true] at hs
  exact RepS.noG hs h
 ·obtain ⟨vs,hv,hc⟩:=h
  exact ⟨vs,hv,hc.mono fun x u hx hr=>RepS.noG (List.all_eq_true.1 hs x hx) hr⟩
theorem cells_later (hr:RepH U g B h w)(hb:Below w.heap.size w w'):∀ k o v,g.G k o=some v→w'.cell? ⟨k,o,none⟩=some v:=by
 intro k o v hv
 have h1:=hr.fz k o v hv
 simpa [World.cell?,hb.block k (cell_lt h1)] using h1
theorem orcRes_sound [LLaws L](hE:RepE U g env a)(hr:RepH U g B h w)(hf:¬ U fresh){f:FuncId}{xs:List (X L)}{kd:OrcKind}(hc:callee env o.op=some (f,xs))(hen:Enters P f)(hO:DataOK P oD f kd)
  (hq:(orcRes kd f xs h fresh).holds oD Q):OpWp P U g B h w fresh a o Q:=by
 obtain ⟨vs,hvs,hrun,_⟩:=callee_run (w:=w) hE hc hen
 intro Qe
 unfold Oper.wp
 rw [hrun,Oper.upon_enter]
 unfold orcRes at hq
 split at hq
 ·rename_i ss u hp
  have hfz:=purAll_frz hp
  obtain ⟨G1,hle1,hr1,hnf1⟩:=hr.freezeL u hfz
  have hgl:GhLe (fun _=>True) g { g with G:=G1 }:=⟨fun _ _=>rfl,fun _ _=>rfl,hle1⟩
  have hargs:=purAll_rep (g:={ g with G:=G1 }) hfz hr1 hp (fun _ h=>h) (hvs.mono fun x v hx hr=>RepX.mono hgl (fun _ _=>trivial) hr)
  have go:∀ rs,oD.c f ss rs→(∀ c G' w',FzLe G1 G'→(∀ k o v,G' k o=some v→G1 k o=some v∨w.heap.size≤k)→(∀ k o v,G' k o=some v→w'.cell? ⟨k,o,none⟩=some v)→Below w.heap.size w w'→ResOK kd G' w w' rs c →
    ∃ x u g',Q (x,u)∧Post U g B h fresh w x u c w' g')→Calls P f vs.toArray w fun
     | .returned v,w''=>∃ x u v' g',Q (x,u)∧a.put o.dst v=a.put o.dst v'∧Post U g B h fresh w x u v' w'' g'
     | .panicked chain,w''=>Qe (.panic chain) a w''
     | .outgrown,_=>LetsOut Qe:=by
   intro rs hd hk
   refine Calls.mono (hO ss rs hd G1 w vs hr1.fz hargs) ?_
   rintro e w' ⟨c,G',rfl,h1,h2,h3,h4,h5⟩
   obtain ⟨x,u,g',h6,h7⟩:=hk c G' w' h1 h2 h3 h4 h5
   exact ⟨x,u,c,g',h6,rfl,h7⟩
  split at hq
  ·obtain ⟨rs,hd,hq⟩:=hq
   refine go rs hd ?_
   intro c G' w' h1 h2 h3 h4 h5
   have hq:Out.holds oD (cond (rs.all allIm) (.ret (packRes rs,u)) (.fail 130)) Q:=hq
   cases hall:rs.all allIm with
   | false=>rw [hall] at hq;exact hq.elim
   | true =>
    rw [hall] at hq
    have:=RepX.packG (g:={ g with G:=G' }) rfl hall h5
    exact ⟨_,_,_,hq,(Post.later hfz hle1 hr1 hnf1 h4 h1 h2 h3 this.1 (by rw [this.2];simp)).1⟩
  ·obtain ⟨rs,hd,hq⟩:=hq
   refine go rs hd ?_
   intro c G' w' h1 h2 h3 h4 h5
   have hq:Out.holds oD (cond (rs.all noList) (.ret (packRes rs,[])) (.fail 131)) Q:=hq
   cases hall:rs.all noList with
   | false=>rw [hall] at hq;exact hq.elim
   | true =>
    rw [hall] at hq
    have h6:RepX (g0 g.G) (packRes rs) c:=RepX.packN hall h5
    have:=RepX.packG (g:=g) rfl (List.all_eq_true.2 fun x hx=>noList_im (List.all_eq_true.1 hall x hx)) h6
    exact ⟨_,_,_,hq,(Post.later (G1:=g.G) (G':=g.G) (.nil h) (fun _ _ _ h=>h) hr (fun _ _ _ h=>.inl h) h4 (fun _ _ _ h=>h) (fun _ _ _ h=>.inl h) (cells_later hr h4) this.1 (by rw [this.2];simp)).1⟩
  ·rename_i e
   obtain ⟨rs,hd,hq⟩:=hq
   refine go rs hd ?_
   intro c G' w' h1 h2 h3 h4 h5
   simp only [] at hq
   split at hq
   ·rename_i l
    obtain ⟨s,xs,hc,hrow,hxs,hG⟩:=h5 l rfl
    cases hfl:LI.flat l with
    | true =>
     rw [hfl] at hq
     obtain ⟨hp,hh⟩:=Post.later (fresh:=fresh) (x:=.s (.c .top)) (v:=undef) (G1:=g.G) (G':=g.G) (.nil h) (fun _ _ _ h=>h) hr (fun _ _ _ h=>.inl h) h4 (fun _ _ _ h=>h) (fun _ _ _ h=>.inl h) (cells_later hr h4) trivial (by simp [idsX,idsS,cellsOf,idsC])
     obtain ⟨g',hg'⟩:=Post.addRow hf hp hh (fun b e hb hO=>hr.lt_size hb hO) hr.base hc hrow
      (hxs.mono fun x v hx hR=>by
       obtain ⟨cs,hcs,hxc⟩:=List.mem_flatten.1 hx
       exact LLaws.flat l hfl cs hcs x hxc _ _ _ hR)
      (fun k o v hk hv=>by
       have h6:=cell_lt (hr.fz k o v hv)
       have h7:=(hrow.lt k hk).1
       omega)
     exact ⟨_,_,g',hq,hg'⟩
    | false =>
     rw [hfl] at hq
     obtain ⟨hp,hh⟩:=Post.later (fresh:=fresh) (x:=.s (.c .top)) (v:=undef) hfz hle1 hr1 hnf1 h4 h1 h2 h3 trivial (by simp [idsX,idsS,cellsOf,idsC])
     obtain ⟨g',hg'⟩:=Post.addRow hf hp hh (fun b e hb hO=>hr1.lt_size (e:=e) hb (by cases e<;>exact hO)) hr.base hc hrow hxs hG
     exact ⟨_,_,g',hq,hg'⟩
   ·exact hq.elim
  ·exact hq.elim
 ·exact hq.elim
end
end Go.Ev
