/- What is told of a log: the program's and the document's are the same. -/
import Derived.Test.YtcjpeijiaojeiaaGreatDj
namespace Go.Proofs.YtcjpeijiaojeiaaGreat
open Go Go.Ev
set_option maxRecDepth 100000
theorem iter_end {X Y:Type}{stp:X→Option (X⊕Y)}{n:Nat}{x:X}{y:Y}(h:stp x=some (.inr y)):iterO stp (n+1) x=some y:=by simp only [iterO,h,ob_some,Go.Ev.two]
/-- is an operation of a collection that is read? -/
def rd (l:List Bool)(o:Op):Bool:=(l[o.coll.toNat]?).getD false
/-- what is told from a place on: at most n, and how far -/
def scan (W:Op→Bool):Nat→List Op→List Op×Nat
  | _,[]=>([],0)
  | 0,_::_=>([],0)
  | n+1,o::r=>bif W o then (o::(scan W n r).1,(scan W n r).2+1) else ((scan W (n+1) r).1,(scan W (n+1) r).2+1)
theorem scan_nil (W:Op→Bool)(n:Nat):scan W n []=([],0):=by cases n<;>rfl
theorem scan_zero (W:Op→Bool)(l:List Op):scan W 0 l=([],0):=by cases l<;>rfl
theorem scan_yes {W:Op→Bool}{o:Op}(h:W o=true)(n:Nat)(r:List Op):scan W (n+1) (o::r)=(o::(scan W n r).1,(scan W n r).2+1):=by rw [scan,h];rfl
theorem scan_no {W:Op→Bool}{o:Op}(h:W o=false)(n:Nat)(r:List Op):scan W (n+1) (o::r)=((scan W (n+1) r).1,(scan W (n+1) r).2+1):=by rw [scan,h];rfl
theorem scan_props (W:Op→Bool):∀ (l:List Op) (n:Nat),(scan W n l).1=(l.take (scan W n l).2).filter W∧(scan W n l).1.length≤n∧(scan W n l).2≤l.length∧(1≤n→l≠[]→1≤(scan W n l).2)
  | [],n=>by rw [scan_nil];simp
  | o::r,0=>by rw [scan_zero];simp
  | o::r,n+1=>by
    cases h:W o with
    | true =>
      rw [scan_yes h]
      obtain ⟨h1,h2,h3,_⟩:=scan_props W r n
      refine ⟨?_,by simp only [List.length_cons];omega,by simp only [List.length_cons];omega,fun _ _=>by dsimp only;omega⟩
      dsimp only
      rw [List.take_succ_cons,List.filter_cons_of_pos h,← h1]
    | false =>
      rw [scan_no h]
      obtain ⟨h1,h2,h3,_⟩:=scan_props W r (n+1)
      refine ⟨?_,h2,by simp only [List.length_cons];omega,fun _ _=>by dsimp only;omega⟩
      dsimp only
      rw [List.take_succ_cons,List.filter_cons_of_neg (by rw [h];simp),← h1]
/-- what is said of logs -/
def LgOk (d:Desk):Prop:=d.log.length≤2000∧∀ o∈d.log,0≤o.coll∧o.coll < 3∧o.dots.length≤100
theorem min2_eq (a b:Int):min2 a b=min a b:=by unfold min2;split<;>omega
theorem max2_eq (a b:Int):max2 a b=max a b:=by unfold max2;split<;>omega
theorem drop_cons {l:List Op}{i:Nat}{e:Op}(h:l[i]?=some e):l.drop i=e::l.drop (i+1):=by
  obtain ⟨h1,h2⟩:=List.getElem?_eq_some_iff.1 h
  rw [List.drop_eq_getElem_cons h1,h2]
/-- what is told, in one term -/
def told (d:Desk)(i:Int)(l:List Bool)(n:Int):List Op×Int :=
  if n < 1 then ([],min (max i 0) (d.log.length:Int))
  else if (d.log.length:Int)≤max i 0 then ([],(d.log.length:Int))
  else ((scan (rd l) n.toNat (d.log.drop (max i 0).toNat)).1,max i 0+((scan (rd l) n.toNat (d.log.drop (max i 0).toNat)).2:Int))
theorem prog_told (d:Desk)(i:Int)(l:List Bool)(n:Int)(h:LgOk d):dDelta d i l n=some (told d i l n):=by
  obtain ⟨hlen,hop⟩:=h
  unfold dDelta told
  by_cases hn:n < 1
  · rw [decide_eq_true hn,if_pos hn,min2_eq,max2_eq];rfl
  · rw [decide_eq_false hn,if_neg hn,cond_false,max2_eq]
    have key:∀ (k:Nat),(k:Int)=max i 0→k≤d.log.length→Ok (L24_5 l n [] 0 (k:Int) d) (Stp (fun a=>a.2.2=d∧a.1.length≤2000∧(a.1,(d.log.length:Int))=((scan (rd l) n.toNat (d.log.drop k)).1,(k:Int)+((scan (rd l) n.toNat (d.log.drop k)).2:Int))) (fun b=>(b.1,b.2.1)=((scan (rd l) n.toNat (d.log.drop k)).1,(k:Int)+((scan (rd l) n.toNat (d.log.drop k)).2:Int)))):=by
      intro k hk hkl
      generalize hT:((scan (rd l) n.toNat (d.log.drop k)).1,(k:Int)+((scan (rd l) n.toNat (d.log.drop k)).2:Int))=T
      refine Ok.iter (fun x:List Bool×Int×List Op×Int×Int×Desk=>x.1=l∧x.2.1=n∧x.2.2.2.2.2=d∧0≤x.2.2.2.2.1∧x.2.2.2.2.1≤(d.log.length:Int)∧(x.2.2.1.length:Int) < n∧(x.2.2.1.length:Int)≤x.2.2.2.2.1 ∧
        (x.2.2.1++(scan (rd l) (n.toNat - x.2.2.1.length) (d.log.drop x.2.2.2.2.1.toNat)).1,x.2.2.2.2.1+((scan (rd l) (n.toNat - x.2.2.1.length) (d.log.drop x.2.2.2.2.1.toNat)).2:Int))=T) (fun x=>d.log.length - x.2.2.2.2.1.toNat) ?_ _ _ ⟨rfl,rfl,rfl,by dsimp only;omega,by dsimp only;omega,by simp;omega,by simp,by rw [← hT];simp⟩ (by dsimp only;omega)
      rintro ⟨l',n',out,p,j,d'⟩ ⟨h1,h2,h3,h4,h5,h6,h7,h8⟩
      dsimp only at h1 h2 h3 h4 h5 h6 h7 h8
      subst h1;subst h2;subst h3
      unfold stp_L24_5 step_L24_5
      dsimp only
      refine Ok.dec (fun hj=>?_) (fun hj=>Ok.inr1 ?_)
      · have hw:w64 (j+1)=j+1:=w64_ok (by omega)
        have ht:(j+1).toNat=j.toNat+1:=by omega
        refine Ok.need h4 (Ok.ob (Ok.get (by omega)) fun e he=>?_)
        obtain ⟨c0,c3,cd⟩:=hop e he.1
        have hdr:=drop_cons he.2
        obtain ⟨m,hm⟩:∃ m,n'.toNat - out.length=m+1:=⟨n'.toNat - out.length - 1,by omega⟩
        rw [hdr,hm] at h8
        have skip:rd l' e=false→Ok (some (.inl (l',n',out,p,w64 (j+1),d'))) (Stp (fun x'=>(x'.1=l'∧x'.2.1=n'∧x'.2.2.2.2.2=d'∧0≤x'.2.2.2.2.1∧x'.2.2.2.2.1≤(d'.log.length:Int)∧(x'.2.2.1.length:Int) < n'∧(x'.2.2.1.length:Int)≤x'.2.2.2.2.1∧(x'.2.2.1++(scan (rd l') (n'.toNat - x'.2.2.1.length) (d'.log.drop x'.2.2.2.2.1.toNat)).1,x'.2.2.2.2.1+((scan (rd l') (n'.toNat - x'.2.2.1.length) (d'.log.drop x'.2.2.2.2.1.toNat)).2:Int))=T)∧d'.log.length - x'.2.2.2.2.1.toNat < d'.log.length - j.toNat) (Stp (fun a:List Op×Int×Desk=>a.2.2=d'∧a.1.length≤2000∧(a.1,(d'.log.length:Int))=T) (fun b:List Op×Int×Desk=>(b.1,b.2.1)=T))):=by
          intro hrd
          refine Ok.inl ?_
          dsimp only
          refine ⟨⟨rfl,rfl,rfl,by omega,by omega,h6,by omega,?_⟩,by omega⟩
          rw [scan_no hrd] at h8
          rw [hw,ht,hm,← h8]
          dsimp only
          refine Prod.ext rfl ?_
          dsimp only;omega
        rw [min2_eq]
        refine Ok.dec (fun hc=>skip ?_) (fun hc=>?_)
        · unfold rd
          rw [List.getElem?_eq_none (by omega)];rfl
        · refine Ok.need c0 ?_
          have hlt:e.coll.toNat < l'.length:=by omega
          rw [List.getElem?_eq_getElem hlt,ob_some]
          have hrd:rd l' e=l'[e.coll.toNat]:=by unfold rd;rw [List.getElem?_eq_getElem hlt];rfl
          rw [← hrd]
          cases hb:rd l' e with
          | false=>simp only [Bool.not_false,cond_true];exact skip hb
          | true =>
            simp only [Bool.not_true,cond_false]
            rw [scan_yes hb] at h8
            have hol:(out++[e]).length=out.length+1:=by rw [List.length_append,List.length_singleton]
            refine Ok.fit (by omega) (Ok.fit (by simp only [List.length_append,List.length_cons,List.length_nil,List.length_take,List.length_drop,List.length_set,List.nil_append]<;>omega) (Ok.beq (fun heq=>Ok.fit (by simp only [List.length_append,List.length_cons,List.length_nil,List.length_take,List.length_drop,List.length_set,List.nil_append]<;>omega) (Ok.inr2 ?_)) (fun hne=>Ok.inl ?_)))
            · have:m=0:=by rw [hol] at heq;omega
              subst this
              rw [scan_zero] at h8
              rw [hw,← h8]
              dsimp only
              refine Prod.ext rfl ?_
              dsimp only;omega
            · dsimp only
              rw [hol] at hne
              refine ⟨⟨rfl,rfl,rfl,by omega,by omega,by rw [hol];omega,by rw [hol];omega,?_⟩,by omega⟩
              have hm':n'.toNat - (out++[e]).length=m:=by rw [hol];omega
              rw [hw,ht,hm',← h8]
              dsimp only
              refine Prod.ext (by simp) ?_
              dsimp only;omega
      · have hd:d'.log.drop j.toNat=[]:=List.drop_eq_nil_of_le (by omega)
        rw [hd,scan_nil] at h8
        refine ⟨rfl,by dsimp only;omega,?_⟩
        rw [← h8]
        dsimp only
        refine Prod.ext (by simp) ?_
        dsimp only;omega
    by_cases hge:(d.log.length:Int)≤max i 0
    · rw [if_pos hge]
      have hstep:stp_L24_5 (l,n,[],0,max i 0,d)=some (.inr (.inl ([],0,d))):=by
        unfold stp_L24_5 step_L24_5
        dsimp only
        rw [decide_eq_false (by omega)];rfl
      have e:L24_5 l n [] 0 (max i 0) d=some (.inl ([],0,d)):=iter_end (n:=1099511627775) hstep
      rw [e,ob_some]
      rfl
    · rw [if_neg hge]
      obtain ⟨y,h1,h2⟩:=key (max i 0).toNat (by omega) (by omega)
      rw [show (((max i 0).toNat:Nat):Int)=max i 0 by omega] at h1 h2
      rw [h1,ob_some]
      cases y with
      | inl a =>
        obtain ⟨g1,g2,g3⟩:=h2
        dsimp only [two]
        rw [fits_ok (n:=a.1.length) (by omega),cond_true,g1,g3]
      | inr b =>
        have h2:(b.1,b.2.1)=_:=h2
        dsimp only [two]
        rw [h2]
theorem ref_told (d:Desk)(i:Int)(l:List Bool)(n:Int)(h:LgOk d):ref13Delta d i l n=some (told d i l n):=by
  obtain ⟨hlen,hop⟩:=h
  unfold ref13Delta told
  by_cases hn:n < 1
  · rw [decide_eq_true hn,if_pos hn,min2_eq,max2_eq];rfl
  · rw [decide_eq_false hn,if_neg hn,cond_false,max2_eq]
    by_cases hge:(d.log.length:Int)≤max i 0
    · rw [if_pos hge,decide_eq_true hge];rfl
    · rw [if_neg hge,decide_eq_false (show ¬ max i 0≥(d.log.length:Int) from hge),cond_false]
      have key:∀ (k:Nat),(k:Int)=max i 0→k≤d.log.length→Ok (L25_7 l n [] (k:Int) d) (fun y=>(y.1,y.2.1)=((scan (rd l) n.toNat (d.log.drop k)).1,(k:Int)+((scan (rd l) n.toNat (d.log.drop k)).2:Int))):=by
        intro k hk hkl
        generalize hT:((scan (rd l) n.toNat (d.log.drop k)).1,(k:Int)+((scan (rd l) n.toNat (d.log.drop k)).2:Int))=T
        refine Ok.iter (fun x:List Bool×Int×List Op×Int×Desk=>x.1=l∧x.2.1=n∧x.2.2.2.2=d∧0≤x.2.2.2.1∧x.2.2.2.1≤(d.log.length:Int)∧(x.2.2.1.length:Int)≤n∧(x.2.2.1.length:Int)≤x.2.2.2.1 ∧
          (x.2.2.1++(scan (rd l) (n.toNat - x.2.2.1.length) (d.log.drop x.2.2.2.1.toNat)).1,x.2.2.2.1+((scan (rd l) (n.toNat - x.2.2.1.length) (d.log.drop x.2.2.2.1.toNat)).2:Int))=T) (fun x=>d.log.length - x.2.2.2.1.toNat) ?_ _ _ ⟨rfl,rfl,rfl,by dsimp only;omega,by dsimp only;omega,by simp;omega,by simp,by rw [← hT];simp⟩ (by dsimp only;omega)
        rintro ⟨l',n',out,j,d'⟩ ⟨h1,h2,h3,h4,h5,h6,h7,h8⟩
        dsimp only at h1 h2 h3 h4 h5 h6 h7 h8
        subst h1;subst h2;subst h3
        unfold stp_L25_7 step_L25_7
        dsimp only
        by_cases hj:j < (d'.log.length:Int)
        · rw [decide_eq_true hj,cond_true]
          refine Ok.dec (fun hlt=>?_) (fun hge=>Ok.inr ?_)
          · have hw:w64 (j+1)=j+1:=w64_ok (by omega)
            have ht:(j+1).toNat=j.toNat+1:=by omega
            refine Ok.need h4 (Ok.ob (Ok.get (by omega)) fun e he=>?_)
            obtain ⟨c0,c3,cd⟩:=hop e he.1
            have hdr:=drop_cons he.2
            obtain ⟨m,hm⟩:∃ m,n'.toNat - out.length=m+1:=⟨n'.toNat - out.length - 1,by omega⟩
            rw [hdr,hm] at h8
            have skip:rd l' e=false→(l'=l'∧n'=n'∧d'=d'∧0≤w64 (j+1)∧w64 (j+1)≤(d'.log.length:Int)∧(out.length:Int)≤n'∧(out.length:Int)≤w64 (j+1)∧(out++(scan (rd l') (n'.toNat - out.length) (d'.log.drop (w64 (j+1)).toNat)).1,w64 (j+1)+((scan (rd l') (n'.toNat - out.length) (d'.log.drop (w64 (j+1)).toNat)).2:Int))=T)∧d'.log.length - (w64 (j+1)).toNat < d'.log.length - j.toNat:=by
              intro hrd
              refine ⟨⟨rfl,rfl,rfl,by omega,by omega,h6,by omega,?_⟩,by omega⟩
              rw [scan_no hrd] at h8
              rw [hw,ht,hm,← h8]
              dsimp only
              refine Prod.ext rfl ?_
              dsimp only;omega
            refine Ok.dec (fun hc=>?_) (fun hc=>Ok.inl (skip ?_))
            · refine Ok.need c0 ?_
              have hlt':e.coll.toNat < l'.length:=by omega
              rw [List.getElem?_eq_getElem hlt',ob_some]
              have hrd:rd l' e=l'[e.coll.toNat]:=by unfold rd;rw [List.getElem?_eq_getElem hlt'];rfl
              rw [← hrd]
              cases hb:rd l' e with
              | false=>simp only [cond_false];exact Ok.inl (skip hb)
              | true =>
                simp only [cond_true]
                rw [scan_yes hb] at h8
                have hol:(out++[e]).length=out.length+1:=by rw [List.length_append,List.length_singleton]
                refine Ok.fit (by simp only [List.length_append,List.length_cons,List.length_nil,List.length_take,List.length_drop,List.length_set,List.nil_append]<;>omega) (Ok.fit (by simp only [List.length_append,List.length_cons,List.length_nil,List.length_take,List.length_drop,List.length_set,List.nil_append]<;>omega) (Ok.inl ?_))
                show (l'=l'∧n'=n'∧d'=d'∧0≤w64 (j+1)∧w64 (j+1)≤(d'.log.length:Int)∧((out++[e]).length:Int)≤n'∧((out++[e]).length:Int)≤w64 (j+1)∧((out++[e])++(scan (rd l') (n'.toNat - (out++[e]).length) (d'.log.drop (w64 (j+1)).toNat)).1,w64 (j+1)+((scan (rd l') (n'.toNat - (out++[e]).length) (d'.log.drop (w64 (j+1)).toNat)).2:Int))=T)∧d'.log.length - (w64 (j+1)).toNat < d'.log.length - j.toNat
                refine ⟨⟨rfl,rfl,rfl,by omega,by omega,by rw [hol];omega,by rw [hol];omega,?_⟩,by omega⟩
                have hm':n'.toNat - (out++[e]).length=m:=by rw [hol];omega
                rw [hw,ht,hm',← h8]
                dsimp only
                refine Prod.ext (by simp) ?_
                dsimp only;omega
            · unfold rd
              rw [List.getElem?_eq_none (by omega)];rfl
          · have h0:n'.toNat - out.length=0:=by omega
            rw [h0,scan_zero] at h8
            rw [← h8]
            dsimp only
            refine Prod.ext (by simp) ?_
            dsimp only;omega
        · rw [decide_eq_false hj,cond_false,cond_false]
          refine Ok.inr ?_
          have hd:d'.log.drop j.toNat=[]:=List.drop_eq_nil_of_le (by omega)
          rw [hd,scan_nil] at h8
          rw [← h8]
          dsimp only
          refine Prod.ext (by simp) ?_
          dsimp only;omega
      obtain ⟨y,h1,h2⟩:=key (max i 0).toNat (by omega) (by omega)
      rw [show (((max i 0).toNat:Nat):Int)=max i 0 by omega] at h1 h2
      rw [h1,ob_some,h2]
end Go.Proofs.YtcjpeijiaojeiaaGreat
