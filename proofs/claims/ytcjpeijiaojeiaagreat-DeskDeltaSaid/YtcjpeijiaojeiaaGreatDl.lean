/- DeskDelta on typed data. -/
import Derived.Test.YtcjpeijiaojeiaaGreatDk
namespace Go.Proofs.YtcjpeijiaojeiaaGreat
open Go Go.Ev
set_option maxRecDepth 100000
theorem sEq_refl (s:ByteArray):sEq s s=true:=by unfold sEq;simp
theorem t_dots (l:List Entry)(h:l.length≤1000000):Ok (ref9Dots l l) (fun r=>r=true):=by
  unfold ref9Dots
  refine Ok.bne (fun hne=>absurd rfl hne) fun _=>?_
  have hloop:Ok (L52_4 l l false 0) (Stp (fun _=>True) (fun _=>False)):=by
    refine Ok.iter (fun x:List Entry×List Entry×Bool×Int=>x.1=l∧x.2.1=l∧0≤x.2.2.2∧x.2.2.2≤(l.length:Int)) (fun x=>l.length - x.2.2.2.toNat) ?_ _ _ ⟨rfl,rfl,by dsimp only;omega,by dsimp only;omega⟩ (by dsimp only;omega)
    rintro ⟨l',m',b,i⟩ ⟨h1,h2,h3,h4⟩
    dsimp only at h1 h2 h3 h4
    subst h1;subst h2
    unfold stp_L52_4 step_L52_4
    dsimp only
    refine Ok.dec (fun hi=>?_) (fun _=>Ok.inr1 trivial)
    have hw:w64 (i+1)=i+1:=w64_ok (by omega)
    have he:m'[i.toNat]?=some (m'[i.toNat]'(by omega)):=List.getElem?_eq_getElem _
    generalize (m'[i.toNat]'(by omega))=e at he
    simp only [he,ob_some]
    refine Ok.need h3 (Ok.need h3 ?_)
    simp only [beq_self_eq_true,cond_true,Bool.not_true,cond_false]
    refine Ok.inl ?_
    dsimp only
    exact ⟨⟨rfl,rfl,by omega,by omega⟩,by omega⟩
  exact Ok.ob hloop fun y hy=>Ok.two hy (fun _ _=>Ok.ret rfl) (fun _ hb=>hb.elim)
theorem t_same (o:Op)(h:o.dots.length≤1000000):ref9Same o o=some true:=by
  unfold ref9Same
  simp only [beq_self_eq_true,cond_true,sEq_refl]
  obtain ⟨y,h1,h2⟩:=t_dots o.dots h
  rw [h1,h2];rfl
theorem scan_congr {W V:Op→Bool}:∀ (l:List Op) (n:Nat),(∀ o∈l,W o=V o)→scan W n l=scan V n l
  | [],n,_=>by rw [scan_nil,scan_nil]
  | o::r,0,_=>by rw [scan_zero,scan_zero]
  | o::r,n+1,h=>by
    have h1:=h o (by simp)
    have h2:∀ x∈r,W x=V x:=fun x hx=>h x (by simp [hx])
    rw [scan,scan,h1,scan_congr r n h2,scan_congr r (n+1) h2]
theorem told_take (d:Desk)(i:Int)(l:List Bool)(n:Int)(h:LgOk d):told d i (l.take (min (l.length:Int) 3).toNat) n=told d i l n:=by
  have e:∀ m,scan (rd (l.take (min (l.length:Int) 3).toNat)) m (d.log.drop (max i 0).toNat)=scan (rd l) m (d.log.drop (max i 0).toNat):=fun m=>scan_congr _ m fun o ho=>by
    obtain ⟨c0,c3,_⟩:=h.2 o (List.mem_of_mem_drop ho)
    unfold rd
    by_cases hl:l.length≤3
    · rw [List.take_of_length_le (by omega)]
    · rw [List.getElem?_take_of_lt (by omega)]
  unfold told
  rw [e]
theorem told_mem {d:Desk}{i:Int}{l:List Bool}{n:Int}{o:Op}(ho:o∈(told d i l n).1):o∈d.log:=by
  unfold told at ho
  split at ho
  · cases ho
  · split at ho
    · cases ho
    · dsimp only at ho
      rw [(scan_props _ _ _).1] at ho
      exact List.mem_of_mem_drop (List.mem_of_mem_take (List.mem_filter.1 ho).1)
theorem told_len (d:Desk)(i:Int)(l:List Bool)(n:Int)(hd:d.log.length≤2000):(told d i l n).1.length≤2000:=by
  unfold told
  split
  · exact Nat.zero_le _
  · split
    · exact Nat.zero_le _
    · dsimp only
      rw [(scan_props _ _ _).1]
      refine Nat.le_trans (List.length_filter_le _ _) ?_
      rw [List.length_take,List.length_drop];omega
theorem t_L5_11 (l:List Bool)(n:Int)(b:Bool)(A:List Op)(d:Desk)(hA:A.length≤2000)(ho:∀ o∈A,o.dots.length≤100):Ok (L5_11 l n b A A 0 d) (Stp (fun a=>a=(l,n,b,d)) (fun _=>False)):=by
  refine Ok.iter (fun x:List Bool×Int×Bool×List Op×List Op×Int×Desk=>x.1=l∧x.2.1=n∧x.2.2.1=b∧x.2.2.2.1=A∧x.2.2.2.2.1=A∧x.2.2.2.2.2.2=d∧0≤x.2.2.2.2.2.1∧x.2.2.2.2.2.1≤(A.length:Int)) (fun x=>A.length - x.2.2.2.2.2.1.toNat) ?_ _ _ ⟨rfl,rfl,rfl,rfl,rfl,rfl,by dsimp only;omega,by dsimp only;omega⟩ (by dsimp only;omega)
  rintro ⟨l',n',b',A',C,i,d'⟩ ⟨h1,h2,h3,h4,h5,h6,h7,h8⟩
  dsimp only at h1 h2 h3 h4 h5 h6 h7 h8
  subst h1;subst h2;subst h3;subst h4;subst h5;subst h6
  unfold stp_L5_11 step_L5_11
  dsimp only
  refine Ok.dec (fun hi=>?_) (fun _=>Ok.inr1 rfl)
  have hw:w64 (i+1)=i+1:=w64_ok (by omega)
  have he:C[i.toNat]?=some (C[i.toNat]'(by omega)):=List.getElem?_eq_getElem _
  have hm:(C[i.toNat]'(by omega))∈C:=List.getElem_mem _
  generalize (C[i.toNat]'(by omega))=e at he hm
  have hd:=ho e hm
  simp only [he,ob_some,t_same e (by omega),Bool.not_true,cond_false]
  refine Ok.need h7 (Ok.need h7 (Ok.inl ?_))
  dsimp only
  exact ⟨⟨rfl,rfl,rfl,rfl,rfl,rfl,by omega,by omega⟩,by omega⟩
/-- what is read of a piece of a log -/
def sel (l:List Bool)(d:Desk)(X k:Nat):List Op:=((d.log.take X).drop k).filter (rd l)
theorem take_cons {l:List Op}{X k:Nat}{e:Op}(hk:k < X)(h:l[k]?=some e):(l.take X).drop k=e::(l.take X).drop (k+1):=drop_cons (by rw [List.getElem?_take_of_lt hk];exact h)
theorem sel_yes {l:List Bool}{d:Desk}{X k:Nat}{e:Op}(hk:k < X)(h:d.log[k]?=some e)(hr:rd l e=true):sel l d X k=e::sel l d X (k+1):=by
  unfold sel;rw [take_cons hk h,List.filter_cons_of_pos hr]
theorem sel_no {l:List Bool}{d:Desk}{X k:Nat}{e:Op}(hk:k < X)(h:d.log[k]?=some e)(hr:rd l e=false):sel l d X k=sel l d X (k+1):=by
  unfold sel;rw [take_cons hk h,List.filter_cons_of_neg (by rw [hr];simp)]
theorem sel_end {l:List Bool}{d:Desk}{X k:Nat}(h:X≤k):sel l d X k=[]:=by
  unfold sel
  rw [List.drop_eq_nil_of_le (by rw [List.length_take];omega)];rfl
theorem sel_split (l:List Bool)(d:Desk){X a k:Nat}(h1:k≤a)(h2:a≤X)(h3:X≤d.log.length):sel l d X k=sel l d a k++sel l d X a:=by
  unfold sel
  rw [← List.filter_append]
  congr 1
  have e:d.log.take a=(d.log.take X).take a:=by rw [List.take_take,Nat.min_eq_left h2]
  rw [e]
  have e2:(d.log.take X).drop k=((d.log.take X).take a++(d.log.take X).drop a).drop k:=by rw [List.take_append_drop]
  rw [e2,List.drop_append_of_le_length (by rw [List.length_take,List.length_take];omega)]
theorem t_L5_26 (l:List Bool)(n:Int)(b:Bool)(k:Nat)(r:Int)(A:List Op)(X' j:Int)(d:Desk)(h:LgOk d)(X:Nat)(hX:X≤d.log.length)(a:Op)(rest:List Op)(hs:sel l d X k=a::rest) :
    Ok (L5_26 l n b (k:Int) r A X' j d) (fun y=>∃ q:Nat,y=(l,n,b,(q:Int),r,A,X',j,d)∧q < X∧d.log[q]?=some a∧sel l d X (q+1)=rest):=by
  obtain ⟨hlen,hop⟩:=h
  refine Ok.iter (fun x:List Bool×Int×Bool×Int×Int×List Op×Int×Int×Desk=>∃ q:Nat,x=(l,n,b,(q:Int),r,A,X',j,d)∧sel l d X q=a::rest) (fun x=>d.log.length - x.2.2.2.1.toNat) ?_ _ _ ⟨k,rfl,hs⟩ (by dsimp only;omega)
  rintro _ ⟨q,rfl,hq⟩
  have hqX:q < X:=by
    by_cases hq':q < X
    · exact hq'
    · rw [sel_end (by omega)] at hq;cases hq
  unfold stp_L5_26 step_L5_26
  dsimp only
  have hw:w64 ((q:Int)+1)=((q+1:Nat):Int):=w64_ok (by omega)
  have he:d.log[((q:Int)).toNat]?=some (d.log[((q:Int)).toNat]'(by omega)):=List.getElem?_eq_getElem _
  have hm:(d.log[((q:Int)).toNat]'(by omega))∈d.log:=List.getElem_mem _
  generalize (d.log[((q:Int)).toNat]'(by omega))=e at he hm
  obtain ⟨c0,c3,_⟩:=hop e hm
  have he':d.log[q]?=some e:=by rw [← he];simp
  simp only [he,ob_some]
  have skip:rd l e=false→(∃ p:Nat,(l,n,b,((q+1:Nat):Int),r,A,X',j,d)=(l,n,b,(p:Int),r,A,X',j,d)∧sel l d X p=a::rest)∧d.log.length - (((q+1:Nat):Int)).toNat < d.log.length - ((q:Int)).toNat:=fun hr=>⟨⟨q+1,rfl,by rw [← sel_no hqX he' hr];exact hq⟩,by omega⟩
  refine Ok.need (by omega) (Ok.need (by omega) (Ok.dec (fun hc=>Ok.need (by omega) (Ok.need c0 ?_)) (fun hc=>?_)))
  · have hlt:e.coll.toNat < l.length:=by omega
    rw [List.getElem?_eq_getElem hlt,ob_some]
    have hrd:rd l e=l[e.coll.toNat]:=by unfold rd;rw [List.getElem?_eq_getElem hlt];rfl
    rw [← hrd]
    cases hb:rd l e with
    | false =>
      simp only [Bool.not_false,cond_true]
      rw [hw]
      exact Ok.inl (skip hb)
    | true =>
      simp only [Bool.not_true,cond_false]
      rw [sel_yes hqX he' hb] at hq
      cases hq
      exact Ok.inr ⟨q,rfl,hqX,he',rfl⟩
  · rw [hw]
    refine Ok.inl (skip ?_)
    unfold rd
    rw [List.getElem?_eq_none (by omega)];rfl
theorem t_L5_24 (l:List Bool)(n:Int)(b:Bool)(k:Nat)(r:Int)(A:List Op)(X':Int)(d:Desk)(h:LgOk d)(X:Nat)(hX:X≤d.log.length)(hk:k≤X)(hs:sel l d X k=A) :
    Ok (L5_24 l n b (k:Int) r A X' 0 d) (Stp (fun y=>∃ q:Nat,y=(l,n,b,(q:Int),r,X',d)∧q≤X∧sel l d X q=[]) (fun _=>False)):=by
  obtain ⟨hlen,hop⟩:=h
  have hAl:A.length≤2000:=by
    rw [← hs];unfold sel
    refine Nat.le_trans (List.length_filter_le _ _) ?_
    rw [List.length_drop,List.length_take];omega
  refine Ok.iter (fun x:List Bool×Int×Bool×Int×Int×List Op×Int×Int×Desk=>∃ q j:Nat,x=(l,n,b,(q:Int),r,A,X',(j:Int),d)∧j≤A.length∧q≤X∧sel l d X q=A.drop j) (fun x=>A.length - x.2.2.2.2.2.2.2.1.toNat) ?_ _ _ ⟨k,0,rfl,Nat.zero_le _,hk,by rw [hs];rfl⟩ (by dsimp only;omega)
  rintro _ ⟨q,j,rfl,hj,hq,hsq⟩
  unfold stp_L5_24 step_L5_24
  dsimp only
  refine Ok.dec (fun hi=>?_) (fun hi=>Ok.inr1 ⟨q,rfl,hq,?_⟩)
  · have hjl:j < A.length:=by omega
    have hdr:A.drop j=A[j]::A.drop (j+1):=List.drop_eq_getElem_cons hjl
    rw [hdr] at hsq
    have hge:A[j]?=some A[j]:=List.getElem?_eq_getElem hjl
    generalize A[j]=a at hsq hge
    refine Ok.ob (t_L5_26 l n b q r A X' (j:Int) d ⟨hlen,hop⟩ X hX a _ hsq) fun y hy=>?_
    obtain ⟨p,rfl,hp,hlp,hsp⟩:=hy
    dsimp only
    have ha:=hop a (List.mem_of_getElem? hlp)
    have hw:w64 ((p:Int)+1)=((p+1:Nat):Int):=w64_ok (by omega)
    have hwj:w64 ((j:Int)+1)=((j+1:Nat):Int):=w64_ok (by omega)
    refine Ok.dec (fun hc=>absurd hc (by omega)) fun _=>?_
    rw [Int.toNat_natCast,Int.toNat_natCast,hlp,hge,ob_some,ob_some,t_same a (by omega),ob_some,hw,hwj]
    refine Ok.need (by omega) (Ok.need (by omega) ?_)
    simp only [Bool.not_true,cond_false]
    exact Ok.inl ⟨⟨p+1,j+1,rfl,hjl,hp,hsp⟩,by dsimp only;omega⟩
  · rw [hsq];exact List.drop_eq_nil_of_le (by omega)
theorem t_L5_18 (l:List Bool)(n:Int)(b:Bool)(d:Desk)(h:LgOk d)(hn1:1≤n)(hn:n≤1000) :
    Ok (L5_18 l n b 0 0 0 d) (Stp (fun y=>∃ q:Nat,y=(l,b,(q:Int),d)∧q≤d.log.length∧sel l d d.log.length q=[]) (fun _=>False)):=by
  have hlen:=h.1
  refine Ok.iter (fun x:List Bool×Int×Bool×Int×Int×Int×Desk=>∃ a k r:Nat,x=(l,n,b,(a:Int),(k:Int),(r:Int),d)∧a≤d.log.length∧k≤a∧r≤a∧sel l d a k=[]) (fun x=>d.log.length - x.2.2.2.1.toNat) ?_ _ _ ⟨0,0,0,rfl,Nat.zero_le _,Nat.le_refl _,Nat.le_refl _,sel_end (Nat.le_refl _)⟩ (by dsimp only;omega)
  rintro _ ⟨a,k,r,rfl,ha,hk,hr,hs⟩
  unfold stp_L5_18 step_L5_18
  dsimp only
  by_cases hal:a < d.log.length
  · rw [decide_eq_true (show (r:Int)≤(d.log.length:Int) by omega),decide_eq_true (show (a:Int) < (d.log.length:Int) by omega)]
    simp only [cond_true]
    rw [prog_told d (a:Int) l n h,ob_some]
    have hpr:=scan_props (rd l) (d.log.drop a) n.toNat
    have hne:d.log.drop a≠[]:=by intro he;have:=List.drop_eq_nil_iff.1 he;omega
    have htold:told d (a:Int) l n=((scan (rd l) n.toNat (d.log.drop a)).1,(a:Int)+((scan (rd l) n.toNat (d.log.drop a)).2:Int)):=by
      unfold told
      rw [if_neg (by omega),if_neg (by omega)]
      rw [show (max (a:Int) 0).toNat=a by omega,show max (a:Int) 0=(a:Int) by omega]
    rw [htold]
    obtain ⟨p1,p2,p3,p4⟩:=hpr
    have p4:=p4 (by omega) hne
    rw [List.length_drop] at p3
    generalize hX:(scan (rd l) n.toNat (d.log.drop a)).2=m at *
    generalize (scan (rd l) n.toNat (d.log.drop a)).1=A at *
    dsimp only
    refine Ok.or (fun hc=>?_) (fun _ _=>?_)
    · exfalso;omega
    · have hX':((a:Int)+(m:Int))=((a+m:Nat):Int):=by omega
      have hA:sel l d (a+m) k=A:=by
        rw [sel_split l d hk (by omega) (by omega),hs,List.nil_append,p1]
        unfold sel
        rw [List.drop_take,Nat.add_sub_cancel_left]
      refine Ok.ob (t_L5_24 l n b k (r:Int) A _ d h (a+m) (by omega) (by omega) hA) fun y hy=>Ok.two hy (fun z hz=>?_) (fun _ hb=>hb.elim)
      obtain ⟨q,rfl,hq,hsq⟩:=hz
      dsimp only
      have hw:w64 ((r:Int)+1)=((r+1:Nat):Int):=w64_ok (by omega)
      rw [hw,hX']
      exact Ok.inl ⟨⟨a+m,q,r+1,rfl,by omega,hq,by omega,hsq⟩,by dsimp only;omega⟩
  · have:a=d.log.length:=by omega
    rw [decide_eq_true (show (r:Int)≤(d.log.length:Int) by omega),decide_eq_false (show ¬ (a:Int) < (d.log.length:Int) by omega)]
    simp only [cond_true,cond_false]
    subst this
    exact Ok.inr1 ⟨k,rfl,hk,hs⟩
theorem t_L5_32 (l:List Bool)(b:Bool)(k:Nat)(d:Desk)(h:LgOk d)(hk:k≤d.log.length)(hs:sel l d d.log.length k=[]):Ok (L5_32 l b (k:Int) d) (Stp (fun _=>True) (fun _=>False)):=by
  obtain ⟨hlen,hop⟩:=h
  refine Ok.iter (fun x:List Bool×Bool×Int×Desk=>∃ q:Nat,x=(l,b,(q:Int),d)∧sel l d d.log.length q=[]) (fun x=>d.log.length - x.2.2.1.toNat) ?_ _ _ ⟨k,rfl,hs⟩ (by dsimp only;omega)
  rintro _ ⟨q,rfl,hq⟩
  unfold stp_L5_32 step_L5_32
  dsimp only
  refine Ok.dec (fun hi=>?_) (fun _=>Ok.inr1 trivial)
  have hqX:q < d.log.length:=by omega
  have hw:w64 ((q:Int)+1)=((q+1:Nat):Int):=w64_ok (by omega)
  have he:d.log[((q:Int)).toNat]?=some (d.log[((q:Int)).toNat]'(by omega)):=List.getElem?_eq_getElem _
  have hm:(d.log[((q:Int)).toNat]'(by omega))∈d.log:=List.getElem_mem _
  generalize (d.log[((q:Int)).toNat]'(by omega))=e at he hm
  obtain ⟨c0,c3,_⟩:=hop e hm
  have he':d.log[q]?=some e:=by rw [← he];simp
  simp only [he,ob_some]
  have skip:rd l e=false→(∃ p:Nat,(l,b,((q+1:Nat):Int),d)=(l,b,(p:Int),d)∧sel l d d.log.length p=[])∧d.log.length - (((q+1:Nat):Int)).toNat < d.log.length - ((q:Int)).toNat:=fun hr=>⟨⟨q+1,rfl,by rw [← sel_no hqX he' hr];exact hq⟩,by omega⟩
  rw [hw]
  refine Ok.need (by omega) (Ok.dec (fun hc=>Ok.need (by omega) (Ok.need c0 ?_)) (fun hc=>Ok.inl (skip ?_)))
  · have hlt:e.coll.toNat < l.length:=by omega
    rw [List.getElem?_eq_getElem hlt,ob_some]
    have hrd:rd l e=l[e.coll.toNat]:=by unfold rd;rw [List.getElem?_eq_getElem hlt];rfl
    rw [← hrd]
    cases hb:rd l e with
    | true=>rw [sel_yes hqX he' hb] at hq;cases hq
    | false=>simp only [cond_false];exact Ok.inl (skip hb)
  · unfold rd
    rw [List.getElem?_eq_none (by omega)];rfl
theorem delta_true (l:List Act)(i:Int)(c:List Bool)(n:Int)(hl:l.length≤9223372036854775807):deskDelta l i c n=some true:=by
  obtain ⟨f,hf,hf2⟩:=t_Few l hl
  unfold deskDelta
  rw [known_true,ob_some,Bool.not_true,cond_false,hf,ob_some]
  have key:Ok (cond (cond (!f) true (decide ((c.length:Int) > 5))) (some true) (ob (l13State l) fun r2=>ob (dDelta r2 i c n) fun r3=>cond (decide (0≤(min2 (c.length:Int) 3))) (cond (decide ((min2 (c.length:Int) 3)≤(c.length:Int)))
      (ob (ref13Delta r2 i (c.take (((min2 (c.length:Int) 3)).toNat)) n) fun r4=>cond ((cond (r3.2 != r4.2) true ((r3.1.length:Int) != (r4.1.length:Int)))) (some false)
        (ob (L5_11 c n false r3.1 r4.1 0 r2) fun y5=>two y5 (fun a6=>ob (within a6.2.1 5) fun r8=>ob (L5_18 a6.1 (w64 (1+r8)) a6.2.2.1 0 0 0 a6.2.2.2) fun y9 =>
          two y9 (fun a10=>ob (L5_32 a10.1 a10.2.1 a10.2.2.1 a10.2.2.2) fun y12=>two y12 (fun _=>some true) (fun b14=>some b14.1)) (fun b11=>some b11.2.1)) (fun b7=>some b7.2.2.1))) none) none)) (fun r=>r=true):=by
    refine Ok.cond (fun _=>Ok.ret rfl) fun hc=>?_
    have hft:f=true:=by cases f with | true=>rfl | false=>cases hc
    obtain ⟨h60,hw⟩:=hf2 hft
    refine Ok.ob (t_State l h60 hw) fun d hd=>?_
    have hlg:LgOk d:=⟨hd.lg,hd.op⟩
    rw [prog_told d i c n hlg,ob_some,min2_eq]
    refine Ok.need (by omega) (Ok.need (by omega) ?_)
    rw [ref_told d i _ n hlg,ob_some,told_take d i c n hlg]
    refine Ok.cond (fun hx=>?_) fun _=>?_
    · exfalso
      revert hx
      simp
    refine Ok.ob (t_L5_11 c n false _ d (told_len d i c n hd.lg) fun o ho=>(hd.op o (told_mem ho)).2.2) fun y hy=>Ok.two hy (fun a ha=>?_) (fun _ hb=>hb.elim)
    subst ha
    dsimp only
    refine Ok.ob (t_within (by omega) (by omega)) fun r hr=>?_
    rw [w64_ok (n:=1+r) (by omega)]
    refine Ok.ob (t_L5_18 c (1+r) false d hlg (by omega) (by omega)) fun y hy=>Ok.two hy (fun a ha=>?_) (fun _ hb=>hb.elim)
    obtain ⟨q,rfl,hq,hsq⟩:=ha
    dsimp only
    exact Ok.ob (t_L5_32 c false q d hlg hq hsq) fun y hy=>Ok.two hy (fun _ _=>Ok.ret rfl) (fun _ hb=>hb.elim)
  obtain ⟨y,h1,h2⟩:=key
  rw [h2] at h1
  exact h1
end Go.Proofs.YtcjpeijiaojeiaaGreat
