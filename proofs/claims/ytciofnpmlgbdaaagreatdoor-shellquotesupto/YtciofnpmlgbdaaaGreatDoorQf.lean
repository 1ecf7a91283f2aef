/- Words, by the document; the law ShellWords, on typed data. -/
import Derived.Test.YtciofnpmlgbdaaaGreatDoorQe
namespace Go.Proofs.YtciofnpmlgbdaaaGreatDoor
open Go Go.Ev Go.Shell
theorem skloop {s:ByteArray}(hs:s.size≤16777216)(l1:List ByteArray)(i1:Int)(l:List ByteArray):∀ (f i:Nat),s.size - i < f →
    ∃ k:Nat,iterO stp_L7_3 f (s,l1,i1,l,(i:Int))=some (s,l1,i1,l,(k:Int))∧i≤k∧(i≤s.size→k≤s.size)∧(k < s.size→bt s k≠32∧bt s k≠9)∧∀ g h:Nat,s.size - i < g→s.size - k < h→wds s g i l=wds s h k l
  | 0,i,hf=>absurd hf (Nat.not_lt_zero _)
  | f+1,i,hf=>by
    have ei:((i:Int)).toNat=i:=rfl
    by_cases h:i < s.size
    · by_cases hsp:bt s i=32∨bt s i=9
      · have hst:stp_L7_3 (s,l1,i1,l,(i:Int))=some (.inl (s,l1,i1,l,((i+1:Nat):Int))):=by
          unfold stp_L7_3 step_L7_3
          simp only [ei,btf]
          rw [cdt (by omega),cdt (by omega),cdt (by omega),w64_ok (by omega) (by omega)]
          by_cases h1:bt s i=32
          · rw [cet h1];simp
          · rw [cef h1,cdt (by omega),cdt (by omega),cet (by omega)];simp
        obtain ⟨k,e1,e2,e3,e4,e5⟩:=skloop hs l1 i1 l f (i+1) (by omega)
        refine ⟨k,by rw [it_go hst];exact e1,by omega,fun _=>e3 (by omega),e4,fun g h' hg hh=>?_⟩
        match g,hg with
        | g+1,hg =>
          rw [← e5 g h' (by omega) hh]
          conv=>lhs;unfold wds
          rw [if_pos h,if_pos hsp]
      · refine ⟨i,it_end ?_,Nat.le_refl _,fun h=>h,fun _=>by omega,fun g h' hg hh=>wds_fuel g h' i l hg hh⟩
        unfold stp_L7_3 step_L7_3
        simp only [ei,btf]
        rw [cdt (by omega),cdt (by omega),cdt (by omega),cef (by omega),cdt (by omega),cdt (by omega),cef (by omega)]
    · refine ⟨i,it_end ?_,Nat.le_refl _,fun h=>h,fun h'=>absurd h' h,fun g h' hg hh=>wds_fuel g h' i l hg hh⟩
      unfold stp_L7_3 step_L7_3
      simp only []
      rw [cdf (by omega)]
theorem rwloop {s:ByteArray}(hs:s.size≤16777216)(l1:List ByteArray)(i1:Int):∀ (f i:Nat) (l:List ByteArray),s.size - i < f→i≤s.size→l.length+(s.size - i)≤1073741824 →
    iterO stp_L7_0 f (s,l1,i1,l,(i:Int))=some (wA (wds s (s.size+1) i l))
  | 0,i,l,hf,_,_=>absurd hf (Nat.not_lt_zero _)
  | f+1,i,l,hf,hi,ha=>by
    obtain ⟨k,e1,e2,e3,e4,e5⟩:=skloop hs l1 i1 l (((s.size:Int) - (i:Int)).toNat+2) i (by omega)
    have hL:L7_3 s l1 i1 l (i:Int)=some (s,l1,i1,l,(k:Int)):=e1
    rw [e5 (s.size+1) (s.size+1) (by omega) (by omega)]
    have hk:=e3 hi
    have ek:((k:Int)).toNat=k:=rfl
    have hback:∀ (m:Nat) (l':List ByteArray),k < m→m≤s.size→l'.length=l.length+1→stp_L7_0 (s,l1,i1,l,(i:Int))=some (.inl (s,l1,i1,l',(m:Int)))→iterO stp_L7_0 (f+1) (s,l1,i1,l,(i:Int))=some (wA (wds s s.size m l')):=by
      intro m l' h1 h2 h3 hst
      rw [it_go hst,rwloop hs l1 i1 f m l' (by omega) h2 (by omega),wds_fuel (s.size+1) s.size m l' (by omega) (by omega)]
    conv=>rhs;unfold wds
    by_cases h:k < s.size
    · rw [if_pos h]
      obtain ⟨h1,h2⟩:=e4 h
      rw [if_neg (by omega)]
      by_cases h3:bt s k=35
      · rw [if_pos h3]
        refine it_end ?_
        unfold stp_L7_0 step_L7_0
        simp only [hL,ob,ek,btf]
        rw [cdf (by omega),cdt (by omega),cdt (by omega),cet h3];rfl
      rw [if_neg h3]
      by_cases h4:bt s k=34
      · rw [if_pos h4]
        have hq:=rquoted_eq hs h
        cases hu:unq s (s.size+1) (k+1) [] with
        | none =>
          rw [hu] at hq
          refine it_end ?_
          unfold stp_L7_0 step_L7_0
          simp only [hL,ob,ek,btf]
          rw [cdf (by omega),cdt (by omega),cdt (by omega),cef h3,cdt (by omega),cdt (by omega),cet h4,hq]
          rfl
        | some p =>
          obtain ⟨w,m⟩:=p
          rw [hu] at hq
          have hm:=unq_end hu
          have em:((m:Int)).toNat=m:=rfl
          have hq:rquoted s (k:Int)=some (strOfInts w,(m:Int)):=hq
          have hpre:stp_L7_0 (s,l1,i1,l,(i:Int))=cond (decide ((m:Int) < (s.size:Int))) (cond (bt s m != 32) (cond (bt s m != 9) (some (.inr ([],6))) (some (.inl (s,l1,i1,l++[strOfInts w],(m:Int))))) (some (.inl (s,l1,i1,l++[strOfInts w],(m:Int))))) (some (.inl (s,l1,i1,l++[strOfInts w],(m:Int)))):=by
            unfold stp_L7_0 step_L7_0
            simp only [hL,ob,ek,btf]
            rw [cdf (by omega),cdt (by omega),cdt (by omega),cef h3,cdt (by omega),cdt (by omega),cet h4,hq]
            simp only [em]
            rw [cdf (by omega)]
            by_cases hks:m < s.size
            · rw [cdt (by omega),cdt (by omega),cdt (by omega),cdt (by omega),cdt (by omega),cdt (by omega),cft (by simp;omega)]
            · rw [cdf (by omega),cdf (by omega),cft (by simp;omega)]
          simp only []
          by_cases hks:m < s.size
          · rw [cdt (by omega)] at hpre
            by_cases x1:bt s m=32
            · rw [cnf x1] at hpre
              rw [if_neg (fun e=>e.2.1 x1)]
              exact hback m _ (by omega) hm.2 (by simp) hpre
            rw [cnt x1] at hpre
            by_cases x2:bt s m=9
            · rw [cnf x2] at hpre
              rw [if_neg (fun e=>e.2.2 x2)]
              exact hback m _ (by omega) hm.2 (by simp) hpre
            rw [cnt x2] at hpre
            rw [if_pos ⟨hks,x1,x2⟩]
            exact it_end hpre
          · rw [cdf (by omega)] at hpre
            rw [if_neg (fun e=>hks e.1)]
            exact hback m _ (by omega) hm.2 (by simp) hpre
      · rw [if_neg h4]
        have hp:=pl_eq7 hs l1 l i1 (k:Int) k
        have hpre:stp_L7_0 (s,l1,i1,l,(i:Int))=ob (L7_14 s l1 i1 l (k:Int) (k:Int)) fun y2=>two y2 (fun a3=>cond (decide (0≤a3.2.2.2.2.2)) (cond (decide (a3.2.2.2.2.2≤a3.2.2.2.2.1)) (cond (decide (a3.2.2.2.2.1≤(a3.1.size:Int))) (cond (fits ((a3.2.2.2.1++[(a3.1.extract a3.2.2.2.2.2.toNat a3.2.2.2.2.1.toNat)]).length)) (some (.inl (a3.1,a3.2.1,a3.2.2.1,(a3.2.2.2.1++[(a3.1.extract a3.2.2.2.2.2.toNat a3.2.2.2.2.1.toNat)]),a3.2.2.2.2.1))) none) none) none) none) (fun b4=>some (.inr (b4.2.1,b4.2.2.1))):=by
          unfold stp_L7_0 step_L7_0
          simp only [hL,ob,ek,btf]
          rw [cdf (by omega),cdt (by omega),cdt (by omega),cef h3,cdt (by omega),cdt (by omega),cef h4]
        cases hpl:plain s (s.size+1) k with
        | none =>
          rw [hpl] at hp
          obtain ⟨j,hp⟩:=hp
          rw [hp] at hpre
          exact it_end hpre
        | some m =>
          rw [hpl] at hp
          have hm:=plain_go h h1 h2 hpl
          have hp:L7_14 s l1 i1 l (k:Int) (k:Int)=_:=hp
          rw [hp] at hpre
          simp only [ob,two] at hpre
          have em:((m:Int)).toNat=m:=rfl
          rw [cdt (by omega),cdt (by omega),cdt (by omega),cft (by simp;omega),ek,em] at hpre
          exact hback m _ hm.1 hm.2 (by simp) hpre
    · rw [if_neg h]
      refine it_end ?_
      unfold stp_L7_0 step_L7_0
      simp only [hL,ob]
      rw [cdt (by omega)];rfl
theorem rwords_eq {s:ByteArray}(hs:s.size≤16777216):rwords s=some (wA (wds s (s.size+1) 0 [])):=by
  have h1:∀ f:Nat,s.size < f→iterO stp_L7_0 f (s,[],0,[],0)=some (wA (wds s (s.size+1) 0 [])):=fun f hf=>rwloop hs [] 0 f 0 [] (by omega) (by omega) (by simp;omega)
  have h2:L7_0 s [] 0 [] 0=some (wA (wds s (s.size+1) 0 [])):=h1 1099511627776 (by omega)
  unfold rwords
  rw [h2];rfl
theorem sEq_self (a:ByteArray):sEq a a=true:=by
  unfold sEq
  exact beq_self_eq_true _
theorem same_words (l1:List Int)(l:List ByteArray)(hl:l.length≤1073741824):∀ (rest pre:List ByteArray) (f:Nat),l=pre++rest→rest.length < f→iterO stp_L3_8 f (l1,false,l,l,(pre.length:Int))=some (.inl (l1,false))
  | [],pre,f,hp,hf=>by
    match f,hf with
    | f+1,_ =>
      refine it_end ?_
      unfold stp_L3_8 step_L3_8
      simp only []
      rw [cdf (by rw [hp];simp)]
  | e::rest,pre,f,hp,hf=>by
    match f,hf with
    | f+1,hf =>
      simp only [List.length_cons] at hf
      have hlen:l.length=pre.length+(rest.length+1):=by rw [hp];simp
      have he:l[((pre.length:Int)).toNat]?=some e:=by rw [hp];simp
      have hst:stp_L3_8 (l1,false,l,l,(pre.length:Int))=some (.inl (l1,false,l,l,((pre++[e]).length:Int))):=by
        unfold stp_L3_8 step_L3_8
        simp only [he,ob]
        rw [cdt (by omega),cdt (by omega),cdt (by omega),sEq_self,w64_ok (by omega) (by omega)]
        simp
      rw [it_go hst]
      exact same_words l1 l hl rest (pre++[e]) f (by rw [hp];simp) (by omega)
theorem wds_len {s:ByteArray}:∀ (f i:Nat) (l w:List ByteArray),i≤s.size→wds s f i l=some w→w.length≤l.length+(s.size - i)
  | 0,_,_,_,_,h=>by cases h
  | f+1,i,l,w,hi,h=>by
    unfold wds at h
    split at h
    · rename_i h0
      split at h
      · have:=wds_len f (i+1) l w (by omega) h;omega
      · rename_i h1
        split at h
        · cases h;omega
        · split at h
          · split at h
            · cases h
            · rename_i w' k hu
              have:=unq_end hu
              split at h
              · cases h
              · have:=wds_len f k _ w (by omega) h
                simp only [List.length_append,List.length_singleton] at this;omega
          · split at h
            · cases h
            · rename_i k hp
              have:=plain_go h0 (by omega) (by omega) hp
              have:=wds_len f k _ w (by omega) h
              simp only [List.length_append,List.length_singleton] at this;omega
    · cases h;omega
/-- THE LAW ShellWords, on typed data. -/
theorem shellWords_true {s:ByteArray}(hs:s.size≤16777216){b:List Int}(hb:∀ c∈b,0≤c∧c < 256)(hl:b.length≤1048576):shellWords s b=some true:=by
  unfold shellWords known
  simp only [ob,Bool.not_true,cond_false]
  rw [words_eq hs,rwords_eq hs]
  simp only []
  have hc:∀ o:Option (List ByteArray),(cond ((wA o).2 != (wA o).2) true (((wA o).1.length:Int) != ((wA o).1.length:Int)))=false:=fun o=>by
    rw [cnf rfl];exact bne_self_eq_false _
  rw [hc,cond_false]
  have hlen:(wA (wds s (s.size+1) 0 [])).1.length≤1073741824:=by
    cases hw:wds s (s.size+1) 0 [] with
    | none=>simp [wA]
    | some w =>
      have:=wds_len _ _ _ _ (by omega) hw
      simp only [wA]
      simp at this
      omega
  have h8:∀ l:List ByteArray,l.length≤1073741824→L3_8 b false l l 0=some (.inl (b,false)):=fun l h=>same_words b l h l [] (((l.length:Int) - 0).toNat+2) rfl (by omega)
  rw [h8 _ hlen]
  simp only [two,List.nil_append]
  rw [cft (by omega),quote_eq hb hl,rquote_eq hb hl]
  simp only [sEq_self,cond_true]
end Go.Proofs.YtciofnpmlgbdaaaGreatDoor
