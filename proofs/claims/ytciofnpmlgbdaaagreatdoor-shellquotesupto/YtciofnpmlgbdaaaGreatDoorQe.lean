/- Words, on typed data. -/
import Derived.Test.YtciofnpmlgbdaaaGreatDoorQd
namespace Go.Proofs.YtciofnpmlgbdaaaGreatDoor
open Go Go.Ev Go.Shell
theorem plain_fuel {s:ByteArray}:∀ (f g i:Nat),s.size - i < f→s.size - i < g→plain s f i=plain s g i
  | 0,g,i,h,_=>absurd h (Nat.not_lt_zero _)
  | f+1,0,i,_,h=>absurd h (Nat.not_lt_zero _)
  | f+1,g+1,i,hf,hg=>by
    unfold plain
    by_cases h:i < s.size
    · rw [plain_fuel f g (i+1) (by omega) (by omega)]
    · rw [if_neg (fun e=>h e.1),if_neg (fun e=>h e.1)]
theorem plain_end {s:ByteArray}:∀ {f i k:Nat},i≤s.size→plain s f i=some k→i≤k∧k≤s.size
  | 0,_,_,_,h=>by cases h
  | f+1,i,k,hi,h=>by
    unfold plain at h
    split at h
    · rename_i h1
      split at h
      · cases h
      · have:=plain_end (i:=i+1) (by omega) h
        omega
    · cases h;omega
theorem plain_go {s:ByteArray}{i k:Nat}(hi:i < s.size)(h1:bt s i≠32)(h2:bt s i≠9)(h:plain s (s.size+1) i=some k):i < k∧k≤s.size:=by
  unfold plain at h
  rw [if_pos ⟨hi,h1,h2⟩] at h
  split at h
  · cases h
  · have:=plain_end (i:=i+1) (by omega) h
    omega
theorem wds_fuel {s:ByteArray}:∀ (f g i:Nat) (l:List ByteArray),s.size - i < f→s.size - i < g→wds s f i l=wds s g i l
  | 0,g,i,l,h,_=>absurd h (Nat.not_lt_zero _)
  | f+1,0,i,l,_,h=>absurd h (Nat.not_lt_zero _)
  | f+1,g+1,i,l,hf,hg=>by
    unfold wds
    by_cases h:i < s.size
    · rw [if_pos h,if_pos h]
      by_cases h1:bt s i=32∨bt s i=9
      · rw [if_pos h1,if_pos h1]
        exact wds_fuel f g (i+1) l (by omega) (by omega)
      rw [if_neg h1,if_neg h1]
      cases hu:unq s (s.size+1) (i+1) [] with
      | none =>
        cases hp:plain s (s.size+1) i with
        | none=>rfl
        | some k =>
          have:=plain_go h (by omega) (by omega) hp
          have e:wds s f k (l++[s.extract i k])=wds s g k (l++[s.extract i k]):=wds_fuel f g k _ (by omega) (by omega)
          simp only [e]
      | some p =>
        obtain ⟨w,k⟩:=p
        have:=unq_end hu
        have e:wds s f k (l++[strOfInts w])=wds s g k (l++[strOfInts w]):=wds_fuel f g k _ (by omega) (by omega)
        cases hp:plain s (s.size+1) i with
        | none=>simp only [e]
        | some m =>
          have:=plain_go h (by omega) (by omega) hp
          have e2:wds s f m (l++[s.extract i m])=wds s g m (l++[s.extract i m]):=wds_fuel f g m _ (by omega) (by omega)
          simp only [e,e2]
    · rw [if_neg h,if_neg h]
theorem plloop6 {s:ByteArray}(hs:s.size≤16777216)(l1 l2:List ByteArray)(i1 i3:Int):∀ (f i:Nat),s.size - i < f →
    match plain s f i with
    | some k=>iterO stp_L6_14 f (s,l1,i1,l2,(i:Int),i3)=some (.inl (s,l1,i1,l2,(k:Int),i3))
    | none=>∃ j,iterO stp_L6_14 f (s,l1,i1,l2,(i:Int),i3)=some (.inr (s,[],6,l2,j,i3))
  | 0,i,hf=>absurd hf (Nat.not_lt_zero _)
  | f+1,i,hf=>by
    have ei:((i:Int)).toNat=i:=rfl
    unfold plain
    by_cases h:i < s.size
    · by_cases h1:bt s i=32
      · rw [if_neg (fun e=>e.2.1 h1)]
        refine it_end ?_
        unfold stp_L6_14 step_L6_14
        simp only [ei,btf]
        rw [cdt (by omega),cdt (by omega),cdt (by omega),cnf h1]
      by_cases h2:bt s i=9
      · rw [if_neg (fun e=>e.2.2 h2)]
        refine it_end ?_
        unfold stp_L6_14 step_L6_14
        simp only [ei,btf]
        rw [cdt (by omega),cdt (by omega),cdt (by omega),cnt h1,cdt (by omega),cdt (by omega),cnf h2]
      rw [if_pos ⟨h,h1,h2⟩]
      by_cases h3:bt s i=34
      · rw [if_pos h3]
        refine ⟨(i:Int),it_end ?_⟩
        unfold stp_L6_14 step_L6_14
        simp only [ei,btf]
        rw [cdt (by omega),cdt (by omega),cdt (by omega),cnt h1,cdt (by omega),cdt (by omega),cnt h2,cdt (by omega),cdt (by omega),cet h3]
      · rw [if_neg h3]
        have hst:stp_L6_14 (s,l1,i1,l2,(i:Int),i3)=some (.inl (s,l1,i1,l2,((i+1:Nat):Int),i3)):=by
          unfold stp_L6_14 step_L6_14
          simp only [ei,btf]
          rw [cdt (by omega),cdt (by omega),cdt (by omega),cnt h1,cdt (by omega),cdt (by omega),cnt h2,cdt (by omega),cdt (by omega),cef h3,w64_ok (by omega) (by omega)]
          simp
        rw [it_go hst]
        exact plloop6 hs l1 l2 i1 i3 f (i+1) (by omega)
    · rw [if_neg (fun e=>h e.1)]
      refine it_end ?_
      unfold stp_L6_14 step_L6_14
      simp only []
      rw [cdf (by omega)]
theorem pl_eq6 {s:ByteArray}(hs:s.size≤16777216)(l1 l2:List ByteArray)(i1 i3:Int)(i:Nat) :
    match plain s (s.size+1) i with
    | some k=>L6_14 s l1 i1 l2 (i:Int) i3=some (.inl (s,l1,i1,l2,(k:Int),i3))
    | none=>∃ j,L6_14 s l1 i1 l2 (i:Int) i3=some (.inr (s,[],6,l2,j,i3)):=by
  have h:=plloop6 hs l1 l2 i1 i3 (((s.size:Int) - (i:Int)).toNat+2) i (by omega)
  rw [plain_fuel _ (s.size+1) i (by omega) (by omega)] at h
  exact h
theorem plloop7 {s:ByteArray}(hs:s.size≤16777216)(l1 l2:List ByteArray)(i1 i3:Int):∀ (f i:Nat),s.size - i < f →
    match plain s f i with
    | some k=>iterO stp_L7_14 f (s,l1,i1,l2,(i:Int),i3)=some (.inl (s,l1,i1,l2,(k:Int),i3))
    | none=>∃ j,iterO stp_L7_14 f (s,l1,i1,l2,(i:Int),i3)=some (.inr (s,[],6,l2,j,i3))
  | 0,i,hf=>absurd hf (Nat.not_lt_zero _)
  | f+1,i,hf=>by
    have ei:((i:Int)).toNat=i:=rfl
    unfold plain
    by_cases h:i < s.size
    · by_cases h1:bt s i=32
      · rw [if_neg (fun e=>e.2.1 h1)]
        refine it_end ?_
        unfold stp_L7_14 step_L7_14
        simp only [ei,btf]
        rw [cdt (by omega),cdt (by omega),cdt (by omega),cnf h1]
      by_cases h2:bt s i=9
      · rw [if_neg (fun e=>e.2.2 h2)]
        refine it_end ?_
        unfold stp_L7_14 step_L7_14
        simp only [ei,btf]
        rw [cdt (by omega),cdt (by omega),cdt (by omega),cnt h1,cdt (by omega),cdt (by omega),cnf h2]
      rw [if_pos ⟨h,h1,h2⟩]
      by_cases h3:bt s i=34
      · rw [if_pos h3]
        refine ⟨(i:Int),it_end ?_⟩
        unfold stp_L7_14 step_L7_14
        simp only [ei,btf]
        rw [cdt (by omega),cdt (by omega),cdt (by omega),cnt h1,cdt (by omega),cdt (by omega),cnt h2,cdt (by omega),cdt (by omega),cet h3]
      · rw [if_neg h3]
        have hst:stp_L7_14 (s,l1,i1,l2,(i:Int),i3)=some (.inl (s,l1,i1,l2,((i+1:Nat):Int),i3)):=by
          unfold stp_L7_14 step_L7_14
          simp only [ei,btf]
          rw [cdt (by omega),cdt (by omega),cdt (by omega),cnt h1,cdt (by omega),cdt (by omega),cnt h2,cdt (by omega),cdt (by omega),cef h3,w64_ok (by omega) (by omega)]
          simp
        rw [it_go hst]
        exact plloop7 hs l1 l2 i1 i3 f (i+1) (by omega)
    · rw [if_neg (fun e=>h e.1)]
      refine it_end ?_
      unfold stp_L7_14 step_L7_14
      simp only []
      rw [cdf (by omega)]
theorem pl_eq7 {s:ByteArray}(hs:s.size≤16777216)(l1 l2:List ByteArray)(i1 i3:Int)(i:Nat) :
    match plain s (s.size+1) i with
    | some k=>L7_14 s l1 i1 l2 (i:Int) i3=some (.inl (s,l1,i1,l2,(k:Int),i3))
    | none=>∃ j,L7_14 s l1 i1 l2 (i:Int) i3=some (.inr (s,[],6,l2,j,i3)):=by
  have h:=plloop7 hs l1 l2 i1 i3 (((s.size:Int) - (i:Int)).toNat+2) i (by omega)
  rw [plain_fuel _ (s.size+1) i (by omega) (by omega)] at h
  exact h
def wE (o:Option (List ByteArray))(r:(List ByteArray×Int×List ByteArray)⊕(List ByteArray×Int×List ByteArray)):Prop:=match o with
  | some w=>∃ l i,r=.inl (l,i,w)
  | none=>∃ x,r=.inr ([],6,x)
theorem wloop {s:ByteArray}(hs:s.size≤16777216)(l1:List ByteArray)(i1:Int):∀ (f i:Nat) (l:List ByteArray),s.size - i < f→l.length+(s.size - i)≤1073741824 →
    ∃ r,iterO stp_L6_3 f (s,l1,i1,l,(i:Int))=some r∧wE (wds s f i l) r
  | 0,i,l,hf,_=>absurd hf (Nat.not_lt_zero _)
  | f+1,i,l,hf,ha=>by
    have ei:((i:Int)).toNat=i:=rfl
    have es:((s.size:Int)).toNat=s.size:=rfl
    unfold wds
    by_cases h:i < s.size
    · rw [if_pos h]
      have w1:w64 ((i:Int)+1)=((i+1:Nat):Int):=w64_ok (by omega) (by omega)
      have ei1:(((i+1:Nat):Int)).toNat=i+1:=rfl
      by_cases h1:bt s i=32
      · rw [if_pos (.inl h1)]
        have hst:stp_L6_3 (s,l1,i1,l,(i:Int))=some (.inl (s,l1,i1,l,((i+1:Nat):Int))):=by
          unfold stp_L6_3 step_L6_3
          simp only [ei,btf,w1]
          rw [cdt (by omega),cdt (by omega),cdt (by omega),cet h1]
        rw [it_go hst]
        exact wloop hs l1 i1 f (i+1) l (by omega) (by omega)
      by_cases h2:bt s i=9
      · rw [if_pos (.inr h2)]
        have hst:stp_L6_3 (s,l1,i1,l,(i:Int))=some (.inl (s,l1,i1,l,((i+1:Nat):Int))):=by
          unfold stp_L6_3 step_L6_3
          simp only [ei,btf,w1]
          rw [cdt (by omega),cdt (by omega),cdt (by omega),cef h1,cdt (by omega),cdt (by omega),cet h2]
        rw [it_go hst]
        exact wloop hs l1 i1 f (i+1) l (by omega) (by omega)
      rw [if_neg (by omega)]
      by_cases h3:bt s i=35
      · rw [if_pos h3]
        refine ⟨.inl (l1,i1,l),it_end ?_,_,_,rfl⟩
        unfold stp_L6_3 step_L6_3
        simp only [ei,btf,w1]
        rw [cdt (by omega),cdt (by omega),cdt (by omega),cef h1,cdt (by omega),cdt (by omega),cef h2,cdt (by omega),cdt (by omega),cet h3]
      rw [if_neg h3]
      by_cases h4:bt s i=34
      · rw [if_pos h4]
        have hsz:(s.extract (i+1) s.size).size=s.size - (i+1):=size_cut (Nat.le_refl _)
        have hq:=quoted_eq (s:=s.extract (i+1) s.size) (by omega)
        rw [unq_cut (by omega),Nat.add_zero,unq_fuel _ (s.size+1) (i+1) [] (by omega) (by omega)] at hq
        cases hu:unq s (s.size+1) (i+1) [] with
        | none =>
          rw [hu] at hq
          refine ⟨.inr ([],6,l),it_end ?_,_,rfl⟩
          unfold stp_L6_3 step_L6_3
          simp only [ei,es,ei1,btf,w1]
          rw [cdt (by omega),cdt (by omega),cdt (by omega),cef h1,cdt (by omega),cdt (by omega),cef h2,cdt (by omega),cdt (by omega),cef h3,cdt (by omega),cdt (by omega),cet h4,cdt (by omega),cdt (by omega),cdt (by omega),hq]
          rfl
        | some p =>
          obtain ⟨w,k⟩:=p
          rw [hu] at hq
          have hk:=unq_end hu
          have hq:quoted (s.extract (i+1) s.size)=some (strOfInts w,((k - (i+1):Nat):Int),true):=hq
          have wk:w64 ((i:Int)+w64 (1+((k - (i+1):Nat):Int)))=(k:Int):=by
            rw [w64_ok (n:=1+((k - (i+1):Nat):Int)) (by omega) (by omega),w64_ok (by omega) (by omega)]
            omega
          have ek:((k:Int)).toNat=k:=rfl
          have hpre:stp_L6_3 (s,l1,i1,l,(i:Int))=cond (decide ((k:Int) < (s.size:Int))) (cond (bt s k != 32) (cond (bt s k != 9) (some (.inr (.inr ([],6,l)))) (some (.inl (s,l1,i1,l++[strOfInts w],(k:Int))))) (some (.inl (s,l1,i1,l++[strOfInts w],(k:Int))))) (some (.inl (s,l1,i1,l++[strOfInts w],(k:Int)))):=by
            unfold stp_L6_3 step_L6_3
            simp only [ei,es,ei1,btf,w1]
            rw [cdt (by omega),cdt (by omega),cdt (by omega),cef h1,cdt (by omega),cdt (by omega),cef h2,cdt (by omega),cdt (by omega),cef h3,cdt (by omega),cdt (by omega),cet h4,cdt (by omega),cdt (by omega),cdt (by omega),hq]
            simp only [ob,Bool.not_true,cond_false,wk,ek]
            by_cases hks:k < s.size
            · rw [cdt (by omega),cdt (by omega),cdt (by omega),cdt (by omega),cdt (by omega),cdt (by omega),cft (by simp;omega)]
            · rw [cdf (by omega),cdf (by omega),cft (by simp;omega)]
          by_cases hks:k < s.size
          · rw [cdt (by omega)] at hpre
            by_cases x1:bt s k=32
            · rw [cnf x1] at hpre
              simp only []
              rw [it_go hpre,if_neg (fun e=>e.2.1 x1)]
              exact wloop hs l1 i1 f k _ (by omega) (by simp only [List.length_append,List.length_singleton];omega)
            rw [cnt x1] at hpre
            by_cases x2:bt s k=9
            · rw [cnf x2] at hpre
              simp only []
              rw [it_go hpre,if_neg (fun e=>e.2.2 x2)]
              exact wloop hs l1 i1 f k _ (by omega) (by simp only [List.length_append,List.length_singleton];omega)
            rw [cnt x2] at hpre
            simp only []
            rw [if_pos ⟨hks,x1,x2⟩]
            exact ⟨_,it_end hpre,_,rfl⟩
          · rw [cdf (by omega)] at hpre
            simp only []
            rw [it_go hpre,if_neg (fun e=>hks e.1)]
            exact wloop hs l1 i1 f k _ (by omega) (by simp only [List.length_append,List.length_singleton];omega)
      · rw [if_neg h4]
        have hp:=pl_eq6 hs l1 l i1 (i:Int) i
        have hpre:stp_L6_3 (s,l1,i1,l,(i:Int))=ob (L6_14 s l1 i1 l (i:Int) (i:Int)) fun y1=>two y1 (fun a2=>cond (decide (0≤a2.2.2.2.2.2)) (cond (decide (a2.2.2.2.2.2≤a2.2.2.2.2.1)) (cond (decide (a2.2.2.2.2.1≤(a2.1.size:Int))) (cond (fits ((a2.2.2.2.1++[(a2.1.extract a2.2.2.2.2.2.toNat a2.2.2.2.2.1.toNat)]).length)) (some (.inl (a2.1,a2.2.1,a2.2.2.1,(a2.2.2.2.1++[(a2.1.extract a2.2.2.2.2.2.toNat a2.2.2.2.2.1.toNat)]),a2.2.2.2.2.1))) none) none) none) none) (fun b3=>some (.inr (.inr (b3.2.1,b3.2.2.1,b3.2.2.2.1)))):=by
          unfold stp_L6_3 step_L6_3
          simp only [ei,es,btf]
          rw [cdt (by omega),cdt (by omega),cdt (by omega),cef h1,cdt (by omega),cdt (by omega),cef h2,cdt (by omega),cdt (by omega),cef h3,cdt (by omega),cdt (by omega),cef h4]
        cases hpl:plain s (s.size+1) i with
        | none =>
          rw [hpl] at hp
          obtain ⟨j,hp⟩:=hp
          rw [hp] at hpre
          exact ⟨_,it_end hpre,_,rfl⟩
        | some k =>
          rw [hpl] at hp
          have hk:=plain_go h h1 h2 hpl
          have hp:L6_14 s l1 i1 l (i:Int) (i:Int)=_:=hp
          rw [hp] at hpre
          simp only [ob,two] at hpre
          have ek:((k:Int)).toNat=k:=rfl
          rw [cdt (by omega),cdt (by omega),cdt (by omega),cft (by simp;omega),ei,ek] at hpre
          rw [it_go hpre]
          exact wloop hs l1 i1 f k _ (by omega) (by simp only [List.length_append,List.length_singleton];omega)
    · rw [if_neg h]
      refine ⟨.inl (l1,i1,l),it_end ?_,_,_,rfl⟩
      unfold stp_L6_3 step_L6_3
      simp only []
      rw [cdf (by omega)]
/-- what both answer -/
def wA (o:Option (List ByteArray)):List ByteArray×Int:=match o with | some w=>(w,0) | none=>([],6)
theorem words_eq {s:ByteArray}(hs:s.size≤16777216):words s=some (wA (wds s (s.size+1) 0 [])):=by
  obtain ⟨r,h1,h2⟩:=wloop hs [] 0 (((s.size:Int) - 0).toNat+2) 0 [] (by omega) (by simp;omega)
  have h1:L6_3 s [] 0 [] 0=some r:=h1
  rw [wds_fuel _ (s.size+1) 0 [] (by omega) (by omega)] at h2
  unfold words
  rw [h1]
  cases hw:wds s (s.size+1) 0 [] with
  | none=>rw [hw] at h2;obtain ⟨x,rfl⟩:=h2;rfl
  | some w=>rw [hw] at h2;obtain ⟨l,i,rfl⟩:=h2;rfl
end Go.Proofs.YtciofnpmlgbdaaaGreatDoor
