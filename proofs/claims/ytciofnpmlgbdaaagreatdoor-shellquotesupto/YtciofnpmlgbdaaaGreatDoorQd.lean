/- Quoted words, by the document, on typed data. -/
import Derived.Test.YtciofnpmlgbdaaaGreatDoorQc
namespace Go.Proofs.YtciofnpmlgbdaaaGreatDoor
open Go Go.Ev Go.Shell
theorem rdstep {s:ByteArray}(hs:s.size≤16777216)(s2:ByteArray)(i2:Int){i:Nat}{acc:List Int}(h:i < s.size)(h2:bt s i≠34)(ha:acc.length+1≤1073741824) :
    stp_L12_3 (s,(i:Int),s2,i2,acc)=match esc s i with
      | some p=>some (.inl (s,((i+p.2:Nat):Int),s2,i2,acc++[p.1]))
      | none=>some (.inr (.inr (s,(i:Int),s_empty,-1,acc))):=by
  have e0:((i:Int)).toNat=i:=rfl
  have e1:((i:Int)+1).toNat=i+1:=rfl
  have e2:((i:Int)+2).toNat=i+2:=rfl
  have e3:((i:Int)+3).toNat=i+3:=rfl
  have k0:=bt_bound s i
  have k1:=bt_bound s (i+1)
  have k2:=bt_bound s (i+2)
  have k3:=bt_bound s (i+3)
  have w1:w64 ((i:Int)+1)=(i:Int)+1:=w64_ok (by omega) (by omega)
  have w2:w64 ((i:Int)+2)=(i:Int)+2:=w64_ok (by omega) (by omega)
  have w3:w64 ((i:Int)+3)=(i:Int)+3:=w64_ok (by omega) (by omega)
  have w4:w64 ((i:Int)+2+2)=(i:Int)+2+2:=w64_ok (by omega) (by omega)
  unfold stp_L12_3 step_L12_3 esc
  simp only [w1,w2,w3,w4,e0,e1,e2,e3,btf]
  rw [cdt (by omega),cdt (by omega),cdt (by omega),cnt h2,cdt (by omega),cdt (by omega)]
  by_cases a1:bt s i=92
  · rw [cnf a1,if_neg (by omega)]
    by_cases a2:s.size≤i+1
    · rw [cdt (by omega),if_pos a2]
    rw [cdf (by omega),if_neg a2,cdt (by omega),cdt (by omega)]
    by_cases a3:bt s (i+1)=92∨bt s (i+1)=34
    · have hc:(cond (bt s (i+1) == 92) (bt s (i+1) == 92) (bt s (i+1) == 34))=true:=by
        rcases a3 with h | h
        · rw [cet h];exact beq_iff_eq.2 h
        · rw [cef (by omega)];exact beq_iff_eq.2 h
      rw [hc,cond_true,cdt (by omega),cdt (by omega),if_pos a3,cft (by simp;omega)]
      simp
    have hc:(cond (bt s (i+1) == 92) (bt s (i+1) == 92) (bt s (i+1) == 34))=false:=by
      rw [cef (by omega)];exact beq_eq_false_iff_ne.2 (by omega)
    rw [hc,cond_false,if_neg a3]
    by_cases a4:bt s (i+1)=110
    · rw [cet a4,if_pos a4,cft (by simp;omega)];simp
    rw [cef a4,if_neg a4]
    by_cases a5:bt s (i+1)=116
    · rw [cet a5,if_pos a5,cft (by simp;omega)];simp
    rw [cef a5,if_neg a5]
    by_cases a6:bt s (i+1)=120
    · rw [cet a6,if_pos a6]
      by_cases a7:s.size≤i+3
      · rw [cdt (by omega),if_pos a7]
      have x2:=hexv_bound (bt s (i+2))
      have x3:=hexv_bound (bt s (i+3))
      rw [cdf (by omega),if_neg a7,cdt (by omega),cdt (by omega),rhex_eq k2.1 k2.2]
      simp only [ob]
      by_cases a8:hexv (bt s (i+2)) < 0
      · rw [cdt a8,if_pos (.inl a8)]
      rw [cdf a8,cdt (by omega),cdt (by omega),rhex_eq k3.1 k3.2]
      simp only []
      by_cases a9:hexv (bt s (i+3)) < 0
      · rw [cdt a9,if_pos (.inr a9)]
      rw [cdf a9,if_neg (by omega),cdt (by omega),cdt (by omega),cdt (by omega),cdt (by omega),w64_ok (n:=16 * hexv (bt s (i+2))) (by omega) (by omega),w64_ok (by omega) (by omega),bw8 (by omega) (by omega),cft (by simp;omega)]
      simp
      omega
    · rw [cef a6,if_neg a6]
  · rw [cnt a1,if_pos a1,cdt (by omega),cdt (by omega),cft (by simp;omega)]
    simp
abbrev RQ:=ByteArray×Int×ByteArray×Int×List Int
/-- how the document's loop ends -/
def rqE (s s2:ByteArray)(i2:Int)(o:Option (List Int×Nat))(r:RQ⊕RQ):Prop:=match o with
  | some p=>r=.inl (s,(p.2:Int) - 1,s2,i2,p.1)
  | none=>(∃ (j:Int) (a:List Int),r=.inl (s,j,s2,i2,a)∧(s.size:Int)≤j)∨∃ (j:Int) (a:List Int),r=.inr (s,j,s_empty,-1,a)
theorem rdloop {s:ByteArray}(hs:s.size≤16777216)(s2:ByteArray)(i2:Int):∀ (f i:Nat) (acc:List Int),s.size - i < f→acc.length+(s.size - i)≤1073741824 →
    ∃ r,iterO stp_L12_3 f (s,(i:Int),s2,i2,acc)=some r∧rqE s s2 i2 (unq s f i acc) r
  | 0,i,acc,hf,_=>absurd hf (Nat.not_lt_zero _)
  | f+1,i,acc,hf,ha=>by
    have ei:((i:Int)).toNat=i:=rfl
    unfold unq
    by_cases h:i < s.size
    · rw [if_pos h]
      by_cases h2:bt s i=34
      · rw [if_pos h2]
        refine ⟨_,it_end (y:=.inl (s,(i:Int),s2,i2,acc)) ?_,?_⟩
        · unfold stp_L12_3 step_L12_3
          simp only [ei,btf]
          rw [cdt (by omega),cdt (by omega),cdt (by omega),cnf h2]
        · simp only [rqE]
          rw [show (((i+1:Nat):Int) - 1)=(i:Int) from by omega]
      · rw [if_neg h2]
        have hst:=rdstep hs s2 i2 (acc:=acc) h h2 (by omega)
        cases he:esc s i with
        | none =>
          rw [he] at hst
          exact ⟨_,it_end hst,.inr ⟨_,_,rfl⟩⟩
        | some p =>
          obtain ⟨b,n⟩:=p
          have hn:=esc_pos he
          have hle:=esc_le h he
          rw [he] at hst
          rw [it_go hst]
          exact rdloop hs s2 i2 f (i+n) (acc++[b]) (by omega) (by simp only [List.length_append,List.length_singleton];omega)
    · rw [if_neg h]
      refine ⟨_,it_end (y:=.inl (s,(i:Int),s2,i2,acc)) ?_,.inl ⟨_,_,rfl,by omega⟩⟩
      unfold stp_L12_3 step_L12_3
      simp only []
      rw [cdf (by omega)]
theorem rquoted_eq {s:ByteArray}(hs:s.size≤16777216){i:Nat}(hi:i < s.size):rquoted s (i:Int)=some (match unq s (s.size+1) (i+1) [] with | some p=>(strOfInts p.1,(p.2:Int)) | none=>(s_empty,-1)):=by
  have w1:w64 ((i:Int)+1)=((i+1:Nat):Int):=w64_ok (by omega) (by omega)
  have hfu:∃ f,L12_3 s ((i+1:Nat):Int) s_empty 0 []=iterO stp_L12_3 f (s,((i+1:Nat):Int),s_empty,0,[])∧s.size - (i+1) < f:=⟨_,rfl,by omega⟩
  obtain ⟨f,hf,hlt⟩:=hfu
  obtain ⟨r,h1,h2⟩:=rdloop hs s_empty 0 f (i+1) [] hlt (by simp;omega)
  rw [unq_fuel f (s.size+1) (i+1) [] hlt (by omega)] at h2
  unfold rquoted
  rw [w1,hf,h1]
  cases hu:unq s (s.size+1) (i+1) [] with
  | some p =>
    rw [hu] at h2
    have he:=unq_end (w:=p.1) (k:=p.2) hu
    have h2:r=.inl (s,(p.2:Int) - 1,s_empty,0,p.1):=h2
    subst h2
    simp only [ob,two]
    rw [cdf (by omega),w64_ok (by omega) (by omega)]
    simp
  | none =>
    rw [hu] at h2
    rcases h2 with ⟨j,a,rfl,hj⟩ | ⟨j,a,rfl⟩
    · simp only [ob,two]
      rw [cdt hj]
    · rfl
end Go.Proofs.YtciofnpmlgbdaaaGreatDoor
