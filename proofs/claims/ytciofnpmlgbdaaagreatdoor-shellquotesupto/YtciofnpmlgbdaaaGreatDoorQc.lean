/- Quoted words, on typed data. -/
import Derived.Test.YtciofnpmlgbdaaaGreatDoorQb
namespace Go.Proofs.YtciofnpmlgbdaaaGreatDoor
open Go Go.Ev Go.Shell
theorem unq_fuel {s:ByteArray}:∀ (f g i:Nat) (acc:List Int),s.size - i < f→s.size - i < g→unq s f i acc=unq s g i acc
  | 0,g,i,acc,h,_=>absurd h (Nat.not_lt_zero _)
  | f+1,0,i,acc,_,h=>absurd h (Nat.not_lt_zero _)
  | f+1,g+1,i,acc,hf,hg=>by
    unfold unq
    by_cases h:i < s.size
    · rw [if_pos h,if_pos h]
      cases he:esc s i with
      | none=>rfl
      | some p =>
        obtain ⟨b,n⟩:=p
        have hn:=esc_pos he
        have e:unq s f (i+n) (acc++[b])=unq s g (i+n) (acc++[b]):=unq_fuel f g (i+n) (acc++[b]) (by omega) (by omega)
        simp only [e]
    · rw [if_neg h,if_neg h]
/-- as the program answers -/
def escR (o:Option (Int×Nat)):Int×Int:=match o with | some p=>(p.1,(p.2:Int)) | none=>(0,0)
theorem escape_eq {s:ByteArray}(h:0 < s.size):escape s=some (escR (esc s 0)):=by
  have e0:(0:Int).toNat=0:=rfl
  have e1:(1:Int).toNat=1:=rfl
  have e2:(2:Int).toNat=2:=rfl
  have e3:(3:Int).toNat=3:=rfl
  have k0:=bt_bound s 0
  have k1:=bt_bound s 1
  have k2:=bt_bound s 2
  have k3:=bt_bound s 3
  unfold escape esc
  simp only [e0,e1,e2,e3,btf,Nat.zero_add]
  rw [cdt (by omega),cdt (by omega)]
  by_cases a1:bt s 0=92
  · rw [cnf a1,if_neg (by omega)]
    by_cases a2:s.size≤1
    · rw [cdt (by omega),if_pos a2];rfl
    rw [cdf (by omega),if_neg a2,cdt (by omega),cdt (by omega)]
    by_cases a3:bt s 1=92∨bt s 1=34
    · have hc:(cond (bt s 1 == 92) (bt s 1 == 92) (bt s 1 == 34))=true:=by
        rcases a3 with h | h
        · rw [cet h];exact beq_iff_eq.2 h
        · rw [cef (by omega)];exact beq_iff_eq.2 h
      rw [hc,cond_true,cdt (by omega),cdt (by omega),if_pos a3];rfl
    have hc:(cond (bt s 1 == 92) (bt s 1 == 92) (bt s 1 == 34))=false:=by
      rw [cef (by omega)];exact beq_eq_false_iff_ne.2 (by omega)
    rw [hc,cond_false,if_neg a3]
    by_cases a4:bt s 1=110
    · rw [cet a4,if_pos a4];rfl
    rw [cef a4,if_neg a4]
    by_cases a5:bt s 1=116
    · rw [cet a5,if_pos a5];rfl
    rw [cef a5,if_neg a5]
    by_cases a6:bt s 1=120
    · rw [cet a6,if_pos a6]
      by_cases a7:s.size≤3
      · rw [cdt (by omega),if_pos a7];rfl
      have x2:=hexv_bound (bt s 2)
      have x3:=hexv_bound (bt s 3)
      rw [cdf (by omega),if_neg a7,cdt (by omega),cdt (by omega),index_eq k2.1 k2.2]
      simp only [ob]
      rw [cdt (by omega),cdt (by omega),index_eq k3.1 k3.2]
      simp only []
      by_cases a8:hexv (bt s 2) < 0∨hexv (bt s 3) < 0
      · have hc:(cond (decide (hexv (bt s 2)≥0)) (decide (hexv (bt s 3)≥0)) false)=false:=by
          by_cases h:hexv (bt s 2)≥0
          · rw [cdt h];exact decide_eq_false (by omega)
          · rw [cdf h]
        rw [hc,cond_false,if_pos a8];rfl
      · have hc:(cond (decide (hexv (bt s 2)≥0)) (decide (hexv (bt s 3)≥0)) false)=true:=by
          rw [cdt (by omega)];exact decide_eq_true (by omega)
        rw [hc,cond_true,if_neg a8,w64_ok (n:=16 * hexv (bt s 2)) (by omega) (by omega),w64_ok (by omega) (by omega),bw8 (by omega) (by omega)];rfl
    · rw [cef a6,if_neg a6];rfl
  · rw [cnt a1,if_pos a1,cdt (by omega),cdt (by omega)];rfl
def unqR (s2:ByteArray)(i1:Int)(b1:Bool)(o:Option (List Int×Nat)):(ByteArray×Int×Bool)⊕(ByteArray×Int×Bool):=match o with
  | some p=>.inr (strOfInts p.1,(p.2:Int),true)
  | none=>.inl (s2,i1,b1)
theorem qdloop {s:ByteArray}(hs:s.size≤16777216)(s2:ByteArray)(i1:Int)(b1:Bool):∀ (f i:Nat) (acc:List Int),s.size - i < f→acc.length+(s.size - i)≤1073741824 →
    iterO stp_L11_3 f (s,s2,i1,b1,acc,(i:Int))=some (unqR s2 i1 b1 (unq s f i acc))
  | 0,i,acc,hf,_=>absurd hf (Nat.not_lt_zero _)
  | f+1,i,acc,hf,ha=>by
    have ei:((i:Int)).toNat=i:=rfl
    have es:((s.size:Int)).toNat=s.size:=rfl
    unfold unq
    by_cases h:i < s.size
    · rw [if_pos h]
      by_cases h2:bt s i=34
      · rw [if_pos h2]
        refine it_end ?_
        unfold stp_L11_3 step_L11_3
        simp only [ei,btf]
        rw [cdt (by omega),cdt (by omega),cdt (by omega),cet h2,w64_ok (by omega) (by omega)]
        simp [unqR]
      · rw [if_neg h2]
        have hcut:esc (s.extract i s.size) 0=esc s i:=esc_cut (by omega)
        have hsz:(s.extract i s.size).size=s.size - i:=size_cut (Nat.le_refl _)
        cases he:esc s i with
        | none =>
          refine it_end ?_
          unfold stp_L11_3 step_L11_3
          simp only [ei,es,btf]
          rw [cdt (by omega),cdt (by omega),cdt (by omega),cef h2,cdt (by omega),cdt (by omega),cdt (by omega),escape_eq (by omega),hcut,he]
          rfl
        | some p =>
          obtain ⟨b,n⟩:=p
          have hn:=esc_pos he
          have hle:=esc_le h he
          have hst:stp_L11_3 (s,s2,i1,b1,acc,(i:Int))=some (.inl (s,s2,i1,b1,acc++[b],((i+n:Nat):Int))):=by
            unfold stp_L11_3 step_L11_3
            simp only [ei,es,btf]
            rw [cdt (by omega),cdt (by omega),cdt (by omega),cef h2,cdt (by omega),cdt (by omega),cdt (by omega),escape_eq (by omega),hcut,he]
            simp only [ob,escR]
            rw [cef (by omega),cft (by simp;omega),w64_ok (by omega) (by omega)]
            simp
          rw [it_go hst,qdloop hs s2 i1 b1 f (i+n) (acc++[b]) (by omega) (by simp only [List.length_append,List.length_singleton];omega)]
    · rw [if_neg h]
      refine it_end ?_
      unfold stp_L11_3 step_L11_3
      simp only []
      rw [cdf (by omega)]
      rfl
theorem quoted_eq {s:ByteArray}(hs:s.size≤16777216):quoted s=some (match unq s (s.size+2) 0 [] with | some p=>(strOfInts p.1,(p.2:Int),true) | none=>(s_empty,0,false)):=by
  have h:=qdloop hs s_empty 0 false (((s.size:Int) - 0).toNat+2) 0 [] (by omega) (by simp;omega)
  have e:((s.size:Int) - 0).toNat+2=s.size+2:=by omega
  rw [e] at h
  have h:L11_3 s s_empty 0 false [] 0=some (unqR s_empty 0 false (unq s (s.size+2) 0 [])):=by
    unfold L11_3
    rw [e];exact h
  unfold quoted
  rw [h]
  cases unq s (s.size+2) 0 [] with
  | none=>rfl
  | some p=>rfl
end Go.Proofs.YtciofnpmlgbdaaaGreatDoor
