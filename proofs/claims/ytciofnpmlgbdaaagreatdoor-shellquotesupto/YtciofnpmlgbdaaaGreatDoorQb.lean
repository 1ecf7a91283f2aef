/- What is quoted, by the document, on typed data. -/
import Derived.Test.YtciofnpmlgbdaaaGreatDoorQa
namespace Go.Proofs.YtciofnpmlgbdaaaGreatDoor
open Go Go.Ev Go.Shell
theorem rqstep {acc l:List Int}{i e:Int}(hi:0≤i)(hin:i < (l.length:Int))(hn:(l.length:Int) < 9223372036854775807)(he:l[i.toNat]?=some e)(h0:0≤e)(h1:e < 256)(hl:acc.length+4≤1073741824) :
    stp_L9_4 (l,s_0123456789abcdef,acc,i)=some (.inl (l,s_0123456789abcdef,acc++qb e,i+1)):=by
  have hw:w64 (i+1)=i+1:=w64_ok (by omega) (by omega)
  unfold stp_L9_4 step_L9_4 qb
  simp only [cdt hin,cdt hi,he,ob,hw]
  by_cases a1:e=92∨e=34
  · have hc:(cond (e == 92) true (e == 34))=true:=by
      rcases a1 with h | h
      · rw [cet h]
      · rw [cef (by omega)];exact beq_iff_eq.2 h
    rw [hc,cond_true,cft (by simp;omega),if_pos a1]
  have hc:(cond (e == 92) true (e == 34))=false:=by
    rw [cef (by omega)];exact beq_eq_false_iff_ne.2 (by omega)
  rw [hc,cond_false,if_neg a1]
  by_cases a3:e=10
  · rw [cet a3,cft (by simp;omega),if_pos a3]
  rw [cef a3,if_neg a3]
  by_cases a4:e=9
  · rw [cet a4,cft (by simp;omega),if_pos a4]
  rw [cef a4,if_neg a4]
  have g1:=hx_at (n:=e / 16) (by omega) (by omega)
  have g2:=hx_at (n:=e % 16) (by omega) (by omega)
  by_cases a5:e < 32∨e > 126
  · have hc:(cond (decide (e < 32)) true (decide (e > 126)))=true:=by
      rcases a5 with h | h
      · rw [cdt h]
      · rw [cdf (by omega)];exact decide_eq_true h
    rw [hc,cond_true,if_pos a5,andI_15 h0 h1,size16,cdt (by omega),cdt (by omega),cdt (by omega),cdt (by omega),cft (by simp;omega),btf,btf,g1,g2]
  · have hc:(cond (decide (e < 32)) true (decide (e > 126)))=false:=by
      rw [cdf (by omega)];exact decide_eq_false (by omega)
    rw [hc,cond_false,if_neg a5,cft (by simp;omega)]
theorem rqloop {l:List Int}(hb:∀ c∈l,0≤c∧c < 256)(hl:l.length≤1048576):∀ (rest pre:List Int) (acc:List Int) (f:Nat),l=pre++rest→rest.length < f→acc.length+4 * rest.length+4≤1073741824 →
    iterO stp_L9_4 f (l,s_0123456789abcdef,acc,(pre.length:Int))=some (acc++rest.flatMap qb)
  | [],pre,acc,f,hp,hf,ha=>by
    match f,hf with
    | f+1,_ =>
      refine it_end ?_
      unfold stp_L9_4 step_L9_4
      simp only []
      rw [cdf (by rw [hp];simp)]
      simp
  | e::rest,pre,acc,f,hp,hf,ha=>by
    match f,hf with
    | f+1,hf =>
      simp only [List.length_cons] at hf ha
      have hlen:l.length=pre.length+(rest.length+1):=by rw [hp];simp
      have he:=hb e (by rw [hp];simp)
      rw [it_go (rqstep (e:=e) (by omega) (by omega) (by omega) (by rw [hp];simp) he.1 he.2 (by omega))]
      have hq:=qb_len e
      have:=rqloop hb hl rest (pre++[e]) (acc++qb e) f (by rw [hp];simp) (by omega) (by simp only [List.length_append];omega)
      rw [List.length_append,List.length_singleton,Int.natCast_add,Int.natCast_one] at this
      rw [this];simp
theorem rquote_eq {l:List Int}(hb:∀ c∈l,0≤c∧c < 256)(hl:l.length≤1048576):rquote l=some (strOfInts (qt l)):=by
  have h:=rqloop hb hl l [] [34] (((l.length:Int) - 0).toNat+2) rfl (by omega) (by simp;omega)
  have h:L9_4 l s_0123456789abcdef [34] 0=some ([34]++l.flatMap qb):=h
  unfold rquote
  rw [h]
  have hq:=qt_len l
  have e:[34]++l.flatMap qb++[34]=qt l:=rfl
  simp only [ob]
  rw [e,cft (by omega)]
theorem bw8 {n:Int}(h0:0≤n)(h1:n < 256):IntKind.u8.wrap n=n:=by
  unfold IntKind.wrap
  simp [IntKind.bits,IntKind.signed]
  omega
theorem rhex_eq {c:Int}(h0:0≤c)(h1:c < 256):rhex c=some (hexv c):=by
  unfold rhex hexv
  by_cases a1:48≤c∧c≤57
  · rw [if_pos a1,show (cond (decide (c≥48)) (decide (c≤57)) false)=true from by rw [cdt a1.1];exact decide_eq_true a1.2,cond_true,bw8 (by omega) (by omega),w64_ok (by omega) (by omega)]
  rw [if_neg a1,show (cond (decide (c≥48)) (decide (c≤57)) false)=false from by
    by_cases h:c≥48
    · rw [cdt h];exact decide_eq_false (by omega)
    · rw [cdf h],cond_false]
  by_cases a2:97≤c∧c≤102
  · rw [if_pos a2,show (cond (decide (c≥97)) (decide (c≤102)) false)=true from by rw [cdt a2.1];exact decide_eq_true a2.2,cond_true,bw8 (by omega) (by omega),w64_ok (n:=c - 97) (by omega) (by omega),w64_ok (by omega) (by omega)]
  rw [if_neg a2,show (cond (decide (c≥97)) (decide (c≤102)) false)=false from by
    by_cases h:c≥97
    · rw [cdt h];exact decide_eq_false (by omega)
    · rw [cdf h],cond_false]
theorem index_eq {c:Int}(h0:0≤c)(h1:c < 256):indexByte s_0123456789abcdef c=some (hexv c):=by
  unfold indexByte
  rw [← index_hex h0 h1];rfl
end Go.Proofs.YtciofnpmlgbdaaaGreatDoor
