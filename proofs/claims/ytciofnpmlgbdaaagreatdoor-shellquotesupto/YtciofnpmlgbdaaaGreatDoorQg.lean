/- The law ShellQuotes, on typed data. -/
import Derived.Test.YtciofnpmlgbdaaaGreatDoorQf
namespace Go.Proofs.YtciofnpmlgbdaaaGreatDoor
open Go Go.Ev Go.Shell
def item (b:List Int):List Int:=32::(qt b++[9])
def Bytes (b:List Int):Prop:=(∀ c∈b,0≤c∧c < 256)∧b.length≤1048576
theorem bl20:bl s__20=[32]:=by decide +kernel
theorem bl9:bl s__9=[9]:=by decide +kernel
theorem bl23:bl s__23=[35]:=by decide +kernel
theorem size_app (a b:ByteArray):(a++b).size=a.size+b.size:=ByteArray.size_append
theorem lqloop {l:List (List Int)}(hb:∀ b∈l,Bytes b)(hl:l.length≤1073741824)(t:ByteArray):∀ (rest pre:List (List Int)) (acc:ByteArray) (f:Nat),l=pre++rest→rest.length < f→bl acc=pre.flatMap item→acc.size≤4300000 →
    ∃ (pre' rest':List (List Int)) (acc':ByteArray),l=pre'++rest'∧iterO stp_L4_6 f (l,t,false,acc,(pre.length:Int),(pre.length:Int))=some (l,t,false,acc',(pre'.length:Int))∧bl acc'=pre'.flatMap item∧acc'.size≤4300000
  | [],pre,acc,f,hp,hf,ha,hs=>by
    match f,hf with
    | f+1,_ =>
      refine ⟨pre,[],acc,hp,it_end ?_,ha,hs⟩
      unfold stp_L4_6 step_L4_6
      simp only []
      rw [show (cond (decide ((pre.length:Int) < (l.length:Int))) (cond (decide ((pre.length:Int) < 20)) (decide ((acc.size:Int) < 16384)) false) false)=false from by rw [cdf (by rw [hp];simp)],cond_false]
  | e::rest,pre,acc,f,hp,hf,ha,hs=>by
    match f,hf with
    | f+1,hf =>
      simp only [List.length_cons] at hf
      have hlen:l.length=pre.length+(rest.length+1):=by rw [hp];simp
      have hbe:=hb e (by rw [hp];simp)
      have hq:=qt_len e
      have hbl:=hbe.2
      by_cases hc:pre.length < 20∧acc.size < 16384
      · have hg:l[((pre.length:Int)).toNat]?=some e:=by rw [hp];simp
        have z1:s__20.size=1:=rfl
        have z2:s__9.size=1:=rfl
        have z3:=size_ints (qt e)
        have hst:stp_L4_6 (l,t,false,acc,(pre.length:Int),(pre.length:Int))=some (.inl (l,t,false,((acc++s__20)++strOfInts (qt e))++s__9,((pre++[e]).length:Int),((pre++[e]).length:Int))):=by
          unfold stp_L4_6 step_L4_6
          simp only [hg,ob]
          rw [show (cond (decide ((pre.length:Int) < (l.length:Int))) (cond (decide ((pre.length:Int) < 20)) (decide ((acc.size:Int) < 16384)) false) false)=true from by rw [cdt (by omega),cdt (by omega)];exact decide_eq_true (by omega),cond_true]
          rw [quote_eq hbe.1 hbe.2,cft (by omega),cdt (by omega)]
          simp only [size_app]
          rw [cft (by omega),cft (by omega),w64_ok (by omega) (by omega)]
          simp
        rw [it_go hst]
        refine lqloop hb hl t rest (pre++[e]) _ f (by rw [hp];simp) (by omega) ?_ ?_
        · rw [bl_append,bl_append,bl_append,bl20,bl9,bl_ints (qt_byte hbe.1),ha]
          simp [item]
        · simp only [size_app];omega
      · refine ⟨pre,e::rest,acc,hp,it_end ?_,ha,hs⟩
        unfold stp_L4_6 step_L4_6
        simp only []
        rw [show (cond (decide ((pre.length:Int) < (l.length:Int))) (cond (decide ((pre.length:Int) < 20)) (decide ((acc.size:Int) < 16384)) false) false)=false from by
          rw [cdt (by omega)]
          by_cases h:pre.length < 20
          · rw [cdt (by omega)];exact decide_eq_false (by omega)
          · rw [cdf (by omega)],cond_false]
theorem same_back {l:List (List Int)}(l2:List ByteArray):∀ (rest pre:List (List Int)) (tail:List (List Int)) (f:Nat),l=pre++(rest++tail)→l2=(pre++rest).map strOfInts→(pre++rest).length≤1073741824→rest.length < f →
    iterO stp_L4_14 f (l,false,((pre++rest).length:Int),l2,(pre.length:Int))=some (.inl false)
  | [],pre,tail,f,hp,h2,hn,hf=>by
    match f,hf with
    | f+1,_ =>
      refine it_end ?_
      unfold stp_L4_14 step_L4_14
      simp only []
      rw [cdf (by simp)]
  | e::rest,pre,tail,f,hp,h2,hn,hf=>by
    match f,hf with
    | f+1,hf =>
      simp only [List.length_cons] at hf
      have hlen:(pre++e::rest).length=pre.length+(rest.length+1):=by simp
      have g1:l[((pre.length:Int)).toNat]?=some e:=by rw [hp];simp
      have g2:l2[((pre.length:Int)).toNat]?=some (strOfInts e):=by rw [h2];simp
      have hst:stp_L4_14 (l,false,((pre++e::rest).length:Int),l2,(pre.length:Int))=some (.inl (l,false,((pre++e::rest).length:Int),l2,((pre++[e]).length:Int))):=by
        unfold stp_L4_14 step_L4_14
        simp only [g1,g2,ob]
        rw [cdt (by omega),cdt (by omega),cdt (by omega),sEq_self,w64_ok (by omega) (by omega)]
        simp
      rw [it_go hst]
      have:=same_back (l:=l) l2 rest (pre++[e]) tail f (by rw [hp];simp) (by rw [h2];simp) (by simpa using hn) (by omega)
      rw [List.append_assoc,List.singleton_append] at this
      exact this
/-- THE LAW ShellQuotes, on typed data. -/
theorem shellQuotes_true {l:List (List Int)}(hb:∀ b∈l,Bytes b)(hl:l.length≤1048576){t:ByteArray}(ht:t.size≤1048576):shellQuotes l t=some true:=by
  obtain ⟨pre,rest,acc,hp,h1,h2,h3⟩:=lqloop hb (by omega) t l [] s_empty (((l.length:Int) - 0).toNat+2) rfl (by omega) (by decide +kernel) (by decide +kernel)
  have h1:L4_6 l t false s_empty 0 0=some (l,t,false,acc,(pre.length:Int)):=h1
  have z:s__23.size=1:=rfl
  unfold shellQuotes known
  simp only [ob,Bool.not_true,cond_false,h1]
  rw [cft (by omega)]
  rw [cft (by rw [size_app];omega)]
  have hbl:bl (acc++s__23++t)=pre.flatMap (fun l=>32::(qt l++[9]))++35::bl t:=by
    rw [bl_append,bl_append,bl23,h2]
    simp only [List.append_assoc,List.singleton_append]
    rfl
  have hsz:(acc++s__23++t).size≤16777216:=by rw [size_app,size_app];omega
  have hpl:3 * pre.length < (acc++s__23++t).size+1:=by
    have hi:∀ p:List (List Int),3 * p.length≤(p.flatMap (fun l=>32::(qt l++[9]))).length:=by
      intro p
      induction p with
      | nil=>simp
      | cons b p ih =>
        have hb2:2≤(qt b).length:=by simp [qt]
        simp only [List.flatMap_cons,List.length_append,List.length_cons,List.length_nil];omega
    have:=hi pre
    have e:=congrArg List.length hbl
    rw [bl_len] at e
    simp only [List.length_append,List.length_cons] at e
    omega
  have hw:=wds_qt pre (fun b hb' c hc=>(hb b (by rw [hp];simp [hb'])).1 c hc) ((acc++s__23++t).size+1) 0 [] (bl t) hpl (by rw [List.drop_zero];exact hbl)
  rw [words_eq hsz,hw]
  simp only [wA,List.nil_append,List.length_map]
  rw [show (cond ((0:Int) != 0) true ((pre.length:Int) != (pre.length:Int)))=false from by rw [cnf rfl];exact bne_self_eq_false _,cond_false]
  have hpn:pre.length≤l.length:=by rw [hp];simp
  have h14:L4_14 l false (pre.length:Int) (pre.map strOfInts) 0=some (.inl false):=by
    have:=same_back (l:=l) (pre.map strOfInts) pre [] rest (((pre.length:Int) - 0).toNat+2) (by rw [hp];simp) (by simp) (by simp;omega) (by omega)
    exact this
  rw [h14]
  rfl
end Go.Proofs.YtciofnpmlgbdaaaGreatDoor
