/- By program (gen.py): the functions in their typed form. -/
import Derived.Test.YthhfjodcgibhfaaGreatFn
import Derived.Test.YthhfjodcgibhfaaGreatLb
namespace Go.Proofs.YthhfjodcgibhfaaGreat
open Go Go.Ev
set_option maxRecDepth 1000000


/-- cmp.Compare[int] -/
def cmpInt (i1 : Int) (i2 : Int) : Option (Int) :=
  cond ((i1 != i1))
    (cond ((i2 != i2))
      (some 0)
      (some (-1)))
    (cond ((i2 != i2))
      (some 1)
      (cond ((decide (i1 < i2)))
        (some (-1))
        (cond ((decide (i1 > i2)))
          (some 1)
          (some 0))))
def un_cmpInt (p : Int × Int) : Option (Int) := cmpInt p.1 p.2
noncomputable def df_cmpInt : DFn TL := DFn.of (DA.cons (DT.one (DI.int .i64)) (DA.one (DT.one (DI.int .i64)))) un_cmpInt (DA.one (DT.one (DI.int .i64)))
noncomputable def cs_cmpInt : List (Nat × DFn TL) := []
noncomputable def ss_cmpInt : List (Nat × SFn TL) := []
noncomputable def env_cmpInt : Env := envOf tab sl sh [(118, fd118), (144, fd144)] []
theorem env_cmpInt_ok : EnvOK Tryz.prog (mkD cs_cmpInt ss_cmpInt) env_cmpInt := envOK_of base (all_cons (st118.okl rfl (all_nil)) (all_cons (st144.okl rfl (all_nil)) (all_nil))) (all_nil)
theorem run_cmpInt (x : Int × Int) : Out.run (mkO cs_cmpInt ss_cmpInt) (evOrc env_cmpInt 12 20 118 ((DA.cons (DT.one (DI.int .i64)) (DA.one (DT.one (DI.int .i64))) : DA TL (Int × Int)).enc x)) (DA.one (DT.one (DI.int .i64)) : DA TL (Int)).dec = un_cmpInt x := by kernel_rfl
theorem ok_cmpInt : DOK Tryz.prog 118 .pure df_cmpInt := data_of env_cmpInt_ok (loops := 12) (n := 20) (.inr rfl) st118.enters (DA.cons (DT.one (DI.int .i64)) (DA.one (DT.one (DI.int .i64)))) un_cmpInt (DA.one (DT.one (DI.int .i64))) run_cmpInt
/-- cmp.Compare[string] -/
def cmpStr (s1 : ByteArray) (s2 : ByteArray) : Option (Int) :=
  cond ((!sEq s1 s1))
    (cond ((!sEq s2 s2))
      (some 0)
      (some (-1)))
    (cond ((!sEq s2 s2))
      (some 1)
      (cond ((sLt s1 s2))
        (some (-1))
        (cond ((!(sLt s1 s2 || sEq s1 s2)))
          (some 1)
          (some 0))))
def un_cmpStr (p : ByteArray × ByteArray) : Option (Int) := cmpStr p.1 p.2
noncomputable def df_cmpStr : DFn TL := DFn.of (DA.cons (DT.one DI.str) (DA.one (DT.one DI.str))) un_cmpStr (DA.one (DT.one (DI.int .i64)))
noncomputable def cs_cmpStr : List (Nat × DFn TL) := []
noncomputable def ss_cmpStr : List (Nat × SFn TL) := []
noncomputable def env_cmpStr : Env := envOf tab sl sh [(94, fd94), (121, fd121)] []
theorem env_cmpStr_ok : EnvOK Tryz.prog (mkD cs_cmpStr ss_cmpStr) env_cmpStr := envOK_of base (all_cons (st94.okl rfl (all_nil)) (all_cons (st121.okl rfl (all_nil)) (all_nil))) (all_nil)
theorem run_cmpStr (x : ByteArray × ByteArray) : Out.run (mkO cs_cmpStr ss_cmpStr) (evOrc env_cmpStr 12 20 94 ((DA.cons (DT.one DI.str) (DA.one (DT.one DI.str)) : DA TL (ByteArray × ByteArray)).enc x)) (DA.one (DT.one (DI.int .i64)) : DA TL (Int)).dec = un_cmpStr x := by kernel_rfl
theorem ok_cmpStr : DOK Tryz.prog 94 .pure df_cmpStr := data_of env_cmpStr_ok (loops := 12) (n := 20) (.inr rfl) st94.enters (DA.cons (DT.one DI.str) (DA.one (DT.one DI.str))) un_cmpStr (DA.one (DT.one (DI.int .i64))) run_cmpStr
/-- a loop of cmp.Or[int] -/
def step_L93_3 (i1 : Int) (i2 : Int) (l1 : List Int) (i3 : Int) (i4 : Int) : Option ((Int × Int × (List Int) × Int × Int) ⊕ (((Int × Int) ⊕ (Int × Int)))) :=
  cond ((decide (i4 < i3)))
    (cond (decide (0 ≤ i4))
      (ob (l1[i4.toNat]?) fun e0 =>
      cond ((e0 != i2))
        (some (.inr (.inr (e0, i2))))
        (some (.inl (i1, i2, l1, i3, (w64 (i4 + 1))))))
      (none))
    (some (.inr (.inl (i1, i2))))
def stp_L93_3 (p : Int × Int × (List Int) × Int × Int) : Option ((Int × Int × (List Int) × Int × Int) ⊕ (((Int × Int) ⊕ (Int × Int)))) := step_L93_3 p.1 p.2.1 p.2.2.1 p.2.2.2.1 p.2.2.2.2
def L93_3 (i1 : Int) (i2 : Int) (l1 : List Int) (i3 : Int) (i4 : Int) : Option (((Int × Int) ⊕ (Int × Int))) := iterO stp_L93_3 ((i3 - i4).toNat + 2) (i1, i2, l1, i3, i4)
def ch_L93_3 : Cod (Cst TL) (Int × Int × (List Int) × Int × Int) := Cod.iso (Cod.cst 0 (Cod.cons (Cod.xs (Cod.sc (Cod.im (Cod.int .i64)))) (Cod.cons (Cod.xs (Cod.sc (Cod.im (Cod.int .i64)))) (Cod.cons (Cod.xs (Cod.sc (Cod.im (Cod.fz j_lInt)))) (Cod.cons (Cod.xs (Cod.sc (Cod.im (Cod.int .i64)))) (Cod.cons (Cod.xs (Cod.sc (Cod.im (Cod.int .i64)))) (Cod.nil)))))) (Cod.nil)) (fun p => (p.1.1, p.1.2.1, p.1.2.2.1, p.1.2.2.2.1, p.1.2.2.2.2.1)) (fun (x : Int × Int × (List Int) × Int × Int) => ((x.1, (x.2.1, (x.2.2.1, (x.2.2.2.1, (x.2.2.2.2, ()))))), ())) (fun _ => rfl)
def co0_L93_3 : Cod (Cst TL) (Int × Int) := Cod.iso (Cod.cst 0 (Cod.cons (Cod.xs (Cod.sc (Cod.im (Cod.int .i64)))) (Cod.cons (Cod.xs (Cod.sc (Cod.im (Cod.int .i64)))) (Cod.nil))) (Cod.nil)) (fun p => (p.1.1, p.1.2.1)) (fun (x : Int × Int) => ((x.1, (x.2, ())), ())) (fun _ => rfl)
def co1_L93_3 : Cod (Cst TL) (Int × Int) := Cod.iso (Cod.cst 0 (Cod.cons (Cod.xs (Cod.sc (Cod.im (Cod.int .i64)))) (Cod.cons (Cod.xs (Cod.sc (Cod.im (Cod.int .i64)))) (Cod.nil))) (Cod.nil)) (fun p => (p.1.1, p.1.2.1)) (fun (x : Int × Int) => ((x.1, (x.2, ())), ())) (fun _ => rfl)
noncomputable def sl_L93_3 : SFn TL := SFn.two ch_L93_3.dec (fun p => L93_3 p.1 p.2.1 p.2.2.1 p.2.2.2.1 p.2.2.2.2) (.exit 0) .ret co0_L93_3.enc co1_L93_3.enc
noncomputable def cs_lL93_3 : List (Nat × DFn TL) := []
noncomputable def ss_lL93_3 : List (Nat × SFn TL) := []
noncomputable def env_lL93_3 : Env := envOf tab sl sh [] []
theorem env_lL93_3_ok : EnvOK Tryz.prog (mkD cs_lL93_3 ss_lL93_3) env_lL93_3 := envOK_of base (all_nil) (all_nil)
theorem run_L93_3 (x : Int × Int × (List Int) × Int × Int) : Out.run (mkO cs_lL93_3 ss_lL93_3) (evRound env_lL93_3 12 20 fd93.an q_L93_3 (loopIn (loopsOf fd93.body) 3) (ch_L93_3.enc x)) (back2 ch_L93_3 co0_L93_3 co1_L93_3 (.exit 0) .ret) = stp_L93_3 x := by kernel_rfl
theorem ok_L93_3 : LoopOK Tryz.prog (oneS sl_L93_3) nt93 q_L93_3 (loopIn (loopsOf fd93.body) 3) :=
  loop_two env_lL93_3_ok (loops := 12) (k := 20) (an := fd93.an) (by kernel_rfl) (FnSt.subl rfl st93.keys (all_cons (.inl (by kernel_rfl)) (all_nil))) ch_L93_3 co0_L93_3 co1_L93_3 (.exit 0) .ret rfl rfl stp_L93_3 _ run_L93_3 (fun x y h => ⟨_, h⟩) (fun _ => below_iff.1 rfl)
/-- cmp.Or[int] -/
def cmpOr (l1 : List Int) : Option (Int) :=
  ob (L93_3 0 0 l1 (l1.length : Int) 0) fun y0 =>
  two y0 (fun a1 =>
    some a1.2) (fun b2 =>
    some b2.1)
def un_cmpOr (p : (List Int)) : Option (Int) := cmpOr p
noncomputable def df_cmpOr : DFn TL := DFn.of (DA.one (DT.one di_lInt)) un_cmpOr (DA.one (DT.one (DI.int .i64)))
noncomputable def cs_cmpOr : List (Nat × DFn TL) := []
noncomputable def ss_cmpOr : List (Nat × SFn TL) := [(193003, sl_L93_3)]
noncomputable def env_cmpOr : Env := envOf tab sl sh [(93, fd93)] []
theorem env_cmpOr_ok : EnvOK Tryz.prog (mkD cs_cmpOr ss_cmpOr) env_cmpOr := envOK_of base (all_cons (st93.okl rfl (all_cons (LoopOK.cast ok_L93_3 rfl) (all_nil))) (all_nil)) (all_nil)
theorem run_cmpOr (x : (List Int)) : Out.run (mkO cs_cmpOr ss_cmpOr) (evOrc env_cmpOr 12 20 93 ((DA.one (DT.one di_lInt) : DA TL ((List Int))).enc x)) (DA.one (DT.one (DI.int .i64)) : DA TL (Int)).dec = un_cmpOr x := by kernel_rfl
theorem ok_cmpOr : DOK Tryz.prog 93 .pure df_cmpOr := data_of env_cmpOr_ok (loops := 12) (n := 20) (.inr rfl) st93.enters (DA.one (DT.one di_lInt)) un_cmpOr (DA.one (DT.one (DI.int .i64))) run_cmpOr
/-- cmp.Less[int] -/
def lessInt (i1 : Int) (i2 : Int) : Option (Bool) :=
  some (cond (i1 != i1) (cond (!(i2 != i2)) true (decide (i1 < i2))) (decide (i1 < i2)))
def un_lessInt (p : Int × Int) : Option (Bool) := lessInt p.1 p.2
noncomputable def df_lessInt : DFn TL := DFn.of (DA.cons (DT.one (DI.int .i64)) (DA.one (DT.one (DI.int .i64)))) un_lessInt (DA.one (DT.one DI.bool))
noncomputable def cs_lessInt : List (Nat × DFn TL) := []
noncomputable def ss_lessInt : List (Nat × SFn TL) := []
noncomputable def env_lessInt : Env := envOf tab sl sh [(136, fd136), (144, fd144)] []
theorem env_lessInt_ok : EnvOK Tryz.prog (mkD cs_lessInt ss_lessInt) env_lessInt := envOK_of base (all_cons (st136.okl rfl (all_nil)) (all_cons (st144.okl rfl (all_nil)) (all_nil))) (all_nil)
theorem run_lessInt (x : Int × Int) : Out.run (mkO cs_lessInt ss_lessInt) (evOrc env_lessInt 12 20 136 ((DA.cons (DT.one (DI.int .i64)) (DA.one (DT.one (DI.int .i64))) : DA TL (Int × Int)).enc x)) (DA.one (DT.one DI.bool) : DA TL (Bool)).dec = un_lessInt x := by kernel_rfl
theorem ok_lessInt : DOK Tryz.prog 136 .pure df_lessInt := data_of env_lessInt_ok (loops := 12) (n := 20) (.inr rfl) st136.enters (DA.cons (DT.one (DI.int .i64)) (DA.one (DT.one (DI.int .i64)))) un_lessInt (DA.one (DT.one DI.bool)) run_lessInt
/-- slices.isNaN[int] -/
def isNaNInt (i1 : Int) : Option (Bool) :=
  some (i1 != i1)
def un_isNaNInt (p : Int) : Option (Bool) := isNaNInt p
noncomputable def df_isNaNInt : DFn TL := DFn.of (DA.one (DT.one (DI.int .i64))) un_isNaNInt (DA.one (DT.one DI.bool))
noncomputable def cs_isNaNInt : List (Nat × DFn TL) := []
noncomputable def ss_isNaNInt : List (Nat × SFn TL) := []
noncomputable def env_isNaNInt : Env := envOf tab sl sh [(137, fd137)] []
theorem env_isNaNInt_ok : EnvOK Tryz.prog (mkD cs_isNaNInt ss_isNaNInt) env_isNaNInt := envOK_of base (all_cons (st137.okl rfl (all_nil)) (all_nil)) (all_nil)
theorem run_isNaNInt (x : Int) : Out.run (mkO cs_isNaNInt ss_isNaNInt) (evOrc env_isNaNInt 12 20 137 ((DA.one (DT.one (DI.int .i64)) : DA TL (Int)).enc x)) (DA.one (DT.one DI.bool) : DA TL (Bool)).dec = un_isNaNInt x := by kernel_rfl
theorem ok_isNaNInt : DOK Tryz.prog 137 .pure df_isNaNInt := data_of env_isNaNInt_ok (loops := 12) (n := 20) (.inr rfl) st137.enters (DA.one (DT.one (DI.int .i64))) un_isNaNInt (DA.one (DT.one DI.bool)) run_isNaNInt
/-- ops.within -/
def opsWithin (i1 : Int) (i2 : Int) (i3 : Int) : Option (Bool) :=
  some (cond (decide (i1 ≥ i2)) (decide (i1 ≤ i3)) false)
def un_opsWithin (p : Int × Int × Int) : Option (Bool) := opsWithin p.1 p.2.1 p.2.2
noncomputable def df_opsWithin : DFn TL := DFn.of (DA.cons (DT.one (DI.int .i64)) (DA.cons (DT.one (DI.int .i64)) (DA.one (DT.one (DI.int .i64))))) un_opsWithin (DA.one (DT.one DI.bool))
noncomputable def cs_opsWithin : List (Nat × DFn TL) := []
noncomputable def ss_opsWithin : List (Nat × SFn TL) := []
noncomputable def env_opsWithin : Env := envOf tab sl sh [(72, fd72)] []
theorem env_opsWithin_ok : EnvOK Tryz.prog (mkD cs_opsWithin ss_opsWithin) env_opsWithin := envOK_of base (all_cons (st72.okl rfl (all_nil)) (all_nil)) (all_nil)
theorem run_opsWithin (x : Int × Int × Int) : Out.run (mkO cs_opsWithin ss_opsWithin) (evOrc env_opsWithin 12 20 72 ((DA.cons (DT.one (DI.int .i64)) (DA.cons (DT.one (DI.int .i64)) (DA.one (DT.one (DI.int .i64)))) : DA TL (Int × Int × Int)).enc x)) (DA.one (DT.one DI.bool) : DA TL (Bool)).dec = un_opsWithin x := by kernel_rfl
theorem ok_opsWithin : DOK Tryz.prog 72 .pure df_opsWithin := data_of env_opsWithin_ok (loops := 12) (n := 20) (.inr rfl) st72.enters (DA.cons (DT.one (DI.int .i64)) (DA.cons (DT.one (DI.int .i64)) (DA.one (DT.one (DI.int .i64))))) un_opsWithin (DA.one (DT.one DI.bool)) run_opsWithin
/-- a loop of ops.text -/
def step_L73_2 (s1 : ByteArray) (b1 : Bool) (i1 : Int) (i2 : Int) : Option ((ByteArray × Bool × Int × Int) ⊕ (((ByteArray × Bool) ⊕ (ByteArray × Bool)))) :=
  cond ((decide (i2 < i1)))
    (cond (decide (0 ≤ i2))
      (cond (decide (i2 < (s1.size : Int)))
        (cond ((decide (((s1[(i2 : Int).toNat]?.getD 0).toNat : Int) < 32)))
          (some (.inr (.inr (s1, false))))
          (cond (decide (0 ≤ i2))
            (cond (decide (i2 < (s1.size : Int)))
              (cond ((((s1[(i2 : Int).toNat]?.getD 0).toNat : Int) == 127))
                (some (.inr (.inr (s1, false))))
                (some (.inl (s1, b1, i1, (w64 (i2 + 1))))))
              (none))
            (none)))
        (none))
      (none))
    (some (.inr (.inl (s1, b1))))
def stp_L73_2 (p : ByteArray × Bool × Int × Int) : Option ((ByteArray × Bool × Int × Int) ⊕ (((ByteArray × Bool) ⊕ (ByteArray × Bool)))) := step_L73_2 p.1 p.2.1 p.2.2.1 p.2.2.2
def L73_2 (s1 : ByteArray) (b1 : Bool) (i1 : Int) (i2 : Int) : Option (((ByteArray × Bool) ⊕ (ByteArray × Bool))) := iterO stp_L73_2 ((i1 - i2).toNat + 2) (s1, b1, i1, i2)
def ch_L73_2 : Cod (Cst TL) (ByteArray × Bool × Int × Int) := Cod.iso (Cod.cst 0 (Cod.cons (Cod.xs (Cod.sc (Cod.im Cod.str))) (Cod.cons (Cod.xs (Cod.sc (Cod.im Cod.bool))) (Cod.cons (Cod.xs (Cod.sc (Cod.im (Cod.int .i64)))) (Cod.cons (Cod.xs (Cod.sc (Cod.im (Cod.int .i64)))) (Cod.nil))))) (Cod.nil)) (fun p => (p.1.1, p.1.2.1, p.1.2.2.1, p.1.2.2.2.1)) (fun (x : ByteArray × Bool × Int × Int) => ((x.1, (x.2.1, (x.2.2.1, (x.2.2.2, ())))), ())) (fun _ => rfl)
def co0_L73_2 : Cod (Cst TL) (ByteArray × Bool) := Cod.iso (Cod.cst 0 (Cod.cons (Cod.xs (Cod.sc (Cod.im Cod.str))) (Cod.cons (Cod.xs (Cod.sc (Cod.im Cod.bool))) (Cod.nil))) (Cod.nil)) (fun p => (p.1.1, p.1.2.1)) (fun (x : ByteArray × Bool) => ((x.1, (x.2, ())), ())) (fun _ => rfl)
def co1_L73_2 : Cod (Cst TL) (ByteArray × Bool) := Cod.iso (Cod.cst 0 (Cod.cons (Cod.xs (Cod.sc (Cod.im Cod.str))) (Cod.cons (Cod.xs (Cod.sc (Cod.im Cod.bool))) (Cod.nil))) (Cod.nil)) (fun p => (p.1.1, p.1.2.1)) (fun (x : ByteArray × Bool) => ((x.1, (x.2, ())), ())) (fun _ => rfl)
noncomputable def sl_L73_2 : SFn TL := SFn.two ch_L73_2.dec (fun p => L73_2 p.1 p.2.1 p.2.2.1 p.2.2.2) (.exit 0) .ret co0_L73_2.enc co1_L73_2.enc
noncomputable def cs_lL73_2 : List (Nat × DFn TL) := []
noncomputable def ss_lL73_2 : List (Nat × SFn TL) := []
noncomputable def env_lL73_2 : Env := envOf tab sl sh [] []
theorem env_lL73_2_ok : EnvOK Tryz.prog (mkD cs_lL73_2 ss_lL73_2) env_lL73_2 := envOK_of base (all_nil) (all_nil)
theorem run_L73_2 (x : ByteArray × Bool × Int × Int) : Out.run (mkO cs_lL73_2 ss_lL73_2) (evRound env_lL73_2 12 20 fd73.an q_L73_2 (loopIn (loopsOf fd73.body) 2) (ch_L73_2.enc x)) (back2 ch_L73_2 co0_L73_2 co1_L73_2 (.exit 0) .ret) = stp_L73_2 x := by kernel_rfl
theorem ok_L73_2 : LoopOK Tryz.prog (oneS sl_L73_2) nt73 q_L73_2 (loopIn (loopsOf fd73.body) 2) :=
  loop_two env_lL73_2_ok (loops := 12) (k := 20) (an := fd73.an) (by kernel_rfl) (FnSt.subl rfl st73.keys (all_cons (.inl (by kernel_rfl)) (all_nil))) ch_L73_2 co0_L73_2 co1_L73_2 (.exit 0) .ret rfl rfl stp_L73_2 _ run_L73_2 (fun x y h => ⟨_, h⟩) (fun _ => below_iff.1 rfl)
/-- ops.text -/
def opsText (s1 : ByteArray) : Option (Bool) :=
  ob (L73_2 s1 false (s1.size : Int) 0) fun y0 =>
  two y0 (fun a1 =>
    some (decide ((a1.1.size : Int) ≤ 40))) (fun b2 =>
    some b2.2)
def un_opsText (p : ByteArray) : Option (Bool) := opsText p
noncomputable def df_opsText : DFn TL := DFn.of (DA.one (DT.one DI.str)) un_opsText (DA.one (DT.one DI.bool))
noncomputable def cs_opsText : List (Nat × DFn TL) := []
noncomputable def ss_opsText : List (Nat × SFn TL) := [(173002, sl_L73_2)]
noncomputable def env_opsText : Env := envOf tab sl sh [(73, fd73)] []
theorem env_opsText_ok : EnvOK Tryz.prog (mkD cs_opsText ss_opsText) env_opsText := envOK_of base (all_cons (st73.okl rfl (all_cons (LoopOK.cast ok_L73_2 rfl) (all_nil))) (all_nil)) (all_nil)
theorem run_opsText (x : ByteArray) : Out.run (mkO cs_opsText ss_opsText) (evOrc env_opsText 12 20 73 ((DA.one (DT.one DI.str) : DA TL (ByteArray)).enc x)) (DA.one (DT.one DI.bool) : DA TL (Bool)).dec = un_opsText x := by kernel_rfl
theorem ok_opsText : DOK Tryz.prog 73 .pure df_opsText := data_of env_opsText_ok (loops := 12) (n := 20) (.inr rfl) st73.enters (DA.one (DT.one DI.str)) un_opsText (DA.one (DT.one DI.bool)) run_opsText
/-- a loop of local.text -/
def step_L69_2 (s1 : ByteArray) (b1 : Bool) (i1 : Int) (i2 : Int) : Option ((ByteArray × Bool × Int × Int) ⊕ (((ByteArray × Bool) ⊕ (ByteArray × Bool)))) :=
  cond ((decide (i2 < i1)))
    (cond (decide (0 ≤ i2))
      (cond (decide (i2 < (s1.size : Int)))
        (cond ((decide (((s1[(i2 : Int).toNat]?.getD 0).toNat : Int) < 32)))
          (some (.inr (.inr (s1, false))))
          (cond (decide (0 ≤ i2))
            (cond (decide (i2 < (s1.size : Int)))
              (cond ((((s1[(i2 : Int).toNat]?.getD 0).toNat : Int) == 127))
                (some (.inr (.inr (s1, false))))
                (some (.inl (s1, b1, i1, (w64 (i2 + 1))))))
              (none))
            (none)))
        (none))
      (none))
    (some (.inr (.inl (s1, b1))))
def stp_L69_2 (p : ByteArray × Bool × Int × Int) : Option ((ByteArray × Bool × Int × Int) ⊕ (((ByteArray × Bool) ⊕ (ByteArray × Bool)))) := step_L69_2 p.1 p.2.1 p.2.2.1 p.2.2.2
def L69_2 (s1 : ByteArray) (b1 : Bool) (i1 : Int) (i2 : Int) : Option (((ByteArray × Bool) ⊕ (ByteArray × Bool))) := iterO stp_L69_2 ((i1 - i2).toNat + 2) (s1, b1, i1, i2)
def ch_L69_2 : Cod (Cst TL) (ByteArray × Bool × Int × Int) := Cod.iso (Cod.cst 0 (Cod.cons (Cod.xs (Cod.sc (Cod.im Cod.str))) (Cod.cons (Cod.xs (Cod.sc (Cod.im Cod.bool))) (Cod.cons (Cod.xs (Cod.sc (Cod.im (Cod.int .i64)))) (Cod.cons (Cod.xs (Cod.sc (Cod.im (Cod.int .i64)))) (Cod.nil))))) (Cod.nil)) (fun p => (p.1.1, p.1.2.1, p.1.2.2.1, p.1.2.2.2.1)) (fun (x : ByteArray × Bool × Int × Int) => ((x.1, (x.2.1, (x.2.2.1, (x.2.2.2, ())))), ())) (fun _ => rfl)
def co0_L69_2 : Cod (Cst TL) (ByteArray × Bool) := Cod.iso (Cod.cst 0 (Cod.cons (Cod.xs (Cod.sc (Cod.im Cod.str))) (Cod.cons (Cod.xs (Cod.sc (Cod.im Cod.bool))) (Cod.nil))) (Cod.nil)) (fun p => (p.1.1, p.1.2.1)) (fun (x : ByteArray × Bool) => ((x.1, (x.2, ())), ())) (fun _ => rfl)
def co1_L69_2 : Cod (Cst TL) (ByteArray × Bool) := Cod.iso (Cod.cst 0 (Cod.cons (Cod.xs (Cod.sc (Cod.im Cod.str))) (Cod.cons (Cod.xs (Cod.sc (Cod.im Cod.bool))) (Cod.nil))) (Cod.nil)) (fun p => (p.1.1, p.1.2.1)) (fun (x : ByteArray × Bool) => ((x.1, (x.2, ())), ())) (fun _ => rfl)
noncomputable def sl_L69_2 : SFn TL := SFn.two ch_L69_2.dec (fun p => L69_2 p.1 p.2.1 p.2.2.1 p.2.2.2) (.exit 0) .ret co0_L69_2.enc co1_L69_2.enc
noncomputable def cs_lL69_2 : List (Nat × DFn TL) := []
noncomputable def ss_lL69_2 : List (Nat × SFn TL) := []
noncomputable def env_lL69_2 : Env := envOf tab sl sh [] []
theorem env_lL69_2_ok : EnvOK Tryz.prog (mkD cs_lL69_2 ss_lL69_2) env_lL69_2 := envOK_of base (all_nil) (all_nil)
theorem run_L69_2 (x : ByteArray × Bool × Int × Int) : Out.run (mkO cs_lL69_2 ss_lL69_2) (evRound env_lL69_2 12 20 fd69.an q_L69_2 (loopIn (loopsOf fd69.body) 2) (ch_L69_2.enc x)) (back2 ch_L69_2 co0_L69_2 co1_L69_2 (.exit 0) .ret) = stp_L69_2 x := by kernel_rfl
theorem ok_L69_2 : LoopOK Tryz.prog (oneS sl_L69_2) nt69 q_L69_2 (loopIn (loopsOf fd69.body) 2) :=
  loop_two env_lL69_2_ok (loops := 12) (k := 20) (an := fd69.an) (by kernel_rfl) (FnSt.subl rfl st69.keys (all_cons (.inl (by kernel_rfl)) (all_nil))) ch_L69_2 co0_L69_2 co1_L69_2 (.exit 0) .ret rfl rfl stp_L69_2 _ run_L69_2 (fun x y h => ⟨_, h⟩) (fun _ => below_iff.1 rfl)
/-- local.text -/
def localText (s1 : ByteArray) : Option (Bool) :=
  ob (L69_2 s1 false (s1.size : Int) 0) fun y0 =>
  two y0 (fun a1 =>
    some (decide ((a1.1.size : Int) ≤ 40))) (fun b2 =>
    some b2.2)
def un_localText (p : ByteArray) : Option (Bool) := localText p
noncomputable def df_localText : DFn TL := DFn.of (DA.one (DT.one DI.str)) un_localText (DA.one (DT.one DI.bool))
noncomputable def cs_localText : List (Nat × DFn TL) := []
noncomputable def ss_localText : List (Nat × SFn TL) := [(169002, sl_L69_2)]
noncomputable def env_localText : Env := envOf tab sl sh [(69, fd69)] []
theorem env_localText_ok : EnvOK Tryz.prog (mkD cs_localText ss_localText) env_localText := envOK_of base (all_cons (st69.okl rfl (all_cons (LoopOK.cast ok_L69_2 rfl) (all_nil))) (all_nil)) (all_nil)
theorem run_localText (x : ByteArray) : Out.run (mkO cs_localText ss_localText) (evOrc env_localText 12 20 69 ((DA.one (DT.one DI.str) : DA TL (ByteArray)).enc x)) (DA.one (DT.one DI.bool) : DA TL (Bool)).dec = un_localText x := by kernel_rfl
theorem ok_localText : DOK Tryz.prog 69 .pure df_localText := data_of env_localText_ok (loops := 12) (n := 20) (.inr rfl) st69.enters (DA.one (DT.one DI.str)) un_localText (DA.one (DT.one DI.bool)) run_localText
/-- ops.before -/
def before (d1 : Dot) (d2 : Dot) : Option (Int) :=
  ob (cmpInt d1.device d2.device) fun r0 =>
  ob (cmpInt d1.epoch d2.epoch) fun r1 =>
  ob (cmpInt d1.seq d2.seq) fun r2 =>
  ob (cmpOr [r0, r1, r2]) fun r3 =>
  some r3
def un_before (p : Dot × Dot) : Option (Int) := before p.1 p.2
noncomputable def df_before : DFn TL := DFn.of (DA.cons (DT.agg dc_Dot) (DA.one (DT.agg dc_Dot))) un_before (DA.one (DT.one (DI.int .i64)))
noncomputable def cs_before : List (Nat × DFn TL) := [(118, df_cmpInt), (93, df_cmpOr)]
noncomputable def ss_before : List (Nat × SFn TL) := []
noncomputable def env_before : Env := envOf tab sl sh [(135, fd135)] [(118, .pure), (93, .pure)]
theorem env_before_ok : EnvOK Tryz.prog (mkD cs_before ss_before) env_before := envOK_of base (all_cons (st135.okl rfl (all_nil)) (all_nil)) (all_cons (okD rfl ok_cmpInt) (all_cons (okD rfl ok_cmpOr) (all_nil)))
theorem run_before (x : Dot × Dot) : Out.run (mkO cs_before ss_before) (evOrc env_before 12 20 135 ((DA.cons (DT.agg dc_Dot) (DA.one (DT.agg dc_Dot)) : DA TL (Dot × Dot)).enc x)) (DA.one (DT.one (DI.int .i64)) : DA TL (Int)).dec = un_before x := by kernel_rfl
theorem ok_before : DOK Tryz.prog 135 .pure df_before := data_of env_before_ok (loops := 12) (n := 20) (.inr rfl) st135.enters (DA.cons (DT.agg dc_Dot) (DA.one (DT.agg dc_Dot))) un_before (DA.one (DT.one (DI.int .i64))) run_before
/-- a loop of ops.dots -/
def step_L104_4 (l1 : List Dot) (i1 : Int) (i2 : Int) (i3 : Int) : Option (((List Dot) × Int × Int × Int) ⊕ (((Int) ⊕ (Int)))) :=
  cond ((decide (i3 < i2)))
    (cond ((decide (i3 > 0)))
      (cond (decide (0 ≤ (w64 (i3 - 1))))
        (ob (l1[((w64 (i3 - 1))).toNat]?) fun e0 =>
        cond (decide (0 ≤ i3))
          (ob (l1[i3.toNat]?) fun e1 =>
          ob (before e0 e1) fun r2 =>
          cond ((decide (r2 ≥ 0)))
            (some (.inr (.inr 10)))
            (some (.inl (l1, i1, i2, (w64 (i3 + 1))))))
          (none))
        (none))
      (some (.inl (l1, i1, i2, (w64 (i3 + 1))))))
    (some (.inr (.inl i1)))
def stp_L104_4 (p : (List Dot) × Int × Int × Int) : Option (((List Dot) × Int × Int × Int) ⊕ (((Int) ⊕ (Int)))) := step_L104_4 p.1 p.2.1 p.2.2.1 p.2.2.2
def L104_4 (l1 : List Dot) (i1 : Int) (i2 : Int) (i3 : Int) : Option (((Int) ⊕ (Int))) := iterO stp_L104_4 ((i2 - i3).toNat + 2) (l1, i1, i2, i3)
def ch_L104_4 : Cod (Cst TL) ((List Dot) × Int × Int × Int) := Cod.iso (Cod.cst 0 (Cod.cons (Cod.xs (Cod.sc (Cod.im (Cod.fz j_lDot)))) (Cod.cons (Cod.xs (Cod.sc (Cod.im (Cod.int .i64)))) (Cod.cons (Cod.xs (Cod.sc (Cod.im (Cod.int .i64)))) (Cod.cons (Cod.xs (Cod.sc (Cod.im (Cod.int .i64)))) (Cod.nil))))) (Cod.nil)) (fun p => (p.1.1, p.1.2.1, p.1.2.2.1, p.1.2.2.2.1)) (fun (x : (List Dot) × Int × Int × Int) => ((x.1, (x.2.1, (x.2.2.1, (x.2.2.2, ())))), ())) (fun _ => rfl)
def co0_L104_4 : Cod (Cst TL) (Int) := Cod.iso (Cod.cst 0 (Cod.cons (Cod.xs (Cod.sc (Cod.im (Cod.int .i64)))) (Cod.nil)) (Cod.nil)) (fun p => p.1.1) (fun (x : Int) => ((x, ()), ())) (fun _ => rfl)
def co1_L104_4 : Cod (Cst TL) (Int) := Cod.iso (Cod.cst 0 (Cod.cons (Cod.xs (Cod.sc (Cod.im (Cod.int .i64)))) (Cod.nil)) (Cod.nil)) (fun p => p.1.1) (fun (x : Int) => ((x, ()), ())) (fun _ => rfl)
noncomputable def sl_L104_4 : SFn TL := SFn.two ch_L104_4.dec (fun p => L104_4 p.1 p.2.1 p.2.2.1 p.2.2.2) (.exit 0) .ret co0_L104_4.enc co1_L104_4.enc
noncomputable def cs_lL104_4 : List (Nat × DFn TL) := [(135, df_before)]
noncomputable def ss_lL104_4 : List (Nat × SFn TL) := []
noncomputable def env_lL104_4 : Env := envOf tab sl sh [] [(135, .pure)]
theorem env_lL104_4_ok : EnvOK Tryz.prog (mkD cs_lL104_4 ss_lL104_4) env_lL104_4 := envOK_of base (all_nil) (all_cons (okD rfl ok_before) (all_nil))
theorem run_L104_4 (x : (List Dot) × Int × Int × Int) : Out.run (mkO cs_lL104_4 ss_lL104_4) (evRound env_lL104_4 12 20 fd104.an q_L104_4 (loopIn (loopsOf fd104.body) 4) (ch_L104_4.enc x)) (back2 ch_L104_4 co0_L104_4 co1_L104_4 (.exit 0) .ret) = stp_L104_4 x := by kernel_rfl
theorem ok_L104_4 : LoopOK Tryz.prog (oneS sl_L104_4) nt104 q_L104_4 (loopIn (loopsOf fd104.body) 4) :=
  loop_two env_lL104_4_ok (loops := 12) (k := 20) (an := fd104.an) (by kernel_rfl) (FnSt.subl rfl st104.keys (all_cons (.inl (by kernel_rfl)) (all_nil))) ch_L104_4 co0_L104_4 co1_L104_4 (.exit 0) .ret rfl rfl stp_L104_4 _ run_L104_4 (fun x y h => ⟨_, h⟩) (fun _ => below_iff.1 rfl)
/-- ops.dots -/
def opsDots (l1 : List Dot) : Option (Int) :=
  cond ((decide ((l1.length : Int) > 8)))
    (some 4)
    (ob (L104_4 l1 0 (l1.length : Int) 0) fun y0 =>
    two y0 (fun a1 =>
      some 0) (fun b2 =>
      some b2))
def un_opsDots (p : (List Dot)) : Option (Int) := opsDots p
noncomputable def df_opsDots : DFn TL := DFn.of (DA.one (DT.one di_lDot)) un_opsDots (DA.one (DT.one (DI.int .i64)))
noncomputable def cs_opsDots : List (Nat × DFn TL) := []
noncomputable def ss_opsDots : List (Nat × SFn TL) := [(204004, sl_L104_4)]
noncomputable def env_opsDots : Env := envOf tab sl sh [(104, fd104)] []
theorem env_opsDots_ok : EnvOK Tryz.prog (mkD cs_opsDots ss_opsDots) env_opsDots := envOK_of base (all_cons (st104.okl rfl (all_cons (LoopOK.cast ok_L104_4 rfl) (all_nil))) (all_nil)) (all_nil)
theorem run_opsDots (x : (List Dot)) : Out.run (mkO cs_opsDots ss_opsDots) (evOrc env_opsDots 12 20 104 ((DA.one (DT.one di_lDot) : DA TL ((List Dot))).enc x)) (DA.one (DT.one (DI.int .i64)) : DA TL (Int)).dec = un_opsDots x := by kernel_rfl
theorem ok_opsDots : DOK Tryz.prog 104 .pure df_opsDots := data_of env_opsDots_ok (loops := 12) (n := 20) (.inr rfl) st104.enters (DA.one (DT.one di_lDot)) un_opsDots (DA.one (DT.one (DI.int .i64))) run_opsDots
/-- ops.kind -/
def opsKind (o1 : Op) : Option (Int) :=
  cond ((o1.kind == 3))
    (cond ((!sEq o1.key s_empty))
      (ob (opsDots o1.dots) fun r0 =>
      some r0)
      (cond ((sEq o1.key s_empty))
        (some 1)
        (some 0)))
    (cond ((cond (o1.kind == 1) (o1.kind == 1) (o1.kind == 2)))
      (cond ((sEq o1.key s_empty))
        (some 1)
        (some 0))
      (cond ((o1.kind == 4))
        (cond ((sEq o1.key s_empty))
          (some 1)
          (cond ((o1.n == 0))
            (some 11)
            (ob (opsWithin o1.n (-1099511627776) 1099511627776) fun r1 =>
            cond ((!r1))
              (some 11)
              (some 0))))
        (cond ((o1.kind == 5))
          (ob (opsWithin o1.n 0 999) fun r2 =>
          cond ((!r2))
            (some 11)
            (some 0))
          (some 0))))
def un_opsKind (p : Op) : Option (Int) := opsKind p
noncomputable def df_opsKind : DFn TL := DFn.of (DA.one (DT.agg dc_Op)) un_opsKind (DA.one (DT.one (DI.int .i64)))
noncomputable def cs_opsKind : List (Nat × DFn TL) := [(104, df_opsDots), (72, df_opsWithin)]
noncomputable def ss_opsKind : List (Nat × SFn TL) := []
noncomputable def env_opsKind : Env := envOf tab sl sh [(74, fd74)] [(104, .pure), (72, .pure)]
theorem env_opsKind_ok : EnvOK Tryz.prog (mkD cs_opsKind ss_opsKind) env_opsKind := envOK_of base (all_cons (st74.okl rfl (all_nil)) (all_nil)) (all_cons (okD rfl ok_opsDots) (all_cons (okD rfl ok_opsWithin) (all_nil)))
theorem run_opsKind (x : Op) : Out.run (mkO cs_opsKind ss_opsKind) (evOrc env_opsKind 12 20 74 ((DA.one (DT.agg dc_Op) : DA TL (Op)).enc x)) (DA.one (DT.one (DI.int .i64)) : DA TL (Int)).dec = un_opsKind x := by kernel_rfl
theorem ok_opsKind : DOK Tryz.prog 74 .pure df_opsKind := data_of env_opsKind_ok (loops := 12) (n := 20) (.inr rfl) st74.enters (DA.one (DT.agg dc_Op)) un_opsKind (DA.one (DT.one (DI.int .i64))) run_opsKind
/-- ops.Check -/
def opsCheck (o1 : Op) : Option (Int) :=
  ob (opsWithin o1.dot.device 0 5) fun r0 =>
  cond ((!r0))
    (some 1)
    (ob (opsWithin o1.dot.epoch 1 1073741824) fun r1 =>
    cond ((!r1))
      (some 1)
      (ob (opsWithin o1.dot.seq 1 1073741824) fun r2 =>
      cond ((!r2))
        (some 1)
        (ob (opsWithin o1.coll 0 2) fun r3 =>
        cond ((!r3))
          (some 1)
          (ob (opsWithin o1.ver 1 3) fun r4 =>
          cond ((!r4))
            (some 1)
            (ob (opsWithin o1.time 0 1099511627776) fun r5 =>
            cond ((!r5))
              (some 1)
              (ob (opsWithin o1.kind 1 5) fun r6 =>
              cond ((!r6))
                (some 3)
                (ob (opsText o1.key) fun r7 =>
                cond ((!r7))
                  (some 5)
                  (ob (opsText o1.text) fun r8 =>
                  cond ((!r8))
                    (some 5)
                    (ob (opsKind o1) fun r9 =>
                    some r9)))))))))
def un_opsCheck (p : Op) : Option (Int) := opsCheck p
noncomputable def df_opsCheck : DFn TL := DFn.of (DA.one (DT.agg dc_Op)) un_opsCheck (DA.one (DT.one (DI.int .i64)))
noncomputable def cs_opsCheck : List (Nat × DFn TL) := [(72, df_opsWithin), (73, df_opsText), (74, df_opsKind)]
noncomputable def ss_opsCheck : List (Nat × SFn TL) := []
noncomputable def env_opsCheck : Env := envOf tab sl sh [(42, fd42)] [(72, .pure), (73, .pure), (74, .pure)]
theorem env_opsCheck_ok : EnvOK Tryz.prog (mkD cs_opsCheck ss_opsCheck) env_opsCheck := envOK_of base (all_cons (st42.okl rfl (all_nil)) (all_nil)) (all_cons (okD rfl ok_opsWithin) (all_cons (okD rfl ok_opsText) (all_cons (okD rfl ok_opsKind) (all_nil))))
theorem run_opsCheck (x : Op) : Out.run (mkO cs_opsCheck ss_opsCheck) (evOrc env_opsCheck 12 20 42 ((DA.one (DT.agg dc_Op) : DA TL (Op)).enc x)) (DA.one (DT.one (DI.int .i64)) : DA TL (Int)).dec = un_opsCheck x := by kernel_rfl
theorem ok_opsCheck : DOK Tryz.prog 42 .pure df_opsCheck := data_of env_opsCheck_ok (loops := 12) (n := 20) (.inr rfl) st42.enters (DA.one (DT.agg dc_Op)) un_opsCheck (DA.one (DT.one (DI.int .i64))) run_opsCheck
/-- a loop of api.Dot] -/
def step_L59_4 (l1 : List Dot) (l2 : List Dot) (b1 : Bool) (i1 : Int) (i2 : Int) : Option (((List Dot) × (List Dot) × Bool × Int × Int) ⊕ (((Bool) ⊕ (Bool)))) :=
  cond ((decide (i2 < i1)))
    (cond (decide (0 ≤ i2))
      (ob (l1[i2.toNat]?) fun e0 =>
      cond (decide (0 ≤ i2))
        (ob (l2[i2.toNat]?) fun e1 =>
        cond ((!(cond (e0.device == e1.device) (cond (e0.epoch == e1.epoch) (cond (e0.seq == e1.seq) true false) false) false)))
          (some (.inr (.inr false)))
          (some (.inl (l1, l2, b1, i1, (w64 (i2 + 1))))))
        (none))
      (none))
    (some (.inr (.inl b1)))
def stp_L59_4 (p : (List Dot) × (List Dot) × Bool × Int × Int) : Option (((List Dot) × (List Dot) × Bool × Int × Int) ⊕ (((Bool) ⊕ (Bool)))) := step_L59_4 p.1 p.2.1 p.2.2.1 p.2.2.2.1 p.2.2.2.2
def L59_4 (l1 : List Dot) (l2 : List Dot) (b1 : Bool) (i1 : Int) (i2 : Int) : Option (((Bool) ⊕ (Bool))) := iterO stp_L59_4 ((i1 - i2).toNat + 2) (l1, l2, b1, i1, i2)
/-- api.Dot] -/
def equalDot (l1 : List Dot) (l2 : List Dot) : Option (Bool) :=
  cond (((l1.length : Int) != (l2.length : Int)))
    (some false)
    (ob (L59_4 l1 l2 false (l1.length : Int) 0) fun y0 =>
    two y0 (fun a1 =>
      some true) (fun b2 =>
      some b2))
/-- ops.Same -/
def opsSame (o1 : Op) (o2 : Op) : Option (Bool) :=
  cond ((cond (o1.dot.device == o2.dot.device) (cond (o1.dot.epoch == o2.dot.epoch) (cond (o1.dot.seq == o2.dot.seq) true false) false) false))
    (cond ((o1.coll == o2.coll))
      (cond ((o1.ver == o2.ver))
        (cond ((o1.kind == o2.kind))
          (cond ((sEq o1.key o2.key))
            (cond ((sEq o1.text o2.text))
              (cond ((o1.n == o2.n))
                (cond ((o1.time == o2.time))
                  (ob (equalDot o1.dots o2.dots) fun r0 =>
                  some r0)
                  (some false))
                (some false))
              (some false))
            (some false))
          (some false))
        (some false))
      (some false))
    (some false)
/-- vector.pair).compare -/
def pairCompare (p1 : Pair) (p2 : Pair) : Option (Int) :=
  ob (cmpInt p1.device p2.device) fun r0 =>
  ob (cmpInt p1.epoch p2.epoch) fun r1 =>
  ob (cmpOr [r0, r1]) fun r2 =>
  some r2
def un_pairCompare (p : Pair × Pair) : Option (Int) := pairCompare p.1 p.2
noncomputable def df_pairCompare : DFn TL := DFn.of (DA.cons (DT.agg dc_Pair) (DA.one (DT.agg dc_Pair))) un_pairCompare (DA.one (DT.one (DI.int .i64)))
noncomputable def cs_pairCompare : List (Nat × DFn TL) := [(118, df_cmpInt), (93, df_cmpOr)]
noncomputable def ss_pairCompare : List (Nat × SFn TL) := []
noncomputable def env_pairCompare : Env := envOf tab sl sh [(142, fd142)] [(118, .pure), (93, .pure)]
theorem env_pairCompare_ok : EnvOK Tryz.prog (mkD cs_pairCompare ss_pairCompare) env_pairCompare := envOK_of base (all_cons (st142.okl rfl (all_nil)) (all_nil)) (all_cons (okD rfl ok_cmpInt) (all_cons (okD rfl ok_cmpOr) (all_nil)))
theorem run_pairCompare (x : Pair × Pair) : Out.run (mkO cs_pairCompare ss_pairCompare) (evOrc env_pairCompare 12 20 142 ((DA.cons (DT.agg dc_Pair) (DA.one (DT.agg dc_Pair)) : DA TL (Pair × Pair)).enc x)) (DA.one (DT.one (DI.int .i64)) : DA TL (Int)).dec = un_pairCompare x := by kernel_rfl
theorem ok_pairCompare : DOK Tryz.prog 142 .pure df_pairCompare := data_of env_pairCompare_ok (loops := 12) (n := 20) (.inr rfl) st142.enters (DA.cons (DT.agg dc_Pair) (DA.one (DT.agg dc_Pair))) un_pairCompare (DA.one (DT.one (DI.int .i64))) run_pairCompare
/-- a loop of api.Entry] -/
def step_L140_2 (l1 : List Dot) (i1 : Int) (p1 : Pair) : Option (((List Dot) × Int × Pair) ⊕ ((List Dot) × Int × Pair)) :=
  cond ((decide (i1 < (l1.length : Int))))
    (cond (decide (0 ≤ i1))
      (ob (l1[i1.toNat]?) fun e0 =>
      ob (pairCompare (Pair.mk e0.device e0.epoch) p1) fun r1 =>
      cond ((decide (r1 < 0)))
        (some (.inl (l1, (w64 (i1 + 1)), p1)))
        (some (.inr (l1, i1, p1))))
      (none))
    (some (.inr (l1, i1, p1)))
def stp_L140_2 (p : (List Dot) × Int × Pair) : Option (((List Dot) × Int × Pair) ⊕ ((List Dot) × Int × Pair)) := step_L140_2 p.1 p.2.1 p.2.2
def L140_2 (l1 : List Dot) (i1 : Int) (p1 : Pair) : Option ((List Dot) × Int × Pair) := iterO stp_L140_2 (((l1.length : Int) - i1).toNat + 2) (l1, i1, p1)
def ch_L140_2 : Cod (Cst TL) ((List Dot) × Int × Pair) := Cod.iso (Cod.cst 1 (Cod.cons (Cod.xs (Cod.sc (Cod.im (Cod.fz j_lDot)))) (Cod.cons (Cod.xs (Cod.sc (Cod.clo 141 [] [(0, 0)]))) (Cod.cons (Cod.xs (Cod.sc (Cod.im (Cod.int .i64)))) (Cod.nil)))) (Cod.cons (Cod.var 0 170 (Cod.cons (Cod.im (Cod.int .i64)) (Cod.cons (Cod.im (Cod.int .i64)) (Cod.nil)))) (Cod.nil))) (fun p => (p.1.1, p.1.2.2.1, (Pair.mk p.2.1.1 p.2.1.2.1))) (fun (x : (List Dot) × Int × Pair) => ((x.1, ((), (x.2.1, ()))), ((x.2.2.device, (x.2.2.epoch, ())), ()))) (fun _ => rfl)
def co0_L140_2 : Cod (Cst TL) ((List Dot) × Int × Pair) := Cod.iso (Cod.cst 2 (Cod.cons (Cod.xs (Cod.sc (Cod.im (Cod.fz j_lDot)))) (Cod.cons (Cod.xs (Cod.sc (Cod.clo 141 [] [(0, 0)]))) (Cod.cons (Cod.xs (Cod.sc (Cod.im (Cod.int .i64)))) (Cod.nil)))) (Cod.cons (Cod.var 0 170 (Cod.cons (Cod.im (Cod.int .i64)) (Cod.cons (Cod.im (Cod.int .i64)) (Cod.nil)))) (Cod.nil))) (fun p => (p.1.1, p.1.2.2.1, (Pair.mk p.2.1.1 p.2.1.2.1))) (fun (x : (List Dot) × Int × Pair) => ((x.1, ((), (x.2.1, ()))), ((x.2.2.device, (x.2.2.epoch, ())), ()))) (fun _ => rfl)
noncomputable def sl_L140_2 : SFn TL := SFn.one ch_L140_2.dec (fun p => L140_2 p.1 p.2.1 p.2.2) (.exit 0) co0_L140_2.enc
noncomputable def cs_lL140_2 : List (Nat × DFn TL) := [(142, df_pairCompare)]
noncomputable def ss_lL140_2 : List (Nat × SFn TL) := []
noncomputable def env_lL140_2 : Env := envOf tab sl sh [(141, fd141), (113, fd113)] [(142, .pure)]
theorem env_lL140_2_ok : EnvOK Tryz.prog (mkD cs_lL140_2 ss_lL140_2) env_lL140_2 := envOK_of base (all_cons (st141.okl rfl (all_nil)) (all_cons (st113.okl rfl (all_nil)) (all_nil))) (all_cons (okD rfl ok_pairCompare) (all_nil))
theorem run_L140_2 (x : (List Dot) × Int × Pair) : Out.run (mkO cs_lL140_2 ss_lL140_2) (evRound env_lL140_2 12 20 fd140.an q_L140_2 (loopIn (loopsOf fd140.body) 2) (ch_L140_2.enc x)) (back ch_L140_2 co0_L140_2 fun e => exE e (.exit 0)) = stp_L140_2 x := by kernel_rfl
theorem ok_L140_2 : LoopOK Tryz.prog (oneS sl_L140_2) nt140 q_L140_2 (loopIn (loopsOf fd140.body) 2) :=
  loop_one env_lL140_2_ok (loops := 12) (k := 20) (an := fd140.an) (by kernel_rfl) (FnSt.subl rfl st140.keys (all_cons (.inl (by kernel_rfl)) (all_nil))) ch_L140_2 co0_L140_2 (.exit 0) rfl stp_L140_2 _ run_L140_2 (fun x y h => ⟨_, h⟩) (fun _ => below_iff.1 rfl)
/-- vector.Get (fails: [201]) -/
def vectorGet (l1 : List Dot) (i1 : Int) (i2 : Int) : Option (Int) :=
  ob (L140_2 l1 0 (Pair.mk i1 i2)) fun y0 =>
  cond ((decide (y0.2.1 < (y0.1.length : Int))))
    (cond (decide (0 ≤ y0.2.1))
      (ob (y0.1[y0.2.1.toNat]?) fun e1 =>
      ob (pairCompare (Pair.mk e1.device e1.epoch) y0.2.2) fun r2 =>
      cond ((!(r2 == 0)))
        (some 0)
        (cond (decide (0 ≤ y0.2.1))
          (ob (l1[y0.2.1.toNat]?) fun e3 =>
          some e3.seq)
          (none)))
      (none))
    (some 0)
def un_vectorGet (p : (List Dot) × Int × Int) : Option (Int) := vectorGet p.1 p.2.1 p.2.2
noncomputable def df_vectorGet : DFn TL := DFn.of (DA.cons (DT.one di_lDot) (DA.cons (DT.one (DI.int .i64)) (DA.one (DT.one (DI.int .i64))))) un_vectorGet (DA.one (DT.one (DI.int .i64)))
noncomputable def cs_vectorGet : List (Nat × DFn TL) := [(142, df_pairCompare)]
noncomputable def ss_vectorGet : List (Nat × SFn TL) := [(240002, sl_L140_2)]
noncomputable def env_vectorGet : Env := envOf tab sl sh [(111, fd111), (112, fd112), (140, fd140), (141, fd141), (113, fd113)] [(142, .pure)]
theorem env_vectorGet_ok : EnvOK Tryz.prog (mkD cs_vectorGet ss_vectorGet) env_vectorGet := envOK_of base (all_cons (st111.okl rfl (all_nil)) (all_cons (st112.okl rfl (all_nil)) (all_cons (st140.okl rfl (all_cons (LoopOK.cast ok_L140_2 rfl) (all_nil))) (all_cons (st141.okl rfl (all_nil)) (all_cons (st113.okl rfl (all_nil)) (all_nil)))))) (all_cons (okD rfl ok_pairCompare) (all_nil))
theorem run_vectorGet (x : (List Dot) × Int × Int) : Out.run (mkO cs_vectorGet ss_vectorGet) (evOrc env_vectorGet 12 20 111 ((DA.cons (DT.one di_lDot) (DA.cons (DT.one (DI.int .i64)) (DA.one (DT.one (DI.int .i64)))) : DA TL ((List Dot) × Int × Int)).enc x)) (DA.one (DT.one (DI.int .i64)) : DA TL (Int)).dec = un_vectorGet x := by kernel_rfl
theorem ok_vectorGet : DOK Tryz.prog 111 .pure df_vectorGet := data_of env_vectorGet_ok (loops := 12) (n := 20) (.inr rfl) st111.enters (DA.cons (DT.one di_lDot) (DA.cons (DT.one (DI.int .i64)) (DA.one (DT.one (DI.int .i64))))) un_vectorGet (DA.one (DT.one (DI.int .i64))) run_vectorGet
/-- vector.Has -/
def vectorHas (l1 : List Dot) (d1 : Dot) : Option (Bool) :=
  cond ((decide (d1.seq ≥ 1)))
    (ob (vectorGet l1 d1.device d1.epoch) fun r0 =>
    some (decide (d1.seq ≤ r0)))
    (some false)
def un_vectorHas (p : (List Dot) × Dot) : Option (Bool) := vectorHas p.1 p.2
noncomputable def df_vectorHas : DFn TL := DFn.of (DA.cons (DT.one di_lDot) (DA.one (DT.agg dc_Dot))) un_vectorHas (DA.one (DT.one DI.bool))
noncomputable def cs_vectorHas : List (Nat × DFn TL) := [(111, df_vectorGet)]
noncomputable def ss_vectorHas : List (Nat × SFn TL) := []
noncomputable def env_vectorHas : Env := envOf tab sl sh [(85, fd85)] [(111, .pure)]
theorem env_vectorHas_ok : EnvOK Tryz.prog (mkD cs_vectorHas ss_vectorHas) env_vectorHas := envOK_of base (all_cons (st85.okl rfl (all_nil)) (all_nil)) (all_cons (okD rfl ok_vectorGet) (all_nil))
theorem run_vectorHas (x : (List Dot) × Dot) : Out.run (mkO cs_vectorHas ss_vectorHas) (evOrc env_vectorHas 12 20 85 ((DA.cons (DT.one di_lDot) (DA.one (DT.agg dc_Dot)) : DA TL ((List Dot) × Dot)).enc x)) (DA.one (DT.one DI.bool) : DA TL (Bool)).dec = un_vectorHas x := by kernel_rfl
theorem ok_vectorHas : DOK Tryz.prog 85 .pure df_vectorHas := data_of env_vectorHas_ok (loops := 12) (n := 20) (.inr rfl) st85.enters (DA.cons (DT.one di_lDot) (DA.one (DT.agg dc_Dot))) un_vectorHas (DA.one (DT.one DI.bool)) run_vectorHas
/-- a loop of api.Entry] -/
def step_L140b_2 (l1 : List Dot) (i1 : Int) (p1 : Pair) : Option (((List Dot) × Int × Pair) ⊕ ((List Dot) × Int × Pair)) :=
  cond ((decide (i1 < (l1.length : Int))))
    (cond (decide (0 ≤ i1))
      (cond (decide (i1 < (l1.length : Int)))
        (ob (l1[i1.toNat]?) fun e0 =>
        ob (pairCompare (Pair.mk e0.device e0.epoch) p1) fun r1 =>
        cond ((decide (r1 < 0)))
          (some (.inl (l1, (w64 (i1 + 1)), p1)))
          (some (.inr (l1, i1, p1))))
        (none))
      (none))
    (some (.inr (l1, i1, p1)))
def stp_L140b_2 (p : (List Dot) × Int × Pair) : Option (((List Dot) × Int × Pair) ⊕ ((List Dot) × Int × Pair)) := step_L140b_2 p.1 p.2.1 p.2.2
def L140b_2 (l1 : List Dot) (i1 : Int) (p1 : Pair) : Option ((List Dot) × Int × Pair) := iterO stp_L140b_2 (((l1.length : Int) - i1).toNat + 2) (l1, i1, p1)
def ch_L140b_2 : Cod (Cst TL) ((List Dot) × Int × Pair) := Cod.iso (Cod.cst 2 (Cod.cons (Cod.xs (Cod.sc (Cod.ar 0))) (Cod.cons (Cod.xs (Cod.sc (Cod.clo 141 [] [(1, 0)]))) (Cod.cons (Cod.xs (Cod.sc (Cod.im (Cod.int .i64)))) (Cod.nil)))) (Cod.cons (Cod.arr 0 112 j_lDot) (Cod.cons (Cod.var 1 170 (Cod.cons (Cod.im (Cod.int .i64)) (Cod.cons (Cod.im (Cod.int .i64)) (Cod.nil)))) (Cod.nil)))) (fun p => (p.2.1, p.1.2.2.1, (Pair.mk p.2.2.1.1 p.2.2.1.2.1))) (fun (x : (List Dot) × Int × Pair) => (((), ((), (x.2.1, ()))), (x.1, ((x.2.2.device, (x.2.2.epoch, ())), ())))) (fun _ => rfl)
def co0_L140b_2 : Cod (Cst TL) ((List Dot) × Int × Pair) := Cod.iso (Cod.cst 4 (Cod.cons (Cod.xs (Cod.sc (Cod.ar 0))) (Cod.cons (Cod.xs (Cod.sc (Cod.clo 141 [] [(1, 0)]))) (Cod.cons (Cod.xs (Cod.sc (Cod.im (Cod.int .i64)))) (Cod.nil)))) (Cod.cons (Cod.arr 0 112 j_lDot) (Cod.cons (Cod.var 1 170 (Cod.cons (Cod.im (Cod.int .i64)) (Cod.cons (Cod.im (Cod.int .i64)) (Cod.nil)))) (Cod.nil)))) (fun p => (p.2.1, p.1.2.2.1, (Pair.mk p.2.2.1.1 p.2.2.1.2.1))) (fun (x : (List Dot) × Int × Pair) => (((), ((), (x.2.1, ()))), (x.1, ((x.2.2.device, (x.2.2.epoch, ())), ())))) (fun _ => rfl)
noncomputable def sl_L140b_2 : SFn TL := SFn.one ch_L140b_2.dec (fun p => L140b_2 p.1 p.2.1 p.2.2) (.exit 0) co0_L140b_2.enc
noncomputable def cs_lL140b_2 : List (Nat × DFn TL) := [(142, df_pairCompare)]
noncomputable def ss_lL140b_2 : List (Nat × SFn TL) := []
noncomputable def env_lL140b_2 : Env := envOf tab sl sh [(141, fd141), (113, fd113)] [(142, .pure)]
theorem env_lL140b_2_ok : EnvOK Tryz.prog (mkD cs_lL140b_2 ss_lL140b_2) env_lL140b_2 := envOK_of base (all_cons (st141.okl rfl (all_nil)) (all_cons (st113.okl rfl (all_nil)) (all_nil))) (all_cons (okD rfl ok_pairCompare) (all_nil))
theorem run_L140b_2 (x : (List Dot) × Int × Pair) : Out.run (mkO cs_lL140b_2 ss_lL140b_2) (evRound env_lL140b_2 12 20 fd140b.an q_L140b_2 (loopIn (loopsOf fd140b.body) 2) (ch_L140b_2.enc x)) (back ch_L140b_2 co0_L140b_2 fun e => exE e (.exit 0)) = stp_L140b_2 x := by kernel_rfl
theorem ok_L140b_2 : LoopOK Tryz.prog (oneS sl_L140b_2) nt140 q_L140b_2 (loopIn (loopsOf fd140b.body) 2) :=
  loop_one env_lL140b_2_ok (loops := 12) (k := 20) (an := fd140b.an) (by kernel_rfl) (FnSt.subl rfl st140b.keys (all_cons (.inl (by kernel_rfl)) (all_nil))) ch_L140b_2 co0_L140b_2 (.exit 0) rfl stp_L140b_2 _ run_L140b_2 (fun x y h => ⟨_, h⟩) (fun _ => below_iff.1 rfl)
/-- a loop of vector.laid -/
def step_L86_4 (l1 : List Dot) (l2 : List Dot) (i1 : Int) (i2 : Int) : Option (((List Dot) × (List Dot) × Int × Int) ⊕ ((List Dot))) :=
  cond ((decide (i2 < i1)))
    (cond (decide (0 ≤ i2))
      (ob (l2[i2.toNat]?) fun e0 =>
      ob (L140b_2 l1 0 (Pair.mk e0.device e0.epoch)) fun y1 =>
      cond ((decide (y1.2.1 < (y1.1.length : Int))))
        (cond (decide (0 ≤ y1.2.1))
          (cond (decide (y1.2.1 < (y1.1.length : Int)))
            (ob (y1.1[y1.2.1.toNat]?) fun e2 =>
            ob (pairCompare (Pair.mk e2.device e2.epoch) y1.2.2) fun r3 =>
            cond ((r3 == 0))
              (cond (decide (0 ≤ y1.2.1))
                (cond (decide (y1.2.1 < (y1.1.length : Int)))
                  (ob (y1.1[y1.2.1.toNat]?) fun e4 =>
                  cond (decide (0 ≤ y1.2.1))
                    (cond (decide (y1.2.1 < (y1.1.length : Int)))
                      (ob (y1.1[y1.2.1.toNat]?) fun e5 =>
                      some (.inl ((y1.1.set y1.2.1.toNat (Dot.mk e5.device e5.epoch (max2 e4.seq e0.seq))), l2, i1, (w64 (i2 + 1)))))
                      (none))
                    (none))
                  (none))
                (none))
              (cond (fits ((y1.1 ++ [(Dot.mk 0 0 0)]).length))
                (cond (decide (0 ≤ (w64 (y1.2.1 + 1))))
                  (cond (decide ((w64 (y1.2.1 + 1)) ≤ ((y1.1 ++ [(Dot.mk 0 0 0)]).length : Int)))
                    (cond (decide (((y1.1 ++ [(Dot.mk 0 0 0)]).length : Int) ≤ ((y1.1 ++ [(Dot.mk 0 0 0)]).length : Int)))
                      (cond (decide (0 ≤ y1.2.1))
                        (cond (decide (y1.2.1 ≤ ((y1.1 ++ [(Dot.mk 0 0 0)]).length : Int)))
                          (cond (decide (((y1.1 ++ [(Dot.mk 0 0 0)]).length : Int) ≤ ((y1.1 ++ [(Dot.mk 0 0 0)]).length : Int)))
                            (cond (decide (0 ≤ y1.2.1))
                              (cond (decide (y1.2.1 < (((((y1.1 ++ [(Dot.mk 0 0 0)]).take (((w64 (y1.2.1 + 1))).toNat)) ++ ((((y1.1 ++ [(Dot.mk 0 0 0)]).take ((((y1.1 ++ [(Dot.mk 0 0 0)]).length : Int)).toNat)).drop y1.2.1.toNat).take (Nat.min ((((y1.1 ++ [(Dot.mk 0 0 0)]).take ((((y1.1 ++ [(Dot.mk 0 0 0)]).length : Int)).toNat)).drop y1.2.1.toNat).length) ((((y1.1 ++ [(Dot.mk 0 0 0)]).length : Int)).toNat - ((w64 (y1.2.1 + 1))).toNat)))) ++ (((y1.1 ++ [(Dot.mk 0 0 0)]).take ((y1.1 ++ [(Dot.mk 0 0 0)]).length)).drop (((w64 (y1.2.1 + 1))).toNat + (Nat.min ((((y1.1 ++ [(Dot.mk 0 0 0)]).take ((((y1.1 ++ [(Dot.mk 0 0 0)]).length : Int)).toNat)).drop y1.2.1.toNat).length) ((((y1.1 ++ [(Dot.mk 0 0 0)]).length : Int)).toNat - ((w64 (y1.2.1 + 1))).toNat))))).length : Int)))
                                (ob (((((y1.1 ++ [(Dot.mk 0 0 0)]).take (((w64 (y1.2.1 + 1))).toNat)) ++ ((((y1.1 ++ [(Dot.mk 0 0 0)]).take ((((y1.1 ++ [(Dot.mk 0 0 0)]).length : Int)).toNat)).drop y1.2.1.toNat).take (Nat.min ((((y1.1 ++ [(Dot.mk 0 0 0)]).take ((((y1.1 ++ [(Dot.mk 0 0 0)]).length : Int)).toNat)).drop y1.2.1.toNat).length) ((((y1.1 ++ [(Dot.mk 0 0 0)]).length : Int)).toNat - ((w64 (y1.2.1 + 1))).toNat)))) ++ (((y1.1 ++ [(Dot.mk 0 0 0)]).take ((y1.1 ++ [(Dot.mk 0 0 0)]).length)).drop (((w64 (y1.2.1 + 1))).toNat + (Nat.min ((((y1.1 ++ [(Dot.mk 0 0 0)]).take ((((y1.1 ++ [(Dot.mk 0 0 0)]).length : Int)).toNat)).drop y1.2.1.toNat).length) ((((y1.1 ++ [(Dot.mk 0 0 0)]).length : Int)).toNat - ((w64 (y1.2.1 + 1))).toNat)))))[y1.2.1.toNat]?) fun e6 =>
                                some (.inl ((((((y1.1 ++ [(Dot.mk 0 0 0)]).take (((w64 (y1.2.1 + 1))).toNat)) ++ ((((y1.1 ++ [(Dot.mk 0 0 0)]).take ((((y1.1 ++ [(Dot.mk 0 0 0)]).length : Int)).toNat)).drop y1.2.1.toNat).take (Nat.min ((((y1.1 ++ [(Dot.mk 0 0 0)]).take ((((y1.1 ++ [(Dot.mk 0 0 0)]).length : Int)).toNat)).drop y1.2.1.toNat).length) ((((y1.1 ++ [(Dot.mk 0 0 0)]).length : Int)).toNat - ((w64 (y1.2.1 + 1))).toNat)))) ++ (((y1.1 ++ [(Dot.mk 0 0 0)]).take ((y1.1 ++ [(Dot.mk 0 0 0)]).length)).drop (((w64 (y1.2.1 + 1))).toNat + (Nat.min ((((y1.1 ++ [(Dot.mk 0 0 0)]).take ((((y1.1 ++ [(Dot.mk 0 0 0)]).length : Int)).toNat)).drop y1.2.1.toNat).length) ((((y1.1 ++ [(Dot.mk 0 0 0)]).length : Int)).toNat - ((w64 (y1.2.1 + 1))).toNat))))).set y1.2.1.toNat e0), l2, i1, (w64 (i2 + 1)))))
                                (none))
                              (none))
                            (none))
                          (none))
                        (none))
                      (none))
                    (none))
                  (none))
                (none)))
            (none))
          (none))
        (cond (fits ((y1.1 ++ [(Dot.mk 0 0 0)]).length))
          (cond (decide (0 ≤ (w64 (y1.2.1 + 1))))
            (cond (decide ((w64 (y1.2.1 + 1)) ≤ ((y1.1 ++ [(Dot.mk 0 0 0)]).length : Int)))
              (cond (decide (((y1.1 ++ [(Dot.mk 0 0 0)]).length : Int) ≤ ((y1.1 ++ [(Dot.mk 0 0 0)]).length : Int)))
                (cond (decide (0 ≤ y1.2.1))
                  (cond (decide (y1.2.1 ≤ ((y1.1 ++ [(Dot.mk 0 0 0)]).length : Int)))
                    (cond (decide (((y1.1 ++ [(Dot.mk 0 0 0)]).length : Int) ≤ ((y1.1 ++ [(Dot.mk 0 0 0)]).length : Int)))
                      (cond (decide (0 ≤ y1.2.1))
                        (cond (decide (y1.2.1 < (((((y1.1 ++ [(Dot.mk 0 0 0)]).take (((w64 (y1.2.1 + 1))).toNat)) ++ ((((y1.1 ++ [(Dot.mk 0 0 0)]).take ((((y1.1 ++ [(Dot.mk 0 0 0)]).length : Int)).toNat)).drop y1.2.1.toNat).take (Nat.min ((((y1.1 ++ [(Dot.mk 0 0 0)]).take ((((y1.1 ++ [(Dot.mk 0 0 0)]).length : Int)).toNat)).drop y1.2.1.toNat).length) ((((y1.1 ++ [(Dot.mk 0 0 0)]).length : Int)).toNat - ((w64 (y1.2.1 + 1))).toNat)))) ++ (((y1.1 ++ [(Dot.mk 0 0 0)]).take ((y1.1 ++ [(Dot.mk 0 0 0)]).length)).drop (((w64 (y1.2.1 + 1))).toNat + (Nat.min ((((y1.1 ++ [(Dot.mk 0 0 0)]).take ((((y1.1 ++ [(Dot.mk 0 0 0)]).length : Int)).toNat)).drop y1.2.1.toNat).length) ((((y1.1 ++ [(Dot.mk 0 0 0)]).length : Int)).toNat - ((w64 (y1.2.1 + 1))).toNat))))).length : Int)))
                          (ob (((((y1.1 ++ [(Dot.mk 0 0 0)]).take (((w64 (y1.2.1 + 1))).toNat)) ++ ((((y1.1 ++ [(Dot.mk 0 0 0)]).take ((((y1.1 ++ [(Dot.mk 0 0 0)]).length : Int)).toNat)).drop y1.2.1.toNat).take (Nat.min ((((y1.1 ++ [(Dot.mk 0 0 0)]).take ((((y1.1 ++ [(Dot.mk 0 0 0)]).length : Int)).toNat)).drop y1.2.1.toNat).length) ((((y1.1 ++ [(Dot.mk 0 0 0)]).length : Int)).toNat - ((w64 (y1.2.1 + 1))).toNat)))) ++ (((y1.1 ++ [(Dot.mk 0 0 0)]).take ((y1.1 ++ [(Dot.mk 0 0 0)]).length)).drop (((w64 (y1.2.1 + 1))).toNat + (Nat.min ((((y1.1 ++ [(Dot.mk 0 0 0)]).take ((((y1.1 ++ [(Dot.mk 0 0 0)]).length : Int)).toNat)).drop y1.2.1.toNat).length) ((((y1.1 ++ [(Dot.mk 0 0 0)]).length : Int)).toNat - ((w64 (y1.2.1 + 1))).toNat)))))[y1.2.1.toNat]?) fun e7 =>
                          some (.inl ((((((y1.1 ++ [(Dot.mk 0 0 0)]).take (((w64 (y1.2.1 + 1))).toNat)) ++ ((((y1.1 ++ [(Dot.mk 0 0 0)]).take ((((y1.1 ++ [(Dot.mk 0 0 0)]).length : Int)).toNat)).drop y1.2.1.toNat).take (Nat.min ((((y1.1 ++ [(Dot.mk 0 0 0)]).take ((((y1.1 ++ [(Dot.mk 0 0 0)]).length : Int)).toNat)).drop y1.2.1.toNat).length) ((((y1.1 ++ [(Dot.mk 0 0 0)]).length : Int)).toNat - ((w64 (y1.2.1 + 1))).toNat)))) ++ (((y1.1 ++ [(Dot.mk 0 0 0)]).take ((y1.1 ++ [(Dot.mk 0 0 0)]).length)).drop (((w64 (y1.2.1 + 1))).toNat + (Nat.min ((((y1.1 ++ [(Dot.mk 0 0 0)]).take ((((y1.1 ++ [(Dot.mk 0 0 0)]).length : Int)).toNat)).drop y1.2.1.toNat).length) ((((y1.1 ++ [(Dot.mk 0 0 0)]).length : Int)).toNat - ((w64 (y1.2.1 + 1))).toNat))))).set y1.2.1.toNat e0), l2, i1, (w64 (i2 + 1)))))
                          (none))
                        (none))
                      (none))
                    (none))
                  (none))
                (none))
              (none))
            (none))
          (none)))
      (none))
    (some (.inr l1))
def stp_L86_4 (p : (List Dot) × (List Dot) × Int × Int) : Option (((List Dot) × (List Dot) × Int × Int) ⊕ ((List Dot))) := step_L86_4 p.1 p.2.1 p.2.2.1 p.2.2.2
def L86_4 (l1 : List Dot) (l2 : List Dot) (i1 : Int) (i2 : Int) : Option ((List Dot)) := iterO stp_L86_4 ((i1 - i2).toNat + 2) (l1, l2, i1, i2)
def ch_L86_4 : Cod (Cst TL) ((List Dot) × (List Dot) × Int × Int) := Cod.iso (Cod.cst 1 (Cod.cons (Cod.xs (Cod.sc (Cod.ar 0))) (Cod.cons (Cod.xs (Cod.sc (Cod.im (Cod.fz j_lDot)))) (Cod.cons (Cod.xs (Cod.sc (Cod.im (Cod.int .i64)))) (Cod.cons (Cod.xs (Cod.sc (Cod.im (Cod.int .i64)))) (Cod.nil))))) (Cod.cons (Cod.arr 0 112 j_lDot) (Cod.nil))) (fun p => (p.2.1, p.1.2.1, p.1.2.2.1, p.1.2.2.2.1)) (fun (x : (List Dot) × (List Dot) × Int × Int) => (((), (x.2.1, (x.2.2.1, (x.2.2.2, ())))), (x.1, ()))) (fun _ => rfl)
def co0_L86_4 : Cod (Cst TL) ((List Dot)) := Cod.iso (Cod.cst 2 (Cod.cons (Cod.xs (Cod.sc (Cod.ar 1))) (Cod.nil)) (Cod.cons (Cod.arr 1 112 j_lDot) (Cod.nil))) (fun p => p.2.1) (fun (x : (List Dot)) => (((), ()), (x, ()))) (fun _ => rfl)
noncomputable def sl_L86_4 : SFn TL := SFn.one ch_L86_4.dec (fun p => L86_4 p.1 p.2.1 p.2.2.1 p.2.2.2) (.exit 0) co0_L86_4.enc
noncomputable def cs_lL86_4 : List (Nat × DFn TL) := [(142, df_pairCompare)]
noncomputable def ss_lL86_4 : List (Nat × SFn TL) := [(20240002, sl_L140b_2)]
noncomputable def env_lL86_4 : Env := envOf tab sl sh [(113, fd113), (112, fd112), (140, fd140b), (141, fd141)] [(142, .pure)]
theorem env_lL86_4_ok : EnvOK Tryz.prog (mkD cs_lL86_4 ss_lL86_4) env_lL86_4 := envOK_of base (all_cons (st113.okl rfl (all_nil)) (all_cons (st112.okl rfl (all_nil)) (all_cons (st140b.okl rfl (all_cons (LoopOK.cast ok_L140b_2 rfl) (all_nil))) (all_cons (st141.okl rfl (all_nil)) (all_nil))))) (all_cons (okD rfl ok_pairCompare) (all_nil))
theorem run_L86_4 (x : (List Dot) × (List Dot) × Int × Int) : Out.run (mkO cs_lL86_4 ss_lL86_4) (evRound env_lL86_4 12 20 fd86.an q_L86_4 (loopIn (loopsOf fd86.body) 4) (ch_L86_4.enc x)) (back ch_L86_4 co0_L86_4 fun e => exE e (.exit 0)) = stp_L86_4 x := by kernel_rfl
theorem ok_L86_4 : LoopOK Tryz.prog (oneS sl_L86_4) nt86 q_L86_4 (loopIn (loopsOf fd86.body) 4) :=
  loop_one env_lL86_4_ok (loops := 12) (k := 20) (an := fd86.an) (by kernel_rfl) (FnSt.subl rfl st86.keys (all_cons (.inl (by kernel_rfl)) (all_nil))) ch_L86_4 co0_L86_4 (.exit 0) rfl stp_L86_4 _ run_L86_4 (fun x y h => ⟨_, h⟩) (fun _ => below_iff.1 rfl)
/-- vector.laid (fails: [27, 201]) -/
def laid (l1 : List Dot) (l2 : List Dot) : Option ((List Dot)) :=
  cond (decide (0 ≤ (l1.length : Int)))
    (cond (decide ((l1.length : Int) ≤ (w64 ((l1.length : Int) + (l2.length : Int)))))
      (cond (fits (((w64 ((l1.length : Int) + (l2.length : Int)))).toNat))
        (ob (L86_4 ((l1.take (Nat.min l1.length ((List.replicate (((l1.length : Int)).toNat) (Dot.mk 0 0 0)).length))) ++ (((List.replicate (((l1.length : Int)).toNat) (Dot.mk 0 0 0)).take ((List.replicate (((l1.length : Int)).toNat) (Dot.mk 0 0 0)).length)).drop (Nat.min l1.length ((List.replicate (((l1.length : Int)).toNat) (Dot.mk 0 0 0)).length)))) l2 (l2.length : Int) 0) fun y0 =>
        cond (fits (([] ++ y0).length))
          (some ([] ++ y0))
          (none))
        (none))
      (none))
    (none)
def un_laid (p : (List Dot) × (List Dot)) : Option ((List Dot)) := laid p.1 p.2
noncomputable def df_laid : DFn TL := ⟨(List Dot) × (List Dot), (List Dot), (DA.cons (DT.one di_lDot) (DA.one (DT.one di_lDot)) : DA TL ((List Dot) × (List Dot))).dec, un_laid, fun l => [.c (.im (.fz (j_lDot.put l)))]⟩
noncomputable def cs_laid : List (Nat × DFn TL) := []
noncomputable def ss_laid : List (Nat × SFn TL) := [(186004, sl_L86_4)]
noncomputable def env_laid : Env := envOf tab sl sh [(86, fd86)] []
theorem env_laid_ok : EnvOK Tryz.prog (mkD cs_laid ss_laid) env_laid := envOK_of base (all_cons (st86.okl rfl (all_cons (LoopOK.cast ok_L86_4 rfl) (all_nil))) (all_nil)) (all_nil)
theorem run_laid (x : (List Dot) × (List Dot)) : Out.run (mkO cs_laid ss_laid) (evFresh env_laid 12 20 86 112 ((DA.cons (DT.one di_lDot) (DA.one (DT.one di_lDot)) : DA TL ((List Dot) × (List Dot))).enc x)) j_lDot.un = un_laid x := by kernel_rfl
theorem ok_laid : DOK Tryz.prog 86 (.fresh 112) df_laid := fresh_of env_laid_ok (loops := 12) (n := 20) st86.enters (DA.cons (DT.one di_lDot) (DA.one (DT.one di_lDot))) un_laid j_lDot run_laid
/-- vector.Step -/
def vectorStep (l1 : List Dot) (d1 : Dot) : Option ((List Dot) × Int) :=
  cond ((cond (decide (d1.device < 0)) true (cond (decide (d1.epoch < 0)) true (decide (d1.seq < 1)))))
    (some ([], 1))
    (ob (vectorHas l1 d1) fun r0 =>
    cond (r0)
      (some ([], 7))
      (ob (laid l1 [d1]) fun r1 =>
      some (r1, 0)))
def un_vectorStep (p : (List Dot) × Dot) : Option ((List Dot) × Int) := vectorStep p.1 p.2
noncomputable def df_vectorStep : DFn TL := DFn.of (DA.cons (DT.one di_lDot) (DA.one (DT.agg dc_Dot))) un_vectorStep (DA.cons (DT.one di_lDot) (DA.one (DT.one (DI.int .i64))))
noncomputable def cs_vectorStep : List (Nat × DFn TL) := [(85, df_vectorHas), (86, df_laid)]
noncomputable def ss_vectorStep : List (Nat × SFn TL) := []
noncomputable def env_vectorStep : Env := envOf tab sl sh [(50, fd50)] [(85, .pure), (86, (.fresh 112))]
theorem env_vectorStep_ok : EnvOK Tryz.prog (mkD cs_vectorStep ss_vectorStep) env_vectorStep := envOK_of base (all_cons (st50.okl rfl (all_nil)) (all_nil)) (all_cons (okD rfl ok_vectorHas) (all_cons (okD rfl ok_laid) (all_nil)))
theorem run_vectorStep (x : (List Dot) × Dot) : Out.run (mkO cs_vectorStep ss_vectorStep) (evOrc env_vectorStep 12 20 50 ((DA.cons (DT.one di_lDot) (DA.one (DT.agg dc_Dot)) : DA TL ((List Dot) × Dot)).enc x)) (DA.cons (DT.one di_lDot) (DA.one (DT.one (DI.int .i64))) : DA TL ((List Dot) × Int)).dec = un_vectorStep x := by kernel_rfl
theorem ok_vectorStep : DOK Tryz.prog 50 .keep df_vectorStep := data_of env_vectorStep_ok (loops := 12) (n := 20) (.inl rfl) st50.enters (DA.cons (DT.one di_lDot) (DA.one (DT.agg dc_Dot))) un_vectorStep (DA.cons (DT.one di_lDot) (DA.one (DT.one (DI.int .i64)))) run_vectorStep
/-- coll.dot).compare -/
def dotCompare (d1 : Dot) (d2 : Dot) : Option (Int) :=
  ob (cmpInt d1.device d2.device) fun r0 =>
  ob (cmpInt d1.epoch d2.epoch) fun r1 =>
  ob (cmpInt d1.seq d2.seq) fun r2 =>
  ob (cmpOr [r0, r1, r2]) fun r3 =>
  some r3
def un_dotCompare (p : Dot × Dot) : Option (Int) := dotCompare p.1 p.2
noncomputable def df_dotCompare : DFn TL := DFn.of (DA.cons (DT.agg dc_Dot) (DA.one (DT.agg dc_Dot))) un_dotCompare (DA.one (DT.one (DI.int .i64)))
noncomputable def cs_dotCompare : List (Nat × DFn TL) := [(118, df_cmpInt), (93, df_cmpOr)]
noncomputable def ss_dotCompare : List (Nat × SFn TL) := []
noncomputable def env_dotCompare : Env := envOf tab sl sh [(89, fd89)] [(118, .pure), (93, .pure)]
theorem env_dotCompare_ok : EnvOK Tryz.prog (mkD cs_dotCompare ss_dotCompare) env_dotCompare := envOK_of base (all_cons (st89.okl rfl (all_nil)) (all_nil)) (all_cons (okD rfl ok_cmpInt) (all_cons (okD rfl ok_cmpOr) (all_nil)))
theorem run_dotCompare (x : Dot × Dot) : Out.run (mkO cs_dotCompare ss_dotCompare) (evOrc env_dotCompare 12 20 89 ((DA.cons (DT.agg dc_Dot) (DA.one (DT.agg dc_Dot)) : DA TL (Dot × Dot)).enc x)) (DA.one (DT.one (DI.int .i64)) : DA TL (Int)).dec = un_dotCompare x := by kernel_rfl
theorem ok_dotCompare : DOK Tryz.prog 89 .pure df_dotCompare := data_of env_dotCompare_ok (loops := 12) (n := 20) (.inr rfl) st89.enters (DA.cons (DT.agg dc_Dot) (DA.one (DT.agg dc_Dot))) un_dotCompare (DA.one (DT.one (DI.int .i64))) run_dotCompare
/-- coll.own -/
def collOwn (c1 : Coll) : Option (Coll) :=
  cond (fits c1.v.length)
    (cond (fits c1.regs.length)
      (cond (fits c1.elems.length)
        (cond (fits c1.gone.length)
          (cond (fits c1.sums.length)
            (cond (fits c1.binds.length)
              (some c1)
              (none))
            (none))
          (none))
        (none))
      (none))
    (none)
def ch_collOwn : Cod (Cst TL) (Coll) := Cod.iso (Cod.cst 0 (Cod.cons (Cod.xs (Cod.sa (Cod.cons (Cod.im (Cod.fz j_lDot)) (Cod.cons (Cod.im (Cod.fz j_lReg)) (Cod.cons (Cod.im (Cod.fz j_lElem)) (Cod.cons (Cod.im (Cod.fz j_lDot)) (Cod.cons (Cod.im (Cod.fz j_lSum)) (Cod.cons (Cod.im (Cod.fz j_lBind)) (Cod.nil))))))))) (Cod.nil)) (Cod.nil)) (fun p => (Coll.mk p.1.1.1 p.1.1.2.1 p.1.1.2.2.1 p.1.1.2.2.2.1 p.1.1.2.2.2.2.1 p.1.1.2.2.2.2.2.1)) (fun (x : Coll) => (((x.v, (x.regs, (x.elems, (x.gone, (x.sums, (x.binds, ())))))), ()), ())) (fun _ => rfl)
def co_collOwn : Cod (Cst TL) (Coll) := Cod.iso (Cod.cst 6 (Cod.cons (Cod.xs (Cod.sa (Cod.cons (Cod.ar 0) (Cod.cons (Cod.ar 1) (Cod.cons (Cod.ar 2) (Cod.cons (Cod.ar 3) (Cod.cons (Cod.ar 4) (Cod.cons (Cod.ar 5) (Cod.nil))))))))) (Cod.nil)) (Cod.cons (Cod.arr 0 112 j_lDot) (Cod.cons (Cod.arr 1 103 j_lReg) (Cod.cons (Cod.arr 2 100 j_lElem) (Cod.cons (Cod.arr 3 48 j_lDot) (Cod.cons (Cod.arr 4 118 j_lSum) (Cod.cons (Cod.arr 5 121 j_lBind) (Cod.nil)))))))) (fun p => (Coll.mk p.2.1 p.2.2.1 p.2.2.2.1 p.2.2.2.2.1 p.2.2.2.2.2.1 p.2.2.2.2.2.2.1)) (fun (x : Coll) => ((((), ((), ((), ((), ((), ((), ())))))), ()), (x.v, (x.regs, (x.elems, (x.gone, (x.sums, (x.binds, ())))))))) (fun _ => rfl)
def un_collOwn (p : Coll) : Option (Coll) := collOwn p
noncomputable def sf_collOwn : SFn TL := SFn.one ch_collOwn.dec un_collOwn .normal co_collOwn.enc
noncomputable def cs_collOwn : List (Nat × DFn TL) := []
noncomputable def ss_collOwn : List (Nat × SFn TL) := []
noncomputable def env_collOwn : Env := envOf tab sl sh [(49, fd49)] [(76, (.cln 112)), (77, (.cln 103)), (78, (.cln 100)), (41, (.cln 48)), (79, (.cln 118)), (80, (.cln 121))]
theorem env_collOwn_ok : EnvOK Tryz.prog (mkD cs_collOwn ss_collOwn) env_collOwn := envOK_of base (all_cons (st49.okl rfl (all_nil)) (all_nil)) (all_cons (okCln okI_76) (all_cons (okCln okI_77) (all_cons (okCln okI_78) (all_cons (okCln okI_41) (all_cons (okCln okI_79) (all_cons (okCln okI_80) (all_nil)))))))
theorem run_collOwn (x : Coll) : Out.run (mkO cs_collOwn ss_collOwn) (evSum env_collOwn 12 20 49 (ch_collOwn.enc x)) (back1 co_collOwn) = un_collOwn x := by kernel_rfl
theorem ok_collOwn : SOK Tryz.prog 49 sf_collOwn := sum_one env_collOwn_ok (loops := 12) (n := 20) st49.enters ch_collOwn co_collOwn un_collOwn run_collOwn
/-- a loop of api.Reg] -/
def step_L114_2 (l1 : List Reg) (i1 : Int) (i2 : Int) (s1 : ByteArray) : Option (((List Reg) × Int × Int × ByteArray) ⊕ ((List Reg) × Int × ByteArray)) :=
  cond ((decide (i1 < i2)))
    (cond (decide (0 ≤ (w64 ((w64 (i1 + i2)).tdiv 2))))
      (cond (decide ((w64 ((w64 (i1 + i2)).tdiv 2)) < (l1.length : Int)))
        (ob (l1[((w64 ((w64 (i1 + i2)).tdiv 2))).toNat]?) fun e0 =>
        ob (cmpStr e0.key s1) fun r1 =>
        some (.inl (l1, (cond (decide (r1 < 0)) (w64 ((w64 ((w64 (i1 + i2)).tdiv 2)) + 1)) i1), (cond (decide (r1 < 0)) i2 (w64 ((w64 (i1 + i2)).tdiv 2))), s1)))
        (none))
      (none))
    (some (.inr (l1, i1, s1)))
def stp_L114_2 (p : (List Reg) × Int × Int × ByteArray) : Option (((List Reg) × Int × Int × ByteArray) ⊕ ((List Reg) × Int × ByteArray)) := step_L114_2 p.1 p.2.1 p.2.2.1 p.2.2.2
def L114_2 (l1 : List Reg) (i1 : Int) (i2 : Int) (s1 : ByteArray) : Option ((List Reg) × Int × ByteArray) := iterO stp_L114_2 ((i2 - i1).toNat + 2) (l1, i1, i2, s1)
def ch_L114_2 : Cod (Cst TL) ((List Reg) × Int × Int × ByteArray) := Cod.iso (Cod.cst 2 (Cod.cons (Cod.xs (Cod.sc (Cod.ar 0))) (Cod.cons (Cod.xs (Cod.sc (Cod.clo 115 [] [(1, 0)]))) (Cod.cons (Cod.xs (Cod.sc (Cod.im (Cod.int .i64)))) (Cod.cons (Cod.xs (Cod.sc (Cod.im (Cod.int .i64)))) (Cod.nil))))) (Cod.cons (Cod.arr 0 103 j_lReg) (Cod.cons (Cod.var 1 9 (Cod.cons (Cod.im Cod.str) (Cod.nil))) (Cod.nil)))) (fun p => (p.2.1, p.1.2.2.1, p.1.2.2.2.1, p.2.2.1.1)) (fun (x : (List Reg) × Int × Int × ByteArray) => (((), ((), (x.2.1, (x.2.2.1, ())))), (x.1, ((x.2.2.2, ()), ())))) (fun _ => rfl)
def co0_L114_2 : Cod (Cst TL) ((List Reg) × Int × ByteArray) := Cod.iso (Cod.cst 4 (Cod.cons (Cod.xs (Cod.sc (Cod.ar 0))) (Cod.cons (Cod.xs (Cod.sc (Cod.clo 115 [] [(1, 0)]))) (Cod.cons (Cod.xs (Cod.sc (Cod.im (Cod.int .i64)))) (Cod.nil)))) (Cod.cons (Cod.arr 0 103 j_lReg) (Cod.cons (Cod.var 1 9 (Cod.cons (Cod.im Cod.str) (Cod.nil))) (Cod.nil)))) (fun p => (p.2.1, p.1.2.2.1, p.2.2.1.1)) (fun (x : (List Reg) × Int × ByteArray) => (((), ((), (x.2.1, ()))), (x.1, ((x.2.2, ()), ())))) (fun _ => rfl)
noncomputable def sl_L114_2 : SFn TL := SFn.one ch_L114_2.dec (fun p => L114_2 p.1 p.2.1 p.2.2.1 p.2.2.2) (.exit 0) co0_L114_2.enc
noncomputable def cs_lL114_2 : List (Nat × DFn TL) := [(94, df_cmpStr)]
noncomputable def ss_lL114_2 : List (Nat × SFn TL) := []
noncomputable def env_lL114_2 : Env := envOf tab sl sh [(115, fd115)] [(94, .pure)]
theorem env_lL114_2_ok : EnvOK Tryz.prog (mkD cs_lL114_2 ss_lL114_2) env_lL114_2 := envOK_of base (all_cons (st115.okl rfl (all_nil)) (all_nil)) (all_cons (okD rfl ok_cmpStr) (all_nil))
theorem run_L114_2 (x : (List Reg) × Int × Int × ByteArray) : Out.run (mkO cs_lL114_2 ss_lL114_2) (evRound env_lL114_2 12 20 fd114.an q_L114_2 (loopIn (loopsOf fd114.body) 2) (ch_L114_2.enc x)) (back ch_L114_2 co0_L114_2 fun e => exE e (.exit 0)) = stp_L114_2 x := by kernel_rfl
theorem ok_L114_2 : LoopOK Tryz.prog (oneS sl_L114_2) nt114 q_L114_2 (loopIn (loopsOf fd114.body) 2) :=
  loop_one env_lL114_2_ok (loops := 12) (k := 20) (an := fd114.an) (by kernel_rfl) (FnSt.subl rfl st114.keys (all_cons (.inl (by kernel_rfl)) (all_nil))) ch_L114_2 co0_L114_2 (.exit 0) rfl stp_L114_2 _ run_L114_2 (fun x y h => ⟨_, h⟩) (fun _ => below_iff.1 rfl)
/-- a loop of api.Dot] -/
def step_L119_2 (l1 : List Dot) (i1 : Int) (i2 : Int) (d1 : Dot) : Option (((List Dot) × Int × Int × Dot) ⊕ ((List Dot) × Int × Dot)) :=
  cond ((decide (i1 < i2)))
    (cond (decide (0 ≤ (w64 ((w64 (i1 + i2)).tdiv 2))))
      (cond (decide ((w64 ((w64 (i1 + i2)).tdiv 2)) < (l1.length : Int)))
        (ob (l1[((w64 ((w64 (i1 + i2)).tdiv 2))).toNat]?) fun e0 =>
        ob (dotCompare e0 d1) fun r1 =>
        some (.inl (l1, (cond (decide (r1 < 0)) (w64 ((w64 ((w64 (i1 + i2)).tdiv 2)) + 1)) i1), (cond (decide (r1 < 0)) i2 (w64 ((w64 (i1 + i2)).tdiv 2))), d1)))
        (none))
      (none))
    (some (.inr (l1, i1, d1)))
def stp_L119_2 (p : (List Dot) × Int × Int × Dot) : Option (((List Dot) × Int × Int × Dot) ⊕ ((List Dot) × Int × Dot)) := step_L119_2 p.1 p.2.1 p.2.2.1 p.2.2.2
def L119_2 (l1 : List Dot) (i1 : Int) (i2 : Int) (d1 : Dot) : Option ((List Dot) × Int × Dot) := iterO stp_L119_2 ((i2 - i1).toNat + 2) (l1, i1, i2, d1)
def ch_L119_2 : Cod (Cst TL) ((List Dot) × Int × Int × Dot) := Cod.iso (Cod.cst 3 (Cod.cons (Cod.xs (Cod.sc (Cod.ar 0))) (Cod.cons (Cod.xs (Cod.sc (Cod.clo 120 [] [(1, 0), (2, 0)]))) (Cod.cons (Cod.xs (Cod.sc (Cod.im (Cod.int .i64)))) (Cod.cons (Cod.xs (Cod.sc (Cod.im (Cod.int .i64)))) (Cod.nil))))) (Cod.cons (Cod.arr 0 48 j_lDot) (Cod.cons (Cod.var 1 175 (Cod.cons (Cod.clo 89 [] []) (Cod.nil))) (Cod.cons (Cod.var 2 48 (Cod.cons (Cod.im (Cod.int .i64)) (Cod.cons (Cod.im (Cod.int .i64)) (Cod.cons (Cod.im (Cod.int .i64)) (Cod.nil))))) (Cod.nil))))) (fun p => (p.2.1, p.1.2.2.1, p.1.2.2.2.1, (Dot.mk p.2.2.2.1.1 p.2.2.2.1.2.1 p.2.2.2.1.2.2.1))) (fun (x : (List Dot) × Int × Int × Dot) => (((), ((), (x.2.1, (x.2.2.1, ())))), (x.1, (((), ()), ((x.2.2.2.device, (x.2.2.2.epoch, (x.2.2.2.seq, ()))), ()))))) (fun _ => rfl)
def co0_L119_2 : Cod (Cst TL) ((List Dot) × Int × Dot) := Cod.iso (Cod.cst 6 (Cod.cons (Cod.xs (Cod.sc (Cod.ar 0))) (Cod.cons (Cod.xs (Cod.sc (Cod.clo 120 [] [(1, 0), (2, 0)]))) (Cod.cons (Cod.xs (Cod.sc (Cod.im (Cod.int .i64)))) (Cod.nil)))) (Cod.cons (Cod.arr 0 48 j_lDot) (Cod.cons (Cod.var 1 175 (Cod.cons (Cod.clo 89 [] []) (Cod.nil))) (Cod.cons (Cod.var 2 48 (Cod.cons (Cod.im (Cod.int .i64)) (Cod.cons (Cod.im (Cod.int .i64)) (Cod.cons (Cod.im (Cod.int .i64)) (Cod.nil))))) (Cod.nil))))) (fun p => (p.2.1, p.1.2.2.1, (Dot.mk p.2.2.2.1.1 p.2.2.2.1.2.1 p.2.2.2.1.2.2.1))) (fun (x : (List Dot) × Int × Dot) => (((), ((), (x.2.1, ()))), (x.1, (((), ()), ((x.2.2.device, (x.2.2.epoch, (x.2.2.seq, ()))), ()))))) (fun _ => rfl)
noncomputable def sl_L119_2 : SFn TL := SFn.one ch_L119_2.dec (fun p => L119_2 p.1 p.2.1 p.2.2.1 p.2.2.2) (.exit 0) co0_L119_2.enc
noncomputable def cs_lL119_2 : List (Nat × DFn TL) := [(89, df_dotCompare)]
noncomputable def ss_lL119_2 : List (Nat × SFn TL) := []
noncomputable def env_lL119_2 : Env := envOf tab sl sh [(120, fd120)] [(89, .pure)]
theorem env_lL119_2_ok : EnvOK Tryz.prog (mkD cs_lL119_2 ss_lL119_2) env_lL119_2 := envOK_of base (all_cons (st120.okl rfl (all_nil)) (all_nil)) (all_cons (okD rfl ok_dotCompare) (all_nil))
theorem run_L119_2 (x : (List Dot) × Int × Int × Dot) : Out.run (mkO cs_lL119_2 ss_lL119_2) (evRound env_lL119_2 12 20 fd119.an q_L119_2 (loopIn (loopsOf fd119.body) 2) (ch_L119_2.enc x)) (back ch_L119_2 co0_L119_2 fun e => exE e (.exit 0)) = stp_L119_2 x := by kernel_rfl
theorem ok_L119_2 : LoopOK Tryz.prog (oneS sl_L119_2) nt119 q_L119_2 (loopIn (loopsOf fd119.body) 2) :=
  loop_one env_lL119_2_ok (loops := 12) (k := 20) (an := fd119.an) (by kernel_rfl) (FnSt.subl rfl st119.keys (all_cons (.inl (by kernel_rfl)) (all_nil))) ch_L119_2 co0_L119_2 (.exit 0) rfl stp_L119_2 _ run_L119_2 (fun x y h => ⟨_, h⟩) (fun _ => below_iff.1 rfl)
/-- a loop of api.Elem] -/
def step_L91_2 (l1 : List Elem) (i1 : Int) (i2 : Int) (o1 : Op) : Option (((List Elem) × Int × Int × Op) ⊕ ((List Elem) × Int × Op)) :=
  cond ((decide (i1 < i2)))
    (cond (decide (0 ≤ (w64 ((w64 (i1 + i2)).tdiv 2))))
      (cond (decide ((w64 ((w64 (i1 + i2)).tdiv 2)) < (l1.length : Int)))
        (ob (l1[((w64 ((w64 (i1 + i2)).tdiv 2))).toNat]?) fun e0 =>
        ob (cmpStr e0.key o1.key) fun r1 =>
        ob (cmpStr e0.text o1.text) fun r2 =>
        ob (dotCompare e0.dot o1.dot) fun r3 =>
        ob (cmpOr [r1, r2, r3]) fun r4 =>
        some (.inl (l1, (cond (decide (r4 < 0)) (w64 ((w64 ((w64 (i1 + i2)).tdiv 2)) + 1)) i1), (cond (decide (r4 < 0)) i2 (w64 ((w64 (i1 + i2)).tdiv 2))), o1)))
        (none))
      (none))
    (some (.inr (l1, i1, o1)))
def stp_L91_2 (p : (List Elem) × Int × Int × Op) : Option (((List Elem) × Int × Int × Op) ⊕ ((List Elem) × Int × Op)) := step_L91_2 p.1 p.2.1 p.2.2.1 p.2.2.2
def L91_2 (l1 : List Elem) (i1 : Int) (i2 : Int) (o1 : Op) : Option ((List Elem) × Int × Op) := iterO stp_L91_2 ((i2 - i1).toNat + 2) (l1, i1, i2, o1)
def ch_L91_2 : Cod (Cst TL) ((List Elem) × Int × Int × Op) := Cod.iso (Cod.cst 2 (Cod.cons (Cod.xs (Cod.sc (Cod.ar 0))) (Cod.cons (Cod.xs (Cod.sc (Cod.clo 92 [] [(1, 0)]))) (Cod.cons (Cod.xs (Cod.sc (Cod.im (Cod.int .i64)))) (Cod.cons (Cod.xs (Cod.sc (Cod.im (Cod.int .i64)))) (Cod.nil))))) (Cod.cons (Cod.arr 0 100 j_lElem) (Cod.cons (Cod.var 1 50 (Cod.cons (Cod.im (Cod.int .i64)) (Cod.cons (Cod.im (Cod.int .i64)) (Cod.cons (Cod.im (Cod.int .i64)) (Cod.cons (Cod.im (Cod.int .i64)) (Cod.cons (Cod.im (Cod.int .i64)) (Cod.cons (Cod.im (Cod.int .i64)) (Cod.cons (Cod.im Cod.str) (Cod.cons (Cod.im Cod.str) (Cod.cons (Cod.im (Cod.int .i64)) (Cod.cons (Cod.im (Cod.int .i64)) (Cod.cons (Cod.im (Cod.fz j_lDot)) (Cod.nil))))))))))))) (Cod.nil)))) (fun p => (p.2.1, p.1.2.2.1, p.1.2.2.2.1, (Op.mk (Dot.mk p.2.2.1.1 p.2.2.1.2.1 p.2.2.1.2.2.1) p.2.2.1.2.2.2.1 p.2.2.1.2.2.2.2.1 p.2.2.1.2.2.2.2.2.1 p.2.2.1.2.2.2.2.2.2.1 p.2.2.1.2.2.2.2.2.2.2.1 p.2.2.1.2.2.2.2.2.2.2.2.1 p.2.2.1.2.2.2.2.2.2.2.2.2.1 p.2.2.1.2.2.2.2.2.2.2.2.2.2.1))) (fun (x : (List Elem) × Int × Int × Op) => (((), ((), (x.2.1, (x.2.2.1, ())))), (x.1, ((x.2.2.2.dot.device, (x.2.2.2.dot.epoch, (x.2.2.2.dot.seq, (x.2.2.2.coll, (x.2.2.2.ver, (x.2.2.2.kind, (x.2.2.2.key, (x.2.2.2.text, (x.2.2.2.n, (x.2.2.2.time, (x.2.2.2.dots, ()))))))))))), ())))) (fun _ => rfl)
def co0_L91_2 : Cod (Cst TL) ((List Elem) × Int × Op) := Cod.iso (Cod.cst 4 (Cod.cons (Cod.xs (Cod.sc (Cod.ar 0))) (Cod.cons (Cod.xs (Cod.sc (Cod.clo 92 [] [(1, 0)]))) (Cod.cons (Cod.xs (Cod.sc (Cod.im (Cod.int .i64)))) (Cod.nil)))) (Cod.cons (Cod.arr 0 100 j_lElem) (Cod.cons (Cod.var 1 50 (Cod.cons (Cod.im (Cod.int .i64)) (Cod.cons (Cod.im (Cod.int .i64)) (Cod.cons (Cod.im (Cod.int .i64)) (Cod.cons (Cod.im (Cod.int .i64)) (Cod.cons (Cod.im (Cod.int .i64)) (Cod.cons (Cod.im (Cod.int .i64)) (Cod.cons (Cod.im Cod.str) (Cod.cons (Cod.im Cod.str) (Cod.cons (Cod.im (Cod.int .i64)) (Cod.cons (Cod.im (Cod.int .i64)) (Cod.cons (Cod.im (Cod.fz j_lDot)) (Cod.nil))))))))))))) (Cod.nil)))) (fun p => (p.2.1, p.1.2.2.1, (Op.mk (Dot.mk p.2.2.1.1 p.2.2.1.2.1 p.2.2.1.2.2.1) p.2.2.1.2.2.2.1 p.2.2.1.2.2.2.2.1 p.2.2.1.2.2.2.2.2.1 p.2.2.1.2.2.2.2.2.2.1 p.2.2.1.2.2.2.2.2.2.2.1 p.2.2.1.2.2.2.2.2.2.2.2.1 p.2.2.1.2.2.2.2.2.2.2.2.2.1 p.2.2.1.2.2.2.2.2.2.2.2.2.2.1))) (fun (x : (List Elem) × Int × Op) => (((), ((), (x.2.1, ()))), (x.1, ((x.2.2.dot.device, (x.2.2.dot.epoch, (x.2.2.dot.seq, (x.2.2.coll, (x.2.2.ver, (x.2.2.kind, (x.2.2.key, (x.2.2.text, (x.2.2.n, (x.2.2.time, (x.2.2.dots, ()))))))))))), ())))) (fun _ => rfl)
noncomputable def sl_L91_2 : SFn TL := SFn.one ch_L91_2.dec (fun p => L91_2 p.1 p.2.1 p.2.2.1 p.2.2.2) (.exit 0) co0_L91_2.enc
noncomputable def cs_lL91_2 : List (Nat × DFn TL) := [(94, df_cmpStr), (89, df_dotCompare), (93, df_cmpOr)]
noncomputable def ss_lL91_2 : List (Nat × SFn TL) := []
noncomputable def env_lL91_2 : Env := envOf tab sl sh [(92, fd92)] [(94, .pure), (89, .pure), (93, .pure)]
theorem env_lL91_2_ok : EnvOK Tryz.prog (mkD cs_lL91_2 ss_lL91_2) env_lL91_2 := envOK_of base (all_cons (st92.okl rfl (all_nil)) (all_nil)) (all_cons (okD rfl ok_cmpStr) (all_cons (okD rfl ok_dotCompare) (all_cons (okD rfl ok_cmpOr) (all_nil))))
theorem run_L91_2 (x : (List Elem) × Int × Int × Op) : Out.run (mkO cs_lL91_2 ss_lL91_2) (evRound env_lL91_2 12 20 fd91.an q_L91_2 (loopIn (loopsOf fd91.body) 2) (ch_L91_2.enc x)) (back ch_L91_2 co0_L91_2 fun e => exE e (.exit 0)) = stp_L91_2 x := by kernel_rfl
theorem ok_L91_2 : LoopOK Tryz.prog (oneS sl_L91_2) nt91 q_L91_2 (loopIn (loopsOf fd91.body) 2) :=
  loop_one env_lL91_2_ok (loops := 12) (k := 20) (an := fd91.an) (by kernel_rfl) (FnSt.subl rfl st91.keys (all_cons (.inl (by kernel_rfl)) (all_nil))) ch_L91_2 co0_L91_2 (.exit 0) rfl stp_L91_2 _ run_L91_2 (fun x y h => ⟨_, h⟩) (fun _ => below_iff.1 rfl)
/-- a loop of api.Elem] -/
def step_L97_5 (l1 : List Elem) (i1 : Int) (i2 : Int) (d1 : Dot) : Option (((List Elem) × Int × Int × Dot) ⊕ ((List Elem) × Int × Dot)) :=
  cond ((decide (i2 < (l1.length : Int))))
    (cond (decide (0 ≤ i2))
      (cond (decide (i2 < (l1.length : Int)))
        (ob (l1[i2.toNat]?) fun e0 =>
        cond ((!(cond (e0.dot.device == d1.device) (cond (e0.dot.epoch == d1.epoch) (cond (e0.dot.seq == d1.seq) true false) false) false)))
          (cond (decide (0 ≤ i1))
            (cond (decide (i1 < (l1.length : Int)))
              (ob (l1[i1.toNat]?) fun e1 =>
              some (.inl ((l1.set i1.toNat e0), (w64 (i1 + 1)), (w64 (i2 + 1)), d1)))
              (none))
            (none))
          (some (.inl (l1, i1, (w64 (i2 + 1)), d1))))
        (none))
      (none))
    (some (.inr (l1, i1, d1)))
def stp_L97_5 (p : (List Elem) × Int × Int × Dot) : Option (((List Elem) × Int × Int × Dot) ⊕ ((List Elem) × Int × Dot)) := step_L97_5 p.1 p.2.1 p.2.2.1 p.2.2.2
def L97_5 (l1 : List Elem) (i1 : Int) (i2 : Int) (d1 : Dot) : Option ((List Elem) × Int × Dot) := iterO stp_L97_5 (((l1.length : Int) - i2).toNat + 2) (l1, i1, i2, d1)
def ch_L97_5 : Cod (Cst TL) ((List Elem) × Int × Int × Dot) := Cod.iso (Cod.cst 2 (Cod.cons (Cod.xs (Cod.sc (Cod.ar 0))) (Cod.cons (Cod.xs (Cod.sc (Cod.clo 98 [] [(1, 0)]))) (Cod.cons (Cod.xs (Cod.sc (Cod.im (Cod.int .i64)))) (Cod.cons (Cod.xs (Cod.sc (Cod.im (Cod.int .i64)))) (Cod.nil))))) (Cod.cons (Cod.arr 0 100 j_lElem) (Cod.cons (Cod.var 1 48 (Cod.cons (Cod.im (Cod.int .i64)) (Cod.cons (Cod.im (Cod.int .i64)) (Cod.cons (Cod.im (Cod.int .i64)) (Cod.nil))))) (Cod.nil)))) (fun p => (p.2.1, p.1.2.2.1, p.1.2.2.2.1, (Dot.mk p.2.2.1.1 p.2.2.1.2.1 p.2.2.1.2.2.1))) (fun (x : (List Elem) × Int × Int × Dot) => (((), ((), (x.2.1, (x.2.2.1, ())))), (x.1, ((x.2.2.2.device, (x.2.2.2.epoch, (x.2.2.2.seq, ()))), ())))) (fun _ => rfl)
def co0_L97_5 : Cod (Cst TL) ((List Elem) × Int × Dot) := Cod.iso (Cod.cst 4 (Cod.cons (Cod.xs (Cod.sc (Cod.ar 0))) (Cod.cons (Cod.xs (Cod.sc (Cod.im (Cod.int .i64)))) (Cod.nil))) (Cod.cons (Cod.arr 0 100 j_lElem) (Cod.cons (Cod.var 1 48 (Cod.cons (Cod.im (Cod.int .i64)) (Cod.cons (Cod.im (Cod.int .i64)) (Cod.cons (Cod.im (Cod.int .i64)) (Cod.nil))))) (Cod.nil)))) (fun p => (p.2.1, p.1.2.1, (Dot.mk p.2.2.1.1 p.2.2.1.2.1 p.2.2.1.2.2.1))) (fun (x : (List Elem) × Int × Dot) => (((), (x.2.1, ())), (x.1, ((x.2.2.device, (x.2.2.epoch, (x.2.2.seq, ()))), ())))) (fun _ => rfl)
noncomputable def sl_L97_5 : SFn TL := SFn.one ch_L97_5.dec (fun p => L97_5 p.1 p.2.1 p.2.2.1 p.2.2.2) (.exit 0) co0_L97_5.enc
noncomputable def cs_lL97_5 : List (Nat × DFn TL) := []
noncomputable def ss_lL97_5 : List (Nat × SFn TL) := []
noncomputable def env_lL97_5 : Env := envOf tab sl sh [(98, fd98)] []
theorem env_lL97_5_ok : EnvOK Tryz.prog (mkD cs_lL97_5 ss_lL97_5) env_lL97_5 := envOK_of base (all_cons (st98.okl rfl (all_nil)) (all_nil)) (all_nil)
theorem run_L97_5 (x : (List Elem) × Int × Int × Dot) : Out.run (mkO cs_lL97_5 ss_lL97_5) (evRound env_lL97_5 12 20 fd97.an q_L97_5 (loopIn (loopsOf fd97.body) 5) (ch_L97_5.enc x)) (back ch_L97_5 co0_L97_5 fun e => exE e (.exit 0)) = stp_L97_5 x := by kernel_rfl
theorem ok_L97_5 : LoopOK Tryz.prog (oneS sl_L97_5) nt97 q_L97_5 (loopIn (loopsOf fd97.body) 5) :=
  loop_one env_lL97_5_ok (loops := 12) (k := 20) (an := fd97.an) (by kernel_rfl) (FnSt.subl rfl st97.keys (all_cons (.inl (by kernel_rfl)) (all_nil))) ch_L97_5 co0_L97_5 (.exit 0) rfl stp_L97_5 _ run_L97_5 (fun x y h => ⟨_, h⟩) (fun _ => below_iff.1 rfl)
/-- a loop of api.Elem] -/
def step_L126_2 (l1 : List Elem) (i1 : Int) (i2 : Int) (i3 : Int) (d1 : Dot) : Option (((List Elem) × Int × Int × Int × Dot) ⊕ (((Int × Dot × (List Elem)) ⊕ (Int × Dot × (List Elem))))) :=
  cond ((decide (i3 < i2)))
    (cond (decide (0 ≤ i3))
      (cond (decide (i3 < (l1.length : Int)))
        (ob (l1[i3.toNat]?) fun e0 =>
        cond ((cond (e0.dot.device == d1.device) (cond (e0.dot.epoch == d1.epoch) (cond (e0.dot.seq == d1.seq) true false) false) false))
          (some (.inr (.inr (i3, d1, l1))))
          (some (.inl (l1, i1, i2, (w64 (i3 + 1)), d1))))
        (none))
      (none))
    (some (.inr (.inl (i1, d1, l1))))
def stp_L126_2 (p : (List Elem) × Int × Int × Int × Dot) : Option (((List Elem) × Int × Int × Int × Dot) ⊕ (((Int × Dot × (List Elem)) ⊕ (Int × Dot × (List Elem))))) := step_L126_2 p.1 p.2.1 p.2.2.1 p.2.2.2.1 p.2.2.2.2
def L126_2 (l1 : List Elem) (i1 : Int) (i2 : Int) (i3 : Int) (d1 : Dot) : Option (((Int × Dot × (List Elem)) ⊕ (Int × Dot × (List Elem)))) := iterO stp_L126_2 ((i2 - i3).toNat + 2) (l1, i1, i2, i3, d1)
def ch_L126_2 : Cod (Cst TL) ((List Elem) × Int × Int × Int × Dot) := Cod.iso (Cod.cst 2 (Cod.cons (Cod.xs (Cod.sc (Cod.ar 0))) (Cod.cons (Cod.xs (Cod.sc (Cod.clo 98 [] [(1, 0)]))) (Cod.cons (Cod.xs (Cod.sc (Cod.im (Cod.int .i64)))) (Cod.cons (Cod.xs (Cod.sc (Cod.im (Cod.int .i64)))) (Cod.cons (Cod.xs (Cod.sc (Cod.im (Cod.int .i64)))) (Cod.nil)))))) (Cod.cons (Cod.arr 0 100 j_lElem) (Cod.cons (Cod.var 1 48 (Cod.cons (Cod.im (Cod.int .i64)) (Cod.cons (Cod.im (Cod.int .i64)) (Cod.cons (Cod.im (Cod.int .i64)) (Cod.nil))))) (Cod.nil)))) (fun p => (p.2.1, p.1.2.2.1, p.1.2.2.2.1, p.1.2.2.2.2.1, (Dot.mk p.2.2.1.1 p.2.2.1.2.1 p.2.2.1.2.2.1))) (fun (x : (List Elem) × Int × Int × Int × Dot) => (((), ((), (x.2.1, (x.2.2.1, (x.2.2.2.1, ()))))), (x.1, ((x.2.2.2.2.device, (x.2.2.2.2.epoch, (x.2.2.2.2.seq, ()))), ())))) (fun _ => rfl)
def co0_L126_2 : Cod (Cst TL) (Int × Dot × (List Elem)) := Cod.iso (Cod.cst 4 (Cod.cons (Cod.xs (Cod.sc (Cod.im (Cod.int .i64)))) (Cod.nil)) (Cod.cons (Cod.arr 0 100 j_lElem) (Cod.cons (Cod.var 1 48 (Cod.cons (Cod.im (Cod.int .i64)) (Cod.cons (Cod.im (Cod.int .i64)) (Cod.cons (Cod.im (Cod.int .i64)) (Cod.nil))))) (Cod.nil)))) (fun p => (p.1.1, (Dot.mk p.2.2.1.1 p.2.2.1.2.1 p.2.2.1.2.2.1), p.2.1)) (fun (x : Int × Dot × (List Elem)) => ((x.1, ()), (x.2.2, ((x.2.1.device, (x.2.1.epoch, (x.2.1.seq, ()))), ())))) (fun _ => rfl)
def co1_L126_2 : Cod (Cst TL) (Int × Dot × (List Elem)) := Cod.iso (Cod.cst 4 (Cod.cons (Cod.xs (Cod.sc (Cod.im (Cod.int .i64)))) (Cod.nil)) (Cod.cons (Cod.arr 0 100 j_lElem) (Cod.cons (Cod.var 1 48 (Cod.cons (Cod.im (Cod.int .i64)) (Cod.cons (Cod.im (Cod.int .i64)) (Cod.cons (Cod.im (Cod.int .i64)) (Cod.nil))))) (Cod.nil)))) (fun p => (p.1.1, (Dot.mk p.2.2.1.1 p.2.2.1.2.1 p.2.2.1.2.2.1), p.2.1)) (fun (x : Int × Dot × (List Elem)) => ((x.1, ()), (x.2.2, ((x.2.1.device, (x.2.1.epoch, (x.2.1.seq, ()))), ())))) (fun _ => rfl)
noncomputable def sl_L126_2 : SFn TL := SFn.two ch_L126_2.dec (fun p => L126_2 p.1 p.2.1 p.2.2.1 p.2.2.2.1 p.2.2.2.2) (.exit 0) .ret co0_L126_2.enc co1_L126_2.enc
noncomputable def cs_lL126_2 : List (Nat × DFn TL) := []
noncomputable def ss_lL126_2 : List (Nat × SFn TL) := []
noncomputable def env_lL126_2 : Env := envOf tab sl sh [(98, fd98)] []
theorem env_lL126_2_ok : EnvOK Tryz.prog (mkD cs_lL126_2 ss_lL126_2) env_lL126_2 := envOK_of base (all_cons (st98.okl rfl (all_nil)) (all_nil)) (all_nil)
theorem run_L126_2 (x : (List Elem) × Int × Int × Int × Dot) : Out.run (mkO cs_lL126_2 ss_lL126_2) (evRound env_lL126_2 12 20 fd126.an q_L126_2 (loopIn (loopsOf fd126.body) 2) (ch_L126_2.enc x)) (back2 ch_L126_2 co0_L126_2 co1_L126_2 (.exit 0) .ret) = stp_L126_2 x := by kernel_rfl
theorem ok_L126_2 : LoopOK Tryz.prog (oneS sl_L126_2) nt126 q_L126_2 (loopIn (loopsOf fd126.body) 2) :=
  loop_two env_lL126_2_ok (loops := 12) (k := 20) (an := fd126.an) (by kernel_rfl) (FnSt.subl rfl st126.keys (all_cons (.inl (by kernel_rfl)) (all_nil))) ch_L126_2 co0_L126_2 co1_L126_2 (.exit 0) .ret rfl rfl stp_L126_2 _ run_L126_2 (fun x y h => ⟨_, h⟩) (fun _ => below_iff.1 rfl)
/-- a loop of coll.remove -/
def step_L53_2 (l1 : List Dot) (i1 : Int) (i2 : Int) (c1 : Coll) (c2 : Coll) : Option (((List Dot) × Int × Int × Coll × Coll) ⊕ (Coll × Coll)) :=
  cond ((decide (i2 < i1)))
    (cond (decide (0 ≤ i2))
      (ob (l1[i2.toNat]?) fun e0 =>
      ob (L119_2 c1.gone 0 (c1.gone.length : Int) e0) fun y1 =>
      cond ((decide (y1.2.1 < (y1.1.length : Int))))
        (cond (decide (0 ≤ y1.2.1))
          (cond (decide (y1.2.1 < (y1.1.length : Int)))
            (ob (y1.1[y1.2.1.toNat]?) fun e2 =>
            ob (dotCompare e2 y1.2.2) fun r3 =>
            cond ((!(r3 == 0)))
              (cond (decide (0 ≤ y1.2.1))
                (cond (decide (y1.2.1 ≤ (y1.1.length : Int)))
                  (cond (fits ((((y1.1.take y1.2.1.toNat) ++ [e0]) ++ ((y1.1.take y1.1.length).drop y1.2.1.toNat)).length))
                    (ob (L126_2 c1.elems 0 (c1.elems.length : Int) 0 e0) fun y4 =>
                    two y4 (fun a5 =>
                      some (.inl (l1, i1, (w64 (i2 + 1)), (Coll.mk c1.v c1.regs a5.2.2 (((y1.1.take y1.2.1.toNat) ++ [e0]) ++ ((y1.1.take y1.1.length).drop y1.2.1.toNat)) c1.sums c1.binds), c2))) (fun b6 =>
                      cond ((b6.1 == (-1)))
                        (some (.inl (l1, i1, (w64 (i2 + 1)), (Coll.mk c1.v c1.regs b6.2.2 (((y1.1.take y1.2.1.toNat) ++ [e0]) ++ ((y1.1.take y1.1.length).drop y1.2.1.toNat)) c1.sums c1.binds), c2)))
                        (ob (L97_5 b6.2.2 b6.1 (w64 (b6.1 + 1)) b6.2.1) fun y7 =>
                        cond (decide (0 ≤ y7.2.1))
                          (cond (decide (y7.2.1 ≤ (y7.1.length : Int)))
                            (cond (decide ((y7.1.length : Int) ≤ (y7.1.length : Int)))
                              (cond (decide (0 ≤ y7.2.1))
                                (cond (decide (y7.2.1 ≤ ((((y7.1.take y7.2.1.toNat) ++ (List.replicate (((y7.1.length : Int)).toNat - y7.2.1.toNat) (Elem.mk s_empty s_empty 0 (Dot.mk 0 0 0)))) ++ ((y7.1.take y7.1.length).drop (y7.2.1.toNat + (((y7.1.length : Int)).toNat - y7.2.1.toNat)))).length : Int)))
                                  (some (.inl (l1, i1, (w64 (i2 + 1)), (Coll.mk c1.v c1.regs ((((y7.1.take y7.2.1.toNat) ++ (List.replicate (((y7.1.length : Int)).toNat - y7.2.1.toNat) (Elem.mk s_empty s_empty 0 (Dot.mk 0 0 0)))) ++ ((y7.1.take y7.1.length).drop (y7.2.1.toNat + (((y7.1.length : Int)).toNat - y7.2.1.toNat)))).take y7.2.1.toNat) (((y1.1.take y1.2.1.toNat) ++ [e0]) ++ ((y1.1.take y1.1.length).drop y1.2.1.toNat)) c1.sums c1.binds), c2)))
                                  (none))
                                (none))
                              (none))
                            (none))
                          (none))))
                    (none))
                  (none))
                (none))
              (ob (L126_2 c1.elems 0 (c1.elems.length : Int) 0 e0) fun y8 =>
              two y8 (fun a9 =>
                some (.inl (l1, i1, (w64 (i2 + 1)), (Coll.mk c1.v c1.regs a9.2.2 y1.1 c1.sums c1.binds), c2))) (fun b10 =>
                cond ((b10.1 == (-1)))
                  (some (.inl (l1, i1, (w64 (i2 + 1)), (Coll.mk c1.v c1.regs b10.2.2 y1.1 c1.sums c1.binds), c2)))
                  (ob (L97_5 b10.2.2 b10.1 (w64 (b10.1 + 1)) b10.2.1) fun y11 =>
                  cond (decide (0 ≤ y11.2.1))
                    (cond (decide (y11.2.1 ≤ (y11.1.length : Int)))
                      (cond (decide ((y11.1.length : Int) ≤ (y11.1.length : Int)))
                        (cond (decide (0 ≤ y11.2.1))
                          (cond (decide (y11.2.1 ≤ ((((y11.1.take y11.2.1.toNat) ++ (List.replicate (((y11.1.length : Int)).toNat - y11.2.1.toNat) (Elem.mk s_empty s_empty 0 (Dot.mk 0 0 0)))) ++ ((y11.1.take y11.1.length).drop (y11.2.1.toNat + (((y11.1.length : Int)).toNat - y11.2.1.toNat)))).length : Int)))
                            (some (.inl (l1, i1, (w64 (i2 + 1)), (Coll.mk c1.v c1.regs ((((y11.1.take y11.2.1.toNat) ++ (List.replicate (((y11.1.length : Int)).toNat - y11.2.1.toNat) (Elem.mk s_empty s_empty 0 (Dot.mk 0 0 0)))) ++ ((y11.1.take y11.1.length).drop (y11.2.1.toNat + (((y11.1.length : Int)).toNat - y11.2.1.toNat)))).take y11.2.1.toNat) y1.1 c1.sums c1.binds), c2)))
                            (none))
                          (none))
                        (none))
                      (none))
                    (none)))))
            (none))
          (none))
        (cond (decide (0 ≤ y1.2.1))
          (cond (decide (y1.2.1 ≤ (y1.1.length : Int)))
            (cond (fits ((((y1.1.take y1.2.1.toNat) ++ [e0]) ++ ((y1.1.take y1.1.length).drop y1.2.1.toNat)).length))
              (ob (L126_2 c1.elems 0 (c1.elems.length : Int) 0 e0) fun y12 =>
              two y12 (fun a13 =>
                some (.inl (l1, i1, (w64 (i2 + 1)), (Coll.mk c1.v c1.regs a13.2.2 (((y1.1.take y1.2.1.toNat) ++ [e0]) ++ ((y1.1.take y1.1.length).drop y1.2.1.toNat)) c1.sums c1.binds), c2))) (fun b14 =>
                cond ((b14.1 == (-1)))
                  (some (.inl (l1, i1, (w64 (i2 + 1)), (Coll.mk c1.v c1.regs b14.2.2 (((y1.1.take y1.2.1.toNat) ++ [e0]) ++ ((y1.1.take y1.1.length).drop y1.2.1.toNat)) c1.sums c1.binds), c2)))
                  (ob (L97_5 b14.2.2 b14.1 (w64 (b14.1 + 1)) b14.2.1) fun y15 =>
                  cond (decide (0 ≤ y15.2.1))
                    (cond (decide (y15.2.1 ≤ (y15.1.length : Int)))
                      (cond (decide ((y15.1.length : Int) ≤ (y15.1.length : Int)))
                        (cond (decide (0 ≤ y15.2.1))
                          (cond (decide (y15.2.1 ≤ ((((y15.1.take y15.2.1.toNat) ++ (List.replicate (((y15.1.length : Int)).toNat - y15.2.1.toNat) (Elem.mk s_empty s_empty 0 (Dot.mk 0 0 0)))) ++ ((y15.1.take y15.1.length).drop (y15.2.1.toNat + (((y15.1.length : Int)).toNat - y15.2.1.toNat)))).length : Int)))
                            (some (.inl (l1, i1, (w64 (i2 + 1)), (Coll.mk c1.v c1.regs ((((y15.1.take y15.2.1.toNat) ++ (List.replicate (((y15.1.length : Int)).toNat - y15.2.1.toNat) (Elem.mk s_empty s_empty 0 (Dot.mk 0 0 0)))) ++ ((y15.1.take y15.1.length).drop (y15.2.1.toNat + (((y15.1.length : Int)).toNat - y15.2.1.toNat)))).take y15.2.1.toNat) (((y1.1.take y1.2.1.toNat) ++ [e0]) ++ ((y1.1.take y1.1.length).drop y1.2.1.toNat)) c1.sums c1.binds), c2)))
                            (none))
                          (none))
                        (none))
                      (none))
                    (none))))
              (none))
            (none))
          (none)))
      (none))
    (some (.inr (c1, c2)))
def stp_L53_2 (p : (List Dot) × Int × Int × Coll × Coll) : Option (((List Dot) × Int × Int × Coll × Coll) ⊕ (Coll × Coll)) := step_L53_2 p.1 p.2.1 p.2.2.1 p.2.2.2.1 p.2.2.2.2
def L53_2 (l1 : List Dot) (i1 : Int) (i2 : Int) (c1 : Coll) (c2 : Coll) : Option (Coll × Coll) := iterO stp_L53_2 ((i1 - i2).toNat + 2) (l1, i1, i2, c1, c2)
def ch_L53_2 : Cod (Cst TL) ((List Dot) × Int × Int × Coll × Coll) := Cod.iso (Cod.cst 13 (Cod.cons (Cod.xs (Cod.sc (Cod.ptr 0 0))) (Cod.cons (Cod.xs (Cod.sc (Cod.ptr 1 0))) (Cod.cons (Cod.xs (Cod.sc (Cod.im (Cod.fz j_lDot)))) (Cod.cons (Cod.xs (Cod.sc (Cod.im (Cod.int .i64)))) (Cod.cons (Cod.xs (Cod.sc (Cod.im (Cod.int .i64)))) (Cod.nil)))))) (Cod.cons (Cod.var 0 36 (Cod.cons (Cod.im (Cod.fz j_lDot)) (Cod.cons (Cod.ar 2) (Cod.cons (Cod.ar 3) (Cod.cons (Cod.ar 4) (Cod.cons (Cod.ar 5) (Cod.cons (Cod.ar 6) (Cod.nil)))))))) (Cod.cons (Cod.var 1 36 (Cod.cons (Cod.ar 7) (Cod.cons (Cod.ar 8) (Cod.cons (Cod.ar 9) (Cod.cons (Cod.ar 10) (Cod.cons (Cod.ar 11) (Cod.cons (Cod.ar 12) (Cod.nil)))))))) (Cod.cons (Cod.arr 2 103 j_lReg) (Cod.cons (Cod.arr 3 100 j_lElem) (Cod.cons (Cod.arr 4 48 j_lDot) (Cod.cons (Cod.arr 5 118 j_lSum) (Cod.cons (Cod.arr 6 121 j_lBind) (Cod.cons (Cod.arr 7 112 j_lDot) (Cod.cons (Cod.arr 8 103 j_lReg) (Cod.cons (Cod.arr 9 100 j_lElem) (Cod.cons (Cod.arr 10 48 j_lDot) (Cod.cons (Cod.arr 11 118 j_lSum) (Cod.cons (Cod.arr 12 121 j_lBind) (Cod.nil))))))))))))))) (fun p => (p.1.2.2.1, p.1.2.2.2.1, p.1.2.2.2.2.1, (Coll.mk p.2.1.1 p.2.2.2.1 p.2.2.2.2.1 p.2.2.2.2.2.1 p.2.2.2.2.2.2.1 p.2.2.2.2.2.2.2.1), (Coll.mk p.2.2.2.2.2.2.2.2.1 p.2.2.2.2.2.2.2.2.2.1 p.2.2.2.2.2.2.2.2.2.2.1 p.2.2.2.2.2.2.2.2.2.2.2.1 p.2.2.2.2.2.2.2.2.2.2.2.2.1 p.2.2.2.2.2.2.2.2.2.2.2.2.2.1))) (fun (x : (List Dot) × Int × Int × Coll × Coll) => (((), ((), (x.1, (x.2.1, (x.2.2.1, ()))))), ((x.2.2.2.1.v, ((), ((), ((), ((), ((), ())))))), (((), ((), ((), ((), ((), ((), ())))))), (x.2.2.2.1.regs, (x.2.2.2.1.elems, (x.2.2.2.1.gone, (x.2.2.2.1.sums, (x.2.2.2.1.binds, (x.2.2.2.2.v, (x.2.2.2.2.regs, (x.2.2.2.2.elems, (x.2.2.2.2.gone, (x.2.2.2.2.sums, (x.2.2.2.2.binds, ()))))))))))))))) (fun _ => rfl)
def co0_L53_2 : Cod (Cst TL) (Coll × Coll) := Cod.iso (Cod.cst 26 (Cod.cons (Cod.xs (Cod.sc (Cod.ptr 0 0))) (Cod.cons (Cod.xs (Cod.sc (Cod.ptr 1 0))) (Cod.nil))) (Cod.cons (Cod.var 0 36 (Cod.cons (Cod.im (Cod.fz j_lDot)) (Cod.cons (Cod.ar 2) (Cod.cons (Cod.ar 24) (Cod.cons (Cod.ar 25) (Cod.cons (Cod.ar 5) (Cod.cons (Cod.ar 6) (Cod.nil)))))))) (Cod.cons (Cod.var 1 36 (Cod.cons (Cod.ar 7) (Cod.cons (Cod.ar 8) (Cod.cons (Cod.ar 9) (Cod.cons (Cod.ar 10) (Cod.cons (Cod.ar 11) (Cod.cons (Cod.ar 12) (Cod.nil)))))))) (Cod.cons (Cod.arr 2 103 j_lReg) (Cod.cons (Cod.arr 5 118 j_lSum) (Cod.cons (Cod.arr 6 121 j_lBind) (Cod.cons (Cod.arr 7 112 j_lDot) (Cod.cons (Cod.arr 8 103 j_lReg) (Cod.cons (Cod.arr 9 100 j_lElem) (Cod.cons (Cod.arr 10 48 j_lDot) (Cod.cons (Cod.arr 11 118 j_lSum) (Cod.cons (Cod.arr 12 121 j_lBind) (Cod.cons (Cod.arr 24 100 j_lElem) (Cod.cons (Cod.arr 25 48 j_lDot) (Cod.nil))))))))))))))) (fun p => ((Coll.mk p.2.1.1 p.2.2.2.1 p.2.2.2.2.2.2.2.2.2.2.2.2.1 p.2.2.2.2.2.2.2.2.2.2.2.2.2.1 p.2.2.2.2.1 p.2.2.2.2.2.1), (Coll.mk p.2.2.2.2.2.2.1 p.2.2.2.2.2.2.2.1 p.2.2.2.2.2.2.2.2.1 p.2.2.2.2.2.2.2.2.2.1 p.2.2.2.2.2.2.2.2.2.2.1 p.2.2.2.2.2.2.2.2.2.2.2.1))) (fun (x : Coll × Coll) => (((), ((), ())), ((x.1.v, ((), ((), ((), ((), ((), ())))))), (((), ((), ((), ((), ((), ((), ())))))), (x.1.regs, (x.1.sums, (x.1.binds, (x.2.v, (x.2.regs, (x.2.elems, (x.2.gone, (x.2.sums, (x.2.binds, (x.1.elems, (x.1.gone, ()))))))))))))))) (fun _ => rfl)
noncomputable def sl_L53_2 : SFn TL := SFn.one ch_L53_2.dec (fun p => L53_2 p.1 p.2.1 p.2.2.1 p.2.2.2.1 p.2.2.2.2) (.exit 0) co0_L53_2.enc
noncomputable def cs_lL53_2 : List (Nat × DFn TL) := [(89, df_dotCompare)]
noncomputable def ss_lL53_2 : List (Nat × SFn TL) := [(219002, sl_L119_2), (197005, sl_L97_5), (226002, sl_L126_2)]
noncomputable def env_lL53_2 : Env := envOf tab sl sh [(90, fd90), (119, fd119), (120, fd120), (97, fd97), (126, fd126)] [(89, .pure), (96, (.ins 48))]
theorem env_lL53_2_ok : EnvOK Tryz.prog (mkD cs_lL53_2 ss_lL53_2) env_lL53_2 := envOK_of base (all_cons (st90.okl rfl (all_nil)) (all_cons (st119.okl rfl (all_cons (LoopOK.cast ok_L119_2 rfl) (all_nil))) (all_cons (st120.okl rfl (all_nil)) (all_cons (st97.okl rfl (all_cons (LoopOK.cast ok_L97_5 rfl) (all_nil))) (all_cons (st126.okl rfl (all_cons (LoopOK.cast ok_L126_2 rfl) (all_nil))) (all_nil)))))) (all_cons (okD rfl ok_dotCompare) (all_cons (okIns okI_96) (all_nil)))
theorem run_L53_2 (x : (List Dot) × Int × Int × Coll × Coll) : Out.run (mkO cs_lL53_2 ss_lL53_2) (evRound env_lL53_2 12 20 fd53.an q_L53_2 (loopIn (loopsOf fd53.body) 2) (ch_L53_2.enc x)) (back ch_L53_2 co0_L53_2 fun e => exE e (.exit 0)) = stp_L53_2 x := by kernel_rfl
theorem ok_L53_2 : LoopOK Tryz.prog (oneS sl_L53_2) nt53 q_L53_2 (loopIn (loopsOf fd53.body) 2) :=
  loop_one env_lL53_2_ok (loops := 12) (k := 20) (an := fd53.an) (by kernel_rfl) (FnSt.subl rfl st53.keys (all_cons (.inl (by kernel_rfl)) (all_nil))) ch_L53_2 co0_L53_2 (.exit 0) rfl stp_L53_2 _ run_L53_2 (fun x y h => ⟨_, h⟩) (fun _ => below_iff.1 rfl)
/-- a loop of api.Sum] -/
def step_L127_2 (l1 : List Sum) (i1 : Int) (i2 : Int) (s1 : ByteArray) : Option (((List Sum) × Int × Int × ByteArray) ⊕ ((List Sum) × Int × ByteArray)) :=
  cond ((decide (i1 < i2)))
    (cond (decide (0 ≤ (w64 ((w64 (i1 + i2)).tdiv 2))))
      (cond (decide ((w64 ((w64 (i1 + i2)).tdiv 2)) < (l1.length : Int)))
        (ob (l1[((w64 ((w64 (i1 + i2)).tdiv 2))).toNat]?) fun e0 =>
        ob (cmpStr e0.key s1) fun r1 =>
        some (.inl (l1, (cond (decide (r1 < 0)) (w64 ((w64 ((w64 (i1 + i2)).tdiv 2)) + 1)) i1), (cond (decide (r1 < 0)) i2 (w64 ((w64 (i1 + i2)).tdiv 2))), s1)))
        (none))
      (none))
    (some (.inr (l1, i1, s1)))
def stp_L127_2 (p : (List Sum) × Int × Int × ByteArray) : Option (((List Sum) × Int × Int × ByteArray) ⊕ ((List Sum) × Int × ByteArray)) := step_L127_2 p.1 p.2.1 p.2.2.1 p.2.2.2
def L127_2 (l1 : List Sum) (i1 : Int) (i2 : Int) (s1 : ByteArray) : Option ((List Sum) × Int × ByteArray) := iterO stp_L127_2 ((i2 - i1).toNat + 2) (l1, i1, i2, s1)
def ch_L127_2 : Cod (Cst TL) ((List Sum) × Int × Int × ByteArray) := Cod.iso (Cod.cst 2 (Cod.cons (Cod.xs (Cod.sc (Cod.ar 0))) (Cod.cons (Cod.xs (Cod.sc (Cod.clo 128 [] [(1, 0)]))) (Cod.cons (Cod.xs (Cod.sc (Cod.im (Cod.int .i64)))) (Cod.cons (Cod.xs (Cod.sc (Cod.im (Cod.int .i64)))) (Cod.nil))))) (Cod.cons (Cod.arr 0 118 j_lSum) (Cod.cons (Cod.var 1 9 (Cod.cons (Cod.im Cod.str) (Cod.nil))) (Cod.nil)))) (fun p => (p.2.1, p.1.2.2.1, p.1.2.2.2.1, p.2.2.1.1)) (fun (x : (List Sum) × Int × Int × ByteArray) => (((), ((), (x.2.1, (x.2.2.1, ())))), (x.1, ((x.2.2.2, ()), ())))) (fun _ => rfl)
def co0_L127_2 : Cod (Cst TL) ((List Sum) × Int × ByteArray) := Cod.iso (Cod.cst 4 (Cod.cons (Cod.xs (Cod.sc (Cod.ar 0))) (Cod.cons (Cod.xs (Cod.sc (Cod.clo 128 [] [(1, 0)]))) (Cod.cons (Cod.xs (Cod.sc (Cod.im (Cod.int .i64)))) (Cod.nil)))) (Cod.cons (Cod.arr 0 118 j_lSum) (Cod.cons (Cod.var 1 9 (Cod.cons (Cod.im Cod.str) (Cod.nil))) (Cod.nil)))) (fun p => (p.2.1, p.1.2.2.1, p.2.2.1.1)) (fun (x : (List Sum) × Int × ByteArray) => (((), ((), (x.2.1, ()))), (x.1, ((x.2.2, ()), ())))) (fun _ => rfl)
noncomputable def sl_L127_2 : SFn TL := SFn.one ch_L127_2.dec (fun p => L127_2 p.1 p.2.1 p.2.2.1 p.2.2.2) (.exit 0) co0_L127_2.enc
noncomputable def cs_lL127_2 : List (Nat × DFn TL) := [(94, df_cmpStr)]
noncomputable def ss_lL127_2 : List (Nat × SFn TL) := []
noncomputable def env_lL127_2 : Env := envOf tab sl sh [(128, fd128)] [(94, .pure)]
theorem env_lL127_2_ok : EnvOK Tryz.prog (mkD cs_lL127_2 ss_lL127_2) env_lL127_2 := envOK_of base (all_cons (st128.okl rfl (all_nil)) (all_nil)) (all_cons (okD rfl ok_cmpStr) (all_nil))
theorem run_L127_2 (x : (List Sum) × Int × Int × ByteArray) : Out.run (mkO cs_lL127_2 ss_lL127_2) (evRound env_lL127_2 12 20 fd127.an q_L127_2 (loopIn (loopsOf fd127.body) 2) (ch_L127_2.enc x)) (back ch_L127_2 co0_L127_2 fun e => exE e (.exit 0)) = stp_L127_2 x := by kernel_rfl
theorem ok_L127_2 : LoopOK Tryz.prog (oneS sl_L127_2) nt127 q_L127_2 (loopIn (loopsOf fd127.body) 2) :=
  loop_one env_lL127_2_ok (loops := 12) (k := 20) (an := fd127.an) (by kernel_rfl) (FnSt.subl rfl st127.keys (all_cons (.inl (by kernel_rfl)) (all_nil))) ch_L127_2 co0_L127_2 (.exit 0) rfl stp_L127_2 _ run_L127_2 (fun x y h => ⟨_, h⟩) (fun _ => below_iff.1 rfl)
/-- a loop of api.Bind] -/
def step_L131_2 (l1 : List Bind) (i1 : Int) (i2 : Int) (i3 : Int) : Option (((List Bind) × Int × Int × Int) ⊕ ((List Bind) × Int × Int)) :=
  cond ((decide (i1 < i2)))
    (cond (decide (0 ≤ (w64 ((w64 (i1 + i2)).tdiv 2))))
      (cond (decide ((w64 ((w64 (i1 + i2)).tdiv 2)) < (l1.length : Int)))
        (ob (l1[((w64 ((w64 (i1 + i2)).tdiv 2))).toNat]?) fun e0 =>
        ob (cmpInt e0.id_ i3) fun r1 =>
        some (.inl (l1, (cond (decide (r1 < 0)) (w64 ((w64 ((w64 (i1 + i2)).tdiv 2)) + 1)) i1), (cond (decide (r1 < 0)) i2 (w64 ((w64 (i1 + i2)).tdiv 2))), i3)))
        (none))
      (none))
    (some (.inr (l1, i1, i3)))
def stp_L131_2 (p : (List Bind) × Int × Int × Int) : Option (((List Bind) × Int × Int × Int) ⊕ ((List Bind) × Int × Int)) := step_L131_2 p.1 p.2.1 p.2.2.1 p.2.2.2
def L131_2 (l1 : List Bind) (i1 : Int) (i2 : Int) (i3 : Int) : Option ((List Bind) × Int × Int) := iterO stp_L131_2 ((i2 - i1).toNat + 2) (l1, i1, i2, i3)
def ch_L131_2 : Cod (Cst TL) ((List Bind) × Int × Int × Int) := Cod.iso (Cod.cst 2 (Cod.cons (Cod.xs (Cod.sc (Cod.ar 0))) (Cod.cons (Cod.xs (Cod.sc (Cod.clo 132 [] [(1, 0)]))) (Cod.cons (Cod.xs (Cod.sc (Cod.im (Cod.int .i64)))) (Cod.cons (Cod.xs (Cod.sc (Cod.im (Cod.int .i64)))) (Cod.nil))))) (Cod.cons (Cod.arr 0 121 j_lBind) (Cod.cons (Cod.var 1 3 (Cod.cons (Cod.im (Cod.int .i64)) (Cod.nil))) (Cod.nil)))) (fun p => (p.2.1, p.1.2.2.1, p.1.2.2.2.1, p.2.2.1.1)) (fun (x : (List Bind) × Int × Int × Int) => (((), ((), (x.2.1, (x.2.2.1, ())))), (x.1, ((x.2.2.2, ()), ())))) (fun _ => rfl)
def co0_L131_2 : Cod (Cst TL) ((List Bind) × Int × Int) := Cod.iso (Cod.cst 4 (Cod.cons (Cod.xs (Cod.sc (Cod.ar 0))) (Cod.cons (Cod.xs (Cod.sc (Cod.clo 132 [] [(1, 0)]))) (Cod.cons (Cod.xs (Cod.sc (Cod.im (Cod.int .i64)))) (Cod.nil)))) (Cod.cons (Cod.arr 0 121 j_lBind) (Cod.cons (Cod.var 1 3 (Cod.cons (Cod.im (Cod.int .i64)) (Cod.nil))) (Cod.nil)))) (fun p => (p.2.1, p.1.2.2.1, p.2.2.1.1)) (fun (x : (List Bind) × Int × Int) => (((), ((), (x.2.1, ()))), (x.1, ((x.2.2, ()), ())))) (fun _ => rfl)
noncomputable def sl_L131_2 : SFn TL := SFn.one ch_L131_2.dec (fun p => L131_2 p.1 p.2.1 p.2.2.1 p.2.2.2) (.exit 0) co0_L131_2.enc
noncomputable def cs_lL131_2 : List (Nat × DFn TL) := [(118, df_cmpInt)]
noncomputable def ss_lL131_2 : List (Nat × SFn TL) := []
noncomputable def env_lL131_2 : Env := envOf tab sl sh [(132, fd132)] [(118, .pure)]
theorem env_lL131_2_ok : EnvOK Tryz.prog (mkD cs_lL131_2 ss_lL131_2) env_lL131_2 := envOK_of base (all_cons (st132.okl rfl (all_nil)) (all_nil)) (all_cons (okD rfl ok_cmpInt) (all_nil))
theorem run_L131_2 (x : (List Bind) × Int × Int × Int) : Out.run (mkO cs_lL131_2 ss_lL131_2) (evRound env_lL131_2 12 20 fd131.an q_L131_2 (loopIn (loopsOf fd131.body) 2) (ch_L131_2.enc x)) (back ch_L131_2 co0_L131_2 fun e => exE e (.exit 0)) = stp_L131_2 x := by kernel_rfl
theorem ok_L131_2 : LoopOK Tryz.prog (oneS sl_L131_2) nt131 q_L131_2 (loopIn (loopsOf fd131.body) 2) :=
  loop_one env_lL131_2_ok (loops := 12) (k := 20) (an := fd131.an) (by kernel_rfl) (FnSt.subl rfl st131.keys (all_cons (.inl (by kernel_rfl)) (all_nil))) ch_L131_2 co0_L131_2 (.exit 0) rfl stp_L131_2 _ run_L131_2 (fun x y h => ⟨_, h⟩) (fun _ => below_iff.1 rfl)
/-- coll.Apply (fails: [27, 201]) -/
def apply_ (c1 : Coll) (o1 : Op) : Option (Coll × Int) :=
  ob (collOwn c1) fun y0 =>
  ob (opsCheck o1) fun r1 =>
  cond ((r1 != 0))
    (some (y0, r1))
    (ob (vectorStep y0.v o1.dot) fun r2 =>
    cond ((r2.2 != 0))
      (some (y0, r2.2))
      (cond ((o1.kind == 1))
        (ob (L114_2 y0.regs 0 (y0.regs.length : Int) o1.key) fun y3 =>
        cond ((decide (y3.2.1 < (y3.1.length : Int))))
          (cond (decide (0 ≤ y3.2.1))
            (cond (decide (y3.2.1 < (y3.1.length : Int)))
              (ob (y3.1[y3.2.1.toNat]?) fun e4 =>
              ob (cmpStr e4.key y3.2.2) fun r5 =>
              cond ((!(r5 == 0)))
                (cond (decide (0 ≤ y3.2.1))
                  (cond (decide (y3.2.1 ≤ (y3.1.length : Int)))
                    (cond (fits ((((y3.1.take y3.2.1.toNat) ++ [(Reg.mk o1.key o1.text o1.ver o1.time o1.dot)]) ++ ((y3.1.take y3.1.length).drop y3.2.1.toNat)).length))
                      (ob (collOwn (Coll.mk r2.1 (((y3.1.take y3.2.1.toNat) ++ [(Reg.mk o1.key o1.text o1.ver o1.time o1.dot)]) ++ ((y3.1.take y3.1.length).drop y3.2.1.toNat)) y0.elems y0.gone y0.sums y0.binds)) fun y39 =>
                      some (y39, 0))
                      (none))
                    (none))
                  (none))
                (cond (decide (0 ≤ y3.2.1))
                  (cond (decide (y3.2.1 < (y3.1.length : Int)))
                    (ob (y3.1[y3.2.1.toNat]?) fun e6 =>
                    cond ((decide (o1.time > e6.time)))
                      (cond (decide (0 ≤ y3.2.1))
                        (cond (decide (y3.2.1 < (y3.1.length : Int)))
                          (ob (y3.1[y3.2.1.toNat]?) fun e10 =>
                          ob (collOwn (Coll.mk r2.1 (y3.1.set y3.2.1.toNat (Reg.mk o1.key o1.text o1.ver o1.time o1.dot)) y0.elems y0.gone y0.sums y0.binds)) fun y40 =>
                          some (y40, 0))
                          (none))
                        (none))
                      (cond (decide (0 ≤ y3.2.1))
                        (cond (decide (y3.2.1 < (y3.1.length : Int)))
                          (ob (y3.1[y3.2.1.toNat]?) fun e7 =>
                          cond ((o1.time == e7.time))
                            (cond (decide (0 ≤ y3.2.1))
                              (cond (decide (y3.2.1 < (y3.1.length : Int)))
                                (ob (y3.1[y3.2.1.toNat]?) fun e8 =>
                                ob (dotCompare o1.dot e8.dot) fun r9 =>
                                cond ((decide (r9 > 0)))
                                  (cond (decide (0 ≤ y3.2.1))
                                    (cond (decide (y3.2.1 < (y3.1.length : Int)))
                                      (ob (y3.1[y3.2.1.toNat]?) fun e11 =>
                                      ob (collOwn (Coll.mk r2.1 (y3.1.set y3.2.1.toNat (Reg.mk o1.key o1.text o1.ver o1.time o1.dot)) y0.elems y0.gone y0.sums y0.binds)) fun y41 =>
                                      some (y41, 0))
                                      (none))
                                    (none))
                                  (ob (collOwn (Coll.mk r2.1 y3.1 y0.elems y0.gone y0.sums y0.binds)) fun y42 =>
                                  some (y42, 0)))
                                (none))
                              (none))
                            (ob (collOwn (Coll.mk r2.1 y3.1 y0.elems y0.gone y0.sums y0.binds)) fun y43 =>
                            some (y43, 0)))
                          (none))
                        (none)))
                    (none))
                  (none)))
              (none))
            (none))
          (cond (decide (0 ≤ y3.2.1))
            (cond (decide (y3.2.1 ≤ (y3.1.length : Int)))
              (cond (fits ((((y3.1.take y3.2.1.toNat) ++ [(Reg.mk o1.key o1.text o1.ver o1.time o1.dot)]) ++ ((y3.1.take y3.1.length).drop y3.2.1.toNat)).length))
                (ob (collOwn (Coll.mk r2.1 (((y3.1.take y3.2.1.toNat) ++ [(Reg.mk o1.key o1.text o1.ver o1.time o1.dot)]) ++ ((y3.1.take y3.1.length).drop y3.2.1.toNat)) y0.elems y0.gone y0.sums y0.binds)) fun y44 =>
                some (y44, 0))
                (none))
              (none))
            (none)))
        (cond ((o1.kind == 2))
          (ob (L119_2 y0.gone 0 (y0.gone.length : Int) o1.dot) fun y12 =>
          cond ((decide (y12.2.1 < (y12.1.length : Int))))
            (cond (decide (0 ≤ y12.2.1))
              (cond (decide (y12.2.1 < (y12.1.length : Int)))
                (ob (y12.1[y12.2.1.toNat]?) fun e13 =>
                ob (dotCompare e13 y12.2.2) fun r14 =>
                cond ((r14 == 0))
                  (ob (collOwn (Coll.mk r2.1 y0.regs y0.elems y12.1 y0.sums y0.binds)) fun y45 =>
                  some (y45, 0))
                  (ob (L91_2 y0.elems 0 (y0.elems.length : Int) o1) fun y15 =>
                  cond ((decide (y15.2.1 < (y15.1.length : Int))))
                    (cond (decide (0 ≤ y15.2.1))
                      (cond (decide (y15.2.1 < (y15.1.length : Int)))
                        (ob (y15.1[y15.2.1.toNat]?) fun e16 =>
                        ob (cmpStr e16.key y15.2.2.key) fun r17 =>
                        ob (cmpStr e16.text y15.2.2.text) fun r18 =>
                        ob (dotCompare e16.dot y15.2.2.dot) fun r19 =>
                        ob (cmpOr [r17, r18, r19]) fun r20 =>
                        cond (decide (0 ≤ y15.2.1))
                          (cond (decide (y15.2.1 ≤ (y15.1.length : Int)))
                            (cond (fits ((((y15.1.take y15.2.1.toNat) ++ [(Elem.mk y15.2.2.key y15.2.2.text y15.2.2.ver y15.2.2.dot)]) ++ ((y15.1.take y15.1.length).drop y15.2.1.toNat)).length))
                              (ob (collOwn (Coll.mk r2.1 y0.regs (((y15.1.take y15.2.1.toNat) ++ [(Elem.mk y15.2.2.key y15.2.2.text y15.2.2.ver y15.2.2.dot)]) ++ ((y15.1.take y15.1.length).drop y15.2.1.toNat)) y12.1 y0.sums y0.binds)) fun y46 =>
                              some (y46, 0))
                              (none))
                            (none))
                          (none))
                        (none))
                      (none))
                    (cond (decide (0 ≤ y15.2.1))
                      (cond (decide (y15.2.1 ≤ (y15.1.length : Int)))
                        (cond (fits ((((y15.1.take y15.2.1.toNat) ++ [(Elem.mk y15.2.2.key y15.2.2.text y15.2.2.ver y15.2.2.dot)]) ++ ((y15.1.take y15.1.length).drop y15.2.1.toNat)).length))
                          (ob (collOwn (Coll.mk r2.1 y0.regs (((y15.1.take y15.2.1.toNat) ++ [(Elem.mk y15.2.2.key y15.2.2.text y15.2.2.ver y15.2.2.dot)]) ++ ((y15.1.take y15.1.length).drop y15.2.1.toNat)) y12.1 y0.sums y0.binds)) fun y47 =>
                          some (y47, 0))
                          (none))
                        (none))
                      (none))))
                (none))
              (none))
            (ob (L91_2 y0.elems 0 (y0.elems.length : Int) o1) fun y21 =>
            cond ((decide (y21.2.1 < (y21.1.length : Int))))
              (cond (decide (0 ≤ y21.2.1))
                (cond (decide (y21.2.1 < (y21.1.length : Int)))
                  (ob (y21.1[y21.2.1.toNat]?) fun e22 =>
                  ob (cmpStr e22.key y21.2.2.key) fun r23 =>
                  ob (cmpStr e22.text y21.2.2.text) fun r24 =>
                  ob (dotCompare e22.dot y21.2.2.dot) fun r25 =>
                  ob (cmpOr [r23, r24, r25]) fun r26 =>
                  cond (decide (0 ≤ y21.2.1))
                    (cond (decide (y21.2.1 ≤ (y21.1.length : Int)))
                      (cond (fits ((((y21.1.take y21.2.1.toNat) ++ [(Elem.mk y21.2.2.key y21.2.2.text y21.2.2.ver y21.2.2.dot)]) ++ ((y21.1.take y21.1.length).drop y21.2.1.toNat)).length))
                        (ob (collOwn (Coll.mk r2.1 y0.regs (((y21.1.take y21.2.1.toNat) ++ [(Elem.mk y21.2.2.key y21.2.2.text y21.2.2.ver y21.2.2.dot)]) ++ ((y21.1.take y21.1.length).drop y21.2.1.toNat)) y12.1 y0.sums y0.binds)) fun y48 =>
                        some (y48, 0))
                        (none))
                      (none))
                    (none))
                  (none))
                (none))
              (cond (decide (0 ≤ y21.2.1))
                (cond (decide (y21.2.1 ≤ (y21.1.length : Int)))
                  (cond (fits ((((y21.1.take y21.2.1.toNat) ++ [(Elem.mk y21.2.2.key y21.2.2.text y21.2.2.ver y21.2.2.dot)]) ++ ((y21.1.take y21.1.length).drop y21.2.1.toNat)).length))
                    (ob (collOwn (Coll.mk r2.1 y0.regs (((y21.1.take y21.2.1.toNat) ++ [(Elem.mk y21.2.2.key y21.2.2.text y21.2.2.ver y21.2.2.dot)]) ++ ((y21.1.take y21.1.length).drop y21.2.1.toNat)) y12.1 y0.sums y0.binds)) fun y49 =>
                    some (y49, 0))
                    (none))
                  (none))
                (none))))
          (cond ((o1.kind == 3))
            (ob (L53_2 o1.dots (o1.dots.length : Int) 0 (Coll.mk r2.1 y0.regs y0.elems y0.gone y0.sums y0.binds) (Coll.mk [] [] [] [] [] [])) fun y27 =>
            ob (collOwn y27.1) fun y50 =>
            some (y50, 0))
            (cond ((o1.kind == 4))
              (ob (L127_2 y0.sums 0 (y0.sums.length : Int) o1.key) fun y28 =>
              cond ((decide (y28.2.1 < (y28.1.length : Int))))
                (cond (decide (0 ≤ y28.2.1))
                  (cond (decide (y28.2.1 < (y28.1.length : Int)))
                    (ob (y28.1[y28.2.1.toNat]?) fun e29 =>
                    ob (cmpStr e29.key y28.2.2) fun r30 =>
                    cond ((r30 == 0))
                      (cond (decide (0 ≤ y28.2.1))
                        (cond (decide (y28.2.1 < (y28.1.length : Int)))
                          (ob (y28.1[y28.2.1.toNat]?) fun e31 =>
                          cond (decide (0 ≤ y28.2.1))
                            (cond (decide (y28.2.1 < (y28.1.length : Int)))
                              (ob (y28.1[y28.2.1.toNat]?) fun e32 =>
                              ob (collOwn (Coll.mk r2.1 y0.regs y0.elems y0.gone (y28.1.set y28.2.1.toNat (Sum.mk e32.key (w64 (e31.n + o1.n)))) y0.binds)) fun y51 =>
                              some (y51, 0))
                              (none))
                            (none))
                          (none))
                        (none))
                      (cond (decide (0 ≤ y28.2.1))
                        (cond (decide (y28.2.1 ≤ (y28.1.length : Int)))
                          (cond (fits ((((y28.1.take y28.2.1.toNat) ++ [(Sum.mk o1.key o1.n)]) ++ ((y28.1.take y28.1.length).drop y28.2.1.toNat)).length))
                            (ob (collOwn (Coll.mk r2.1 y0.regs y0.elems y0.gone (((y28.1.take y28.2.1.toNat) ++ [(Sum.mk o1.key o1.n)]) ++ ((y28.1.take y28.1.length).drop y28.2.1.toNat)) y0.binds)) fun y52 =>
                            some (y52, 0))
                            (none))
                          (none))
                        (none)))
                    (none))
                  (none))
                (cond (decide (0 ≤ y28.2.1))
                  (cond (decide (y28.2.1 ≤ (y28.1.length : Int)))
                    (cond (fits ((((y28.1.take y28.2.1.toNat) ++ [(Sum.mk o1.key o1.n)]) ++ ((y28.1.take y28.1.length).drop y28.2.1.toNat)).length))
                      (ob (collOwn (Coll.mk r2.1 y0.regs y0.elems y0.gone (((y28.1.take y28.2.1.toNat) ++ [(Sum.mk o1.key o1.n)]) ++ ((y28.1.take y28.1.length).drop y28.2.1.toNat)) y0.binds)) fun y53 =>
                      some (y53, 0))
                      (none))
                    (none))
                  (none)))
              (cond ((o1.kind == 5))
                (ob (L131_2 y0.binds 0 (y0.binds.length : Int) o1.n) fun y33 =>
                cond ((decide (y33.2.1 < (y33.1.length : Int))))
                  (cond (decide (0 ≤ y33.2.1))
                    (cond (decide (y33.2.1 < (y33.1.length : Int)))
                      (ob (y33.1[y33.2.1.toNat]?) fun e34 =>
                      ob (cmpInt e34.id_ y33.2.2) fun r35 =>
                      cond ((!(r35 == 0)))
                        (cond (decide (0 ≤ y33.2.1))
                          (cond (decide (y33.2.1 ≤ (y33.1.length : Int)))
                            (cond (fits ((((y33.1.take y33.2.1.toNat) ++ [(Bind.mk o1.n o1.text o1.ver o1.dot)]) ++ ((y33.1.take y33.1.length).drop y33.2.1.toNat)).length))
                              (ob (collOwn (Coll.mk r2.1 y0.regs y0.elems y0.gone y0.sums (((y33.1.take y33.2.1.toNat) ++ [(Bind.mk o1.n o1.text o1.ver o1.dot)]) ++ ((y33.1.take y33.1.length).drop y33.2.1.toNat)))) fun y54 =>
                              some (y54, 0))
                              (none))
                            (none))
                          (none))
                        (cond (decide (0 ≤ y33.2.1))
                          (cond (decide (y33.2.1 < (y33.1.length : Int)))
                            (ob (y33.1[y33.2.1.toNat]?) fun e36 =>
                            ob (dotCompare o1.dot e36.dot) fun r37 =>
                            cond ((decide (r37 < 0)))
                              (cond (decide (0 ≤ y33.2.1))
                                (cond (decide (y33.2.1 < (y33.1.length : Int)))
                                  (ob (y33.1[y33.2.1.toNat]?) fun e38 =>
                                  ob (collOwn (Coll.mk r2.1 y0.regs y0.elems y0.gone y0.sums (y33.1.set y33.2.1.toNat (Bind.mk o1.n o1.text o1.ver o1.dot)))) fun y55 =>
                                  some (y55, 0))
                                  (none))
                                (none))
                              (ob (collOwn (Coll.mk r2.1 y0.regs y0.elems y0.gone y0.sums y33.1)) fun y56 =>
                              some (y56, 0)))
                            (none))
                          (none)))
                      (none))
                    (none))
                  (cond (decide (0 ≤ y33.2.1))
                    (cond (decide (y33.2.1 ≤ (y33.1.length : Int)))
                      (cond (fits ((((y33.1.take y33.2.1.toNat) ++ [(Bind.mk o1.n o1.text o1.ver o1.dot)]) ++ ((y33.1.take y33.1.length).drop y33.2.1.toNat)).length))
                        (ob (collOwn (Coll.mk r2.1 y0.regs y0.elems y0.gone y0.sums (((y33.1.take y33.2.1.toNat) ++ [(Bind.mk o1.n o1.text o1.ver o1.dot)]) ++ ((y33.1.take y33.1.length).drop y33.2.1.toNat)))) fun y57 =>
                        some (y57, 0))
                        (none))
                      (none))
                    (none)))
                (ob (collOwn (Coll.mk r2.1 y0.regs y0.elems y0.gone y0.sums y0.binds)) fun y58 =>
                some (y58, 0))))))))
def un_apply_ (p : Coll × Op) : Option (Coll × Int) := apply_ p.1 p.2
noncomputable def df_apply_ : DFn TL := DFn.of (DA.cons (DT.agg dc_Coll) (DA.one (DT.agg dc_Op))) un_apply_ (DA.cons (DT.agg dc_Coll) (DA.one (DT.one (DI.int .i64))))
noncomputable def cs_apply_ : List (Nat × DFn TL) := [(42, df_opsCheck), (50, df_vectorStep), (94, df_cmpStr), (89, df_dotCompare), (93, df_cmpOr), (118, df_cmpInt)]
noncomputable def ss_apply_ : List (Nat × SFn TL) := [(49, sf_collOwn), (214002, sl_L114_2), (219002, sl_L119_2), (191002, sl_L91_2), (153002, sl_L53_2), (227002, sl_L127_2), (231002, sl_L131_2)]
noncomputable def env_apply_ : Env := envOf tab sl sh [(26, fd26), (51, fd51), (87, fd87), (114, fd114), (115, fd115), (52, fd52), (90, fd90), (119, fd119), (120, fd120), (91, fd91), (92, fd92), (53, fd53), (54, fd54), (99, fd99), (127, fd127), (128, fd128), (55, fd55), (101, fd101), (131, fd131), (132, fd132)] [(49, .sum), (42, .pure), (50, .keep), (94, .pure), (88, (.ins 103)), (89, .pure), (93, .pure), (95, (.ins 100)), (100, (.ins 118)), (118, .pure), (102, (.ins 121))]
theorem env_apply__ok : EnvOK Tryz.prog (mkD cs_apply_ ss_apply_) env_apply_ := envOK_of base (all_cons (st26.okl rfl (all_nil)) (all_cons (st51.okl rfl (all_nil)) (all_cons (st87.okl rfl (all_nil)) (all_cons (st114.okl rfl (all_cons (LoopOK.cast ok_L114_2 rfl) (all_nil))) (all_cons (st115.okl rfl (all_nil)) (all_cons (st52.okl rfl (all_nil)) (all_cons (st90.okl rfl (all_nil)) (all_cons (st119.okl rfl (all_cons (LoopOK.cast ok_L119_2 rfl) (all_nil))) (all_cons (st120.okl rfl (all_nil)) (all_cons (st91.okl rfl (all_cons (LoopOK.cast ok_L91_2 rfl) (all_nil))) (all_cons (st92.okl rfl (all_nil)) (all_cons (st53.okl rfl (all_cons (LoopOK.cast ok_L53_2 rfl) (all_nil))) (all_cons (st54.okl rfl (all_nil)) (all_cons (st99.okl rfl (all_nil)) (all_cons (st127.okl rfl (all_cons (LoopOK.cast ok_L127_2 rfl) (all_nil))) (all_cons (st128.okl rfl (all_nil)) (all_cons (st55.okl rfl (all_nil)) (all_cons (st101.okl rfl (all_nil)) (all_cons (st131.okl rfl (all_cons (LoopOK.cast ok_L131_2 rfl) (all_nil))) (all_cons (st132.okl rfl (all_nil)) (all_nil))))))))))))))))))))) (all_cons (okS rfl ok_collOwn) (all_cons (okD rfl ok_opsCheck) (all_cons (okD rfl ok_vectorStep) (all_cons (okD rfl ok_cmpStr) (all_cons (okIns okI_88) (all_cons (okD rfl ok_dotCompare) (all_cons (okD rfl ok_cmpOr) (all_cons (okIns okI_95) (all_cons (okIns okI_100) (all_cons (okD rfl ok_cmpInt) (all_cons (okIns okI_102) (all_nil))))))))))))
theorem run_apply_ (x : Coll × Op) : Out.run (mkO cs_apply_ ss_apply_) (evOrc env_apply_ 12 20 26 ((DA.cons (DT.agg dc_Coll) (DA.one (DT.agg dc_Op)) : DA TL (Coll × Op)).enc x)) (DA.cons (DT.agg dc_Coll) (DA.one (DT.one (DI.int .i64))) : DA TL (Coll × Int)).dec = un_apply_ x := by kernel_rfl
theorem ok_apply_ : DOK Tryz.prog 26 .keep df_apply_ := data_of env_apply__ok (loops := 12) (n := 20) (.inl rfl) st26.enters (DA.cons (DT.agg dc_Coll) (DA.one (DT.agg dc_Op))) un_apply_ (DA.cons (DT.agg dc_Coll) (DA.one (DT.one (DI.int .i64)))) run_apply_
/-- a loop of api.Entry] -/
def step_L56_4 (l1 : List Dot) (l2 : List Dot) (b1 : Bool) (i1 : Int) (i2 : Int) : Option (((List Dot) × (List Dot) × Bool × Int × Int) ⊕ (((Bool) ⊕ (Bool)))) :=
  cond ((decide (i2 < i1)))
    (cond (decide (0 ≤ i2))
      (ob (l1[i2.toNat]?) fun e0 =>
      cond (decide (0 ≤ i2))
        (ob (l2[i2.toNat]?) fun e1 =>
        cond ((!(cond (e0.device == e1.device) (cond (e0.epoch == e1.epoch) (cond (e0.seq == e1.seq) true false) false) false)))
          (some (.inr (.inr false)))
          (some (.inl (l1, l2, b1, i1, (w64 (i2 + 1))))))
        (none))
      (none))
    (some (.inr (.inl b1)))
def stp_L56_4 (p : (List Dot) × (List Dot) × Bool × Int × Int) : Option (((List Dot) × (List Dot) × Bool × Int × Int) ⊕ (((Bool) ⊕ (Bool)))) := step_L56_4 p.1 p.2.1 p.2.2.1 p.2.2.2.1 p.2.2.2.2
def L56_4 (l1 : List Dot) (l2 : List Dot) (b1 : Bool) (i1 : Int) (i2 : Int) : Option (((Bool) ⊕ (Bool))) := iterO stp_L56_4 ((i1 - i2).toNat + 2) (l1, l2, b1, i1, i2)
/-- api.Entry] -/
def equalEntry (l1 : List Dot) (l2 : List Dot) : Option (Bool) :=
  cond (((l1.length : Int) != (l2.length : Int)))
    (some false)
    (ob (L56_4 l1 l2 false (l1.length : Int) 0) fun y0 =>
    two y0 (fun a1 =>
      some true) (fun b2 =>
      some b2))
/-- a loop of api.Reg] -/
def step_L57_4 (l1 : List Reg) (l2 : List Reg) (b1 : Bool) (i1 : Int) (i2 : Int) : Option (((List Reg) × (List Reg) × Bool × Int × Int) ⊕ (((Bool) ⊕ (Bool)))) :=
  cond ((decide (i2 < i1)))
    (cond (decide (0 ≤ i2))
      (ob (l1[i2.toNat]?) fun e0 =>
      cond (decide (0 ≤ i2))
        (ob (l2[i2.toNat]?) fun e1 =>
        cond ((!(cond (sEq e0.key e1.key) (cond (sEq e0.text e1.text) (cond (e0.ver == e1.ver) (cond (e0.time == e1.time) (cond (cond (e0.dot.device == e1.dot.device) (cond (e0.dot.epoch == e1.dot.epoch) (cond (e0.dot.seq == e1.dot.seq) true false) false) false) true false) false) false) false) false)))
          (some (.inr (.inr false)))
          (some (.inl (l1, l2, b1, i1, (w64 (i2 + 1))))))
        (none))
      (none))
    (some (.inr (.inl b1)))
def stp_L57_4 (p : (List Reg) × (List Reg) × Bool × Int × Int) : Option (((List Reg) × (List Reg) × Bool × Int × Int) ⊕ (((Bool) ⊕ (Bool)))) := step_L57_4 p.1 p.2.1 p.2.2.1 p.2.2.2.1 p.2.2.2.2
def L57_4 (l1 : List Reg) (l2 : List Reg) (b1 : Bool) (i1 : Int) (i2 : Int) : Option (((Bool) ⊕ (Bool))) := iterO stp_L57_4 ((i1 - i2).toNat + 2) (l1, l2, b1, i1, i2)
/-- api.Reg] -/
def equalReg (l1 : List Reg) (l2 : List Reg) : Option (Bool) :=
  cond (((l1.length : Int) != (l2.length : Int)))
    (some false)
    (ob (L57_4 l1 l2 false (l1.length : Int) 0) fun y0 =>
    two y0 (fun a1 =>
      some true) (fun b2 =>
      some b2))
/-- a loop of api.Elem] -/
def step_L58_4 (l1 : List Elem) (l2 : List Elem) (b1 : Bool) (i1 : Int) (i2 : Int) : Option (((List Elem) × (List Elem) × Bool × Int × Int) ⊕ (((Bool) ⊕ (Bool)))) :=
  cond ((decide (i2 < i1)))
    (cond (decide (0 ≤ i2))
      (ob (l1[i2.toNat]?) fun e0 =>
      cond (decide (0 ≤ i2))
        (ob (l2[i2.toNat]?) fun e1 =>
        cond ((!(cond (sEq e0.key e1.key) (cond (sEq e0.text e1.text) (cond (e0.ver == e1.ver) (cond (cond (e0.dot.device == e1.dot.device) (cond (e0.dot.epoch == e1.dot.epoch) (cond (e0.dot.seq == e1.dot.seq) true false) false) false) true false) false) false) false)))
          (some (.inr (.inr false)))
          (some (.inl (l1, l2, b1, i1, (w64 (i2 + 1))))))
        (none))
      (none))
    (some (.inr (.inl b1)))
def stp_L58_4 (p : (List Elem) × (List Elem) × Bool × Int × Int) : Option (((List Elem) × (List Elem) × Bool × Int × Int) ⊕ (((Bool) ⊕ (Bool)))) := step_L58_4 p.1 p.2.1 p.2.2.1 p.2.2.2.1 p.2.2.2.2
def L58_4 (l1 : List Elem) (l2 : List Elem) (b1 : Bool) (i1 : Int) (i2 : Int) : Option (((Bool) ⊕ (Bool))) := iterO stp_L58_4 ((i1 - i2).toNat + 2) (l1, l2, b1, i1, i2)
/-- api.Elem] -/
def equalElem (l1 : List Elem) (l2 : List Elem) : Option (Bool) :=
  cond (((l1.length : Int) != (l2.length : Int)))
    (some false)
    (ob (L58_4 l1 l2 false (l1.length : Int) 0) fun y0 =>
    two y0 (fun a1 =>
      some true) (fun b2 =>
      some b2))
/-- a loop of api.Sum] -/
def step_L60_4 (l1 : List Sum) (l2 : List Sum) (b1 : Bool) (i1 : Int) (i2 : Int) : Option (((List Sum) × (List Sum) × Bool × Int × Int) ⊕ (((Bool) ⊕ (Bool)))) :=
  cond ((decide (i2 < i1)))
    (cond (decide (0 ≤ i2))
      (ob (l1[i2.toNat]?) fun e0 =>
      cond (decide (0 ≤ i2))
        (ob (l2[i2.toNat]?) fun e1 =>
        cond ((!(cond (sEq e0.key e1.key) (cond (e0.n == e1.n) true false) false)))
          (some (.inr (.inr false)))
          (some (.inl (l1, l2, b1, i1, (w64 (i2 + 1))))))
        (none))
      (none))
    (some (.inr (.inl b1)))
def stp_L60_4 (p : (List Sum) × (List Sum) × Bool × Int × Int) : Option (((List Sum) × (List Sum) × Bool × Int × Int) ⊕ (((Bool) ⊕ (Bool)))) := step_L60_4 p.1 p.2.1 p.2.2.1 p.2.2.2.1 p.2.2.2.2
def L60_4 (l1 : List Sum) (l2 : List Sum) (b1 : Bool) (i1 : Int) (i2 : Int) : Option (((Bool) ⊕ (Bool))) := iterO stp_L60_4 ((i1 - i2).toNat + 2) (l1, l2, b1, i1, i2)
/-- api.Sum] -/
def equalSum (l1 : List Sum) (l2 : List Sum) : Option (Bool) :=
  cond (((l1.length : Int) != (l2.length : Int)))
    (some false)
    (ob (L60_4 l1 l2 false (l1.length : Int) 0) fun y0 =>
    two y0 (fun a1 =>
      some true) (fun b2 =>
      some b2))
/-- a loop of api.Bind] -/
def step_L61_4 (l1 : List Bind) (l2 : List Bind) (b1 : Bool) (i1 : Int) (i2 : Int) : Option (((List Bind) × (List Bind) × Bool × Int × Int) ⊕ (((Bool) ⊕ (Bool)))) :=
  cond ((decide (i2 < i1)))
    (cond (decide (0 ≤ i2))
      (ob (l1[i2.toNat]?) fun e0 =>
      cond (decide (0 ≤ i2))
        (ob (l2[i2.toNat]?) fun e1 =>
        cond ((!(cond (e0.id_ == e1.id_) (cond (sEq e0.text e1.text) (cond (e0.ver == e1.ver) (cond (cond (e0.dot.device == e1.dot.device) (cond (e0.dot.epoch == e1.dot.epoch) (cond (e0.dot.seq == e1.dot.seq) true false) false) false) true false) false) false) false)))
          (some (.inr (.inr false)))
          (some (.inl (l1, l2, b1, i1, (w64 (i2 + 1))))))
        (none))
      (none))
    (some (.inr (.inl b1)))
def stp_L61_4 (p : (List Bind) × (List Bind) × Bool × Int × Int) : Option (((List Bind) × (List Bind) × Bool × Int × Int) ⊕ (((Bool) ⊕ (Bool)))) := step_L61_4 p.1 p.2.1 p.2.2.1 p.2.2.2.1 p.2.2.2.2
def L61_4 (l1 : List Bind) (l2 : List Bind) (b1 : Bool) (i1 : Int) (i2 : Int) : Option (((Bool) ⊕ (Bool))) := iterO stp_L61_4 ((i1 - i2).toNat + 2) (l1, l2, b1, i1, i2)
/-- api.Bind] -/
def equalBind (l1 : List Bind) (l2 : List Bind) : Option (Bool) :=
  cond (((l1.length : Int) != (l2.length : Int)))
    (some false)
    (ob (L61_4 l1 l2 false (l1.length : Int) 0) fun y0 =>
    two y0 (fun a1 =>
      some true) (fun b2 =>
      some b2))
/-- coll.Same -/
def collSame (c1 : Coll) (c2 : Coll) : Option (Bool) :=
  ob (equalEntry c1.v c2.v) fun r0 =>
  cond (r0)
    (ob (equalReg c1.regs c2.regs) fun r1 =>
    cond (r1)
      (ob (equalElem c1.elems c2.elems) fun r2 =>
      cond (r2)
        (ob (equalDot c1.gone c2.gone) fun r3 =>
        cond (r3)
          (ob (equalSum c1.sums c2.sums) fun r4 =>
          cond (r4)
            (ob (equalBind c1.binds c2.binds) fun r5 =>
            some r5)
            (some false))
          (some false))
        (some false))
      (some false))
    (some false)
/-- a loop of coll.Dots -/
def step_L40_3 (s1 : ByteArray) (s2 : ByteArray) (l1 : List Dot) (l2 : List Elem) (i1 : Int) (i2 : Int) : Option ((ByteArray × ByteArray × (List Dot) × (List Elem) × Int × Int) ⊕ ((List Dot))) :=
  cond ((decide (i2 < i1)))
    (cond (decide (0 ≤ i2))
      (ob (l2[i2.toNat]?) fun e0 =>
      cond ((cond (sEq e0.key s1) (sEq e0.text s2) false))
        (cond (fits ((l1 ++ [e0.dot]).length))
          (some (.inl (s1, s2, (l1 ++ [e0.dot]), l2, i1, (w64 (i2 + 1)))))
          (none))
        (some (.inl (s1, s2, l1, l2, i1, (w64 (i2 + 1))))))
      (none))
    (some (.inr l1))
def stp_L40_3 (p : ByteArray × ByteArray × (List Dot) × (List Elem) × Int × Int) : Option ((ByteArray × ByteArray × (List Dot) × (List Elem) × Int × Int) ⊕ ((List Dot))) := step_L40_3 p.1 p.2.1 p.2.2.1 p.2.2.2.1 p.2.2.2.2.1 p.2.2.2.2.2
def L40_3 (s1 : ByteArray) (s2 : ByteArray) (l1 : List Dot) (l2 : List Elem) (i1 : Int) (i2 : Int) : Option ((List Dot)) := iterO stp_L40_3 ((i1 - i2).toNat + 2) (s1, s2, l1, l2, i1, i2)
def ch_L40_3 : Cod (Cst TL) (ByteArray × ByteArray × (List Dot) × (List Elem) × Int × Int) := Cod.iso (Cod.cst 1 (Cod.cons (Cod.xs (Cod.sc (Cod.im Cod.str))) (Cod.cons (Cod.xs (Cod.sc (Cod.im Cod.str))) (Cod.cons (Cod.xs (Cod.sc (Cod.ar 0))) (Cod.cons (Cod.xs (Cod.sc (Cod.im (Cod.fz j_lElem)))) (Cod.cons (Cod.xs (Cod.sc (Cod.im (Cod.int .i64)))) (Cod.cons (Cod.xs (Cod.sc (Cod.im (Cod.int .i64)))) (Cod.nil))))))) (Cod.cons (Cod.arr 0 48 j_lDot) (Cod.nil))) (fun p => (p.1.1, p.1.2.1, p.2.1, p.1.2.2.2.1, p.1.2.2.2.2.1, p.1.2.2.2.2.2.1)) (fun (x : ByteArray × ByteArray × (List Dot) × (List Elem) × Int × Int) => ((x.1, (x.2.1, ((), (x.2.2.2.1, (x.2.2.2.2.1, (x.2.2.2.2.2, ())))))), (x.2.2.1, ()))) (fun _ => rfl)
def co0_L40_3 : Cod (Cst TL) ((List Dot)) := Cod.iso (Cod.cst 2 (Cod.cons (Cod.xs (Cod.sc (Cod.ar 1))) (Cod.nil)) (Cod.cons (Cod.arr 1 48 j_lDot) (Cod.nil))) (fun p => p.2.1) (fun (x : (List Dot)) => (((), ()), (x, ()))) (fun _ => rfl)
noncomputable def sl_L40_3 : SFn TL := SFn.one ch_L40_3.dec (fun p => L40_3 p.1 p.2.1 p.2.2.1 p.2.2.2.1 p.2.2.2.2.1 p.2.2.2.2.2) (.exit 0) co0_L40_3.enc
noncomputable def cs_lL40_3 : List (Nat × DFn TL) := []
noncomputable def ss_lL40_3 : List (Nat × SFn TL) := []
noncomputable def env_lL40_3 : Env := envOf tab sl sh [] []
theorem env_lL40_3_ok : EnvOK Tryz.prog (mkD cs_lL40_3 ss_lL40_3) env_lL40_3 := envOK_of base (all_nil) (all_nil)
theorem run_L40_3 (x : ByteArray × ByteArray × (List Dot) × (List Elem) × Int × Int) : Out.run (mkO cs_lL40_3 ss_lL40_3) (evRound env_lL40_3 12 20 fd40.an q_L40_3 (loopIn (loopsOf fd40.body) 3) (ch_L40_3.enc x)) (back ch_L40_3 co0_L40_3 fun e => exE e (.exit 0)) = stp_L40_3 x := by kernel_rfl
theorem ok_L40_3 : LoopOK Tryz.prog (oneS sl_L40_3) nt40 q_L40_3 (loopIn (loopsOf fd40.body) 3) :=
  loop_one env_lL40_3_ok (loops := 12) (k := 20) (an := fd40.an) (by kernel_rfl) (FnSt.subl rfl st40.keys (all_cons (.inl (by kernel_rfl)) (all_nil))) ch_L40_3 co0_L40_3 (.exit 0) rfl stp_L40_3 _ run_L40_3 (fun x y h => ⟨_, h⟩) (fun _ => below_iff.1 rfl)
/-- coll.Dots -/
def collDots (c1 : Coll) (s1 : ByteArray) (s2 : ByteArray) : Option ((List Dot)) :=
  ob (L40_3 s1 s2 [] c1.elems (c1.elems.length : Int) 0) fun y0 =>
  some y0
def un_collDots (p : Coll × ByteArray × ByteArray) : Option ((List Dot)) := collDots p.1 p.2.1 p.2.2
noncomputable def df_collDots : DFn TL := DFn.of (DA.cons (DT.agg dc_Coll) (DA.cons (DT.one DI.str) (DA.one (DT.one DI.str)))) un_collDots (DA.one (DT.one di_lDot))
noncomputable def cs_collDots : List (Nat × DFn TL) := []
noncomputable def ss_collDots : List (Nat × SFn TL) := [(140003, sl_L40_3)]
noncomputable def env_collDots : Env := envOf tab sl sh [(40, fd40)] []
theorem env_collDots_ok : EnvOK Tryz.prog (mkD cs_collDots ss_collDots) env_collDots := envOK_of base (all_cons (st40.okl rfl (all_cons (LoopOK.cast ok_L40_3 rfl) (all_nil))) (all_nil)) (all_nil)
theorem run_collDots (x : Coll × ByteArray × ByteArray) : Out.run (mkO cs_collDots ss_collDots) (evOrc env_collDots 12 20 40 ((DA.cons (DT.agg dc_Coll) (DA.cons (DT.one DI.str) (DA.one (DT.one DI.str))) : DA TL (Coll × ByteArray × ByteArray)).enc x)) (DA.one (DT.one di_lDot) : DA TL ((List Dot))).dec = un_collDots x := by kernel_rfl
theorem ok_collDots : DOK Tryz.prog 40 .keep df_collDots := data_of env_collDots_ok (loops := 12) (n := 20) (.inl rfl) st40.enters (DA.cons (DT.agg dc_Coll) (DA.cons (DT.one DI.str) (DA.one (DT.one DI.str)))) un_collDots (DA.one (DT.one di_lDot)) run_collDots
/-- a loop of escrowref8.Up -/
def step_L45_8 (i1 : Int) (i2 : Int) (l1 : List Int) (i3 : Int) : Option ((Int × Int × (List Int) × Int) ⊕ (Int × Int × (List Int))) :=
  cond ((decide (i3 < (l1.length : Int))))
    (cond (decide (0 ≤ i3))
      (ob (l1[i3.toNat]?) fun e0 =>
      cond ((decide (e0 ≥ 65)))
        (cond (decide (0 ≤ i3))
          (ob (l1[i3.toNat]?) fun e1 =>
          cond ((decide (e1 ≤ 90)))
            (cond (decide (0 ≤ i3))
              (ob (l1[i3.toNat]?) fun e2 =>
              cond (decide (0 ≤ i3))
                (ob (l1[i3.toNat]?) fun e3 =>
                none)
                (none))
              (none))
            (some (.inl (i1, i2, l1, (w64 (i3 + 1))))))
          (none))
        (some (.inl (i1, i2, l1, (w64 (i3 + 1))))))
      (none))
    (some (.inr (i1, i2, l1)))
def stp_L45_8 (p : Int × Int × (List Int) × Int) : Option ((Int × Int × (List Int) × Int) ⊕ (Int × Int × (List Int))) := step_L45_8 p.1 p.2.1 p.2.2.1 p.2.2.2
def L45_8 (i1 : Int) (i2 : Int) (l1 : List Int) (i3 : Int) : Option (Int × Int × (List Int)) := iterO stp_L45_8 (((l1.length : Int) - i3).toNat + 2) (i1, i2, l1, i3)
def ch_L45_8 : Cod (Cst TL) (Int × Int × (List Int) × Int) := Cod.iso (Cod.cst 0 (Cod.cons (Cod.xs (Cod.sc (Cod.im (Cod.int .i64)))) (Cod.cons (Cod.xs (Cod.sc (Cod.im (Cod.int .i64)))) (Cod.cons (Cod.xs (Cod.sc (Cod.im (Cod.fz j_lU8)))) (Cod.cons (Cod.xs (Cod.sc (Cod.im (Cod.int .i64)))) (Cod.nil))))) (Cod.nil)) (fun p => (p.1.1, p.1.2.1, p.1.2.2.1, p.1.2.2.2.1)) (fun (x : Int × Int × (List Int) × Int) => ((x.1, (x.2.1, (x.2.2.1, (x.2.2.2, ())))), ())) (fun _ => rfl)
def co0_L45_8 : Cod (Cst TL) (Int × Int × (List Int)) := Cod.iso (Cod.cst 0 (Cod.cons (Cod.xs (Cod.sc (Cod.im (Cod.int .i64)))) (Cod.cons (Cod.xs (Cod.sc (Cod.im (Cod.int .i64)))) (Cod.cons (Cod.xs (Cod.sc (Cod.im (Cod.fz j_lU8)))) (Cod.nil)))) (Cod.nil)) (fun p => (p.1.1, p.1.2.1, p.1.2.2.1)) (fun (x : Int × Int × (List Int)) => ((x.1, (x.2.1, (x.2.2, ()))), ())) (fun _ => rfl)
noncomputable def sl_L45_8 : SFn TL := SFn.one ch_L45_8.dec (fun p => L45_8 p.1 p.2.1 p.2.2.1 p.2.2.2) (.exit 0) co0_L45_8.enc
noncomputable def cs_lL45_8 : List (Nat × DFn TL) := []
noncomputable def ss_lL45_8 : List (Nat × SFn TL) := []
noncomputable def env_lL45_8 : Env := envOf tab sl sh [] []
theorem env_lL45_8_ok : EnvOK Tryz.prog (mkD cs_lL45_8 ss_lL45_8) env_lL45_8 := envOK_of base (all_nil) (all_nil)
theorem run_L45_8 (x : Int × Int × (List Int) × Int) : Out.run (mkO cs_lL45_8 ss_lL45_8) (evRound env_lL45_8 12 20 fd45.an q_L45_8 (loopIn (loopsOf fd45.body) 8) (ch_L45_8.enc x)) (back ch_L45_8 co0_L45_8 fun e => exE e (.exit 0)) = stp_L45_8 x := by kernel_rfl
theorem ok_L45_8 : LoopOK Tryz.prog (oneS sl_L45_8) nt45 q_L45_8 (loopIn (loopsOf fd45.body) 8) :=
  loop_one env_lL45_8_ok (loops := 12) (k := 20) (an := fd45.an) (by kernel_rfl) (FnSt.subl rfl st45.keys (all_cons (.inl (by kernel_rfl)) (all_cons (.inl (by kernel_rfl)) (all_cons (.inl (by kernel_rfl)) (all_nil))))) ch_L45_8 co0_L45_8 (.exit 0) rfl stp_L45_8 _ run_L45_8 (fun x y h => ⟨_, h⟩) (fun _ => below_iff.1 rfl)
/-- a loop of escrowref8.Up -/
def step_L45_14 (s1 : ByteArray) : Option ((ByteArray) ⊕ (ByteArray)) :=
  cond ((decide ((s1.size : Int) > 0)))
    (cond (decide (0 ≤ 0))
      (cond (decide (0 < (s1.size : Int)))
        (cond ((((s1[(0 : Int).toNat]?.getD 0).toNat : Int) == 32))
          (cond (decide (1 ≤ (s1.size : Int)))
            (cond (decide ((s1.size : Int) ≤ (s1.size : Int)))
              (some (.inl (s1.extract 1 (((s1.size : Int)).toNat))))
              (none))
            (none))
          (some (.inr s1)))
        (none))
      (none))
    (some (.inr s1))
def stp_L45_14 (p : ByteArray) : Option ((ByteArray) ⊕ (ByteArray)) := step_L45_14 p
def L45_14 (s1 : ByteArray) : Option (ByteArray) := iterO stp_L45_14 (1099511627776) s1
def ch_L45_14 : Cod (Cst TL) (ByteArray) := Cod.iso (Cod.cst 0 (Cod.cons (Cod.xs (Cod.sc (Cod.im Cod.str))) (Cod.nil)) (Cod.nil)) (fun p => p.1.1) (fun (x : ByteArray) => ((x, ()), ())) (fun _ => rfl)
def co0_L45_14 : Cod (Cst TL) (ByteArray) := Cod.iso (Cod.cst 0 (Cod.cons (Cod.xs (Cod.sc (Cod.im Cod.str))) (Cod.nil)) (Cod.nil)) (fun p => p.1.1) (fun (x : ByteArray) => ((x, ()), ())) (fun _ => rfl)
noncomputable def sl_L45_14 : SFn TL := SFn.one ch_L45_14.dec (fun p => L45_14 p) (.exit 2) co0_L45_14.enc
noncomputable def cs_lL45_14 : List (Nat × DFn TL) := []
noncomputable def ss_lL45_14 : List (Nat × SFn TL) := []
noncomputable def env_lL45_14 : Env := envOf tab sl sh [] []
theorem env_lL45_14_ok : EnvOK Tryz.prog (mkD cs_lL45_14 ss_lL45_14) env_lL45_14 := envOK_of base (all_nil) (all_nil)
theorem run_L45_14 (x : ByteArray) : Out.run (mkO cs_lL45_14 ss_lL45_14) (evRound env_lL45_14 12 20 fd45.an q_L45_14 (loopIn (loopsOf fd45.body) 14) (ch_L45_14.enc x)) (back ch_L45_14 co0_L45_14 fun e => exE e (.exit 2)) = stp_L45_14 x := by kernel_rfl
theorem ok_L45_14 : LoopOK Tryz.prog (oneS sl_L45_14) nt45 q_L45_14 (loopIn (loopsOf fd45.body) 14) :=
  loop_one env_lL45_14_ok (loops := 12) (k := 20) (an := fd45.an) (by kernel_rfl) (FnSt.subl rfl st45.keys (all_cons (.inl (by kernel_rfl)) (all_cons (.inl (by kernel_rfl)) (all_cons (.inl (by kernel_rfl)) (all_nil))))) ch_L45_14 co0_L45_14 (.exit 2) rfl stp_L45_14 _ run_L45_14 (fun x y h => ⟨_, h⟩) (fun _ => below_iff.1 rfl)
/-- a loop of escrowref8.Up -/
def step_L45_16 (s1 : ByteArray) : Option ((ByteArray) ⊕ (ByteArray)) :=
  cond ((decide ((s1.size : Int) > 0)))
    (cond (decide (0 ≤ (w64 ((s1.size : Int) - 1))))
      (cond (decide ((w64 ((s1.size : Int) - 1)) < (s1.size : Int)))
        (cond ((((s1[((w64 ((s1.size : Int) - 1)) : Int).toNat]?.getD 0).toNat : Int) == 32))
          (cond (decide (0 ≤ (w64 ((s1.size : Int) - 1))))
            (cond (decide ((w64 ((s1.size : Int) - 1)) ≤ (s1.size : Int)))
              (some (.inl (s1.extract 0 (((w64 ((s1.size : Int) - 1))).toNat))))
              (none))
            (none))
          (some (.inr s1)))
        (none))
      (none))
    (some (.inr s1))
def stp_L45_16 (p : ByteArray) : Option ((ByteArray) ⊕ (ByteArray)) := step_L45_16 p
def L45_16 (s1 : ByteArray) : Option (ByteArray) := iterO stp_L45_16 (1099511627776) s1
def ch_L45_16 : Cod (Cst TL) (ByteArray) := Cod.iso (Cod.cst 0 (Cod.cons (Cod.xs (Cod.sc (Cod.im Cod.str))) (Cod.nil)) (Cod.nil)) (fun p => p.1.1) (fun (x : ByteArray) => ((x, ()), ())) (fun _ => rfl)
def co0_L45_16 : Cod (Cst TL) (ByteArray) := Cod.iso (Cod.cst 0 (Cod.cons (Cod.xs (Cod.sc (Cod.im Cod.str))) (Cod.nil)) (Cod.nil)) (fun p => p.1.1) (fun (x : ByteArray) => ((x, ()), ())) (fun _ => rfl)
noncomputable def sl_L45_16 : SFn TL := SFn.one ch_L45_16.dec (fun p => L45_16 p) (.exit 4) co0_L45_16.enc
noncomputable def cs_lL45_16 : List (Nat × DFn TL) := []
noncomputable def ss_lL45_16 : List (Nat × SFn TL) := []
noncomputable def env_lL45_16 : Env := envOf tab sl sh [] []
theorem env_lL45_16_ok : EnvOK Tryz.prog (mkD cs_lL45_16 ss_lL45_16) env_lL45_16 := envOK_of base (all_nil) (all_nil)
theorem run_L45_16 (x : ByteArray) : Out.run (mkO cs_lL45_16 ss_lL45_16) (evRound env_lL45_16 12 20 fd45.an q_L45_16 (loopIn (loopsOf fd45.body) 16) (ch_L45_16.enc x)) (back ch_L45_16 co0_L45_16 fun e => exE e (.exit 4)) = stp_L45_16 x := by kernel_rfl
theorem ok_L45_16 : LoopOK Tryz.prog (oneS sl_L45_16) nt45 q_L45_16 (loopIn (loopsOf fd45.body) 16) :=
  loop_one env_lL45_16_ok (loops := 12) (k := 20) (an := fd45.an) (by kernel_rfl) (FnSt.subl rfl st45.keys (all_cons (.inl (by kernel_rfl)) (all_cons (.inl (by kernel_rfl)) (all_cons (.inl (by kernel_rfl)) (all_nil))))) ch_L45_16 co0_L45_16 (.exit 4) rfl stp_L45_16 _ run_L45_16 (fun x y h => ⟨_, h⟩) (fun _ => below_iff.1 rfl)
/-- escrowref8.Up -/
def refUp (s1 : ByteArray) (i1 : Int) (i2 : Int) : Option (ByteArray × Int) :=
  cond ((cond (!(cond (decide (i1 ≥ 1)) (decide (i1 ≤ 3)) false)) true (!(cond (decide (i2 ≥ 1)) (decide (i2 ≤ 3)) false))))
    (some (s_empty, 1))
    (cond ((decide (i1 > i2)))
      (some (s_empty, 13))
      (cond ((cond (decide (i1 ≤ 1)) (decide (i2 ≥ 2)) false))
        (ob (L45_8 i1 i2 (intsOfStr s1) 0) fun y0 =>
        cond ((cond (decide (y0.1 ≤ 2)) (decide (y0.2.1 ≥ 3)) false))
          (ob (L45_14 (strOfInts y0.2.2)) fun y1 =>
          ob (L45_16 y1) fun y2 =>
          some (y2, 0))
          (some ((strOfInts y0.2.2), 0)))
        (cond ((cond (decide (i1 ≤ 2)) (decide (i2 ≥ 3)) false))
          (ob (L45_14 s1) fun y3 =>
          ob (L45_16 y3) fun y4 =>
          some (y4, 0))
          (some (s1, 0)))))
def un_refUp (p : ByteArray × Int × Int) : Option (ByteArray × Int) := refUp p.1 p.2.1 p.2.2
noncomputable def df_refUp : DFn TL := DFn.of (DA.cons (DT.one DI.str) (DA.cons (DT.one (DI.int .i64)) (DA.one (DT.one (DI.int .i64))))) un_refUp (DA.cons (DT.one DI.str) (DA.one (DT.one (DI.int .i64))))
noncomputable def cs_refUp : List (Nat × DFn TL) := []
noncomputable def ss_refUp : List (Nat × SFn TL) := [(145008, sl_L45_8), (145014, sl_L45_14), (145016, sl_L45_16)]
noncomputable def env_refUp : Env := envOf tab sl sh [(45, fd45), (81, fd81)] []
theorem env_refUp_ok : EnvOK Tryz.prog (mkD cs_refUp ss_refUp) env_refUp := envOK_of base (all_cons (st45.okl rfl (all_cons (LoopOK.cast ok_L45_8 rfl) (all_cons (LoopOK.cast ok_L45_14 rfl) (all_cons (LoopOK.cast ok_L45_16 rfl) (all_nil))))) (all_cons (st81.okl rfl (all_nil)) (all_nil))) (all_nil)
theorem run_refUp (x : ByteArray × Int × Int) : Out.run (mkO cs_refUp ss_refUp) (evOrc env_refUp 12 20 45 ((DA.cons (DT.one DI.str) (DA.cons (DT.one (DI.int .i64)) (DA.one (DT.one (DI.int .i64)))) : DA TL (ByteArray × Int × Int)).enc x)) (DA.cons (DT.one DI.str) (DA.one (DT.one (DI.int .i64))) : DA TL (ByteArray × Int)).dec = un_refUp x := by kernel_rfl
theorem ok_refUp : DOK Tryz.prog 45 .pure df_refUp := data_of env_refUp_ok (loops := 12) (n := 20) (.inr rfl) st45.enters (DA.cons (DT.one DI.str) (DA.cons (DT.one (DI.int .i64)) (DA.one (DT.one (DI.int .i64))))) un_refUp (DA.cons (DT.one DI.str) (DA.one (DT.one (DI.int .i64)))) run_refUp
/-- a loop of escrowref10.Reg -/
def step_L22_2 (s1 : ByteArray) (i1 : Int) (s2 : ByteArray) (i2 : Int) (i3 : Int) (c1 : Coll) : Option ((ByteArray × Int × ByteArray × Int × Int × Coll) ⊕ (((ByteArray × Int × Coll) ⊕ (ByteArray × Int × Coll)))) :=
  cond ((decide (i3 < (c1.regs.length : Int))))
    (cond (decide (0 ≤ i3))
      (ob (c1.regs[i3.toNat]?) fun e0 =>
      cond ((sEq e0.key s1))
        (cond (decide (0 ≤ i3))
          (ob (c1.regs[i3.toNat]?) fun e1 =>
          cond (decide (0 ≤ i3))
            (ob (c1.regs[i3.toNat]?) fun e2 =>
            ob (refUp e1.text e2.ver i1) fun r3 =>
            some (.inr (.inr (r3.1, r3.2, c1))))
            (none))
          (none))
        (some (.inl (s1, i1, s2, i2, (w64 (i3 + 1)), c1))))
      (none))
    (some (.inr (.inl (s2, i2, c1))))
def stp_L22_2 (p : ByteArray × Int × ByteArray × Int × Int × Coll) : Option ((ByteArray × Int × ByteArray × Int × Int × Coll) ⊕ (((ByteArray × Int × Coll) ⊕ (ByteArray × Int × Coll)))) := step_L22_2 p.1 p.2.1 p.2.2.1 p.2.2.2.1 p.2.2.2.2.1 p.2.2.2.2.2
def L22_2 (s1 : ByteArray) (i1 : Int) (s2 : ByteArray) (i2 : Int) (i3 : Int) (c1 : Coll) : Option (((ByteArray × Int × Coll) ⊕ (ByteArray × Int × Coll))) := iterO stp_L22_2 (1099511627776) (s1, i1, s2, i2, i3, c1)
def ch_L22_2 : Cod (Cst TL) (ByteArray × Int × ByteArray × Int × Int × Coll) := Cod.iso (Cod.cst 1 (Cod.cons (Cod.xs (Cod.sc (Cod.im Cod.str))) (Cod.cons (Cod.xs (Cod.sc (Cod.im (Cod.int .i64)))) (Cod.cons (Cod.xs (Cod.sc (Cod.ptr 0 0))) (Cod.cons (Cod.xs (Cod.sc (Cod.im Cod.str))) (Cod.cons (Cod.xs (Cod.sc (Cod.im (Cod.int .i64)))) (Cod.cons (Cod.xs (Cod.sc (Cod.im (Cod.int .i64)))) (Cod.nil))))))) (Cod.cons (Cod.var 0 36 (Cod.cons (Cod.im (Cod.fz j_lDot)) (Cod.cons (Cod.im (Cod.fz j_lReg)) (Cod.cons (Cod.im (Cod.fz j_lElem)) (Cod.cons (Cod.im (Cod.fz j_lDot)) (Cod.cons (Cod.im (Cod.fz j_lSum)) (Cod.cons (Cod.im (Cod.fz j_lBind)) (Cod.nil)))))))) (Cod.nil))) (fun p => (p.1.1, p.1.2.1, p.1.2.2.2.1, p.1.2.2.2.2.1, p.1.2.2.2.2.2.1, (Coll.mk p.2.1.1 p.2.1.2.1 p.2.1.2.2.1 p.2.1.2.2.2.1 p.2.1.2.2.2.2.1 p.2.1.2.2.2.2.2.1))) (fun (x : ByteArray × Int × ByteArray × Int × Int × Coll) => ((x.1, (x.2.1, ((), (x.2.2.1, (x.2.2.2.1, (x.2.2.2.2.1, ())))))), ((x.2.2.2.2.2.v, (x.2.2.2.2.2.regs, (x.2.2.2.2.2.elems, (x.2.2.2.2.2.gone, (x.2.2.2.2.2.sums, (x.2.2.2.2.2.binds, ())))))), ()))) (fun _ => rfl)
def co0_L22_2 : Cod (Cst TL) (ByteArray × Int × Coll) := Cod.iso (Cod.cst 2 (Cod.cons (Cod.xs (Cod.sc (Cod.im Cod.str))) (Cod.cons (Cod.xs (Cod.sc (Cod.im (Cod.int .i64)))) (Cod.nil))) (Cod.cons (Cod.var 0 36 (Cod.cons (Cod.im (Cod.fz j_lDot)) (Cod.cons (Cod.im (Cod.fz j_lReg)) (Cod.cons (Cod.im (Cod.fz j_lElem)) (Cod.cons (Cod.im (Cod.fz j_lDot)) (Cod.cons (Cod.im (Cod.fz j_lSum)) (Cod.cons (Cod.im (Cod.fz j_lBind)) (Cod.nil)))))))) (Cod.nil))) (fun p => (p.1.1, p.1.2.1, (Coll.mk p.2.1.1 p.2.1.2.1 p.2.1.2.2.1 p.2.1.2.2.2.1 p.2.1.2.2.2.2.1 p.2.1.2.2.2.2.2.1))) (fun (x : ByteArray × Int × Coll) => ((x.1, (x.2.1, ())), ((x.2.2.v, (x.2.2.regs, (x.2.2.elems, (x.2.2.gone, (x.2.2.sums, (x.2.2.binds, ())))))), ()))) (fun _ => rfl)
def co1_L22_2 : Cod (Cst TL) (ByteArray × Int × Coll) := Cod.iso (Cod.cst 2 (Cod.cons (Cod.xs (Cod.sc (Cod.im Cod.str))) (Cod.cons (Cod.xs (Cod.sc (Cod.im (Cod.int .i64)))) (Cod.nil))) (Cod.cons (Cod.var 0 36 (Cod.cons (Cod.im (Cod.fz j_lDot)) (Cod.cons (Cod.im (Cod.fz j_lReg)) (Cod.cons (Cod.im (Cod.fz j_lElem)) (Cod.cons (Cod.im (Cod.fz j_lDot)) (Cod.cons (Cod.im (Cod.fz j_lSum)) (Cod.cons (Cod.im (Cod.fz j_lBind)) (Cod.nil)))))))) (Cod.nil))) (fun p => (p.1.1, p.1.2.1, (Coll.mk p.2.1.1 p.2.1.2.1 p.2.1.2.2.1 p.2.1.2.2.2.1 p.2.1.2.2.2.2.1 p.2.1.2.2.2.2.2.1))) (fun (x : ByteArray × Int × Coll) => ((x.1, (x.2.1, ())), ((x.2.2.v, (x.2.2.regs, (x.2.2.elems, (x.2.2.gone, (x.2.2.sums, (x.2.2.binds, ())))))), ()))) (fun _ => rfl)
noncomputable def sl_L22_2 : SFn TL := SFn.two ch_L22_2.dec (fun p => L22_2 p.1 p.2.1 p.2.2.1 p.2.2.2.1 p.2.2.2.2.1 p.2.2.2.2.2) (.exit 0) .ret co0_L22_2.enc co1_L22_2.enc
noncomputable def cs_lL22_2 : List (Nat × DFn TL) := [(45, df_refUp)]
noncomputable def ss_lL22_2 : List (Nat × SFn TL) := []
noncomputable def env_lL22_2 : Env := envOf tab sl sh [] [(45, .pure)]
theorem env_lL22_2_ok : EnvOK Tryz.prog (mkD cs_lL22_2 ss_lL22_2) env_lL22_2 := envOK_of base (all_nil) (all_cons (okD rfl ok_refUp) (all_nil))
theorem run_L22_2 (x : ByteArray × Int × ByteArray × Int × Int × Coll) : Out.run (mkO cs_lL22_2 ss_lL22_2) (evRound env_lL22_2 12 20 fd22.an q_L22_2 (loopIn (loopsOf fd22.body) 2) (ch_L22_2.enc x)) (back2 ch_L22_2 co0_L22_2 co1_L22_2 (.exit 0) .ret) = stp_L22_2 x := by kernel_rfl
theorem ok_L22_2 : LoopOK Tryz.prog (oneS sl_L22_2) nt22 q_L22_2 (loopIn (loopsOf fd22.body) 2) :=
  loop_two env_lL22_2_ok (loops := 12) (k := 20) (an := fd22.an) (by kernel_rfl) (FnSt.subl rfl st22.keys (all_cons (.inl (by kernel_rfl)) (all_nil))) ch_L22_2 co0_L22_2 co1_L22_2 (.exit 0) .ret rfl rfl stp_L22_2 _ run_L22_2 (fun x y h => ⟨_, h⟩) (fun _ => below_iff.1 rfl)
/-- escrowref10.Reg -/
def refReg (c1 : Coll) (s1 : ByteArray) (i1 : Int) : Option (ByteArray × Int) :=
  ob (L22_2 s1 i1 s_empty 0 0 c1) fun y0 =>
  two y0 (fun a1 =>
    some (s_empty, 2)) (fun b2 =>
    some (b2.1, b2.2.1))
def un_refReg (p : Coll × ByteArray × Int) : Option (ByteArray × Int) := refReg p.1 p.2.1 p.2.2
noncomputable def df_refReg : DFn TL := DFn.of (DA.cons (DT.agg dc_Coll) (DA.cons (DT.one DI.str) (DA.one (DT.one (DI.int .i64))))) un_refReg (DA.cons (DT.one DI.str) (DA.one (DT.one (DI.int .i64))))
noncomputable def cs_refReg : List (Nat × DFn TL) := []
noncomputable def ss_refReg : List (Nat × SFn TL) := [(122002, sl_L22_2)]
noncomputable def env_refReg : Env := envOf tab sl sh [(22, fd22)] []
theorem env_refReg_ok : EnvOK Tryz.prog (mkD cs_refReg ss_refReg) env_refReg := envOK_of base (all_cons (st22.okl rfl (all_cons (LoopOK.cast ok_L22_2 rfl) (all_nil))) (all_nil)) (all_nil)
theorem run_refReg (x : Coll × ByteArray × Int) : Out.run (mkO cs_refReg ss_refReg) (evOrc env_refReg 12 20 22 ((DA.cons (DT.agg dc_Coll) (DA.cons (DT.one DI.str) (DA.one (DT.one (DI.int .i64)))) : DA TL (Coll × ByteArray × Int)).enc x)) (DA.cons (DT.one DI.str) (DA.one (DT.one (DI.int .i64))) : DA TL (ByteArray × Int)).dec = un_refReg x := by kernel_rfl
theorem ok_refReg : DOK Tryz.prog 22 .pure df_refReg := data_of env_refReg_ok (loops := 12) (n := 20) (.inr rfl) st22.enters (DA.cons (DT.agg dc_Coll) (DA.cons (DT.one DI.str) (DA.one (DT.one (DI.int .i64))))) un_refReg (DA.cons (DT.one DI.str) (DA.one (DT.one (DI.int .i64)))) run_refReg
/-- ledger.lease -/
def leaseOwn2 (l1 : Lease) : Option (Lease) :=
  cond (fits l1.slices.length)
    (cond (fits l1.ids.length)
      (cond (fits l1.used.length)
        (some l1)
        (none))
      (none))
    (none)
def ch_leaseOwn2 : Cod (Cst TL) (Lease) := Cod.iso (Cod.cst 0 (Cod.cons (Cod.xs (Cod.sa (Cod.cons (Cod.im (Cod.int .i64)) (Cod.cons (Cod.im (Cod.int .i64)) (Cod.cons (Cod.im (Cod.int .i64)) (Cod.cons (Cod.im (Cod.int .i64)) (Cod.cons (Cod.im (Cod.fz j_lSlice)) (Cod.cons (Cod.im (Cod.fz j_lRange)) (Cod.cons (Cod.im (Cod.fz j_lInt)) (Cod.nil)))))))))) (Cod.nil)) (Cod.nil)) (fun p => (Lease.mk p.1.1.1 p.1.1.2.1 p.1.1.2.2.1 p.1.1.2.2.2.1 p.1.1.2.2.2.2.1 p.1.1.2.2.2.2.2.1 p.1.1.2.2.2.2.2.2.1)) (fun (x : Lease) => (((x.device, (x.epoch, (x.until_, (x.last, (x.slices, (x.ids, (x.used, ()))))))), ()), ())) (fun _ => rfl)
def co_leaseOwn2 : Cod (Cst TL) (Lease) := Cod.iso (Cod.cst 3 (Cod.cons (Cod.xs (Cod.sa (Cod.cons (Cod.im (Cod.int .i64)) (Cod.cons (Cod.im (Cod.int .i64)) (Cod.cons (Cod.im (Cod.int .i64)) (Cod.cons (Cod.im (Cod.int .i64)) (Cod.cons (Cod.ar 0) (Cod.cons (Cod.ar 1) (Cod.cons (Cod.ar 2) (Cod.nil)))))))))) (Cod.nil)) (Cod.cons (Cod.arr 0 62 j_lSlice) (Cod.cons (Cod.arr 1 98 j_lRange) (Cod.cons (Cod.arr 2 3 j_lInt) (Cod.nil))))) (fun p => (Lease.mk p.1.1.1 p.1.1.2.1 p.1.1.2.2.1 p.1.1.2.2.2.1 p.2.1 p.2.2.1 p.2.2.2.1)) (fun (x : Lease) => (((x.device, (x.epoch, (x.until_, (x.last, ((), ((), ((), ()))))))), ()), (x.slices, (x.ids, (x.used, ()))))) (fun _ => rfl)
def un_leaseOwn2 (p : Lease) : Option (Lease) := leaseOwn2 p
noncomputable def sf_leaseOwn2 : SFn TL := SFn.one ch_leaseOwn2.dec un_leaseOwn2 .normal co_leaseOwn2.enc
noncomputable def cs_leaseOwn2 : List (Nat × DFn TL) := []
noncomputable def ss_leaseOwn2 : List (Nat × SFn TL) := []
noncomputable def env_leaseOwn2 : Env := envOf tab sl sh [(105, fd105)] [(82, (.cln 62)), (83, (.cln 98)), (84, (.cln 3))]
theorem env_leaseOwn2_ok : EnvOK Tryz.prog (mkD cs_leaseOwn2 ss_leaseOwn2) env_leaseOwn2 := envOK_of base (all_cons (st105.okl rfl (all_nil)) (all_nil)) (all_cons (okCln okI_82) (all_cons (okCln okI_83) (all_cons (okCln okI_84) (all_nil))))
theorem run_leaseOwn2 (x : Lease) : Out.run (mkO cs_leaseOwn2 ss_leaseOwn2) (evSum env_leaseOwn2 12 20 105 (ch_leaseOwn2.enc x)) (back1 co_leaseOwn2) = un_leaseOwn2 x := by kernel_rfl
theorem ok_leaseOwn2 : SOK Tryz.prog 105 sf_leaseOwn2 := sum_one env_leaseOwn2_ok (loops := 12) (n := 20) st105.enters ch_leaseOwn2 co_leaseOwn2 un_leaseOwn2 run_leaseOwn2
/-- a loop of ranges.Has -/
def step_L108_2 (i1 : Int) (b1 : Bool) (l1 : List Range) (i2 : Int) (i3 : Int) : Option ((Int × Bool × (List Range) × Int × Int) ⊕ (((Bool) ⊕ (Bool)))) :=
  cond ((decide (i3 < i2)))
    (cond (decide (0 ≤ i3))
      (ob (l1[i3.toNat]?) fun e0 =>
      cond ((cond (decide (i1 ≥ e0.from_)) (decide (i1 < e0.to_)) false))
        (some (.inr (.inr true)))
        (some (.inl (i1, b1, l1, i2, (w64 (i3 + 1))))))
      (none))
    (some (.inr (.inl b1)))
def stp_L108_2 (p : Int × Bool × (List Range) × Int × Int) : Option ((Int × Bool × (List Range) × Int × Int) ⊕ (((Bool) ⊕ (Bool)))) := step_L108_2 p.1 p.2.1 p.2.2.1 p.2.2.2.1 p.2.2.2.2
def L108_2 (i1 : Int) (b1 : Bool) (l1 : List Range) (i2 : Int) (i3 : Int) : Option (((Bool) ⊕ (Bool))) := iterO stp_L108_2 ((i2 - i3).toNat + 2) (i1, b1, l1, i2, i3)
def ch_L108_2 : Cod (Cst TL) (Int × Bool × (List Range) × Int × Int) := Cod.iso (Cod.cst 0 (Cod.cons (Cod.xs (Cod.sc (Cod.im (Cod.int .i64)))) (Cod.cons (Cod.xs (Cod.sc (Cod.im Cod.bool))) (Cod.cons (Cod.xs (Cod.sc (Cod.im (Cod.fz j_lRange)))) (Cod.cons (Cod.xs (Cod.sc (Cod.im (Cod.int .i64)))) (Cod.cons (Cod.xs (Cod.sc (Cod.im (Cod.int .i64)))) (Cod.nil)))))) (Cod.nil)) (fun p => (p.1.1, p.1.2.1, p.1.2.2.1, p.1.2.2.2.1, p.1.2.2.2.2.1)) (fun (x : Int × Bool × (List Range) × Int × Int) => ((x.1, (x.2.1, (x.2.2.1, (x.2.2.2.1, (x.2.2.2.2, ()))))), ())) (fun _ => rfl)
def co0_L108_2 : Cod (Cst TL) (Bool) := Cod.iso (Cod.cst 0 (Cod.cons (Cod.xs (Cod.sc (Cod.im Cod.bool))) (Cod.nil)) (Cod.nil)) (fun p => p.1.1) (fun (x : Bool) => ((x, ()), ())) (fun _ => rfl)
def co1_L108_2 : Cod (Cst TL) (Bool) := Cod.iso (Cod.cst 0 (Cod.cons (Cod.xs (Cod.sc (Cod.im Cod.bool))) (Cod.nil)) (Cod.nil)) (fun p => p.1.1) (fun (x : Bool) => ((x, ()), ())) (fun _ => rfl)
noncomputable def sl_L108_2 : SFn TL := SFn.two ch_L108_2.dec (fun p => L108_2 p.1 p.2.1 p.2.2.1 p.2.2.2.1 p.2.2.2.2) (.exit 0) .ret co0_L108_2.enc co1_L108_2.enc
noncomputable def cs_lL108_2 : List (Nat × DFn TL) := []
noncomputable def ss_lL108_2 : List (Nat × SFn TL) := []
noncomputable def env_lL108_2 : Env := envOf tab sl sh [] []
theorem env_lL108_2_ok : EnvOK Tryz.prog (mkD cs_lL108_2 ss_lL108_2) env_lL108_2 := envOK_of base (all_nil) (all_nil)
theorem run_L108_2 (x : Int × Bool × (List Range) × Int × Int) : Out.run (mkO cs_lL108_2 ss_lL108_2) (evRound env_lL108_2 12 20 fd108.an q_L108_2 (loopIn (loopsOf fd108.body) 2) (ch_L108_2.enc x)) (back2 ch_L108_2 co0_L108_2 co1_L108_2 (.exit 0) .ret) = stp_L108_2 x := by kernel_rfl
theorem ok_L108_2 : LoopOK Tryz.prog (oneS sl_L108_2) nt108 q_L108_2 (loopIn (loopsOf fd108.body) 2) :=
  loop_two env_lL108_2_ok (loops := 12) (k := 20) (an := fd108.an) (by kernel_rfl) (FnSt.subl rfl st108.keys (all_cons (.inl (by kernel_rfl)) (all_nil))) ch_L108_2 co0_L108_2 co1_L108_2 (.exit 0) .ret rfl rfl stp_L108_2 _ run_L108_2 (fun x y h => ⟨_, h⟩) (fun _ => below_iff.1 rfl)
/-- ranges.Has -/
def rangesHas (l1 : List Range) (i1 : Int) : Option (Bool) :=
  ob (L108_2 i1 false l1 (l1.length : Int) 0) fun y0 =>
  two y0 (fun a1 =>
    some false) (fun b2 =>
    some b2)
def un_rangesHas (p : (List Range) × Int) : Option (Bool) := rangesHas p.1 p.2
noncomputable def df_rangesHas : DFn TL := DFn.of (DA.cons (DT.one di_lRange) (DA.one (DT.one (DI.int .i64)))) un_rangesHas (DA.one (DT.one DI.bool))
noncomputable def cs_rangesHas : List (Nat × DFn TL) := []
noncomputable def ss_rangesHas : List (Nat × SFn TL) := [(208002, sl_L108_2)]
noncomputable def env_rangesHas : Env := envOf tab sl sh [(108, fd108)] []
theorem env_rangesHas_ok : EnvOK Tryz.prog (mkD cs_rangesHas ss_rangesHas) env_rangesHas := envOK_of base (all_cons (st108.okl rfl (all_cons (LoopOK.cast ok_L108_2 rfl) (all_nil))) (all_nil)) (all_nil)
theorem run_rangesHas (x : (List Range) × Int) : Out.run (mkO cs_rangesHas ss_rangesHas) (evOrc env_rangesHas 12 20 108 ((DA.cons (DT.one di_lRange) (DA.one (DT.one (DI.int .i64))) : DA TL ((List Range) × Int)).enc x)) (DA.one (DT.one DI.bool) : DA TL (Bool)).dec = un_rangesHas x := by kernel_rfl
theorem ok_rangesHas : DOK Tryz.prog 108 .pure df_rangesHas := data_of env_rangesHas_ok (loops := 12) (n := 20) (.inr rfl) st108.enters (DA.cons (DT.one di_lRange) (DA.one (DT.one (DI.int .i64)))) un_rangesHas (DA.one (DT.one DI.bool)) run_rangesHas
/-- a loop of slices.BinarySearch[[]int,int] -/
def step_L109_3 (l1 : List Int) (i1 : Int) (i2 : Int) (i3 : Int) (i4 : Int) : Option (((List Int) × Int × Int × Int × Int) ⊕ ((List Int) × Int × Int × Int)) :=
  cond ((decide (i3 < i4)))
    (cond (decide (0 ≤ (w64 (((IntKind.u64.wrap ((w64 (i3 + i4)))) / 2)))))
      (ob (l1[((w64 (((IntKind.u64.wrap ((w64 (i3 + i4)))) / 2)))).toNat]?) fun e0 =>
      ob (lessInt e0 i1) fun r1 =>
      some (.inl (l1, i1, i2, (cond r1 (w64 ((w64 (((IntKind.u64.wrap ((w64 (i3 + i4)))) / 2))) + 1)) i3), (cond r1 i4 (w64 (((IntKind.u64.wrap ((w64 (i3 + i4)))) / 2)))))))
      (none))
    (some (.inr (l1, i1, i2, i3)))
def stp_L109_3 (p : (List Int) × Int × Int × Int × Int) : Option (((List Int) × Int × Int × Int × Int) ⊕ ((List Int) × Int × Int × Int)) := step_L109_3 p.1 p.2.1 p.2.2.1 p.2.2.2.1 p.2.2.2.2
def L109_3 (l1 : List Int) (i1 : Int) (i2 : Int) (i3 : Int) (i4 : Int) : Option ((List Int) × Int × Int × Int) := iterO stp_L109_3 ((i4 - i3).toNat + 2) (l1, i1, i2, i3, i4)
def ch_L109_3 : Cod (Cst TL) ((List Int) × Int × Int × Int × Int) := Cod.iso (Cod.cst 0 (Cod.cons (Cod.xs (Cod.sc (Cod.im (Cod.fz j_lInt)))) (Cod.cons (Cod.xs (Cod.sc (Cod.im (Cod.int .i64)))) (Cod.cons (Cod.xs (Cod.sc (Cod.im (Cod.int .i64)))) (Cod.cons (Cod.xs (Cod.sc (Cod.im (Cod.int .i64)))) (Cod.cons (Cod.xs (Cod.sc (Cod.im (Cod.int .i64)))) (Cod.nil)))))) (Cod.nil)) (fun p => (p.1.1, p.1.2.1, p.1.2.2.1, p.1.2.2.2.1, p.1.2.2.2.2.1)) (fun (x : (List Int) × Int × Int × Int × Int) => ((x.1, (x.2.1, (x.2.2.1, (x.2.2.2.1, (x.2.2.2.2, ()))))), ())) (fun _ => rfl)
def co0_L109_3 : Cod (Cst TL) ((List Int) × Int × Int × Int) := Cod.iso (Cod.cst 0 (Cod.cons (Cod.xs (Cod.sc (Cod.im (Cod.fz j_lInt)))) (Cod.cons (Cod.xs (Cod.sc (Cod.im (Cod.int .i64)))) (Cod.cons (Cod.xs (Cod.sc (Cod.im (Cod.int .i64)))) (Cod.cons (Cod.xs (Cod.sc (Cod.im (Cod.int .i64)))) (Cod.nil))))) (Cod.nil)) (fun p => (p.1.1, p.1.2.1, p.1.2.2.1, p.1.2.2.2.1)) (fun (x : (List Int) × Int × Int × Int) => ((x.1, (x.2.1, (x.2.2.1, (x.2.2.2, ())))), ())) (fun _ => rfl)
noncomputable def sl_L109_3 : SFn TL := SFn.one ch_L109_3.dec (fun p => L109_3 p.1 p.2.1 p.2.2.1 p.2.2.2.1 p.2.2.2.2) (.exit 0) co0_L109_3.enc
noncomputable def cs_lL109_3 : List (Nat × DFn TL) := [(136, df_lessInt)]
noncomputable def ss_lL109_3 : List (Nat × SFn TL) := []
noncomputable def env_lL109_3 : Env := envOf tab sl sh [] [(136, .pure)]
theorem env_lL109_3_ok : EnvOK Tryz.prog (mkD cs_lL109_3 ss_lL109_3) env_lL109_3 := envOK_of base (all_nil) (all_cons (okD rfl ok_lessInt) (all_nil))
theorem run_L109_3 (x : (List Int) × Int × Int × Int × Int) : Out.run (mkO cs_lL109_3 ss_lL109_3) (evRound env_lL109_3 12 20 fd109.an q_L109_3 (loopIn (loopsOf fd109.body) 3) (ch_L109_3.enc x)) (back ch_L109_3 co0_L109_3 fun e => exE e (.exit 0)) = stp_L109_3 x := by kernel_rfl
theorem ok_L109_3 : LoopOK Tryz.prog (oneS sl_L109_3) nt109 q_L109_3 (loopIn (loopsOf fd109.body) 3) :=
  loop_one env_lL109_3_ok (loops := 12) (k := 20) (an := fd109.an) (by kernel_rfl) (FnSt.subl rfl st109.keys (all_cons (.inl (by kernel_rfl)) (all_nil))) ch_L109_3 co0_L109_3 (.exit 0) rfl stp_L109_3 _ run_L109_3 (fun x y h => ⟨_, h⟩) (fun _ => below_iff.1 rfl)
/-- slices.BinarySearch[[]int,int] (fails: [201]) -/
def bsearchInt (l1 : List Int) (i1 : Int) : Option (Int × Bool) :=
  ob (L109_3 l1 i1 (l1.length : Int) 0 (l1.length : Int)) fun y0 =>
  cond ((decide (y0.2.2.2 < y0.2.2.1)))
    (cond (decide (0 ≤ y0.2.2.2))
      (ob (y0.1[y0.2.2.2.toNat]?) fun e1 =>
      cond ((e1 == y0.2.1))
        (some (y0.2.2.2, true))
        (cond (decide (0 ≤ y0.2.2.2))
          (ob (y0.1[y0.2.2.2.toNat]?) fun e2 =>
          ob (isNaNInt e2) fun r3 =>
          cond (r3)
            (ob (isNaNInt y0.2.1) fun r4 =>
            some (y0.2.2.2, r4))
            (some (y0.2.2.2, false)))
          (none)))
      (none))
    (some (y0.2.2.2, false))
def un_bsearchInt (p : (List Int) × Int) : Option (Int × Bool) := bsearchInt p.1 p.2
noncomputable def df_bsearchInt : DFn TL := DFn.of (DA.cons (DT.one di_lInt) (DA.one (DT.one (DI.int .i64)))) un_bsearchInt (DA.cons (DT.one (DI.int .i64)) (DA.one (DT.one DI.bool)))
noncomputable def cs_bsearchInt : List (Nat × DFn TL) := [(137, df_isNaNInt)]
noncomputable def ss_bsearchInt : List (Nat × SFn TL) := [(209003, sl_L109_3)]
noncomputable def env_bsearchInt : Env := envOf tab sl sh [(109, fd109)] [(137, .pure)]
theorem env_bsearchInt_ok : EnvOK Tryz.prog (mkD cs_bsearchInt ss_bsearchInt) env_bsearchInt := envOK_of base (all_cons (st109.okl rfl (all_cons (LoopOK.cast ok_L109_3 rfl) (all_nil))) (all_nil)) (all_cons (okD rfl ok_isNaNInt) (all_nil))
theorem run_bsearchInt (x : (List Int) × Int) : Out.run (mkO cs_bsearchInt ss_bsearchInt) (evOrc env_bsearchInt 12 20 109 ((DA.cons (DT.one di_lInt) (DA.one (DT.one (DI.int .i64))) : DA TL ((List Int) × Int)).enc x)) (DA.cons (DT.one (DI.int .i64)) (DA.one (DT.one DI.bool)) : DA TL (Int × Bool)).dec = un_bsearchInt x := by kernel_rfl
theorem ok_bsearchInt : DOK Tryz.prog 109 .pure df_bsearchInt := data_of env_bsearchInt_ok (loops := 12) (n := 20) (.inr rfl) st109.enters (DA.cons (DT.one di_lInt) (DA.one (DT.one (DI.int .i64)))) un_bsearchInt (DA.cons (DT.one (DI.int .i64)) (DA.one (DT.one DI.bool))) run_bsearchInt
/-- a loop of api.Slice] -/
def step_L106_2 (l1 : List Slice) (i1 : Int) (i2 : Int) (i3 : Int) (o1 : Op) : Option (((List Slice) × Int × Int × Int × Op) ⊕ (((Int × Op × (List Slice)) ⊕ (Int × Op × (List Slice))))) :=
  cond ((decide (i3 < i2)))
    (cond (decide (0 ≤ i3))
      (cond (decide (i3 < (l1.length : Int)))
        (ob (l1[i3.toNat]?) fun e0 =>
        cond ((sEq e0.key o1.key))
          (some (.inr (.inr (i3, o1, l1))))
          (some (.inl (l1, i1, i2, (w64 (i3 + 1)), o1))))
        (none))
      (none))
    (some (.inr (.inl (i1, o1, l1))))
def stp_L106_2 (p : (List Slice) × Int × Int × Int × Op) : Option (((List Slice) × Int × Int × Int × Op) ⊕ (((Int × Op × (List Slice)) ⊕ (Int × Op × (List Slice))))) := step_L106_2 p.1 p.2.1 p.2.2.1 p.2.2.2.1 p.2.2.2.2
def L106_2 (l1 : List Slice) (i1 : Int) (i2 : Int) (i3 : Int) (o1 : Op) : Option (((Int × Op × (List Slice)) ⊕ (Int × Op × (List Slice)))) := iterO stp_L106_2 ((i2 - i3).toNat + 2) (l1, i1, i2, i3, o1)
def ch_L106_2 : Cod (Cst TL) ((List Slice) × Int × Int × Int × Op) := Cod.iso (Cod.cst 2 (Cod.cons (Cod.xs (Cod.sc (Cod.ar 0))) (Cod.cons (Cod.xs (Cod.sc (Cod.clo 107 [] [(1, 0)]))) (Cod.cons (Cod.xs (Cod.sc (Cod.im (Cod.int .i64)))) (Cod.cons (Cod.xs (Cod.sc (Cod.im (Cod.int .i64)))) (Cod.cons (Cod.xs (Cod.sc (Cod.im (Cod.int .i64)))) (Cod.nil)))))) (Cod.cons (Cod.arr 0 62 j_lSlice) (Cod.cons (Cod.var 1 50 (Cod.cons (Cod.im (Cod.int .i64)) (Cod.cons (Cod.im (Cod.int .i64)) (Cod.cons (Cod.im (Cod.int .i64)) (Cod.cons (Cod.im (Cod.int .i64)) (Cod.cons (Cod.im (Cod.int .i64)) (Cod.cons (Cod.im (Cod.int .i64)) (Cod.cons (Cod.im Cod.str) (Cod.cons (Cod.im Cod.str) (Cod.cons (Cod.im (Cod.int .i64)) (Cod.cons (Cod.im (Cod.int .i64)) (Cod.cons (Cod.im (Cod.fz j_lDot)) (Cod.nil))))))))))))) (Cod.nil)))) (fun p => (p.2.1, p.1.2.2.1, p.1.2.2.2.1, p.1.2.2.2.2.1, (Op.mk (Dot.mk p.2.2.1.1 p.2.2.1.2.1 p.2.2.1.2.2.1) p.2.2.1.2.2.2.1 p.2.2.1.2.2.2.2.1 p.2.2.1.2.2.2.2.2.1 p.2.2.1.2.2.2.2.2.2.1 p.2.2.1.2.2.2.2.2.2.2.1 p.2.2.1.2.2.2.2.2.2.2.2.1 p.2.2.1.2.2.2.2.2.2.2.2.2.1 p.2.2.1.2.2.2.2.2.2.2.2.2.2.1))) (fun (x : (List Slice) × Int × Int × Int × Op) => (((), ((), (x.2.1, (x.2.2.1, (x.2.2.2.1, ()))))), (x.1, ((x.2.2.2.2.dot.device, (x.2.2.2.2.dot.epoch, (x.2.2.2.2.dot.seq, (x.2.2.2.2.coll, (x.2.2.2.2.ver, (x.2.2.2.2.kind, (x.2.2.2.2.key, (x.2.2.2.2.text, (x.2.2.2.2.n, (x.2.2.2.2.time, (x.2.2.2.2.dots, ()))))))))))), ())))) (fun _ => rfl)
def co0_L106_2 : Cod (Cst TL) (Int × Op × (List Slice)) := Cod.iso (Cod.cst 4 (Cod.cons (Cod.xs (Cod.sc (Cod.im (Cod.int .i64)))) (Cod.nil)) (Cod.cons (Cod.arr 0 62 j_lSlice) (Cod.cons (Cod.var 1 50 (Cod.cons (Cod.im (Cod.int .i64)) (Cod.cons (Cod.im (Cod.int .i64)) (Cod.cons (Cod.im (Cod.int .i64)) (Cod.cons (Cod.im (Cod.int .i64)) (Cod.cons (Cod.im (Cod.int .i64)) (Cod.cons (Cod.im (Cod.int .i64)) (Cod.cons (Cod.im Cod.str) (Cod.cons (Cod.im Cod.str) (Cod.cons (Cod.im (Cod.int .i64)) (Cod.cons (Cod.im (Cod.int .i64)) (Cod.cons (Cod.im (Cod.fz j_lDot)) (Cod.nil))))))))))))) (Cod.nil)))) (fun p => (p.1.1, (Op.mk (Dot.mk p.2.2.1.1 p.2.2.1.2.1 p.2.2.1.2.2.1) p.2.2.1.2.2.2.1 p.2.2.1.2.2.2.2.1 p.2.2.1.2.2.2.2.2.1 p.2.2.1.2.2.2.2.2.2.1 p.2.2.1.2.2.2.2.2.2.2.1 p.2.2.1.2.2.2.2.2.2.2.2.1 p.2.2.1.2.2.2.2.2.2.2.2.2.1 p.2.2.1.2.2.2.2.2.2.2.2.2.2.1), p.2.1)) (fun (x : Int × Op × (List Slice)) => ((x.1, ()), (x.2.2, ((x.2.1.dot.device, (x.2.1.dot.epoch, (x.2.1.dot.seq, (x.2.1.coll, (x.2.1.ver, (x.2.1.kind, (x.2.1.key, (x.2.1.text, (x.2.1.n, (x.2.1.time, (x.2.1.dots, ()))))))))))), ())))) (fun _ => rfl)
def co1_L106_2 : Cod (Cst TL) (Int × Op × (List Slice)) := Cod.iso (Cod.cst 4 (Cod.cons (Cod.xs (Cod.sc (Cod.im (Cod.int .i64)))) (Cod.nil)) (Cod.cons (Cod.arr 0 62 j_lSlice) (Cod.cons (Cod.var 1 50 (Cod.cons (Cod.im (Cod.int .i64)) (Cod.cons (Cod.im (Cod.int .i64)) (Cod.cons (Cod.im (Cod.int .i64)) (Cod.cons (Cod.im (Cod.int .i64)) (Cod.cons (Cod.im (Cod.int .i64)) (Cod.cons (Cod.im (Cod.int .i64)) (Cod.cons (Cod.im Cod.str) (Cod.cons (Cod.im Cod.str) (Cod.cons (Cod.im (Cod.int .i64)) (Cod.cons (Cod.im (Cod.int .i64)) (Cod.cons (Cod.im (Cod.fz j_lDot)) (Cod.nil))))))))))))) (Cod.nil)))) (fun p => (p.1.1, (Op.mk (Dot.mk p.2.2.1.1 p.2.2.1.2.1 p.2.2.1.2.2.1) p.2.2.1.2.2.2.1 p.2.2.1.2.2.2.2.1 p.2.2.1.2.2.2.2.2.1 p.2.2.1.2.2.2.2.2.2.1 p.2.2.1.2.2.2.2.2.2.2.1 p.2.2.1.2.2.2.2.2.2.2.2.1 p.2.2.1.2.2.2.2.2.2.2.2.2.1 p.2.2.1.2.2.2.2.2.2.2.2.2.2.1), p.2.1)) (fun (x : Int × Op × (List Slice)) => ((x.1, ()), (x.2.2, ((x.2.1.dot.device, (x.2.1.dot.epoch, (x.2.1.dot.seq, (x.2.1.coll, (x.2.1.ver, (x.2.1.kind, (x.2.1.key, (x.2.1.text, (x.2.1.n, (x.2.1.time, (x.2.1.dots, ()))))))))))), ())))) (fun _ => rfl)
noncomputable def sl_L106_2 : SFn TL := SFn.two ch_L106_2.dec (fun p => L106_2 p.1 p.2.1 p.2.2.1 p.2.2.2.1 p.2.2.2.2) (.exit 0) .ret co0_L106_2.enc co1_L106_2.enc
noncomputable def cs_lL106_2 : List (Nat × DFn TL) := []
noncomputable def ss_lL106_2 : List (Nat × SFn TL) := []
noncomputable def env_lL106_2 : Env := envOf tab sl sh [(107, fd107)] []
theorem env_lL106_2_ok : EnvOK Tryz.prog (mkD cs_lL106_2 ss_lL106_2) env_lL106_2 := envOK_of base (all_cons (st107.okl rfl (all_nil)) (all_nil)) (all_nil)
theorem run_L106_2 (x : (List Slice) × Int × Int × Int × Op) : Out.run (mkO cs_lL106_2 ss_lL106_2) (evRound env_lL106_2 12 20 fd106.an q_L106_2 (loopIn (loopsOf fd106.body) 2) (ch_L106_2.enc x)) (back2 ch_L106_2 co0_L106_2 co1_L106_2 (.exit 0) .ret) = stp_L106_2 x := by kernel_rfl
theorem ok_L106_2 : LoopOK Tryz.prog (oneS sl_L106_2) nt106 q_L106_2 (loopIn (loopsOf fd106.body) 2) :=
  loop_two env_lL106_2_ok (loops := 12) (k := 20) (an := fd106.an) (by kernel_rfl) (FnSt.subl rfl st106.keys (all_cons (.inl (by kernel_rfl)) (all_nil))) ch_L106_2 co0_L106_2 co1_L106_2 (.exit 0) .ret rfl rfl stp_L106_2 _ run_L106_2 (fun x y h => ⟨_, h⟩) (fun _ => below_iff.1 rfl)
/-- ledger.Spend (fails: [201, 27]) -/
def spend (l1 : Lease) (o1 : Op) : Option (Lease × Int) :=
  ob (leaseOwn2 l1) fun y0 =>
  cond ((o1.kind == 4))
    (ob (L106_2 y0.slices 0 (y0.slices.length : Int) 0 o1) fun y1 =>
    two y1 (fun a2 =>
      ob (leaseOwn2 l1) fun y4 =>
      some (y4, 14)) (fun b3 =>
      cond ((decide (b3.1 < 0)))
        (ob (leaseOwn2 l1) fun y5 =>
        some (y5, 14))
        (cond (decide (0 ≤ b3.1))
          (cond (decide (b3.1 < (b3.2.2.length : Int)))
            (ob (b3.2.2[b3.1.toNat]?) fun e6 =>
            ob (b3.2.2[b3.1.toNat]?) fun e7 =>
            cond ((decide (b3.2.1.n > (w64 (e6.up_ - e7.usedUp)))))
              (ob (leaseOwn2 l1) fun y10 =>
              some (y10, 14))
              (ob (b3.2.2[b3.1.toNat]?) fun e8 =>
              ob (b3.2.2[b3.1.toNat]?) fun e9 =>
              cond ((decide ((w64 (0 - b3.2.1.n)) > (w64 (e8.down_ - e9.usedDown)))))
                (ob (leaseOwn2 l1) fun y11 =>
                some (y11, 14))
                (ob (b3.2.2[b3.1.toNat]?) fun e12 =>
                ob (b3.2.2[b3.1.toNat]?) fun e13 =>
                ob ((b3.2.2.set b3.1.toNat (Slice.mk e13.key e13.up_ e13.down_ (w64 (e12.usedUp + (max2 b3.2.1.n 0))) e13.usedDown))[b3.1.toNat]?) fun e14 =>
                ob ((b3.2.2.set b3.1.toNat (Slice.mk e13.key e13.up_ e13.down_ (w64 (e12.usedUp + (max2 b3.2.1.n 0))) e13.usedDown))[b3.1.toNat]?) fun e15 =>
                ob (leaseOwn2 (Lease.mk y0.device y0.epoch y0.until_ y0.last ((b3.2.2.set b3.1.toNat (Slice.mk e13.key e13.up_ e13.down_ (w64 (e12.usedUp + (max2 b3.2.1.n 0))) e13.usedDown)).set b3.1.toNat (Slice.mk e15.key e15.up_ e15.down_ e15.usedUp (w64 (e14.usedDown + (max2 (w64 (0 - b3.2.1.n)) 0))))) y0.ids y0.used)) fun y20 =>
                some (y20, 0))))
            (none))
          (none))))
    (cond ((o1.kind == 5))
      (ob (rangesHas y0.ids o1.n) fun r16 =>
      cond ((!r16))
        (ob (leaseOwn2 l1) fun y17 =>
        some (y17, 14))
        (ob (bsearchInt y0.used o1.n) fun r18 =>
        cond (r18.2)
          (ob (leaseOwn2 l1) fun y19 =>
          some (y19, 7))
          (cond (decide (0 ≤ r18.1))
            (cond (decide (r18.1 ≤ (y0.used.length : Int)))
              (cond (fits ((((y0.used.take r18.1.toNat) ++ [o1.n]) ++ ((y0.used.take y0.used.length).drop r18.1.toNat)).length))
                (ob (leaseOwn2 (Lease.mk y0.device y0.epoch y0.until_ y0.last y0.slices y0.ids (((y0.used.take r18.1.toNat) ++ [o1.n]) ++ ((y0.used.take y0.used.length).drop r18.1.toNat)))) fun y21 =>
                some (y21, 0))
                (none))
              (none))
            (none))))
      (ob (leaseOwn2 y0) fun y22 =>
      some (y22, 0)))
def un_spend (p : Lease × Op) : Option (Lease × Int) := spend p.1 p.2
noncomputable def df_spend : DFn TL := DFn.of (DA.cons (DT.agg dc_Lease) (DA.one (DT.agg dc_Op))) un_spend (DA.cons (DT.agg dc_Lease) (DA.one (DT.one (DI.int .i64))))
noncomputable def cs_spend : List (Nat × DFn TL) := [(108, df_rangesHas), (109, df_bsearchInt)]
noncomputable def ss_spend : List (Nat × SFn TL) := [(105, sf_leaseOwn2), (206002, sl_L106_2)]
noncomputable def env_spend : Env := envOf tab sl sh [(75, fd75), (106, fd106)] [(105, .sum), (108, .pure), (109, .pure), (110, (.ins 3))]
theorem env_spend_ok : EnvOK Tryz.prog (mkD cs_spend ss_spend) env_spend := envOK_of base (all_cons (st75.okl rfl (all_nil)) (all_cons (st106.okl rfl (all_cons (LoopOK.cast ok_L106_2 rfl) (all_nil))) (all_nil))) (all_cons (okS rfl ok_leaseOwn2) (all_cons (okD rfl ok_rangesHas) (all_cons (okD rfl ok_bsearchInt) (all_cons (okIns okI_110) (all_nil)))))
theorem run_spend (x : Lease × Op) : Out.run (mkO cs_spend ss_spend) (evOrc env_spend 12 20 75 ((DA.cons (DT.agg dc_Lease) (DA.one (DT.agg dc_Op)) : DA TL (Lease × Op)).enc x)) (DA.cons (DT.agg dc_Lease) (DA.one (DT.one (DI.int .i64))) : DA TL (Lease × Int)).dec = un_spend x := by kernel_rfl
theorem ok_spend : DOK Tryz.prog 75 .keep df_spend := data_of env_spend_ok (loops := 12) (n := 20) (.inl rfl) st75.enters (DA.cons (DT.agg dc_Lease) (DA.one (DT.agg dc_Op))) un_spend (DA.cons (DT.agg dc_Lease) (DA.one (DT.one (DI.int .i64)))) run_spend
/-- local.New (fails: [27]) -/
def localNew (i1 : Int) (i2 : Int) (l1 : List Bool) : Option (State × Int) :=
  cond ((cond (decide (i1 < 0)) true (cond (decide (i1 ≥ 6)) true (cond (decide (i2 < 1)) true (cond (decide (i2 > 3)) true ((l1.length : Int) != 3))))))
    (some ((State.mk 0 0 (Lease.mk 0 0 0 0 [] [] []) 0 0 0 [] (A3Coll.mk (Coll.mk [] [] [] [] [] []) (Coll.mk [] [] [] [] [] []) (Coll.mk [] [] [] [] [] [])) 0 0 [] 0 0 (Cmd.mk 0 0 0 0 0 [] []) false 0), 1))
    (cond (fits l1.length)
      (some ((State.mk i1 0 (Lease.mk 0 0 0 0 [] [] []) 0 0 0 [] (A3Coll.mk (Coll.mk [] [] [] [] [] []) (Coll.mk [] [] [] [] [] []) (Coll.mk [] [] [] [] [] [])) 0 i2 l1 0 0 (Cmd.mk 0 0 0 0 0 [] []) false 0), 0))
      (none))
def un_localNew (p : Int × Int × (List Bool)) : Option (State × Int) := localNew p.1 p.2.1 p.2.2
noncomputable def df_localNew : DFn TL := DFn.of (DA.cons (DT.one (DI.int .i64)) (DA.cons (DT.one (DI.int .i64)) (DA.one (DT.one di_lBool)))) un_localNew (DA.cons (DT.agg dc_State) (DA.one (DT.one (DI.int .i64))))
noncomputable def cs_localNew : List (Nat × DFn TL) := []
noncomputable def ss_localNew : List (Nat × SFn TL) := []
noncomputable def env_localNew : Env := envOf tab sl sh [(11, fd11)] [(23, (.cln 4))]
theorem env_localNew_ok : EnvOK Tryz.prog (mkD cs_localNew ss_localNew) env_localNew := envOK_of base (all_cons (st11.okl rfl (all_nil)) (all_nil)) (all_cons (okCln okI_23) (all_nil))
theorem run_localNew (x : Int × Int × (List Bool)) : Out.run (mkO cs_localNew ss_localNew) (evOrc env_localNew 12 20 11 ((DA.cons (DT.one (DI.int .i64)) (DA.cons (DT.one (DI.int .i64)) (DA.one (DT.one di_lBool))) : DA TL (Int × Int × (List Bool))).enc x)) (DA.cons (DT.agg dc_State) (DA.one (DT.one (DI.int .i64))) : DA TL (State × Int)).dec = un_localNew x := by kernel_rfl
theorem ok_localNew : DOK Tryz.prog 11 .keep df_localNew := data_of env_localNew_ok (loops := 12) (n := 20) (.inl rfl) st11.enters (DA.cons (DT.one (DI.int .i64)) (DA.cons (DT.one (DI.int .i64)) (DA.one (DT.one di_lBool)))) un_localNew (DA.cons (DT.agg dc_State) (DA.one (DT.one (DI.int .i64)))) run_localNew
/-- local.lease -/
def leaseOwn (l1 : Lease) : Option (Lease) :=
  cond (fits l1.slices.length)
    (cond (fits l1.ids.length)
      (cond (fits l1.used.length)
        (some l1)
        (none))
      (none))
    (none)
def ch_leaseOwn : Cod (Cst TL) (Lease) := Cod.iso (Cod.cst 0 (Cod.cons (Cod.xs (Cod.sa (Cod.cons (Cod.im (Cod.int .i64)) (Cod.cons (Cod.im (Cod.int .i64)) (Cod.cons (Cod.im (Cod.int .i64)) (Cod.cons (Cod.im (Cod.int .i64)) (Cod.cons (Cod.im (Cod.fz j_lSlice)) (Cod.cons (Cod.im (Cod.fz j_lRange)) (Cod.cons (Cod.im (Cod.fz j_lInt)) (Cod.nil)))))))))) (Cod.nil)) (Cod.nil)) (fun p => (Lease.mk p.1.1.1 p.1.1.2.1 p.1.1.2.2.1 p.1.1.2.2.2.1 p.1.1.2.2.2.2.1 p.1.1.2.2.2.2.2.1 p.1.1.2.2.2.2.2.2.1)) (fun (x : Lease) => (((x.device, (x.epoch, (x.until_, (x.last, (x.slices, (x.ids, (x.used, ()))))))), ()), ())) (fun _ => rfl)
def co_leaseOwn : Cod (Cst TL) (Lease) := Cod.iso (Cod.cst 3 (Cod.cons (Cod.xs (Cod.sa (Cod.cons (Cod.im (Cod.int .i64)) (Cod.cons (Cod.im (Cod.int .i64)) (Cod.cons (Cod.im (Cod.int .i64)) (Cod.cons (Cod.im (Cod.int .i64)) (Cod.cons (Cod.ar 0) (Cod.cons (Cod.ar 1) (Cod.cons (Cod.ar 2) (Cod.nil)))))))))) (Cod.nil)) (Cod.cons (Cod.arr 0 62 j_lSlice) (Cod.cons (Cod.arr 1 98 j_lRange) (Cod.cons (Cod.arr 2 3 j_lInt) (Cod.nil))))) (fun p => (Lease.mk p.1.1.1 p.1.1.2.1 p.1.1.2.2.1 p.1.1.2.2.2.1 p.2.1 p.2.2.1 p.2.2.2.1)) (fun (x : Lease) => (((x.device, (x.epoch, (x.until_, (x.last, ((), ((), ((), ()))))))), ()), (x.slices, (x.ids, (x.used, ()))))) (fun _ => rfl)
def un_leaseOwn (p : Lease) : Option (Lease) := leaseOwn p
noncomputable def sf_leaseOwn : SFn TL := SFn.one ch_leaseOwn.dec un_leaseOwn .normal co_leaseOwn.enc
noncomputable def cs_leaseOwn : List (Nat × DFn TL) := []
noncomputable def ss_leaseOwn : List (Nat × SFn TL) := []
noncomputable def env_leaseOwn : Env := envOf tab sl sh [(46, fd46)] [(82, (.cln 62)), (83, (.cln 98)), (84, (.cln 3))]
theorem env_leaseOwn_ok : EnvOK Tryz.prog (mkD cs_leaseOwn ss_leaseOwn) env_leaseOwn := envOK_of base (all_cons (st46.okl rfl (all_nil)) (all_nil)) (all_cons (okCln okI_82) (all_cons (okCln okI_83) (all_cons (okCln okI_84) (all_nil))))
theorem run_leaseOwn (x : Lease) : Out.run (mkO cs_leaseOwn ss_leaseOwn) (evSum env_leaseOwn 12 20 46 (ch_leaseOwn.enc x)) (back1 co_leaseOwn) = un_leaseOwn x := by kernel_rfl
theorem ok_leaseOwn : SOK Tryz.prog 46 sf_leaseOwn := sum_one env_leaseOwn_ok (loops := 12) (n := 20) st46.enters ch_leaseOwn co_leaseOwn un_leaseOwn run_leaseOwn
/-- local.collection -/
def collection (c1 : Coll) : Option (Coll) :=
  cond (fits c1.v.length)
    (cond (fits c1.regs.length)
      (cond (fits c1.elems.length)
        (cond (fits c1.gone.length)
          (cond (fits c1.sums.length)
            (cond (fits c1.binds.length)
              (some c1)
              (none))
            (none))
          (none))
        (none))
      (none))
    (none)
def ch_collection : Cod (Cst TL) (Coll) := Cod.iso (Cod.cst 0 (Cod.cons (Cod.xs (Cod.sa (Cod.cons (Cod.im (Cod.fz j_lDot)) (Cod.cons (Cod.im (Cod.fz j_lReg)) (Cod.cons (Cod.im (Cod.fz j_lElem)) (Cod.cons (Cod.im (Cod.fz j_lDot)) (Cod.cons (Cod.im (Cod.fz j_lSum)) (Cod.cons (Cod.im (Cod.fz j_lBind)) (Cod.nil))))))))) (Cod.nil)) (Cod.nil)) (fun p => (Coll.mk p.1.1.1 p.1.1.2.1 p.1.1.2.2.1 p.1.1.2.2.2.1 p.1.1.2.2.2.2.1 p.1.1.2.2.2.2.2.1)) (fun (x : Coll) => (((x.v, (x.regs, (x.elems, (x.gone, (x.sums, (x.binds, ())))))), ()), ())) (fun _ => rfl)
def co_collection : Cod (Cst TL) (Coll) := Cod.iso (Cod.cst 6 (Cod.cons (Cod.xs (Cod.sa (Cod.cons (Cod.ar 0) (Cod.cons (Cod.ar 1) (Cod.cons (Cod.ar 2) (Cod.cons (Cod.ar 3) (Cod.cons (Cod.ar 4) (Cod.cons (Cod.ar 5) (Cod.nil))))))))) (Cod.nil)) (Cod.cons (Cod.arr 0 112 j_lDot) (Cod.cons (Cod.arr 1 103 j_lReg) (Cod.cons (Cod.arr 2 100 j_lElem) (Cod.cons (Cod.arr 3 48 j_lDot) (Cod.cons (Cod.arr 4 118 j_lSum) (Cod.cons (Cod.arr 5 121 j_lBind) (Cod.nil)))))))) (fun p => (Coll.mk p.2.1 p.2.2.1 p.2.2.2.1 p.2.2.2.2.1 p.2.2.2.2.2.1 p.2.2.2.2.2.2.1)) (fun (x : Coll) => ((((), ((), ((), ((), ((), ((), ())))))), ()), (x.v, (x.regs, (x.elems, (x.gone, (x.sums, (x.binds, ())))))))) (fun _ => rfl)
def un_collection (p : Coll) : Option (Coll) := collection p
noncomputable def sf_collection : SFn TL := SFn.one ch_collection.dec un_collection .normal co_collection.enc
noncomputable def cs_collection : List (Nat × DFn TL) := []
noncomputable def ss_collection : List (Nat × SFn TL) := []
noncomputable def env_collection : Env := envOf tab sl sh [(44, fd44)] [(76, (.cln 112)), (77, (.cln 103)), (78, (.cln 100)), (41, (.cln 48)), (79, (.cln 118)), (80, (.cln 121))]
theorem env_collection_ok : EnvOK Tryz.prog (mkD cs_collection ss_collection) env_collection := envOK_of base (all_cons (st44.okl rfl (all_nil)) (all_nil)) (all_cons (okCln okI_76) (all_cons (okCln okI_77) (all_cons (okCln okI_78) (all_cons (okCln okI_41) (all_cons (okCln okI_79) (all_cons (okCln okI_80) (all_nil)))))))
theorem run_collection (x : Coll) : Out.run (mkO cs_collection ss_collection) (evSum env_collection 12 20 44 (ch_collection.enc x)) (back1 co_collection) = un_collection x := by kernel_rfl
theorem ok_collection : SOK Tryz.prog 44 sf_collection := sum_one env_collection_ok (loops := 12) (n := 20) st44.enters ch_collection co_collection un_collection run_collection
/-- a loop of local.own -/
def step_L24_4 (i1 : Int) (i2 : Int) (s1 : State) (s2 : State) : Option ((Int × Int × State × State) ⊕ (State × State)) :=
  cond ((decide (i2 < i1)))
    (cond (decide (0 ≤ i2))
      (cond (decide (i2 < (s1.pending.length : Int)))
        (ob (s1.pending[i2.toNat]?) fun e0 =>
        cond (fits e0.dots.length)
          (cond (decide (0 ≤ i2))
            (cond (decide (i2 < (s1.pending.length : Int)))
              (ob (s1.pending[i2.toNat]?) fun e1 =>
              some (.inl (i1, (w64 (i2 + 1)), (State.mk s1.device s1.epoch s1.lease s1.ends s1.seq s1.sent (s1.pending.set i2.toNat e0) s1.colls s1.at_ s1.ver s1.subs s1.req s1.asked s1.cmd s1.fenced s1.now), s2)))
              (none))
            (none))
          (none))
        (none))
      (none))
    (some (.inr (s1, s2)))
def stp_L24_4 (p : Int × Int × State × State) : Option ((Int × Int × State × State) ⊕ (State × State)) := step_L24_4 p.1 p.2.1 p.2.2.1 p.2.2.2
def L24_4 (i1 : Int) (i2 : Int) (s1 : State) (s2 : State) : Option (State × State) := iterO stp_L24_4 ((i1 - i2).toNat + 2) (i1, i2, s1, s2)
def ch_L24_4 : Cod (Cst TL) (Int × Int × State × State) := Cod.iso (Cod.cst 32 (Cod.cons (Cod.xs (Cod.sc (Cod.ptr 0 0))) (Cod.cons (Cod.xs (Cod.sc (Cod.ptr 1 0))) (Cod.cons (Cod.xs (Cod.sc (Cod.ar 2))) (Cod.cons (Cod.xs (Cod.sc (Cod.im (Cod.int .i64)))) (Cod.cons (Cod.xs (Cod.sc (Cod.im (Cod.int .i64)))) (Cod.nil)))))) (Cod.cons (Cod.var 0 43 (Cod.cons (Cod.im (Cod.int .i64)) (Cod.cons (Cod.im (Cod.int .i64)) (Cod.cons (Cod.im (Cod.int .i64)) (Cod.cons (Cod.im (Cod.int .i64)) (Cod.cons (Cod.im (Cod.int .i64)) (Cod.cons (Cod.im (Cod.int .i64)) (Cod.cons (Cod.ar 3) (Cod.cons (Cod.ar 4) (Cod.cons (Cod.ar 5) (Cod.cons (Cod.im (Cod.int .i64)) (Cod.cons (Cod.im (Cod.int .i64)) (Cod.cons (Cod.im (Cod.int .i64)) (Cod.cons (Cod.ar 2) (Cod.cons (Cod.im (Cod.fz j_lDot)) (Cod.cons (Cod.im (Cod.fz j_lReg)) (Cod.cons (Cod.im (Cod.fz j_lElem)) (Cod.cons (Cod.im (Cod.fz j_lDot)) (Cod.cons (Cod.im (Cod.fz j_lSum)) (Cod.cons (Cod.im (Cod.fz j_lBind)) (Cod.cons (Cod.im (Cod.fz j_lDot)) (Cod.cons (Cod.im (Cod.fz j_lReg)) (Cod.cons (Cod.im (Cod.fz j_lElem)) (Cod.cons (Cod.im (Cod.fz j_lDot)) (Cod.cons (Cod.im (Cod.fz j_lSum)) (Cod.cons (Cod.im (Cod.fz j_lBind)) (Cod.cons (Cod.im (Cod.fz j_lDot)) (Cod.cons (Cod.im (Cod.fz j_lReg)) (Cod.cons (Cod.im (Cod.fz j_lElem)) (Cod.cons (Cod.im (Cod.fz j_lDot)) (Cod.cons (Cod.im (Cod.fz j_lSum)) (Cod.cons (Cod.im (Cod.fz j_lBind)) (Cod.cons (Cod.im (Cod.int .i64)) (Cod.cons (Cod.im (Cod.int .i64)) (Cod.cons (Cod.ar 6) (Cod.cons (Cod.im (Cod.int .i64)) (Cod.cons (Cod.im (Cod.int .i64)) (Cod.cons (Cod.im (Cod.int .i64)) (Cod.cons (Cod.im (Cod.int .i64)) (Cod.cons (Cod.im (Cod.int .i64)) (Cod.cons (Cod.im (Cod.int .i64)) (Cod.cons (Cod.im (Cod.int .i64)) (Cod.cons (Cod.im (Cod.fz j_lWant)) (Cod.cons (Cod.im (Cod.fz j_lOp)) (Cod.cons (Cod.im Cod.bool) (Cod.cons (Cod.im (Cod.int .i64)) (Cod.nil))))))))))))))))))))))))))))))))))))))))))))))) (Cod.cons (Cod.var 1 43 (Cod.cons (Cod.im (Cod.int .i64)) (Cod.cons (Cod.im (Cod.int .i64)) (Cod.cons (Cod.im (Cod.int .i64)) (Cod.cons (Cod.im (Cod.int .i64)) (Cod.cons (Cod.im (Cod.int .i64)) (Cod.cons (Cod.im (Cod.int .i64)) (Cod.cons (Cod.ar 7) (Cod.cons (Cod.ar 8) (Cod.cons (Cod.ar 9) (Cod.cons (Cod.im (Cod.int .i64)) (Cod.cons (Cod.im (Cod.int .i64)) (Cod.cons (Cod.im (Cod.int .i64)) (Cod.cons (Cod.ar 10) (Cod.cons (Cod.ar 11) (Cod.cons (Cod.ar 12) (Cod.cons (Cod.ar 13) (Cod.cons (Cod.ar 14) (Cod.cons (Cod.ar 15) (Cod.cons (Cod.ar 16) (Cod.cons (Cod.ar 17) (Cod.cons (Cod.ar 18) (Cod.cons (Cod.ar 19) (Cod.cons (Cod.ar 20) (Cod.cons (Cod.ar 21) (Cod.cons (Cod.ar 22) (Cod.cons (Cod.ar 23) (Cod.cons (Cod.ar 24) (Cod.cons (Cod.ar 25) (Cod.cons (Cod.ar 26) (Cod.cons (Cod.ar 27) (Cod.cons (Cod.ar 28) (Cod.cons (Cod.im (Cod.int .i64)) (Cod.cons (Cod.im (Cod.int .i64)) (Cod.cons (Cod.ar 29) (Cod.cons (Cod.im (Cod.int .i64)) (Cod.cons (Cod.im (Cod.int .i64)) (Cod.cons (Cod.im (Cod.int .i64)) (Cod.cons (Cod.im (Cod.int .i64)) (Cod.cons (Cod.im (Cod.int .i64)) (Cod.cons (Cod.im (Cod.int .i64)) (Cod.cons (Cod.im (Cod.int .i64)) (Cod.cons (Cod.ar 30) (Cod.cons (Cod.ar 31) (Cod.cons (Cod.im Cod.bool) (Cod.cons (Cod.im (Cod.int .i64)) (Cod.nil))))))))))))))))))))))))))))))))))))))))))))))) (Cod.cons (Cod.arr 2 50 j_lOp) (Cod.cons (Cod.arr 3 62 j_lSlice) (Cod.cons (Cod.arr 4 98 j_lRange) (Cod.cons (Cod.arr 5 3 j_lInt) (Cod.cons (Cod.arr 6 4 j_lBool) (Cod.cons (Cod.arr 7 62 j_lSlice) (Cod.cons (Cod.arr 8 98 j_lRange) (Cod.cons (Cod.arr 9 3 j_lInt) (Cod.cons (Cod.arr 10 50 j_lOp) (Cod.cons (Cod.arr 11 112 j_lDot) (Cod.cons (Cod.arr 12 103 j_lReg) (Cod.cons (Cod.arr 13 100 j_lElem) (Cod.cons (Cod.arr 14 48 j_lDot) (Cod.cons (Cod.arr 15 118 j_lSum) (Cod.cons (Cod.arr 16 121 j_lBind) (Cod.cons (Cod.arr 17 112 j_lDot) (Cod.cons (Cod.arr 18 103 j_lReg) (Cod.cons (Cod.arr 19 100 j_lElem) (Cod.cons (Cod.arr 20 48 j_lDot) (Cod.cons (Cod.arr 21 118 j_lSum) (Cod.cons (Cod.arr 22 121 j_lBind) (Cod.cons (Cod.arr 23 112 j_lDot) (Cod.cons (Cod.arr 24 103 j_lReg) (Cod.cons (Cod.arr 25 100 j_lElem) (Cod.cons (Cod.arr 26 48 j_lDot) (Cod.cons (Cod.arr 27 118 j_lSum) (Cod.cons (Cod.arr 28 121 j_lBind) (Cod.cons (Cod.arr 29 4 j_lBool) (Cod.cons (Cod.arr 30 89 j_lWant) (Cod.cons (Cod.arr 31 50 j_lOp) (Cod.nil)))))))))))))))))))))))))))))))))) (fun p => (p.1.2.2.2.1, p.1.2.2.2.2.1, (State.mk p.2.1.1 p.2.1.2.1 (Lease.mk p.2.1.2.2.1 p.2.1.2.2.2.1 p.2.1.2.2.2.2.1 p.2.1.2.2.2.2.2.1 p.2.2.2.2.1 p.2.2.2.2.2.1 p.2.2.2.2.2.2.1) p.2.1.2.2.2.2.2.2.2.2.2.1 p.2.1.2.2.2.2.2.2.2.2.2.2.1 p.2.1.2.2.2.2.2.2.2.2.2.2.2.1 p.2.2.2.1 (A3Coll.mk (Coll.mk p.2.1.2.2.2.2.2.2.2.2.2.2.2.2.2.1 p.2.1.2.2.2.2.2.2.2.2.2.2.2.2.2.2.1 p.2.1.2.2.2.2.2.2.2.2.2.2.2.2.2.2.2.1 p.2.1.2.2.2.2.2.2.2.2.2.2.2.2.2.2.2.2.1 p.2.1.2.2.2.2.2.2.2.2.2.2.2.2.2.2.2.2.2.1 p.2.1.2.2.2.2.2.2.2.2.2.2.2.2.2.2.2.2.2.2.1) (Coll.mk p.2.1.2.2.2.2.2.2.2.2.2.2.2.2.2.2.2.2.2.2.2.1 p.2.1.2.2.2.2.2.2.2.2.2.2.2.2.2.2.2.2.2.2.2.2.1 p.2.1.2.2.2.2.2.2.2.2.2.2.2.2.2.2.2.2.2.2.2.2.2.1 p.2.1.2.2.2.2.2.2.2.2.2.2.2.2.2.2.2.2.2.2.2.2.2.2.1 p.2.1.2.2.2.2.2.2.2.2.2.2.2.2.2.2.2.2.2.2.2.2.2.2.2.1 p.2.1.2.2.2.2.2.2.2.2.2.2.2.2.2.2.2.2.2.2.2.2.2.2.2.2.1) (Coll.mk p.2.1.2.2.2.2.2.2.2.2.2.2.2.2.2.2.2.2.2.2.2.2.2.2.2.2.2.1 p.2.1.2.2.2.2.2.2.2.2.2.2.2.2.2.2.2.2.2.2.2.2.2.2.2.2.2.2.1 p.2.1.2.2.2.2.2.2.2.2.2.2.2.2.2.2.2.2.2.2.2.2.2.2.2.2.2.2.2.1 p.2.1.2.2.2.2.2.2.2.2.2.2.2.2.2.2.2.2.2.2.2.2.2.2.2.2.2.2.2.2.1 p.2.1.2.2.2.2.2.2.2.2.2.2.2.2.2.2.2.2.2.2.2.2.2.2.2.2.2.2.2.2.2.1 p.2.1.2.2.2.2.2.2.2.2.2.2.2.2.2.2.2.2.2.2.2.2.2.2.2.2.2.2.2.2.2.2.1)) p.2.1.2.2.2.2.2.2.2.2.2.2.2.2.2.2.2.2.2.2.2.2.2.2.2.2.2.2.2.2.2.2.2.1 p.2.1.2.2.2.2.2.2.2.2.2.2.2.2.2.2.2.2.2.2.2.2.2.2.2.2.2.2.2.2.2.2.2.2.1 p.2.2.2.2.2.2.2.1 p.2.1.2.2.2.2.2.2.2.2.2.2.2.2.2.2.2.2.2.2.2.2.2.2.2.2.2.2.2.2.2.2.2.2.2.2.1 p.2.1.2.2.2.2.2.2.2.2.2.2.2.2.2.2.2.2.2.2.2.2.2.2.2.2.2.2.2.2.2.2.2.2.2.2.2.1 (Cmd.mk p.2.1.2.2.2.2.2.2.2.2.2.2.2.2.2.2.2.2.2.2.2.2.2.2.2.2.2.2.2.2.2.2.2.2.2.2.2.2.1 p.2.1.2.2.2.2.2.2.2.2.2.2.2.2.2.2.2.2.2.2.2.2.2.2.2.2.2.2.2.2.2.2.2.2.2.2.2.2.2.1 p.2.1.2.2.2.2.2.2.2.2.2.2.2.2.2.2.2.2.2.2.2.2.2.2.2.2.2.2.2.2.2.2.2.2.2.2.2.2.2.2.1 p.2.1.2.2.2.2.2.2.2.2.2.2.2.2.2.2.2.2.2.2.2.2.2.2.2.2.2.2.2.2.2.2.2.2.2.2.2.2.2.2.2.1 p.2.1.2.2.2.2.2.2.2.2.2.2.2.2.2.2.2.2.2.2.2.2.2.2.2.2.2.2.2.2.2.2.2.2.2.2.2.2.2.2.2.2.1 p.2.1.2.2.2.2.2.2.2.2.2.2.2.2.2.2.2.2.2.2.2.2.2.2.2.2.2.2.2.2.2.2.2.2.2.2.2.2.2.2.2.2.2.1 p.2.1.2.2.2.2.2.2.2.2.2.2.2.2.2.2.2.2.2.2.2.2.2.2.2.2.2.2.2.2.2.2.2.2.2.2.2.2.2.2.2.2.2.2.1) p.2.1.2.2.2.2.2.2.2.2.2.2.2.2.2.2.2.2.2.2.2.2.2.2.2.2.2.2.2.2.2.2.2.2.2.2.2.2.2.2.2.2.2.2.2.1 p.2.1.2.2.2.2.2.2.2.2.2.2.2.2.2.2.2.2.2.2.2.2.2.2.2.2.2.2.2.2.2.2.2.2.2.2.2.2.2.2.2.2.2.2.2.2.1), (State.mk p.2.2.1.1 p.2.2.1.2.1 (Lease.mk p.2.2.1.2.2.1 p.2.2.1.2.2.2.1 p.2.2.1.2.2.2.2.1 p.2.2.1.2.2.2.2.2.1 p.2.2.2.2.2.2.2.2.1 p.2.2.2.2.2.2.2.2.2.1 p.2.2.2.2.2.2.2.2.2.2.1) p.2.2.1.2.2.2.2.2.2.2.2.2.1 p.2.2.1.2.2.2.2.2.2.2.2.2.2.1 p.2.2.1.2.2.2.2.2.2.2.2.2.2.2.1 p.2.2.2.2.2.2.2.2.2.2.2.1 (A3Coll.mk (Coll.mk p.2.2.2.2.2.2.2.2.2.2.2.2.1 p.2.2.2.2.2.2.2.2.2.2.2.2.2.1 p.2.2.2.2.2.2.2.2.2.2.2.2.2.2.1 p.2.2.2.2.2.2.2.2.2.2.2.2.2.2.2.1 p.2.2.2.2.2.2.2.2.2.2.2.2.2.2.2.2.1 p.2.2.2.2.2.2.2.2.2.2.2.2.2.2.2.2.2.1) (Coll.mk p.2.2.2.2.2.2.2.2.2.2.2.2.2.2.2.2.2.2.1 p.2.2.2.2.2.2.2.2.2.2.2.2.2.2.2.2.2.2.2.1 p.2.2.2.2.2.2.2.2.2.2.2.2.2.2.2.2.2.2.2.2.1 p.2.2.2.2.2.2.2.2.2.2.2.2.2.2.2.2.2.2.2.2.2.1 p.2.2.2.2.2.2.2.2.2.2.2.2.2.2.2.2.2.2.2.2.2.2.1 p.2.2.2.2.2.2.2.2.2.2.2.2.2.2.2.2.2.2.2.2.2.2.2.1) (Coll.mk p.2.2.2.2.2.2.2.2.2.2.2.2.2.2.2.2.2.2.2.2.2.2.2.2.1 p.2.2.2.2.2.2.2.2.2.2.2.2.2.2.2.2.2.2.2.2.2.2.2.2.2.1 p.2.2.2.2.2.2.2.2.2.2.2.2.2.2.2.2.2.2.2.2.2.2.2.2.2.2.1 p.2.2.2.2.2.2.2.2.2.2.2.2.2.2.2.2.2.2.2.2.2.2.2.2.2.2.2.1 p.2.2.2.2.2.2.2.2.2.2.2.2.2.2.2.2.2.2.2.2.2.2.2.2.2.2.2.2.1 p.2.2.2.2.2.2.2.2.2.2.2.2.2.2.2.2.2.2.2.2.2.2.2.2.2.2.2.2.2.1)) p.2.2.1.2.2.2.2.2.2.2.2.2.2.2.2.2.2.2.2.2.2.2.2.2.2.2.2.2.2.2.2.2.2.2.1 p.2.2.1.2.2.2.2.2.2.2.2.2.2.2.2.2.2.2.2.2.2.2.2.2.2.2.2.2.2.2.2.2.2.2.2.1 p.2.2.2.2.2.2.2.2.2.2.2.2.2.2.2.2.2.2.2.2.2.2.2.2.2.2.2.2.2.2.1 p.2.2.1.2.2.2.2.2.2.2.2.2.2.2.2.2.2.2.2.2.2.2.2.2.2.2.2.2.2.2.2.2.2.2.2.2.2.1 p.2.2.1.2.2.2.2.2.2.2.2.2.2.2.2.2.2.2.2.2.2.2.2.2.2.2.2.2.2.2.2.2.2.2.2.2.2.2.1 (Cmd.mk p.2.2.1.2.2.2.2.2.2.2.2.2.2.2.2.2.2.2.2.2.2.2.2.2.2.2.2.2.2.2.2.2.2.2.2.2.2.2.2.1 p.2.2.1.2.2.2.2.2.2.2.2.2.2.2.2.2.2.2.2.2.2.2.2.2.2.2.2.2.2.2.2.2.2.2.2.2.2.2.2.2.1 p.2.2.1.2.2.2.2.2.2.2.2.2.2.2.2.2.2.2.2.2.2.2.2.2.2.2.2.2.2.2.2.2.2.2.2.2.2.2.2.2.2.1 p.2.2.1.2.2.2.2.2.2.2.2.2.2.2.2.2.2.2.2.2.2.2.2.2.2.2.2.2.2.2.2.2.2.2.2.2.2.2.2.2.2.2.1 p.2.2.1.2.2.2.2.2.2.2.2.2.2.2.2.2.2.2.2.2.2.2.2.2.2.2.2.2.2.2.2.2.2.2.2.2.2.2.2.2.2.2.2.1 p.2.2.2.2.2.2.2.2.2.2.2.2.2.2.2.2.2.2.2.2.2.2.2.2.2.2.2.2.2.2.2.1 p.2.2.2.2.2.2.2.2.2.2.2.2.2.2.2.2.2.2.2.2.2.2.2.2.2.2.2.2.2.2.2.2.1) p.2.2.1.2.2.2.2.2.2.2.2.2.2.2.2.2.2.2.2.2.2.2.2.2.2.2.2.2.2.2.2.2.2.2.2.2.2.2.2.2.2.2.2.2.2.2.1 p.2.2.1.2.2.2.2.2.2.2.2.2.2.2.2.2.2.2.2.2.2.2.2.2.2.2.2.2.2.2.2.2.2.2.2.2.2.2.2.2.2.2.2.2.2.2.2.1))) (fun (x : Int × Int × State × State) => (((), ((), ((), (x.1, (x.2.1, ()))))), ((x.2.2.1.device, (x.2.2.1.epoch, (x.2.2.1.lease.device, (x.2.2.1.lease.epoch, (x.2.2.1.lease.until_, (x.2.2.1.lease.last, ((), ((), ((), (x.2.2.1.ends, (x.2.2.1.seq, (x.2.2.1.sent, ((), (x.2.2.1.colls.a0.v, (x.2.2.1.colls.a0.regs, (x.2.2.1.colls.a0.elems, (x.2.2.1.colls.a0.gone, (x.2.2.1.colls.a0.sums, (x.2.2.1.colls.a0.binds, (x.2.2.1.colls.a1.v, (x.2.2.1.colls.a1.regs, (x.2.2.1.colls.a1.elems, (x.2.2.1.colls.a1.gone, (x.2.2.1.colls.a1.sums, (x.2.2.1.colls.a1.binds, (x.2.2.1.colls.a2.v, (x.2.2.1.colls.a2.regs, (x.2.2.1.colls.a2.elems, (x.2.2.1.colls.a2.gone, (x.2.2.1.colls.a2.sums, (x.2.2.1.colls.a2.binds, (x.2.2.1.at_, (x.2.2.1.ver, ((), (x.2.2.1.req, (x.2.2.1.asked, (x.2.2.1.cmd.kind, (x.2.2.1.cmd.device, (x.2.2.1.cmd.epoch, (x.2.2.1.cmd.req, (x.2.2.1.cmd.n, (x.2.2.1.cmd.wants, (x.2.2.1.cmd.ops, (x.2.2.1.fenced, (x.2.2.1.now, ()))))))))))))))))))))))))))))))))))))))))))))), ((x.2.2.2.device, (x.2.2.2.epoch, (x.2.2.2.lease.device, (x.2.2.2.lease.epoch, (x.2.2.2.lease.until_, (x.2.2.2.lease.last, ((), ((), ((), (x.2.2.2.ends, (x.2.2.2.seq, (x.2.2.2.sent, ((), ((), ((), ((), ((), ((), ((), ((), ((), ((), ((), ((), ((), ((), ((), ((), ((), ((), ((), (x.2.2.2.at_, (x.2.2.2.ver, ((), (x.2.2.2.req, (x.2.2.2.asked, (x.2.2.2.cmd.kind, (x.2.2.2.cmd.device, (x.2.2.2.cmd.epoch, (x.2.2.2.cmd.req, (x.2.2.2.cmd.n, ((), ((), (x.2.2.2.fenced, (x.2.2.2.now, ()))))))))))))))))))))))))))))))))))))))))))))), (x.2.2.1.pending, (x.2.2.1.lease.slices, (x.2.2.1.lease.ids, (x.2.2.1.lease.used, (x.2.2.1.subs, (x.2.2.2.lease.slices, (x.2.2.2.lease.ids, (x.2.2.2.lease.used, (x.2.2.2.pending, (x.2.2.2.colls.a0.v, (x.2.2.2.colls.a0.regs, (x.2.2.2.colls.a0.elems, (x.2.2.2.colls.a0.gone, (x.2.2.2.colls.a0.sums, (x.2.2.2.colls.a0.binds, (x.2.2.2.colls.a1.v, (x.2.2.2.colls.a1.regs, (x.2.2.2.colls.a1.elems, (x.2.2.2.colls.a1.gone, (x.2.2.2.colls.a1.sums, (x.2.2.2.colls.a1.binds, (x.2.2.2.colls.a2.v, (x.2.2.2.colls.a2.regs, (x.2.2.2.colls.a2.elems, (x.2.2.2.colls.a2.gone, (x.2.2.2.colls.a2.sums, (x.2.2.2.colls.a2.binds, (x.2.2.2.subs, (x.2.2.2.cmd.wants, (x.2.2.2.cmd.ops, ())))))))))))))))))))))))))))))))))) (fun _ => rfl)
def co0_L24_4 : Cod (Cst TL) (State × State) := Cod.iso (Cod.cst 64 (Cod.cons (Cod.xs (Cod.sc (Cod.ptr 0 0))) (Cod.cons (Cod.xs (Cod.sc (Cod.ptr 1 0))) (Cod.nil))) (Cod.cons (Cod.var 0 43 (Cod.cons (Cod.im (Cod.int .i64)) (Cod.cons (Cod.im (Cod.int .i64)) (Cod.cons (Cod.im (Cod.int .i64)) (Cod.cons (Cod.im (Cod.int .i64)) (Cod.cons (Cod.im (Cod.int .i64)) (Cod.cons (Cod.im (Cod.int .i64)) (Cod.cons (Cod.ar 3) (Cod.cons (Cod.ar 4) (Cod.cons (Cod.ar 5) (Cod.cons (Cod.im (Cod.int .i64)) (Cod.cons (Cod.im (Cod.int .i64)) (Cod.cons (Cod.im (Cod.int .i64)) (Cod.cons (Cod.ar 2) (Cod.cons (Cod.im (Cod.fz j_lDot)) (Cod.cons (Cod.im (Cod.fz j_lReg)) (Cod.cons (Cod.im (Cod.fz j_lElem)) (Cod.cons (Cod.im (Cod.fz j_lDot)) (Cod.cons (Cod.im (Cod.fz j_lSum)) (Cod.cons (Cod.im (Cod.fz j_lBind)) (Cod.cons (Cod.im (Cod.fz j_lDot)) (Cod.cons (Cod.im (Cod.fz j_lReg)) (Cod.cons (Cod.im (Cod.fz j_lElem)) (Cod.cons (Cod.im (Cod.fz j_lDot)) (Cod.cons (Cod.im (Cod.fz j_lSum)) (Cod.cons (Cod.im (Cod.fz j_lBind)) (Cod.cons (Cod.im (Cod.fz j_lDot)) (Cod.cons (Cod.im (Cod.fz j_lReg)) (Cod.cons (Cod.im (Cod.fz j_lElem)) (Cod.cons (Cod.im (Cod.fz j_lDot)) (Cod.cons (Cod.im (Cod.fz j_lSum)) (Cod.cons (Cod.im (Cod.fz j_lBind)) (Cod.cons (Cod.im (Cod.int .i64)) (Cod.cons (Cod.im (Cod.int .i64)) (Cod.cons (Cod.ar 6) (Cod.cons (Cod.im (Cod.int .i64)) (Cod.cons (Cod.im (Cod.int .i64)) (Cod.cons (Cod.im (Cod.int .i64)) (Cod.cons (Cod.im (Cod.int .i64)) (Cod.cons (Cod.im (Cod.int .i64)) (Cod.cons (Cod.im (Cod.int .i64)) (Cod.cons (Cod.im (Cod.int .i64)) (Cod.cons (Cod.im (Cod.fz j_lWant)) (Cod.cons (Cod.im (Cod.fz j_lOp)) (Cod.cons (Cod.im Cod.bool) (Cod.cons (Cod.im (Cod.int .i64)) (Cod.nil))))))))))))))))))))))))))))))))))))))))))))))) (Cod.cons (Cod.var 1 43 (Cod.cons (Cod.im (Cod.int .i64)) (Cod.cons (Cod.im (Cod.int .i64)) (Cod.cons (Cod.im (Cod.int .i64)) (Cod.cons (Cod.im (Cod.int .i64)) (Cod.cons (Cod.im (Cod.int .i64)) (Cod.cons (Cod.im (Cod.int .i64)) (Cod.cons (Cod.ar 7) (Cod.cons (Cod.ar 8) (Cod.cons (Cod.ar 9) (Cod.cons (Cod.im (Cod.int .i64)) (Cod.cons (Cod.im (Cod.int .i64)) (Cod.cons (Cod.im (Cod.int .i64)) (Cod.cons (Cod.ar 10) (Cod.cons (Cod.ar 11) (Cod.cons (Cod.ar 12) (Cod.cons (Cod.ar 13) (Cod.cons (Cod.ar 14) (Cod.cons (Cod.ar 15) (Cod.cons (Cod.ar 16) (Cod.cons (Cod.ar 17) (Cod.cons (Cod.ar 18) (Cod.cons (Cod.ar 19) (Cod.cons (Cod.ar 20) (Cod.cons (Cod.ar 21) (Cod.cons (Cod.ar 22) (Cod.cons (Cod.ar 23) (Cod.cons (Cod.ar 24) (Cod.cons (Cod.ar 25) (Cod.cons (Cod.ar 26) (Cod.cons (Cod.ar 27) (Cod.cons (Cod.ar 28) (Cod.cons (Cod.im (Cod.int .i64)) (Cod.cons (Cod.im (Cod.int .i64)) (Cod.cons (Cod.ar 29) (Cod.cons (Cod.im (Cod.int .i64)) (Cod.cons (Cod.im (Cod.int .i64)) (Cod.cons (Cod.im (Cod.int .i64)) (Cod.cons (Cod.im (Cod.int .i64)) (Cod.cons (Cod.im (Cod.int .i64)) (Cod.cons (Cod.im (Cod.int .i64)) (Cod.cons (Cod.im (Cod.int .i64)) (Cod.cons (Cod.ar 30) (Cod.cons (Cod.ar 31) (Cod.cons (Cod.im Cod.bool) (Cod.cons (Cod.im (Cod.int .i64)) (Cod.nil))))))))))))))))))))))))))))))))))))))))))))))) (Cod.cons (Cod.arr 2 50 j_lOp) (Cod.cons (Cod.arr 3 62 j_lSlice) (Cod.cons (Cod.arr 4 98 j_lRange) (Cod.cons (Cod.arr 5 3 j_lInt) (Cod.cons (Cod.arr 6 4 j_lBool) (Cod.cons (Cod.arr 7 62 j_lSlice) (Cod.cons (Cod.arr 8 98 j_lRange) (Cod.cons (Cod.arr 9 3 j_lInt) (Cod.cons (Cod.arr 10 50 j_lOp) (Cod.cons (Cod.arr 11 112 j_lDot) (Cod.cons (Cod.arr 12 103 j_lReg) (Cod.cons (Cod.arr 13 100 j_lElem) (Cod.cons (Cod.arr 14 48 j_lDot) (Cod.cons (Cod.arr 15 118 j_lSum) (Cod.cons (Cod.arr 16 121 j_lBind) (Cod.cons (Cod.arr 17 112 j_lDot) (Cod.cons (Cod.arr 18 103 j_lReg) (Cod.cons (Cod.arr 19 100 j_lElem) (Cod.cons (Cod.arr 20 48 j_lDot) (Cod.cons (Cod.arr 21 118 j_lSum) (Cod.cons (Cod.arr 22 121 j_lBind) (Cod.cons (Cod.arr 23 112 j_lDot) (Cod.cons (Cod.arr 24 103 j_lReg) (Cod.cons (Cod.arr 25 100 j_lElem) (Cod.cons (Cod.arr 26 48 j_lDot) (Cod.cons (Cod.arr 27 118 j_lSum) (Cod.cons (Cod.arr 28 121 j_lBind) (Cod.cons (Cod.arr 29 4 j_lBool) (Cod.cons (Cod.arr 30 89 j_lWant) (Cod.cons (Cod.arr 31 50 j_lOp) (Cod.nil)))))))))))))))))))))))))))))))))) (fun p => ((State.mk p.2.1.1 p.2.1.2.1 (Lease.mk p.2.1.2.2.1 p.2.1.2.2.2.1 p.2.1.2.2.2.2.1 p.2.1.2.2.2.2.2.1 p.2.2.2.2.1 p.2.2.2.2.2.1 p.2.2.2.2.2.2.1) p.2.1.2.2.2.2.2.2.2.2.2.1 p.2.1.2.2.2.2.2.2.2.2.2.2.1 p.2.1.2.2.2.2.2.2.2.2.2.2.2.1 p.2.2.2.1 (A3Coll.mk (Coll.mk p.2.1.2.2.2.2.2.2.2.2.2.2.2.2.2.1 p.2.1.2.2.2.2.2.2.2.2.2.2.2.2.2.2.1 p.2.1.2.2.2.2.2.2.2.2.2.2.2.2.2.2.2.1 p.2.1.2.2.2.2.2.2.2.2.2.2.2.2.2.2.2.2.1 p.2.1.2.2.2.2.2.2.2.2.2.2.2.2.2.2.2.2.2.1 p.2.1.2.2.2.2.2.2.2.2.2.2.2.2.2.2.2.2.2.2.1) (Coll.mk p.2.1.2.2.2.2.2.2.2.2.2.2.2.2.2.2.2.2.2.2.2.1 p.2.1.2.2.2.2.2.2.2.2.2.2.2.2.2.2.2.2.2.2.2.2.1 p.2.1.2.2.2.2.2.2.2.2.2.2.2.2.2.2.2.2.2.2.2.2.2.1 p.2.1.2.2.2.2.2.2.2.2.2.2.2.2.2.2.2.2.2.2.2.2.2.2.1 p.2.1.2.2.2.2.2.2.2.2.2.2.2.2.2.2.2.2.2.2.2.2.2.2.2.1 p.2.1.2.2.2.2.2.2.2.2.2.2.2.2.2.2.2.2.2.2.2.2.2.2.2.2.1) (Coll.mk p.2.1.2.2.2.2.2.2.2.2.2.2.2.2.2.2.2.2.2.2.2.2.2.2.2.2.2.1 p.2.1.2.2.2.2.2.2.2.2.2.2.2.2.2.2.2.2.2.2.2.2.2.2.2.2.2.2.1 p.2.1.2.2.2.2.2.2.2.2.2.2.2.2.2.2.2.2.2.2.2.2.2.2.2.2.2.2.2.1 p.2.1.2.2.2.2.2.2.2.2.2.2.2.2.2.2.2.2.2.2.2.2.2.2.2.2.2.2.2.2.1 p.2.1.2.2.2.2.2.2.2.2.2.2.2.2.2.2.2.2.2.2.2.2.2.2.2.2.2.2.2.2.2.1 p.2.1.2.2.2.2.2.2.2.2.2.2.2.2.2.2.2.2.2.2.2.2.2.2.2.2.2.2.2.2.2.2.1)) p.2.1.2.2.2.2.2.2.2.2.2.2.2.2.2.2.2.2.2.2.2.2.2.2.2.2.2.2.2.2.2.2.2.1 p.2.1.2.2.2.2.2.2.2.2.2.2.2.2.2.2.2.2.2.2.2.2.2.2.2.2.2.2.2.2.2.2.2.2.1 p.2.2.2.2.2.2.2.1 p.2.1.2.2.2.2.2.2.2.2.2.2.2.2.2.2.2.2.2.2.2.2.2.2.2.2.2.2.2.2.2.2.2.2.2.2.1 p.2.1.2.2.2.2.2.2.2.2.2.2.2.2.2.2.2.2.2.2.2.2.2.2.2.2.2.2.2.2.2.2.2.2.2.2.2.1 (Cmd.mk p.2.1.2.2.2.2.2.2.2.2.2.2.2.2.2.2.2.2.2.2.2.2.2.2.2.2.2.2.2.2.2.2.2.2.2.2.2.2.1 p.2.1.2.2.2.2.2.2.2.2.2.2.2.2.2.2.2.2.2.2.2.2.2.2.2.2.2.2.2.2.2.2.2.2.2.2.2.2.2.1 p.2.1.2.2.2.2.2.2.2.2.2.2.2.2.2.2.2.2.2.2.2.2.2.2.2.2.2.2.2.2.2.2.2.2.2.2.2.2.2.2.1 p.2.1.2.2.2.2.2.2.2.2.2.2.2.2.2.2.2.2.2.2.2.2.2.2.2.2.2.2.2.2.2.2.2.2.2.2.2.2.2.2.2.1 p.2.1.2.2.2.2.2.2.2.2.2.2.2.2.2.2.2.2.2.2.2.2.2.2.2.2.2.2.2.2.2.2.2.2.2.2.2.2.2.2.2.2.1 p.2.1.2.2.2.2.2.2.2.2.2.2.2.2.2.2.2.2.2.2.2.2.2.2.2.2.2.2.2.2.2.2.2.2.2.2.2.2.2.2.2.2.2.1 p.2.1.2.2.2.2.2.2.2.2.2.2.2.2.2.2.2.2.2.2.2.2.2.2.2.2.2.2.2.2.2.2.2.2.2.2.2.2.2.2.2.2.2.2.1) p.2.1.2.2.2.2.2.2.2.2.2.2.2.2.2.2.2.2.2.2.2.2.2.2.2.2.2.2.2.2.2.2.2.2.2.2.2.2.2.2.2.2.2.2.2.1 p.2.1.2.2.2.2.2.2.2.2.2.2.2.2.2.2.2.2.2.2.2.2.2.2.2.2.2.2.2.2.2.2.2.2.2.2.2.2.2.2.2.2.2.2.2.2.1), (State.mk p.2.2.1.1 p.2.2.1.2.1 (Lease.mk p.2.2.1.2.2.1 p.2.2.1.2.2.2.1 p.2.2.1.2.2.2.2.1 p.2.2.1.2.2.2.2.2.1 p.2.2.2.2.2.2.2.2.1 p.2.2.2.2.2.2.2.2.2.1 p.2.2.2.2.2.2.2.2.2.2.1) p.2.2.1.2.2.2.2.2.2.2.2.2.1 p.2.2.1.2.2.2.2.2.2.2.2.2.2.1 p.2.2.1.2.2.2.2.2.2.2.2.2.2.2.1 p.2.2.2.2.2.2.2.2.2.2.2.1 (A3Coll.mk (Coll.mk p.2.2.2.2.2.2.2.2.2.2.2.2.1 p.2.2.2.2.2.2.2.2.2.2.2.2.2.1 p.2.2.2.2.2.2.2.2.2.2.2.2.2.2.1 p.2.2.2.2.2.2.2.2.2.2.2.2.2.2.2.1 p.2.2.2.2.2.2.2.2.2.2.2.2.2.2.2.2.1 p.2.2.2.2.2.2.2.2.2.2.2.2.2.2.2.2.2.1) (Coll.mk p.2.2.2.2.2.2.2.2.2.2.2.2.2.2.2.2.2.2.1 p.2.2.2.2.2.2.2.2.2.2.2.2.2.2.2.2.2.2.2.1 p.2.2.2.2.2.2.2.2.2.2.2.2.2.2.2.2.2.2.2.2.1 p.2.2.2.2.2.2.2.2.2.2.2.2.2.2.2.2.2.2.2.2.2.1 p.2.2.2.2.2.2.2.2.2.2.2.2.2.2.2.2.2.2.2.2.2.2.1 p.2.2.2.2.2.2.2.2.2.2.2.2.2.2.2.2.2.2.2.2.2.2.2.1) (Coll.mk p.2.2.2.2.2.2.2.2.2.2.2.2.2.2.2.2.2.2.2.2.2.2.2.2.1 p.2.2.2.2.2.2.2.2.2.2.2.2.2.2.2.2.2.2.2.2.2.2.2.2.2.1 p.2.2.2.2.2.2.2.2.2.2.2.2.2.2.2.2.2.2.2.2.2.2.2.2.2.2.1 p.2.2.2.2.2.2.2.2.2.2.2.2.2.2.2.2.2.2.2.2.2.2.2.2.2.2.2.1 p.2.2.2.2.2.2.2.2.2.2.2.2.2.2.2.2.2.2.2.2.2.2.2.2.2.2.2.2.1 p.2.2.2.2.2.2.2.2.2.2.2.2.2.2.2.2.2.2.2.2.2.2.2.2.2.2.2.2.2.1)) p.2.2.1.2.2.2.2.2.2.2.2.2.2.2.2.2.2.2.2.2.2.2.2.2.2.2.2.2.2.2.2.2.2.2.1 p.2.2.1.2.2.2.2.2.2.2.2.2.2.2.2.2.2.2.2.2.2.2.2.2.2.2.2.2.2.2.2.2.2.2.2.1 p.2.2.2.2.2.2.2.2.2.2.2.2.2.2.2.2.2.2.2.2.2.2.2.2.2.2.2.2.2.2.1 p.2.2.1.2.2.2.2.2.2.2.2.2.2.2.2.2.2.2.2.2.2.2.2.2.2.2.2.2.2.2.2.2.2.2.2.2.2.1 p.2.2.1.2.2.2.2.2.2.2.2.2.2.2.2.2.2.2.2.2.2.2.2.2.2.2.2.2.2.2.2.2.2.2.2.2.2.2.1 (Cmd.mk p.2.2.1.2.2.2.2.2.2.2.2.2.2.2.2.2.2.2.2.2.2.2.2.2.2.2.2.2.2.2.2.2.2.2.2.2.2.2.2.1 p.2.2.1.2.2.2.2.2.2.2.2.2.2.2.2.2.2.2.2.2.2.2.2.2.2.2.2.2.2.2.2.2.2.2.2.2.2.2.2.2.1 p.2.2.1.2.2.2.2.2.2.2.2.2.2.2.2.2.2.2.2.2.2.2.2.2.2.2.2.2.2.2.2.2.2.2.2.2.2.2.2.2.2.1 p.2.2.1.2.2.2.2.2.2.2.2.2.2.2.2.2.2.2.2.2.2.2.2.2.2.2.2.2.2.2.2.2.2.2.2.2.2.2.2.2.2.2.1 p.2.2.1.2.2.2.2.2.2.2.2.2.2.2.2.2.2.2.2.2.2.2.2.2.2.2.2.2.2.2.2.2.2.2.2.2.2.2.2.2.2.2.2.1 p.2.2.2.2.2.2.2.2.2.2.2.2.2.2.2.2.2.2.2.2.2.2.2.2.2.2.2.2.2.2.2.1 p.2.2.2.2.2.2.2.2.2.2.2.2.2.2.2.2.2.2.2.2.2.2.2.2.2.2.2.2.2.2.2.2.1) p.2.2.1.2.2.2.2.2.2.2.2.2.2.2.2.2.2.2.2.2.2.2.2.2.2.2.2.2.2.2.2.2.2.2.2.2.2.2.2.2.2.2.2.2.2.2.1 p.2.2.1.2.2.2.2.2.2.2.2.2.2.2.2.2.2.2.2.2.2.2.2.2.2.2.2.2.2.2.2.2.2.2.2.2.2.2.2.2.2.2.2.2.2.2.2.1))) (fun (x : State × State) => (((), ((), ())), ((x.1.device, (x.1.epoch, (x.1.lease.device, (x.1.lease.epoch, (x.1.lease.until_, (x.1.lease.last, ((), ((), ((), (x.1.ends, (x.1.seq, (x.1.sent, ((), (x.1.colls.a0.v, (x.1.colls.a0.regs, (x.1.colls.a0.elems, (x.1.colls.a0.gone, (x.1.colls.a0.sums, (x.1.colls.a0.binds, (x.1.colls.a1.v, (x.1.colls.a1.regs, (x.1.colls.a1.elems, (x.1.colls.a1.gone, (x.1.colls.a1.sums, (x.1.colls.a1.binds, (x.1.colls.a2.v, (x.1.colls.a2.regs, (x.1.colls.a2.elems, (x.1.colls.a2.gone, (x.1.colls.a2.sums, (x.1.colls.a2.binds, (x.1.at_, (x.1.ver, ((), (x.1.req, (x.1.asked, (x.1.cmd.kind, (x.1.cmd.device, (x.1.cmd.epoch, (x.1.cmd.req, (x.1.cmd.n, (x.1.cmd.wants, (x.1.cmd.ops, (x.1.fenced, (x.1.now, ()))))))))))))))))))))))))))))))))))))))))))))), ((x.2.device, (x.2.epoch, (x.2.lease.device, (x.2.lease.epoch, (x.2.lease.until_, (x.2.lease.last, ((), ((), ((), (x.2.ends, (x.2.seq, (x.2.sent, ((), ((), ((), ((), ((), ((), ((), ((), ((), ((), ((), ((), ((), ((), ((), ((), ((), ((), ((), (x.2.at_, (x.2.ver, ((), (x.2.req, (x.2.asked, (x.2.cmd.kind, (x.2.cmd.device, (x.2.cmd.epoch, (x.2.cmd.req, (x.2.cmd.n, ((), ((), (x.2.fenced, (x.2.now, ()))))))))))))))))))))))))))))))))))))))))))))), (x.1.pending, (x.1.lease.slices, (x.1.lease.ids, (x.1.lease.used, (x.1.subs, (x.2.lease.slices, (x.2.lease.ids, (x.2.lease.used, (x.2.pending, (x.2.colls.a0.v, (x.2.colls.a0.regs, (x.2.colls.a0.elems, (x.2.colls.a0.gone, (x.2.colls.a0.sums, (x.2.colls.a0.binds, (x.2.colls.a1.v, (x.2.colls.a1.regs, (x.2.colls.a1.elems, (x.2.colls.a1.gone, (x.2.colls.a1.sums, (x.2.colls.a1.binds, (x.2.colls.a2.v, (x.2.colls.a2.regs, (x.2.colls.a2.elems, (x.2.colls.a2.gone, (x.2.colls.a2.sums, (x.2.colls.a2.binds, (x.2.subs, (x.2.cmd.wants, (x.2.cmd.ops, ())))))))))))))))))))))))))))))))))) (fun _ => rfl)
noncomputable def sl_L24_4 : SFn TL := SFn.one ch_L24_4.dec (fun p => L24_4 p.1 p.2.1 p.2.2.1 p.2.2.2) (.exit 0) co0_L24_4.enc
noncomputable def cs_lL24_4 : List (Nat × DFn TL) := []
noncomputable def ss_lL24_4 : List (Nat × SFn TL) := []
noncomputable def env_lL24_4 : Env := envOf tab sl sh [(48, fd48)] [(41, (.cln 48))]
theorem env_lL24_4_ok : EnvOK Tryz.prog (mkD cs_lL24_4 ss_lL24_4) env_lL24_4 := envOK_of base (all_cons (st48.okl rfl (all_nil)) (all_nil)) (all_cons (okCln okI_41) (all_nil))
theorem run_L24_4 (x : Int × Int × State × State) : Out.run (mkO cs_lL24_4 ss_lL24_4) (evRound env_lL24_4 12 20 fd24.an q_L24_4 (loopIn (loopsOf fd24.body) 4) (ch_L24_4.enc x)) (back ch_L24_4 co0_L24_4 fun e => exE e (.exit 0)) = stp_L24_4 x := by kernel_rfl
theorem ok_L24_4 : LoopOK Tryz.prog (oneS sl_L24_4) nt24 q_L24_4 (loopIn (loopsOf fd24.body) 4) :=
  loop_one env_lL24_4_ok (loops := 12) (k := 20) (an := fd24.an) (by kernel_rfl) (FnSt.subl rfl st24.keys (all_cons (.inl (by kernel_rfl)) (all_nil))) ch_L24_4 co0_L24_4 (.exit 0) rfl stp_L24_4 _ run_L24_4 (fun x y h => ⟨_, h⟩) (fun _ => below_iff.1 rfl)
end Go.Proofs.YthhfjodcgibhfaaGreat
