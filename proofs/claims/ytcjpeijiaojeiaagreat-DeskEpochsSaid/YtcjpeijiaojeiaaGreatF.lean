/- By program (gen.py): the functions in their typed form. -/
import Derived.Test.YtcjpeijiaojeiaaGreatF1
import Derived.Test.YtcjpeijiaojeiaaGreatHa
import Derived.Test.YtcjpeijiaojeiaaGreatLb
namespace Go.Proofs.YtcjpeijiaojeiaaGreat
open Go Go.Ev
set_option maxRecDepth 1000000

noncomputable section

def ledgerFree (bx1 : Book) (i1 : Int) (i2 : Int) : Option (Book × Int) :=
 ob (ledgerOwn bx1) fun y0 =>
 ob (ledger_at y0 i1 i2) fun r1 =>
 cond ((decide (r1 < 0)))
 (some (y0, 2))
 (cond (decide (0 ≤ r1))
 (cond (decide (r1 < (y0.leases.length : Int)))
 (ob (y0.leases[r1.toNat]?) fun e2 =>
 ob (L136_7 r1 e2.slices (e2.slices.length : Int) 0 y0 (Book.mk [] [] [] []) e2) fun y3 =>
 ob (L136_16 y3.1 y3.2.2.2.ids y3.2.2.2.used (y3.2.2.2.used.length : Int) 0 y3.2.1 y3.2.2.1) fun y4 =>
 ob (L136_26 y4.1 y4.2.1 (y4.2.1.length : Int) 0 y4.2.2.1 y4.2.2.2) fun y5 =>
 cond (decide (0 ≤ y5.1))
 (cond (decide (y5.1 ≤ (w64 (y5.1 + 1))))
 (cond (decide ((w64 (y5.1 + 1)) ≤ (y5.2.1.leases.length : Int)))
 (cond (fits y5.2.1.leases.length)
 (ob (ledgerOwn (Book.mk y5.2.1.counters y5.2.1.free ((y5.2.1.leases.take y5.1.toNat) ++ ((y5.2.1.leases.take y5.2.1.leases.length).drop (((w64 (y5.1 + 1))).toNat))) y5.2.1.bound)) fun y6 =>
 some (y6, 0))
 none)
 none)
 none)
 none)
 none)
 none)
def un_ledgerFree (p : Book × Int × Int) : Option (Book × Int) := ledgerFree p.1 p.2.1 p.2.2
def df_ledgerFree : DFn TL := DFn.of (DA.cons (DT.agg dc_Book) (DA.cons dI (DA.one dI))) un_ledgerFree (DA.cons (DT.agg dc_Book) (DA.one dI))
def cs_ledgerFree : cL := [(162, df_ledger_at)]
def ss_ledgerFree : sL := [(124, sf_ledgerOwn), (236007, sl_L136_7), (236016, sl_L136_16), (236026, sl_L136_26)]
def env_ledgerFree : Env := envOf tab sl sh [(136, fd136)] [(124, .sum), (162, .pure), (166, (.del 43))]
theorem env_ledgerFree_ok : EnvOK Tryz.prog (mkD cs_ledgerFree ss_ledgerFree) env_ledgerFree := envOK_of base (aC (st136.okl rfl (aC (LoopOK.cast ok_L136_7 rfl) (aC (LoopOK.cast ok_L136_16 rfl) (aC (LoopOK.cast ok_L136_26 rfl) aN)))) aN) (aC (okS rfl ok_ledgerOwn) (aC (okD rfl ok_ledger_at) (aC (okDel okI_166) aN)))
theorem run_ledgerFree (x : Book × Int × Int) : Out.run (mkO cs_ledgerFree ss_ledgerFree) (evOrc env_ledgerFree 12 20 136 ((DA.cons (DT.agg dc_Book) (DA.cons dI (DA.one dI)) : DA TL (Book × Int × Int)).enc x)) (DA.cons (DT.agg dc_Book) (DA.one dI) : DA TL (Book × Int)).dec = un_ledgerFree x := by kernel_rfl
theorem ok_ledgerFree : DOK Tryz.prog 136 .keep df_ledgerFree := data_of env_ledgerFree_ok (loops := 12) (n := 20) (.inl rfl) st136.enters (DA.cons (DT.agg dc_Book) (DA.cons dI (DA.one dI))) un_ledgerFree (DA.cons (DT.agg dc_Book) (DA.one dI)) run_ledgerFree
def clerkReclaim (c1 : Clerk) : Option (Reply × Clerk) :=
 cond ((decide (0 ≤ c1.c.device) && decide (c1.c.device < 6)))
 (ob (ledgerFind c1.d.book c1.c.device (cond (decide (c1.c.device = 0)) c1.d.dev.a0.epoch (cond (decide (c1.c.device = 1)) c1.d.dev.a1.epoch (cond (decide (c1.c.device = 2)) c1.d.dev.a2.epoch (cond (decide (c1.c.device = 3)) c1.d.dev.a3.epoch (cond (decide (c1.c.device = 4)) c1.d.dev.a4.epoch c1.d.dev.a5.epoch)))))) fun r0 =>
 cond ((!r0.2))
 (ob (desk_fail 2) fun r1 =>
 some (r1, c1))
 (cond ((r0.1.last == (-1)))
 (ob (desk_fail 19) fun r2 =>
 some (r2, c1))
 (ob (clerkIncluded c1.d.log c1.c.device (cond (decide (c1.c.device = 0)) c1.d.dev.a0.epoch (cond (decide (c1.c.device = 1)) c1.d.dev.a1.epoch (cond (decide (c1.c.device = 2)) c1.d.dev.a2.epoch (cond (decide (c1.c.device = 3)) c1.d.dev.a3.epoch (cond (decide (c1.c.device = 4)) c1.d.dev.a4.epoch c1.d.dev.a5.epoch)))))) fun r3 =>
 cond ((decide (r3 < r0.1.last)))
 (ob (desk_fail 12) fun r4 =>
 some (r4, c1))
 (cond ((decide (c1.d.now < (w64 (r0.1.until_ + 5)))))
 (ob (desk_fail 20) fun r5 =>
 some (r5, c1))
 (ob (ledgerFree c1.d.book c1.c.device (cond (decide (c1.c.device = 0)) c1.d.dev.a0.epoch (cond (decide (c1.c.device = 1)) c1.d.dev.a1.epoch (cond (decide (c1.c.device = 2)) c1.d.dev.a2.epoch (cond (decide (c1.c.device = 3)) c1.d.dev.a3.epoch (cond (decide (c1.c.device = 4)) c1.d.dev.a4.epoch c1.d.dev.a5.epoch)))))) fun r6 =>
 some ((Reply.mk 0 0 (Lease.mk 0 0 0 0 [] [] [])), (Clerk.mk (Desk.mk r6.1 c1.d.colls c1.d.log c1.d.dev c1.d.lost c1.d.now) c1.c)))))))
 none
def ch_clerkReclaim : Cod (Cst TL) (Clerk) := Cod.iso (Cod.cst 43 (kC (Cod.xs (Cod.sc (Cod.ptr 0 0))) kN) hc0_Clerk) (fun p => p.2) (fun (x : Clerk) => (((), ()), x)) (fun _ => rfl)
def co_clerkReclaim : Cod (Cst TL) (Reply × Clerk) := Cod.iso (Cod.cst 124 (kC (Cod.xs (Cod.sa cc_Reply)) kN) hc1_Clerk) (fun p => (p.1.1, p.2)) (fun (x : Reply × Clerk) => ((x.1, ()), x.2)) (fun _ => rfl)
def un_clerkReclaim (p : Clerk) : Option (Reply × Clerk) := clerkReclaim p
def sf_clerkReclaim : SFn TL := SFn.one ch_clerkReclaim.dec un_clerkReclaim .normal co_clerkReclaim.enc
def cs_clerkReclaim : cL := [(134, df_ledgerFind), (39, df_desk_fail), (133, df_clerkIncluded), (136, df_ledgerFree)]
def env_clerkReclaim : Env := envOf tab sl sh [(88, fd88), (128, fd128)] [(134, .keep), (39, .keep), (133, (.rd 22 61)), (136, .keep)]
theorem env_clerkReclaim_ok : EnvOK Tryz.prog (mkD cs_clerkReclaim sZ) env_clerkReclaim := envOK_of base (aC (st88.okl rfl aN) (aC (st128.okl rfl aN) aN)) (aC (okD rfl ok_ledgerFind) (aC (okD rfl ok_desk_fail) (aC (okD rfl ok_clerkIncluded) (aC (okD rfl ok_ledgerFree) aN))))
theorem run_clerkReclaim (x : Clerk) : Out.run (mkO cs_clerkReclaim sZ) (evSum env_clerkReclaim 12 20 88 (ch_clerkReclaim.enc x)) (back1 co_clerkReclaim) = un_clerkReclaim x := by kernel_rfl
theorem ok_clerkReclaim : SOK Tryz.prog 88 sf_clerkReclaim := sum_one env_clerkReclaim_ok (loops := 12) (n := 20) st88.enters ch_clerkReclaim co_clerkReclaim un_clerkReclaim run_clerkReclaim
def clerkLose (c1 : Clerk) : Option (Reply × Clerk) :=
 cond ((decide (0 ≤ c1.c.device) && decide (c1.c.device < 6)))
 (cond (((cond (decide (c1.c.device = 0)) c1.d.dev.a0.epoch (cond (decide (c1.c.device = 1)) c1.d.dev.a1.epoch (cond (decide (c1.c.device = 2)) c1.d.dev.a2.epoch (cond (decide (c1.c.device = 3)) c1.d.dev.a3.epoch (cond (decide (c1.c.device = 4)) c1.d.dev.a4.epoch c1.d.dev.a5.epoch))))) == 0))
 (ob (desk_fail 2) fun r0 =>
 some (r0, c1))
 (ob (clerkLost c1.d.lost c1.c.device (cond (decide (c1.c.device = 0)) c1.d.dev.a0.epoch (cond (decide (c1.c.device = 1)) c1.d.dev.a1.epoch (cond (decide (c1.c.device = 2)) c1.d.dev.a2.epoch (cond (decide (c1.c.device = 3)) c1.d.dev.a3.epoch (cond (decide (c1.c.device = 4)) c1.d.dev.a4.epoch c1.d.dev.a5.epoch)))))) fun r1 =>
 cond (r1)
 (ob (desk_fail 7) fun r2 =>
 some (r2, c1))
 (ob (ledgerFree c1.d.book c1.c.device (cond (decide (c1.c.device = 0)) c1.d.dev.a0.epoch (cond (decide (c1.c.device = 1)) c1.d.dev.a1.epoch (cond (decide (c1.c.device = 2)) c1.d.dev.a2.epoch (cond (decide (c1.c.device = 3)) c1.d.dev.a3.epoch (cond (decide (c1.c.device = 4)) c1.d.dev.a4.epoch c1.d.dev.a5.epoch)))))) fun r3 =>
 ob (clerkIncluded c1.d.log c1.c.device (cond (decide (c1.c.device = 0)) c1.d.dev.a0.epoch (cond (decide (c1.c.device = 1)) c1.d.dev.a1.epoch (cond (decide (c1.c.device = 2)) c1.d.dev.a2.epoch (cond (decide (c1.c.device = 3)) c1.d.dev.a3.epoch (cond (decide (c1.c.device = 4)) c1.d.dev.a4.epoch c1.d.dev.a5.epoch)))))) fun r4 =>
 cond (fits ((c1.d.lost ++ [(Entry.mk c1.c.device (cond (decide (c1.c.device = 0)) c1.d.dev.a0.epoch (cond (decide (c1.c.device = 1)) c1.d.dev.a1.epoch (cond (decide (c1.c.device = 2)) c1.d.dev.a2.epoch (cond (decide (c1.c.device = 3)) c1.d.dev.a3.epoch (cond (decide (c1.c.device = 4)) c1.d.dev.a4.epoch c1.d.dev.a5.epoch))))) r4)]).length))
 (some ((Reply.mk 0 r4 (Lease.mk 0 0 0 0 [] [] [])), (Clerk.mk (Desk.mk r3.1 c1.d.colls c1.d.log c1.d.dev (c1.d.lost ++ [(Entry.mk c1.c.device (cond (decide (c1.c.device = 0)) c1.d.dev.a0.epoch (cond (decide (c1.c.device = 1)) c1.d.dev.a1.epoch (cond (decide (c1.c.device = 2)) c1.d.dev.a2.epoch (cond (decide (c1.c.device = 3)) c1.d.dev.a3.epoch (cond (decide (c1.c.device = 4)) c1.d.dev.a4.epoch c1.d.dev.a5.epoch))))) r4)]) c1.d.now) c1.c)))
 none)))
 none
def ch_clerkLose : Cod (Cst TL) (Clerk) := Cod.iso (Cod.cst 43 (kC (Cod.xs (Cod.sc (Cod.ptr 0 0))) kN) hc0_Clerk) (fun p => p.2) (fun (x : Clerk) => (((), ()), x)) (fun _ => rfl)
def co_clerkLose : Cod (Cst TL) (Reply × Clerk) := Cod.iso (Cod.cst 124 (kC (Cod.xs (Cod.sa cc_Reply)) kN) hc1_Clerk) (fun p => (p.1.1, p.2)) (fun (x : Reply × Clerk) => ((x.1, ()), x.2)) (fun _ => rfl)
def un_clerkLose (p : Clerk) : Option (Reply × Clerk) := clerkLose p
def sf_clerkLose : SFn TL := SFn.one ch_clerkLose.dec un_clerkLose .normal co_clerkLose.enc
def cs_clerkLose : cL := [(39, df_desk_fail), (129, df_clerkLost), (136, df_ledgerFree), (133, df_clerkIncluded)]
def env_clerkLose : Env := envOf tab sl sh [(89, fd89), (128, fd128)] [(39, .keep), (129, (.rd 89 66)), (136, .keep), (133, (.rd 22 61))]
theorem env_clerkLose_ok : EnvOK Tryz.prog (mkD cs_clerkLose sZ) env_clerkLose := envOK_of base (aC (st89.okl rfl aN) (aC (st128.okl rfl aN) aN)) (aC (okD rfl ok_desk_fail) (aC (okD rfl ok_clerkLost) (aC (okD rfl ok_ledgerFree) (aC (okD rfl ok_clerkIncluded) aN))))
theorem run_clerkLose (x : Clerk) : Out.run (mkO cs_clerkLose sZ) (evSum env_clerkLose 12 20 89 (ch_clerkLose.enc x)) (back1 co_clerkLose) = un_clerkLose x := by kernel_rfl
theorem ok_clerkLose : SOK Tryz.prog 89 sf_clerkLose := sum_one env_clerkLose_ok (loops := 12) (n := 20) st89.enters ch_clerkLose co_clerkLose un_clerkLose run_clerkLose
def clerkTime (c1 : Clerk) : Option (Reply × Clerk) :=
 cond ((cond (decide (c1.c.n < 0)) true (decide (c1.c.n > 1099511627776))))
 (ob (desk_fail 1) fun r0 =>
 some (r0, c1))
 (some ((Reply.mk 0 0 (Lease.mk 0 0 0 0 [] [] [])), (Clerk.mk (Desk.mk c1.d.book c1.d.colls c1.d.log c1.d.dev c1.d.lost (max2 c1.d.now c1.c.n)) c1.c)))
def ch_clerkTime : Cod (Cst TL) (Clerk) := Cod.iso (Cod.cst 43 (kC (Cod.xs (Cod.sc (Cod.ptr 0 0))) kN) hc0_Clerk) (fun p => p.2) (fun (x : Clerk) => (((), ()), x)) (fun _ => rfl)
def co_clerkTime : Cod (Cst TL) (Reply × Clerk) := Cod.iso (Cod.cst 86 (kC (Cod.xs (Cod.sa cc_Reply)) kN) hc0_Clerk) (fun p => (p.1.1, p.2)) (fun (x : Reply × Clerk) => ((x.1, ()), x.2)) (fun _ => rfl)
def un_clerkTime (p : Clerk) : Option (Reply × Clerk) := clerkTime p
def sf_clerkTime : SFn TL := SFn.one ch_clerkTime.dec un_clerkTime .normal co_clerkTime.enc
def cs_clerkTime : cL := [(39, df_desk_fail)]
def env_clerkTime : Env := envOf tab sl sh [(90, fd90)] [(39, .keep)]
theorem env_clerkTime_ok : EnvOK Tryz.prog (mkD cs_clerkTime sZ) env_clerkTime := envOK_of base (aC (st90.okl rfl aN) aN) (aC (okD rfl ok_desk_fail) aN)
theorem run_clerkTime (x : Clerk) : Out.run (mkO cs_clerkTime sZ) (evSum env_clerkTime 12 20 90 (ch_clerkTime.enc x)) (back1 co_clerkTime) = un_clerkTime x := by kernel_rfl
theorem ok_clerkTime : SOK Tryz.prog 90 sf_clerkTime := sum_one env_clerkTime_ok (loops := 12) (n := 20) st90.enters ch_clerkTime co_clerkTime un_clerkTime run_clerkTime
def clerkWork (c1 : Clerk) : Option (Reply × Clerk) :=
 cond ((c1.c.kind == 1))
 (ob (clerkRegister c1) fun y0 =>
 some (y0.1, y0.2))
 (cond ((c1.c.kind == 2))
 (ob (clerkCheckout c1) fun y1 =>
 some (y1.1, y1.2))
 (cond ((c1.c.kind == 3))
 (ob (clerkMerge c1) fun y2 =>
 some (y2.1, y2.2))
 (cond ((c1.c.kind == 4))
 (ob (clerkShut c1) fun y3 =>
 some (y3.1, y3.2))
 (cond ((c1.c.kind == 5))
 (ob (clerkReclaim c1) fun y4 =>
 some (y4.1, y4.2))
 (cond ((c1.c.kind == 6))
 (ob (clerkLose c1) fun y5 =>
 some (y5.1, y5.2))
 (ob (clerkTime c1) fun y6 =>
 some (y6.1, y6.2)))))))
def ch_clerkWork : Cod (Cst TL) (Clerk) := Cod.iso (Cod.cst 43 (kC (Cod.xs (Cod.sc (Cod.ptr 0 0))) kN) hc0_Clerk) (fun p => p.2) (fun (x : Clerk) => (((), ()), x)) (fun _ => rfl)
def co_clerkWork : Cod (Cst TL) (Reply × Clerk) := Cod.iso (Cod.cst 106 (kC (Cod.xs (Cod.sa cc_Reply)) kN) hc4_Clerk) (fun p => (p.1.1, p.2)) (fun (x : Reply × Clerk) => ((x.1, ()), x.2)) (fun _ => rfl)
def un_clerkWork (p : Clerk) : Option (Reply × Clerk) := clerkWork p
def sf_clerkWork : SFn TL := SFn.one ch_clerkWork.dec un_clerkWork .normal co_clerkWork.enc
def ss_clerkWork : sL := [(84, sf_clerkRegister), (85, sf_clerkCheckout), (86, sf_clerkMerge), (87, sf_clerkShut), (88, sf_clerkReclaim), (89, sf_clerkLose), (90, sf_clerkTime)]
def env_clerkWork : Env := envOf tab sl sh [(40, fd40)] [(84, .sum), (85, .sum), (86, .sum), (87, .sum), (88, .sum), (89, .sum), (90, .sum)]
theorem env_clerkWork_ok : EnvOK Tryz.prog (mkD cZ ss_clerkWork) env_clerkWork := envOK_of base (aC (st40.okl rfl aN) aN) (aC (okS rfl ok_clerkRegister) (aC (okS rfl ok_clerkCheckout) (aC (okS rfl ok_clerkMerge) (aC (okS rfl ok_clerkShut) (aC (okS rfl ok_clerkReclaim) (aC (okS rfl ok_clerkLose) (aC (okS rfl ok_clerkTime) aN)))))))
theorem run_clerkWork (x : Clerk) : Out.run (mkO cZ ss_clerkWork) (evSum env_clerkWork 12 20 40 (ch_clerkWork.enc x)) (back1 co_clerkWork) = un_clerkWork x := by kernel_rfl
theorem ok_clerkWork : SOK Tryz.prog 40 sf_clerkWork := sum_one env_clerkWork_ok (loops := 12) (n := 20) st40.enters ch_clerkWork co_clerkWork un_clerkWork run_clerkWork
def deskDo (d1 : Desk) (c1 : Cmd) : Option (Desk × Reply) :=
 cond ((cond (decide (c1.kind < 1)) true (decide (c1.kind > 7))))
 (ob (deskOwn d1) fun y0 =>
 ob (desk_fail 3) fun r1 =>
 some (y0, r1))
 (cond ((cond (c1.kind != 7) (!(cond (decide (c1.device ≥ 0)) (decide (c1.device < 6)) false)) false))
 (ob (deskOwn d1) fun y2 =>
 ob (desk_fail 1) fun r3 =>
 some (y2, r3))
 (cond ((c1.kind == 1))
 (ob (deskOwn d1) fun y4 =>
 cond ((decide (0 ≤ c1.device) && decide (c1.device < 6)))
 (cond ((cond (decide (c1.req < 1)) true (decide (c1.req > 1073741824))))
 (ob (deskOwn d1) fun y5 =>
 ob (desk_fail 1) fun r6 =>
 some (y5, r6))
 (cond ((c1.req == (cond (decide (c1.device = 0)) y4.dev.a0.req (cond (decide (c1.device = 1)) y4.dev.a1.req (cond (decide (c1.device = 2)) y4.dev.a2.req (cond (decide (c1.device = 3)) y4.dev.a3.req (cond (decide (c1.device = 4)) y4.dev.a4.req y4.dev.a5.req)))))))
 (ob (deskOwn d1) fun y7 =>
 some (y7, (Reply.sel (decide (c1.device = 0)) y4.dev.a0.reply (Reply.mk (cond (decide (c1.device = 1)) y4.dev.a1.reply.err (cond (decide (c1.device = 2)) y4.dev.a2.reply.err (cond (decide (c1.device = 3)) y4.dev.a3.reply.err (cond (decide (c1.device = 4)) y4.dev.a4.reply.err y4.dev.a5.reply.err)))) (cond (decide (c1.device = 1)) y4.dev.a1.reply.n (cond (decide (c1.device = 2)) y4.dev.a2.reply.n (cond (decide (c1.device = 3)) y4.dev.a3.reply.n (cond (decide (c1.device = 4)) y4.dev.a4.reply.n y4.dev.a5.reply.n)))) (Lease.mk (cond (decide (c1.device = 1)) y4.dev.a1.reply.lease.device (cond (decide (c1.device = 2)) y4.dev.a2.reply.lease.device (cond (decide (c1.device = 3)) y4.dev.a3.reply.lease.device (cond (decide (c1.device = 4)) y4.dev.a4.reply.lease.device y4.dev.a5.reply.lease.device)))) (cond (decide (c1.device = 1)) y4.dev.a1.reply.lease.epoch (cond (decide (c1.device = 2)) y4.dev.a2.reply.lease.epoch (cond (decide (c1.device = 3)) y4.dev.a3.reply.lease.epoch (cond (decide (c1.device = 4)) y4.dev.a4.reply.lease.epoch y4.dev.a5.reply.lease.epoch)))) (cond (decide (c1.device = 1)) y4.dev.a1.reply.lease.until_ (cond (decide (c1.device = 2)) y4.dev.a2.reply.lease.until_ (cond (decide (c1.device = 3)) y4.dev.a3.reply.lease.until_ (cond (decide (c1.device = 4)) y4.dev.a4.reply.lease.until_ y4.dev.a5.reply.lease.until_)))) (cond (decide (c1.device = 1)) y4.dev.a1.reply.lease.last (cond (decide (c1.device = 2)) y4.dev.a2.reply.lease.last (cond (decide (c1.device = 3)) y4.dev.a3.reply.lease.last (cond (decide (c1.device = 4)) y4.dev.a4.reply.lease.last y4.dev.a5.reply.lease.last)))) (cond (decide (c1.device = 1)) y4.dev.a1.reply.lease.slices (cond (decide (c1.device = 2)) y4.dev.a2.reply.lease.slices (cond (decide (c1.device = 3)) y4.dev.a3.reply.lease.slices (cond (decide (c1.device = 4)) y4.dev.a4.reply.lease.slices y4.dev.a5.reply.lease.slices)))) (cond (decide (c1.device = 1)) y4.dev.a1.reply.lease.ids (cond (decide (c1.device = 2)) y4.dev.a2.reply.lease.ids (cond (decide (c1.device = 3)) y4.dev.a3.reply.lease.ids (cond (decide (c1.device = 4)) y4.dev.a4.reply.lease.ids y4.dev.a5.reply.lease.ids)))) (cond (decide (c1.device = 1)) y4.dev.a1.reply.lease.used (cond (decide (c1.device = 2)) y4.dev.a2.reply.lease.used (cond (decide (c1.device = 3)) y4.dev.a3.reply.lease.used (cond (decide (c1.device = 4)) y4.dev.a4.reply.lease.used y4.dev.a5.reply.lease.used)))))))))
 (cond ((decide (c1.req < (cond (decide (c1.device = 0)) y4.dev.a0.req (cond (decide (c1.device = 1)) y4.dev.a1.req (cond (decide (c1.device = 2)) y4.dev.a2.req (cond (decide (c1.device = 3)) y4.dev.a3.req (cond (decide (c1.device = 4)) y4.dev.a4.req y4.dev.a5.req))))))))
 (ob (deskOwn d1) fun y8 =>
 ob (desk_fail 7) fun r9 =>
 some (y8, r9))
 (ob (deskOwn d1) fun y16 =>
 ob (clerkWork (Clerk.mk y16 c1)) fun y17 =>
 cond ((y17.1.err != 0))
 (ob (deskOwn d1) fun y18 =>
 cond ((decide (0 ≤ c1.device) && decide (c1.device < 6)))
 (cond ((decide (0 ≤ c1.device) && decide (c1.device < 6)))
 (ob (deskLease y17.1.lease) fun y19 =>
 ob (deskOwn (Desk.mk y18.book y18.colls y18.log (A6Device.mk (Device.mk y18.dev.a0.epoch (cond (decide (c1.device = 0)) c1.req y18.dev.a0.req) (Reply.sel (decide (c1.device = 0)) y17.1 y18.dev.a0.reply)) (Device.mk y18.dev.a1.epoch (cond (decide (c1.device = 1)) c1.req y18.dev.a1.req) (Reply.sel (decide (c1.device = 1)) y17.1 y18.dev.a1.reply)) (Device.mk y18.dev.a2.epoch (cond (decide (c1.device = 2)) c1.req y18.dev.a2.req) (Reply.sel (decide (c1.device = 2)) y17.1 y18.dev.a2.reply)) (Device.mk y18.dev.a3.epoch (cond (decide (c1.device = 3)) c1.req y18.dev.a3.req) (Reply.sel (decide (c1.device = 3)) y17.1 y18.dev.a3.reply)) (Device.mk y18.dev.a4.epoch (cond (decide (c1.device = 4)) c1.req y18.dev.a4.req) (Reply.sel (decide (c1.device = 4)) y17.1 y18.dev.a4.reply)) (Device.mk y18.dev.a5.epoch (cond (decide (c1.device = 5)) c1.req y18.dev.a5.req) (Reply.sel (decide (c1.device = 5)) y17.1 y18.dev.a5.reply))) y18.lost y18.now)) fun y20 =>
 some (y20, (Reply.mk y17.1.err y17.1.n y19)))
 none)
 none)
 (ob (deskOwn y17.2.d) fun y21 =>
 cond ((decide (0 ≤ c1.device) && decide (c1.device < 6)))
 (cond ((decide (0 ≤ c1.device) && decide (c1.device < 6)))
 (ob (deskLease y17.1.lease) fun y22 =>
 ob (deskOwn (Desk.mk y21.book y21.colls y21.log (A6Device.mk (Device.mk y21.dev.a0.epoch (cond (decide (c1.device = 0)) c1.req y21.dev.a0.req) (Reply.sel (decide (c1.device = 0)) y17.1 y21.dev.a0.reply)) (Device.mk y21.dev.a1.epoch (cond (decide (c1.device = 1)) c1.req y21.dev.a1.req) (Reply.sel (decide (c1.device = 1)) y17.1 y21.dev.a1.reply)) (Device.mk y21.dev.a2.epoch (cond (decide (c1.device = 2)) c1.req y21.dev.a2.req) (Reply.sel (decide (c1.device = 2)) y17.1 y21.dev.a2.reply)) (Device.mk y21.dev.a3.epoch (cond (decide (c1.device = 3)) c1.req y21.dev.a3.req) (Reply.sel (decide (c1.device = 3)) y17.1 y21.dev.a3.reply)) (Device.mk y21.dev.a4.epoch (cond (decide (c1.device = 4)) c1.req y21.dev.a4.req) (Reply.sel (decide (c1.device = 4)) y17.1 y21.dev.a4.reply)) (Device.mk y21.dev.a5.epoch (cond (decide (c1.device = 5)) c1.req y21.dev.a5.req) (Reply.sel (decide (c1.device = 5)) y17.1 y21.dev.a5.reply))) y21.lost y21.now)) fun y23 =>
 some (y23, (Reply.mk y17.1.err y17.1.n y22)))
 none)
 none)))))
 none)
 (cond ((cond (c1.kind == 2) (c1.kind == 2) (c1.kind == 4)))
 (ob (deskOwn d1) fun y10 =>
 cond ((decide (0 ≤ c1.device) && decide (c1.device < 6)))
 (cond ((cond (decide (c1.req < 1)) true (decide (c1.req > 1073741824))))
 (ob (deskOwn d1) fun y11 =>
 ob (desk_fail 1) fun r12 =>
 some (y11, r12))
 (cond ((c1.req == (cond (decide (c1.device = 0)) y10.dev.a0.req (cond (decide (c1.device = 1)) y10.dev.a1.req (cond (decide (c1.device = 2)) y10.dev.a2.req (cond (decide (c1.device = 3)) y10.dev.a3.req (cond (decide (c1.device = 4)) y10.dev.a4.req y10.dev.a5.req)))))))
 (ob (deskOwn d1) fun y13 =>
 some (y13, (Reply.sel (decide (c1.device = 0)) y10.dev.a0.reply (Reply.mk (cond (decide (c1.device = 1)) y10.dev.a1.reply.err (cond (decide (c1.device = 2)) y10.dev.a2.reply.err (cond (decide (c1.device = 3)) y10.dev.a3.reply.err (cond (decide (c1.device = 4)) y10.dev.a4.reply.err y10.dev.a5.reply.err)))) (cond (decide (c1.device = 1)) y10.dev.a1.reply.n (cond (decide (c1.device = 2)) y10.dev.a2.reply.n (cond (decide (c1.device = 3)) y10.dev.a3.reply.n (cond (decide (c1.device = 4)) y10.dev.a4.reply.n y10.dev.a5.reply.n)))) (Lease.mk (cond (decide (c1.device = 1)) y10.dev.a1.reply.lease.device (cond (decide (c1.device = 2)) y10.dev.a2.reply.lease.device (cond (decide (c1.device = 3)) y10.dev.a3.reply.lease.device (cond (decide (c1.device = 4)) y10.dev.a4.reply.lease.device y10.dev.a5.reply.lease.device)))) (cond (decide (c1.device = 1)) y10.dev.a1.reply.lease.epoch (cond (decide (c1.device = 2)) y10.dev.a2.reply.lease.epoch (cond (decide (c1.device = 3)) y10.dev.a3.reply.lease.epoch (cond (decide (c1.device = 4)) y10.dev.a4.reply.lease.epoch y10.dev.a5.reply.lease.epoch)))) (cond (decide (c1.device = 1)) y10.dev.a1.reply.lease.until_ (cond (decide (c1.device = 2)) y10.dev.a2.reply.lease.until_ (cond (decide (c1.device = 3)) y10.dev.a3.reply.lease.until_ (cond (decide (c1.device = 4)) y10.dev.a4.reply.lease.until_ y10.dev.a5.reply.lease.until_)))) (cond (decide (c1.device = 1)) y10.dev.a1.reply.lease.last (cond (decide (c1.device = 2)) y10.dev.a2.reply.lease.last (cond (decide (c1.device = 3)) y10.dev.a3.reply.lease.last (cond (decide (c1.device = 4)) y10.dev.a4.reply.lease.last y10.dev.a5.reply.lease.last)))) (cond (decide (c1.device = 1)) y10.dev.a1.reply.lease.slices (cond (decide (c1.device = 2)) y10.dev.a2.reply.lease.slices (cond (decide (c1.device = 3)) y10.dev.a3.reply.lease.slices (cond (decide (c1.device = 4)) y10.dev.a4.reply.lease.slices y10.dev.a5.reply.lease.slices)))) (cond (decide (c1.device = 1)) y10.dev.a1.reply.lease.ids (cond (decide (c1.device = 2)) y10.dev.a2.reply.lease.ids (cond (decide (c1.device = 3)) y10.dev.a3.reply.lease.ids (cond (decide (c1.device = 4)) y10.dev.a4.reply.lease.ids y10.dev.a5.reply.lease.ids)))) (cond (decide (c1.device = 1)) y10.dev.a1.reply.lease.used (cond (decide (c1.device = 2)) y10.dev.a2.reply.lease.used (cond (decide (c1.device = 3)) y10.dev.a3.reply.lease.used (cond (decide (c1.device = 4)) y10.dev.a4.reply.lease.used y10.dev.a5.reply.lease.used)))))))))
 (cond ((decide (c1.req < (cond (decide (c1.device = 0)) y10.dev.a0.req (cond (decide (c1.device = 1)) y10.dev.a1.req (cond (decide (c1.device = 2)) y10.dev.a2.req (cond (decide (c1.device = 3)) y10.dev.a3.req (cond (decide (c1.device = 4)) y10.dev.a4.req y10.dev.a5.req))))))))
 (ob (deskOwn d1) fun y14 =>
 ob (desk_fail 7) fun r15 =>
 some (y14, r15))
 (ob (deskOwn d1) fun y24 =>
 ob (clerkWork (Clerk.mk y24 c1)) fun y25 =>
 cond ((y25.1.err != 0))
 (ob (deskOwn d1) fun y26 =>
 cond ((decide (0 ≤ c1.device) && decide (c1.device < 6)))
 (cond ((decide (0 ≤ c1.device) && decide (c1.device < 6)))
 (ob (deskLease y25.1.lease) fun y27 =>
 ob (deskOwn (Desk.mk y26.book y26.colls y26.log (A6Device.mk (Device.mk y26.dev.a0.epoch (cond (decide (c1.device = 0)) c1.req y26.dev.a0.req) (Reply.sel (decide (c1.device = 0)) y25.1 y26.dev.a0.reply)) (Device.mk y26.dev.a1.epoch (cond (decide (c1.device = 1)) c1.req y26.dev.a1.req) (Reply.sel (decide (c1.device = 1)) y25.1 y26.dev.a1.reply)) (Device.mk y26.dev.a2.epoch (cond (decide (c1.device = 2)) c1.req y26.dev.a2.req) (Reply.sel (decide (c1.device = 2)) y25.1 y26.dev.a2.reply)) (Device.mk y26.dev.a3.epoch (cond (decide (c1.device = 3)) c1.req y26.dev.a3.req) (Reply.sel (decide (c1.device = 3)) y25.1 y26.dev.a3.reply)) (Device.mk y26.dev.a4.epoch (cond (decide (c1.device = 4)) c1.req y26.dev.a4.req) (Reply.sel (decide (c1.device = 4)) y25.1 y26.dev.a4.reply)) (Device.mk y26.dev.a5.epoch (cond (decide (c1.device = 5)) c1.req y26.dev.a5.req) (Reply.sel (decide (c1.device = 5)) y25.1 y26.dev.a5.reply))) y26.lost y26.now)) fun y28 =>
 some (y28, (Reply.mk y25.1.err y25.1.n y27)))
 none)
 none)
 (ob (deskOwn y25.2.d) fun y29 =>
 cond ((decide (0 ≤ c1.device) && decide (c1.device < 6)))
 (cond ((decide (0 ≤ c1.device) && decide (c1.device < 6)))
 (ob (deskLease y25.1.lease) fun y30 =>
 ob (deskOwn (Desk.mk y29.book y29.colls y29.log (A6Device.mk (Device.mk y29.dev.a0.epoch (cond (decide (c1.device = 0)) c1.req y29.dev.a0.req) (Reply.sel (decide (c1.device = 0)) y25.1 y29.dev.a0.reply)) (Device.mk y29.dev.a1.epoch (cond (decide (c1.device = 1)) c1.req y29.dev.a1.req) (Reply.sel (decide (c1.device = 1)) y25.1 y29.dev.a1.reply)) (Device.mk y29.dev.a2.epoch (cond (decide (c1.device = 2)) c1.req y29.dev.a2.req) (Reply.sel (decide (c1.device = 2)) y25.1 y29.dev.a2.reply)) (Device.mk y29.dev.a3.epoch (cond (decide (c1.device = 3)) c1.req y29.dev.a3.req) (Reply.sel (decide (c1.device = 3)) y25.1 y29.dev.a3.reply)) (Device.mk y29.dev.a4.epoch (cond (decide (c1.device = 4)) c1.req y29.dev.a4.req) (Reply.sel (decide (c1.device = 4)) y25.1 y29.dev.a4.reply)) (Device.mk y29.dev.a5.epoch (cond (decide (c1.device = 5)) c1.req y29.dev.a5.req) (Reply.sel (decide (c1.device = 5)) y25.1 y29.dev.a5.reply))) y29.lost y29.now)) fun y31 =>
 some (y31, (Reply.mk y25.1.err y25.1.n y30)))
 none)
 none)))))
 none)
 (ob (deskOwn d1) fun y32 =>
 ob (clerkWork (Clerk.mk y32 c1)) fun y33 =>
 cond ((y33.1.err != 0))
 (ob (deskOwn d1) fun y34 =>
 ob (deskLease y33.1.lease) fun y35 =>
 ob (deskOwn y34) fun y36 =>
 some (y36, (Reply.mk y33.1.err y33.1.n y35)))
 (ob (deskOwn y33.2.d) fun y37 =>
 ob (deskLease y33.1.lease) fun y38 =>
 ob (deskOwn y37) fun y39 =>
 some (y39, (Reply.mk y33.1.err y33.1.n y38)))))))
def un_deskDo (p : Desk × Cmd) : Option (Desk × Reply) := deskDo p.1 p.2
def df_deskDo : DFn TL := DFn.of (DA.cons (DT.agg dc_Desk) (DA.one (DT.agg dc_Cmd))) un_deskDo (DA.cons (DT.agg dc_Desk) (DA.one (DT.agg dc_Reply)))
def cs_deskDo : cL := [(39, df_desk_fail)]
def ss_deskDo : sL := [(38, sf_deskOwn), (40, sf_clerkWork), (41, sf_deskLease)]
def env_deskDo : Env := envOf tab sl sh [(18, fd18)] [(38, .sum), (39, .keep), (40, .sum), (41, .sum)]
theorem env_deskDo_ok : EnvOK Tryz.prog (mkD cs_deskDo ss_deskDo) env_deskDo := envOK_of base (aC (st18.okl rfl aN) aN) (aC (okS rfl ok_deskOwn) (aC (okD rfl ok_desk_fail) (aC (okS rfl ok_clerkWork) (aC (okS rfl ok_deskLease) aN))))
theorem run_deskDo (x : Desk × Cmd) : Out.run (mkO cs_deskDo ss_deskDo) (evOrc env_deskDo 12 20 18 ((DA.cons (DT.agg dc_Desk) (DA.one (DT.agg dc_Cmd)) : DA TL (Desk × Cmd)).enc x)) (DA.cons (DT.agg dc_Desk) (DA.one (DT.agg dc_Reply)) : DA TL (Desk × Reply)).dec = un_deskDo x := by kernel_rfl
theorem ok_deskDo : DOK Tryz.prog 18 .keep df_deskDo := data_of env_deskDo_ok (loops := 12) (n := 20) (.inl rfl) st18.enters (DA.cons (DT.agg dc_Desk) (DA.one (DT.agg dc_Cmd))) un_deskDo (DA.cons (DT.agg dc_Desk) (DA.one (DT.agg dc_Reply))) run_deskDo
def step_L147_2 (s1 : ByteArray) (b1 : Bool) (i1 : Int) (i2 : Int) : Option ((ByteArray × Bool × Int × Int) ⊕ (((ByteArray × Bool) ⊕ (ByteArray × Bool)))) :=
 cond ((decide (i2 < i1)))
 (cond (decide (0 ≤ i2))
 (cond (decide (i2 < (s1.size : Int)))
 (cond ((decide (((s1[(i2 : Int).toNat]?.getD 0).toNat : Int) < 32)))
 (some (.inr (.inr (s1, false))))
 (cond (decide (0 ≤ i2))
 (cond (decide (i2 < (s1.size : Int)))
 (cond ((((s1[(i2 : Int).toNat]?.getD 0).toNat : Int) == 127))
 (some (.inr (.inr (s1, false))))
 (some (.inl (s1, b1, i1, (w64 (i2 + 1))))))
 none)
 none))
 none)
 none)
 (some (.inr (.inl (s1, b1))))
def stp_L147_2 (p : ByteArray × Bool × Int × Int) : Option ((ByteArray × Bool × Int × Int) ⊕ (((ByteArray × Bool) ⊕ (ByteArray × Bool)))) := step_L147_2 p.1 p.2.1 p.2.2.1 p.2.2.2
def L147_2 (s1 : ByteArray) (b1 : Bool) (i1 : Int) (i2 : Int) : Option (((ByteArray × Bool) ⊕ (ByteArray × Bool))) := iterO stp_L147_2 ((i1 - i2).toNat + 2) (s1, b1, i1, i2)
def ch_L147_2 : Cod (Cst TL) (ByteArray × Bool × Int × Int) := Cod.iso (Cod.cst 0 (kC (Cod.xs (Cod.sc (Cod.im Cod.str))) (kC (Cod.xs (Cod.sc (Cod.im Cod.bool))) (kC kI (kC kI kN)))) kN) (fun p => (p.1.1, p.1.2.1, p.1.2.2.1, p.1.2.2.2.1)) (fun (x : ByteArray × Bool × Int × Int) => ((x.1, (x.2.1, (x.2.2.1, (x.2.2.2, ())))), ())) (fun _ => rfl)
def co0_L147_2 : Cod (Cst TL) (ByteArray × Bool) := Cod.iso (Cod.cst 0 (kC (Cod.xs (Cod.sc (Cod.im Cod.str))) (kC (Cod.xs (Cod.sc (Cod.im Cod.bool))) kN)) kN) (fun p => (p.1.1, p.1.2.1)) (fun (x : ByteArray × Bool) => ((x.1, (x.2, ())), ())) (fun _ => rfl)
def co1_L147_2 : Cod (Cst TL) (ByteArray × Bool) := Cod.iso (Cod.cst 0 (kC (Cod.xs (Cod.sc (Cod.im Cod.str))) (kC (Cod.xs (Cod.sc (Cod.im Cod.bool))) kN)) kN) (fun p => (p.1.1, p.1.2.1)) (fun (x : ByteArray × Bool) => ((x.1, (x.2, ())), ())) (fun _ => rfl)
def sl_L147_2 : SFn TL := SFn.two ch_L147_2.dec (fun p => L147_2 p.1 p.2.1 p.2.2.1 p.2.2.2) (.exit 0) .ret co0_L147_2.enc co1_L147_2.enc
def env_lL147_2 : Env := envOf tab sl sh [] []
theorem env_lL147_2_ok : EnvOK Tryz.prog (mkD cZ sZ) env_lL147_2 := envOK_of base aN aN
theorem run_L147_2 (x : ByteArray × Bool × Int × Int) : Out.run (mkO cZ sZ) (evRound env_lL147_2 12 20 fd147.an q_L147_2 (loopIn (loopsOf fd147.body) 2) (ch_L147_2.enc x)) (back2 ch_L147_2 co0_L147_2 co1_L147_2 (.exit 0) .ret) = stp_L147_2 x := by kernel_rfl
theorem ok_L147_2 : LoopOK Tryz.prog (oneS sl_L147_2) nt147 q_L147_2 (loopIn (loopsOf fd147.body) 2) :=
  loop_two env_lL147_2_ok (loops := 12) (k := 20) (an := fd147.an) (by kernel_rfl) (FnSt.subl rfl st147.keys (aC (.inl (by kernel_rfl)) aN)) ch_L147_2 co0_L147_2 co1_L147_2 (.exit 0) .ret rfl rfl stp_L147_2 _ run_L147_2 (fun x y h => ⟨_, h⟩) (fun _ => below_iff.1 rfl)
def ledger_text (s1 : ByteArray) : Option (Bool) :=
 ob (L147_2 s1 false (s1.size : Int) 0) fun y0 =>
 two y0 (fun a1 =>
 some (decide ((a1.1.size : Int) ≤ 40))) (fun b2 =>
 some b2.2)
def un_ledger_text (p : ByteArray) : Option (Bool) := ledger_text p
def df_ledger_text : DFn TL := DFn.of (DA.one (DT.one DI.str)) un_ledger_text (DA.one dB)
def ss_ledger_text : sL := [(247002, sl_L147_2)]
def env_ledger_text : Env := envOf tab sl sh [(147, fd147)] []
theorem env_ledger_text_ok : EnvOK Tryz.prog (mkD cZ ss_ledger_text) env_ledger_text := envOK_of base (aC (st147.okl rfl (aC (LoopOK.cast ok_L147_2 rfl) aN)) aN) aN
theorem run_ledger_text (x : ByteArray) : Out.run (mkO cZ ss_ledger_text) (evOrc env_ledger_text 12 20 147 ((DA.one (DT.one DI.str) : DA TL (ByteArray)).enc x)) (DA.one dB : DA TL (Bool)).dec = un_ledger_text x := by kernel_rfl
theorem ok_ledger_text : DOK Tryz.prog 147 .pure df_ledger_text := data_of env_ledger_text_ok (loops := 12) (n := 20) (.inr rfl) st147.enters (DA.one (DT.one DI.str)) un_ledger_text (DA.one dB) run_ledger_text
def ledger_may (c1 : Counter) : Option (Bool) :=
 cond ((!sEq c1.key s_empty))
 (ob (ledger_text c1.key) fun r0 =>
 cond (r0)
 (ob (ledger_within c1.coll 0 2) fun r1 =>
 some (cond r1 (cond (decide (c1.lo ≥ (-1099511627776))) (cond (decide (c1.lo ≤ c1.start)) (cond (decide (c1.start ≤ c1.hi)) (decide (c1.hi ≤ 1099511627776)) false) false) false) false))
 (some false))
 (some false)
def un_ledger_may (p : Counter) : Option (Bool) := ledger_may p
def df_ledger_may : DFn TL := DFn.of (DA.one (DT.agg dc_Counter)) un_ledger_may (DA.one dB)
def cs_ledger_may : cL := [(147, df_ledger_text), (122, df_ledger_within)]
def env_ledger_may : Env := envOf tab sl sh [(120, fd120)] [(147, .pure), (122, .pure)]
theorem env_ledger_may_ok : EnvOK Tryz.prog (mkD cs_ledger_may sZ) env_ledger_may := envOK_of base (aC (st120.okl rfl aN) aN) (aC (okD rfl ok_ledger_text) (aC (okD rfl ok_ledger_within) aN))
theorem run_ledger_may (x : Counter) : Out.run (mkO cs_ledger_may sZ) (evOrc env_ledger_may 12 20 120 ((DA.one (DT.agg dc_Counter) : DA TL (Counter)).enc x)) (DA.one dB : DA TL (Bool)).dec = un_ledger_may x := by kernel_rfl
theorem ok_ledger_may : DOK Tryz.prog 120 .pure df_ledger_may := data_of env_ledger_may_ok (loops := 12) (n := 20) (.inr rfl) st120.enters (DA.one (DT.agg dc_Counter)) un_ledger_may (DA.one dB) run_ledger_may
def step_L75_5 (i1 : Int) (i2 : Int) (l1 : List Counter) (i3 : Int) (i4 : Int) (bx1 : Book) (bx2 : Book) : Option ((Int × Int × (List Counter) × Int × Int × Book × Book) ⊕ (((Int × Int × Book × Book) ⊕ (Int × Int × Book × Book × (List Counter) × (List Range) × (List Lease) × (List Int))))) :=
 cond ((decide (i4 < i3)))
 (cond (decide (0 ≤ i4))
 (ob (l1[i4.toNat]?) fun e0 =>
 ob (ledger_may e0) fun r1 =>
 cond ((!r1))
 (some (.inr (.inr (i1, 1, (Book.mk [] [] [] []), bx2, bx1.counters, bx1.free, bx1.leases, bx1.bound))))
 (ob (ledger_counter bx2 e0.key) fun r2 =>
 cond ((decide (r2 ≥ 0)))
 (some (.inr (.inr (i1, 7, (Book.mk [] [] [] []), bx2, bx1.counters, bx1.free, bx1.leases, bx1.bound))))
 (cond (fits ((bx2.counters ++ [(Counter.mk e0.key e0.coll e0.lo e0.hi e0.start (w64 (e0.hi - e0.start)) (w64 (e0.start - e0.lo)))]).length))
 (some (.inl (i1, i2, l1, i3, (w64 (i4 + 1)), bx1, (Book.mk (bx2.counters ++ [(Counter.mk e0.key e0.coll e0.lo e0.hi e0.start (w64 (e0.hi - e0.start)) (w64 (e0.start - e0.lo)))]) bx2.free bx2.leases bx2.bound))))
 none)))
 none)
 (some (.inr (.inl (i1, i2, bx1, bx2))))
def stp_L75_5 (p : Int × Int × (List Counter) × Int × Int × Book × Book) : Option ((Int × Int × (List Counter) × Int × Int × Book × Book) ⊕ (((Int × Int × Book × Book) ⊕ (Int × Int × Book × Book × (List Counter) × (List Range) × (List Lease) × (List Int))))) := step_L75_5 p.1 p.2.1 p.2.2.1 p.2.2.2.1 p.2.2.2.2.1 p.2.2.2.2.2.1 p.2.2.2.2.2.2
def L75_5 (i1 : Int) (i2 : Int) (l1 : List Counter) (i3 : Int) (i4 : Int) (bx1 : Book) (bx2 : Book) : Option (((Int × Int × Book × Book) ⊕ (Int × Int × Book × Book × (List Counter) × (List Range) × (List Lease) × (List Int)))) := iterO stp_L75_5 ((i3 - i4).toNat + 2) (i1, i2, l1, i3, i4, bx1, bx2)
def ch_L75_5 : Cod (Cst TL) (Int × Int × (List Counter) × Int × Int × Book × Book) := Cod.iso (Cod.cst 10 (kC kI (kC (Cod.xs (Cod.sc (Cod.ptr 0 0))) (kC kI (kC (Cod.xs (Cod.sc (Cod.ptr 1 0))) (kC (Cod.xs (Cod.sc (Cod.im (Cod.fz j_lCounter)))) (kC kI (kC kI kN))))))) (kC (Cod.var 0 29 (kC (Cod.ar 2) (kC (Cod.ar 3) (kC (Cod.ar 4) (kC (Cod.ar 5) kN))))) (kC (Cod.var 1 29 (kC (Cod.ar 6) (kC (Cod.ar 7) (kC (Cod.ar 8) (kC (Cod.ar 9) kN))))) (kC (Cod.arr 2 65 j_lCounter) (kC (Cod.arr 3 153 j_lRange) (kC (Cod.arr 4 43 j_lLease) (kC (Cod.arr 5 3 j_lInt) (kC (Cod.arr 6 65 j_lCounter) (kC (Cod.arr 7 153 j_lRange) (kC (Cod.arr 8 43 j_lLease) (kC (Cod.arr 9 3 j_lInt) kN))))))))))) (fun p => (p.1.1, p.1.2.2.1, p.1.2.2.2.2.1, p.1.2.2.2.2.2.1, p.1.2.2.2.2.2.2.1, (Book.mk p.2.2.2.1 p.2.2.2.2.1 p.2.2.2.2.2.1 p.2.2.2.2.2.2.1), (Book.mk p.2.2.2.2.2.2.2.1 p.2.2.2.2.2.2.2.2.1 (t8 p.2).1 (t8 p.2).2.1))) (fun (x : Int × Int × (List Counter) × Int × Int × Book × Book) => ((x.1, ((), (x.2.1, ((), (x.2.2.1, (x.2.2.2.1, (x.2.2.2.2.1, ()))))))), (((), ((), ((), ((), ())))), (((), ((), ((), ((), ())))), (x.2.2.2.2.2.1.counters, (x.2.2.2.2.2.1.free, (x.2.2.2.2.2.1.leases, (x.2.2.2.2.2.1.bound, (x.2.2.2.2.2.2.counters, (x.2.2.2.2.2.2.free, (x.2.2.2.2.2.2.leases, (x.2.2.2.2.2.2.bound, ())))))))))))) (fun _ => rfl)
def co0_L75_5 : Cod (Cst TL) (Int × Int × Book × Book) := Cod.iso (Cod.cst 20 (kC kI (kC (Cod.xs (Cod.sc (Cod.ptr 0 0))) (kC kI (kC (Cod.xs (Cod.sc (Cod.ptr 1 0))) kN)))) (kC (Cod.var 0 29 (kC (Cod.ar 2) (kC (Cod.ar 3) (kC (Cod.ar 4) (kC (Cod.ar 5) kN))))) (kC (Cod.var 1 29 (kC (Cod.ar 19) (kC (Cod.ar 7) (kC (Cod.ar 8) (kC (Cod.ar 9) kN))))) (kC (Cod.arr 2 65 j_lCounter) (kC (Cod.arr 3 153 j_lRange) (kC (Cod.arr 4 43 j_lLease) (kC (Cod.arr 5 3 j_lInt) (kC (Cod.arr 7 153 j_lRange) (kC (Cod.arr 8 43 j_lLease) (kC (Cod.arr 9 3 j_lInt) (kC (Cod.arr 19 65 j_lCounter) kN))))))))))) (fun p => (p.1.1, p.1.2.2.1, (Book.mk p.2.2.2.1 p.2.2.2.2.1 p.2.2.2.2.2.1 p.2.2.2.2.2.2.1), (Book.mk (t8 p.2).2.1 p.2.2.2.2.2.2.2.1 p.2.2.2.2.2.2.2.2.1 (t8 p.2).1))) (fun (x : Int × Int × Book × Book) => ((x.1, ((), (x.2.1, ((), ())))), (((), ((), ((), ((), ())))), (((), ((), ((), ((), ())))), (x.2.2.1.counters, (x.2.2.1.free, (x.2.2.1.leases, (x.2.2.1.bound, (x.2.2.2.free, (x.2.2.2.leases, (x.2.2.2.bound, (x.2.2.2.counters, ())))))))))))) (fun _ => rfl)
def co1_L75_5 : Cod (Cst TL) (Int × Int × Book × Book × (List Counter) × (List Range) × (List Lease) × (List Int)) := Cod.iso (Cod.cst 24 (kC kI (kC (Cod.xs (Cod.sc (Cod.ptr 0 0))) (kC kI (kC (Cod.xs (Cod.sc (Cod.ptr 1 0))) kN)))) (kC (Cod.var 0 29 (kC (Cod.ar 19) (kC (Cod.ar 20) (kC (Cod.ar 21) (kC (Cod.ar 22) kN))))) (kC (Cod.var 1 29 (kC (Cod.ar 23) (kC (Cod.ar 7) (kC (Cod.ar 8) (kC (Cod.ar 9) kN))))) (kC (Cod.arr 2 65 j_lCounter) (kC (Cod.arr 3 153 j_lRange) (kC (Cod.arr 4 43 j_lLease) (kC (Cod.arr 5 3 j_lInt) (kC (Cod.arr 7 153 j_lRange) (kC (Cod.arr 8 43 j_lLease) (kC (Cod.arr 9 3 j_lInt) (kC (Cod.arr 19 65 j_lCounter) (kC (Cod.arr 20 153 j_lRange) (kC (Cod.arr 21 43 j_lLease) (kC (Cod.arr 22 3 j_lInt) (kC (Cod.arr 23 65 j_lCounter) kN))))))))))))))) (fun p => (p.1.1, p.1.2.2.1, (Book.mk (t8 p.2).2.1 (t8 p.2).2.2.1 (t8 p.2).2.2.2.1 (t8 p.2).2.2.2.2.1), (Book.mk (t8 p.2).2.2.2.2.2.1 p.2.2.2.2.2.2.2.1 p.2.2.2.2.2.2.2.2.1 (t8 p.2).1), p.2.2.2.1, p.2.2.2.2.1, p.2.2.2.2.2.1, p.2.2.2.2.2.2.1)) (fun (x : Int × Int × Book × Book × (List Counter) × (List Range) × (List Lease) × (List Int)) => ((x.1, ((), (x.2.1, ((), ())))), (((), ((), ((), ((), ())))), (((), ((), ((), ((), ())))), (x.2.2.2.2.1, (x.2.2.2.2.2.1, (x.2.2.2.2.2.2.1, (x.2.2.2.2.2.2.2, (x.2.2.2.1.free, (x.2.2.2.1.leases, (x.2.2.2.1.bound, (x.2.2.1.counters, (x.2.2.1.free, (x.2.2.1.leases, (x.2.2.1.bound, (x.2.2.2.1.counters, ())))))))))))))))) (fun _ => rfl)
def sl_L75_5 : SFn TL := SFn.two ch_L75_5.dec (fun p => L75_5 p.1 p.2.1 p.2.2.1 p.2.2.2.1 p.2.2.2.2.1 p.2.2.2.2.2.1 p.2.2.2.2.2.2) (.exit 0) .ret co0_L75_5.enc co1_L75_5.enc
def cs_lL75_5 : cL := [(120, df_ledger_may), (121, df_ledger_counter)]
def env_lL75_5 : Env := envOf tab sl sh [] [(120, .pure), (121, .pure)]
theorem env_lL75_5_ok : EnvOK Tryz.prog (mkD cs_lL75_5 sZ) env_lL75_5 := envOK_of base aN (aC (okD rfl ok_ledger_may) (aC (okD rfl ok_ledger_counter) aN))
theorem run_L75_5 (x : Int × Int × (List Counter) × Int × Int × Book × Book) : Out.run (mkO cs_lL75_5 sZ) (evRound env_lL75_5 12 20 fd75.an q_L75_5 (loopIn (loopsOf fd75.body) 5) (ch_L75_5.enc x)) (back2 ch_L75_5 co0_L75_5 co1_L75_5 (.exit 0) .ret) = stp_L75_5 x := by kernel_rfl
theorem ok_L75_5 : LoopOK Tryz.prog (oneS sl_L75_5) nt75 q_L75_5 (loopIn (loopsOf fd75.body) 5) :=
  loop_two env_lL75_5_ok (loops := 12) (k := 20) (an := fd75.an) (by kernel_rfl) (FnSt.subl rfl st75.keys (aC (.inl (by kernel_rfl)) aN)) ch_L75_5 co0_L75_5 co1_L75_5 (.exit 0) .ret rfl rfl stp_L75_5 _ run_L75_5 (fun x y h => ⟨_, h⟩) (fun _ => below_iff.1 rfl)
def ledgerNew (l1 : List Counter) (i1 : Int) : Option (Book × Int) :=
 cond ((decide ((l1.length : Int) > 4)))
 (some ((Book.mk [] [] [] []), 4))
 (ob (L75_5 i1 0 l1 (l1.length : Int) 0 (Book.mk [] [] [] []) (Book.mk [] [] [] [])) fun y0 =>
 two y0 (fun a1 =>
 ob (ledger_within a1.1 0 1000) fun r3 =>
 cond ((!r3))
 (some ((Book.mk [] [] [] []), 1))
 (ob (rangesAdd [] (Range.mk 0 a1.1)) fun r4 =>
 ob (ledgerOwn (Book.mk a1.2.2.2.counters r4 a1.2.2.2.leases a1.2.2.2.bound)) fun y5 =>
 some (y5, 0))) (fun b2 =>
 some (b2.2.2.1, b2.2.1)))
def un_ledgerNew (p : (List Counter) × Int) : Option (Book × Int) := ledgerNew p.1 p.2
def df_ledgerNew : DFn TL := DFn.of (DA.cons (DT.one di_lCounter) (DA.one dI)) un_ledgerNew (DA.cons (DT.agg dc_Book) (DA.one dI))
def cs_ledgerNew : cL := [(122, df_ledger_within), (123, df_rangesAdd)]
def ss_ledgerNew : sL := [(124, sf_ledgerOwn), (175005, sl_L75_5)]
def env_ledgerNew : Env := envOf tab sl sh [(75, fd75)] [(122, .pure), (123, .keep), (124, .sum)]
theorem env_ledgerNew_ok : EnvOK Tryz.prog (mkD cs_ledgerNew ss_ledgerNew) env_ledgerNew := envOK_of base (aC (st75.okl rfl (aC (LoopOK.cast ok_L75_5 rfl) aN)) aN) (aC (okD rfl ok_ledger_within) (aC (okD rfl ok_rangesAdd) (aC (okS rfl ok_ledgerOwn) aN)))
theorem run_ledgerNew (x : (List Counter) × Int) : Out.run (mkO cs_ledgerNew ss_ledgerNew) (evOrc env_ledgerNew 12 20 75 ((DA.cons (DT.one di_lCounter) (DA.one dI) : DA TL ((List Counter) × Int)).enc x)) (DA.cons (DT.agg dc_Book) (DA.one dI) : DA TL (Book × Int)).dec = un_ledgerNew x := by kernel_rfl
theorem ok_ledgerNew : DOK Tryz.prog 75 .keep df_ledgerNew := data_of env_ledgerNew_ok (loops := 12) (n := 20) (.inl rfl) st75.enters (DA.cons (DT.one di_lCounter) (DA.one dI)) un_ledgerNew (DA.cons (DT.agg dc_Book) (DA.one dI)) run_ledgerNew
def deskNew (l1 : List Counter) (i1 : Int) : Option (Desk × Int) :=
 ob (ledgerNew l1 i1) fun r0 =>
 cond ((r0.2 != 0))
 (some ((Desk.mk (Book.mk [] [] [] []) (A3Coll.mk (Coll.mk [] [] [] [] [] []) (Coll.mk [] [] [] [] [] []) (Coll.mk [] [] [] [] [] [])) [] (A6Device.mk (Device.mk 0 0 (Reply.mk 0 0 (Lease.mk 0 0 0 0 [] [] []))) (Device.mk 0 0 (Reply.mk 0 0 (Lease.mk 0 0 0 0 [] [] []))) (Device.mk 0 0 (Reply.mk 0 0 (Lease.mk 0 0 0 0 [] [] []))) (Device.mk 0 0 (Reply.mk 0 0 (Lease.mk 0 0 0 0 [] [] []))) (Device.mk 0 0 (Reply.mk 0 0 (Lease.mk 0 0 0 0 [] [] []))) (Device.mk 0 0 (Reply.mk 0 0 (Lease.mk 0 0 0 0 [] [] [])))) [] 0), r0.2))
 (some ((Desk.mk r0.1 (A3Coll.mk (Coll.mk [] [] [] [] [] []) (Coll.mk [] [] [] [] [] []) (Coll.mk [] [] [] [] [] [])) [] (A6Device.mk (Device.mk 0 0 (Reply.mk 0 0 (Lease.mk 0 0 0 0 [] [] []))) (Device.mk 0 0 (Reply.mk 0 0 (Lease.mk 0 0 0 0 [] [] []))) (Device.mk 0 0 (Reply.mk 0 0 (Lease.mk 0 0 0 0 [] [] []))) (Device.mk 0 0 (Reply.mk 0 0 (Lease.mk 0 0 0 0 [] [] []))) (Device.mk 0 0 (Reply.mk 0 0 (Lease.mk 0 0 0 0 [] [] []))) (Device.mk 0 0 (Reply.mk 0 0 (Lease.mk 0 0 0 0 [] [] [])))) [] 0), 0))
def un_deskNew (p : (List Counter) × Int) : Option (Desk × Int) := deskNew p.1 p.2
def df_deskNew : DFn TL := DFn.of (DA.cons (DT.one di_lCounter) (DA.one dI)) un_deskNew (DA.cons (DT.agg dc_Desk) (DA.one dI))
def cs_deskNew : cL := [(75, df_ledgerNew)]
def env_deskNew : Env := envOf tab sl sh [(36, fd36)] [(75, .keep)]
theorem env_deskNew_ok : EnvOK Tryz.prog (mkD cs_deskNew sZ) env_deskNew := envOK_of base (aC (st36.okl rfl aN) aN) (aC (okD rfl ok_ledgerNew) aN)
theorem run_deskNew (x : (List Counter) × Int) : Out.run (mkO cs_deskNew sZ) (evOrc env_deskNew 12 20 36 ((DA.cons (DT.one di_lCounter) (DA.one dI) : DA TL ((List Counter) × Int)).enc x)) (DA.cons (DT.agg dc_Desk) (DA.one dI) : DA TL (Desk × Int)).dec = un_deskNew x := by kernel_rfl
theorem ok_deskNew : DOK Tryz.prog 36 .keep df_deskNew := data_of env_deskNew_ok (loops := 12) (n := 20) (.inl rfl) st36.enters (DA.cons (DT.one di_lCounter) (DA.one dI)) un_deskNew (DA.cons (DT.agg dc_Desk) (DA.one dI)) run_deskNew
def known  : Option (Bool) :=
 ob (deskNew [] 5) fun r0 =>
 ob (deskDo r0.1 (Cmd.mk 1 2 0 1 0 [] [])) fun r1 =>
 some (cond (r0.2 == 0) (cond (r1.2.err == 0) (cond (r1.2.n == 1) (cond (r1.1.dev.a2.epoch == 1) (r1.1.dev.a2.req == 1) false) false) false) false)
def un_known (_ : Unit) : Option (Bool) := known
def df_known : DFn TL := DFn.of (DA.nil) un_known (DA.one dB)
def cs_known : cL := [(36, df_deskNew), (18, df_deskDo)]
def env_known : Env := envOf tab sl sh [(15, fd15)] [(36, .keep), (18, .keep)]
theorem env_known_ok : EnvOK Tryz.prog (mkD cs_known sZ) env_known := envOK_of base (aC (st15.okl rfl aN) aN) (aC (okD rfl ok_deskNew) (aC (okD rfl ok_deskDo) aN))
theorem run_known (x : Unit) : Out.run (mkO cs_known sZ) (evOrc env_known 12 20 15 ((DA.nil : DA TL (Unit)).enc x)) (DA.one dB : DA TL (Bool)).dec = un_known x := by kernel_rfl
theorem ok_known : DOK Tryz.prog 15 .pure df_known := data_of env_known_ok (loops := 12) (n := 20) (.inr rfl) st15.enters (DA.nil) un_known (DA.one dB) run_known
def within (i1 : Int) (i2 : Int) : Option (Int) :=
 cond (decide (i2 = 0))
 none
 (some (cond (decide ((i1.tmod i2) < 0)) (w64 ((i1.tmod i2) + i2)) (i1.tmod i2)))
def un_within (p : Int × Int) : Option (Int) := within p.1 p.2
def df_within : DFn TL := DFn.of (DA.cons dI (DA.one dI)) un_within (DA.one dI)
def env_within : Env := envOf tab sl sh [(16, fd16)] []
theorem env_within_ok : EnvOK Tryz.prog (mkD cZ sZ) env_within := envOK_of base (aC (st16.okl rfl aN) aN) aN
theorem run_within (x : Int × Int) : Out.run (mkO cZ sZ) (evOrc env_within 12 20 16 ((DA.cons dI (DA.one dI) : DA TL (Int × Int)).enc x)) (DA.one dI : DA TL (Int)).dec = un_within x := by kernel_rfl
theorem ok_within : DOK Tryz.prog 16 .pure df_within := data_of env_within_ok (loops := 12) (n := 20) (.inr rfl) st16.enters (DA.cons dI (DA.one dI)) un_within (DA.one dI) run_within
def step_L125_5 (l1 : List Range) (l2 : List Range) (l3 : List Range) (i1 : Int) (rx1 : Range) : Option (((List Range) × (List Range) × (List Range) × Int × Range) ⊕ ((List Range) × (List Range) × Range)) :=
 cond ((decide (i1 < (l1.length : Int))))
 (cond (decide (0 ≤ i1))
 (ob (l1[i1.toNat]?) fun e0 =>
 cond ((decide (e0.to_ < rx1.from_)))
 (cond (decide (0 ≤ i1))
 (ob (l1[i1.toNat]?) fun e1 =>
 cond (fits ((l2 ++ [e1]).length))
 (some (.inl (l1, (l2 ++ [e1]), l3, (w64 (i1 + 1)), rx1)))
 none)
 none)
 (cond (decide (0 ≤ i1))
 (ob (l1[i1.toNat]?) fun e2 =>
 cond ((decide (e2.from_ > rx1.to_)))
 (cond (decide (0 ≤ i1))
 (ob (l1[i1.toNat]?) fun e3 =>
 cond (fits ((l3 ++ [e3]).length))
 (some (.inl (l1, l2, (l3 ++ [e3]), (w64 (i1 + 1)), rx1)))
 none)
 none)
 (cond (decide (0 ≤ i1))
 (ob (l1[i1.toNat]?) fun e4 =>
 cond (decide (0 ≤ i1))
 (ob (l1[i1.toNat]?) fun e5 =>
 some (.inl (l1, l2, l3, (w64 (i1 + 1)), (Range.mk (min2 rx1.from_ e4.from_) (max2 rx1.to_ e5.to_)))))
 none)
 none))
 none))
 none)
 (some (.inr (l2, l3, rx1)))
def stp_L125_5 (p : (List Range) × (List Range) × (List Range) × Int × Range) : Option (((List Range) × (List Range) × (List Range) × Int × Range) ⊕ ((List Range) × (List Range) × Range)) := step_L125_5 p.1 p.2.1 p.2.2.1 p.2.2.2.1 p.2.2.2.2
def L125_5 (l1 : List Range) (l2 : List Range) (l3 : List Range) (i1 : Int) (rx1 : Range) : Option ((List Range) × (List Range) × Range) := iterO stp_L125_5 (((l1.length : Int) - i1).toNat + 2) (l1, l2, l3, i1, rx1)
def ch_L125_5 : Cod (Cst TL) ((List Range) × (List Range) × (List Range) × Int × Range) := Cod.iso (Cod.cst 3 (kC (Cod.xs (Cod.sc (Cod.im (Cod.fz j_lRange)))) (kC (Cod.xs (Cod.sc (Cod.ptr 0 0))) (kC (Cod.xs (Cod.sc (Cod.ar 1))) (kC (Cod.xs (Cod.sc (Cod.ar 2))) (kC kI kN))))) (kC (Cod.var 0 153 (kC kJ (kC kJ kN))) (kC (Cod.arr 1 153 j_lRange) (kC (Cod.arr 2 153 j_lRange) kN)))) (fun p => (p.1.1, p.2.2.1, p.2.2.2.1, p.1.2.2.2.2.1, (Range.mk p.2.1.1 p.2.1.2.1))) (fun (x : (List Range) × (List Range) × (List Range) × Int × Range) => ((x.1, ((), ((), ((), (x.2.2.2.1, ()))))), ((x.2.2.2.2.from_, (x.2.2.2.2.to_, ())), (x.2.1, (x.2.2.1, ()))))) (fun _ => rfl)
def co0_L125_5 : Cod (Cst TL) ((List Range) × (List Range) × Range) := Cod.iso (Cod.cst 6 (kC (Cod.xs (Cod.sc (Cod.ptr 0 0))) (kC (Cod.xs (Cod.sc (Cod.ar 4))) (kC (Cod.xs (Cod.sc (Cod.ar 5))) kN))) (kC (Cod.var 0 153 (kC kJ (kC kJ kN))) (kC (Cod.arr 4 153 j_lRange) (kC (Cod.arr 5 153 j_lRange) kN)))) (fun p => (p.2.2.1, p.2.2.2.1, (Range.mk p.2.1.1 p.2.1.2.1))) (fun (x : (List Range) × (List Range) × Range) => (((), ((), ((), ()))), ((x.2.2.from_, (x.2.2.to_, ())), (x.1, (x.2.1, ()))))) (fun _ => rfl)
def sl_L125_5 : SFn TL := SFn.one ch_L125_5.dec (fun p => L125_5 p.1 p.2.1 p.2.2.1 p.2.2.2.1 p.2.2.2.2) (.exit 0) co0_L125_5.enc
def env_lL125_5 : Env := envOf tab sl sh [] []
theorem env_lL125_5_ok : EnvOK Tryz.prog (mkD cZ sZ) env_lL125_5 := envOK_of base aN aN
theorem run_L125_5 (x : (List Range) × (List Range) × (List Range) × Int × Range) : Out.run (mkO cZ sZ) (evRound env_lL125_5 12 20 fd125.an q_L125_5 (loopIn (loopsOf fd125.body) 5) (ch_L125_5.enc x)) (back ch_L125_5 co0_L125_5 fun e => exE e (.exit 0)) = stp_L125_5 x := by kernel_rfl
theorem ok_L125_5 : LoopOK Tryz.prog (oneS sl_L125_5) nt125 q_L125_5 (loopIn (loopsOf fd125.body) 5) :=
  loop_one env_lL125_5_ok (loops := 12) (k := 20) (an := fd125.an) (by kernel_rfl) (FnSt.subl rfl st125.keys (aC (.inl (by kernel_rfl)) aN)) ch_L125_5 co0_L125_5 (.exit 0) rfl stp_L125_5 _ run_L125_5 (fun x y h => ⟨_, h⟩) (fun _ => below_iff.1 rfl)
def ref11Add (l1 : List Range) (rx1 : Range) : Option ((List Range)) :=
 cond ((cond (decide (rx1.from_ < 0)) true (cond (decide (rx1.from_ ≥ rx1.to_)) true (decide (rx1.to_ > 1073741824)))))
 (cond (fits (([] ++ l1).length))
 (some ([] ++ l1))
 none)
 (ob (L125_5 l1 [] [] 0 rx1) fun y0 =>
 cond (fits ((y0.1 ++ [y0.2.2]).length))
 (cond (fits (((y0.1 ++ [y0.2.2]) ++ y0.2.1).length))
 (some ((y0.1 ++ [y0.2.2]) ++ y0.2.1))
 none)
 none)
def un_ref11Add (p : (List Range) × Range) : Option ((List Range)) := ref11Add p.1 p.2
def df_ref11Add : DFn TL := DFn.of (DA.cons (DT.one di_lRange) (DA.one (DT.agg dc_Range))) un_ref11Add (DA.one (DT.one di_lRange))
def ss_ref11Add : sL := [(225005, sl_L125_5)]
def env_ref11Add : Env := envOf tab sl sh [(125, fd125)] []
theorem env_ref11Add_ok : EnvOK Tryz.prog (mkD cZ ss_ref11Add) env_ref11Add := envOK_of base (aC (st125.okl rfl (aC (LoopOK.cast ok_L125_5 rfl) aN)) aN) aN
theorem run_ref11Add (x : (List Range) × Range) : Out.run (mkO cZ ss_ref11Add) (evOrc env_ref11Add 12 20 125 ((DA.cons (DT.one di_lRange) (DA.one (DT.agg dc_Range)) : DA TL ((List Range) × Range)).enc x)) (DA.one (DT.one di_lRange) : DA TL ((List Range))).dec = un_ref11Add x := by kernel_rfl
theorem ok_ref11Add : DOK Tryz.prog 125 .keep df_ref11Add := data_of env_ref11Add_ok (loops := 12) (n := 20) (.inl rfl) st125.enters (DA.cons (DT.one di_lRange) (DA.one (DT.agg dc_Range))) un_ref11Add (DA.one (DT.one di_lRange)) run_ref11Add
def step_L73_4 (s1 : ByteArray) (b1 : Bool) (i1 : Int) : Option ((ByteArray × Bool × Int) ⊕ (((Bool) ⊕ (Bool)))) :=
 cond ((decide (i1 < (s1.size : Int))))
 (cond (decide (0 ≤ i1))
 (cond (decide (i1 < (s1.size : Int)))
 (cond ((decide (((s1[(i1 : Int).toNat]?.getD 0).toNat : Int) < 32)))
 (some (.inr (.inr false)))
 (cond (decide (0 ≤ i1))
 (cond (decide (i1 < (s1.size : Int)))
 (cond ((((s1[(i1 : Int).toNat]?.getD 0).toNat : Int) == 127))
 (some (.inr (.inr false)))
 (some (.inl (s1, b1, (w64 (i1 + 1))))))
 none)
 none))
 none)
 none)
 (some (.inr (.inl b1)))
def stp_L73_4 (p : ByteArray × Bool × Int) : Option ((ByteArray × Bool × Int) ⊕ (((Bool) ⊕ (Bool)))) := step_L73_4 p.1 p.2.1 p.2.2
def L73_4 (s1 : ByteArray) (b1 : Bool) (i1 : Int) : Option (((Bool) ⊕ (Bool))) := iterO stp_L73_4 (((s1.size : Int) - i1).toNat + 2) (s1, b1, i1)
def ch_L73_4 : Cod (Cst TL) (ByteArray × Bool × Int) := Cod.iso (Cod.cst 0 (kC (Cod.xs (Cod.sc (Cod.im Cod.str))) (kC (Cod.xs (Cod.sc (Cod.im Cod.bool))) (kC kI kN))) kN) (fun p => (p.1.1, p.1.2.1, p.1.2.2.1)) (fun (x : ByteArray × Bool × Int) => ((x.1, (x.2.1, (x.2.2, ()))), ())) (fun _ => rfl)
def co0_L73_4 : Cod (Cst TL) (Bool) := Cod.iso (Cod.cst 0 (kC (Cod.xs (Cod.sc (Cod.im Cod.bool))) kN) kN) (fun p => p.1.1) (fun (x : Bool) => ((x, ()), ())) (fun _ => rfl)
def co1_L73_4 : Cod (Cst TL) (Bool) := Cod.iso (Cod.cst 0 (kC (Cod.xs (Cod.sc (Cod.im Cod.bool))) kN) kN) (fun p => p.1.1) (fun (x : Bool) => ((x, ()), ())) (fun _ => rfl)
def sl_L73_4 : SFn TL := SFn.two ch_L73_4.dec (fun p => L73_4 p.1 p.2.1 p.2.2) (.exit 0) .ret co0_L73_4.enc co1_L73_4.enc
def env_lL73_4 : Env := envOf tab sl sh [] []
theorem env_lL73_4_ok : EnvOK Tryz.prog (mkD cZ sZ) env_lL73_4 := envOK_of base aN aN
theorem run_L73_4 (x : ByteArray × Bool × Int) : Out.run (mkO cZ sZ) (evRound env_lL73_4 12 20 fd73.an q_L73_4 (loopIn (loopsOf fd73.body) 4) (ch_L73_4.enc x)) (back2 ch_L73_4 co0_L73_4 co1_L73_4 (.exit 0) .ret) = stp_L73_4 x := by kernel_rfl
theorem ok_L73_4 : LoopOK Tryz.prog (oneS sl_L73_4) nt73 q_L73_4 (loopIn (loopsOf fd73.body) 4) :=
  loop_two env_lL73_4_ok (loops := 12) (k := 20) (an := fd73.an) (by kernel_rfl) (FnSt.subl rfl st73.keys (aC (.inl (by kernel_rfl)) aN)) ch_L73_4 co0_L73_4 co1_L73_4 (.exit 0) .ret rfl rfl stp_L73_4 _ run_L73_4 (fun x y h => ⟨_, h⟩) (fun _ => below_iff.1 rfl)
def ref5Text (s1 : ByteArray) : Option (Bool) :=
 cond ((decide ((s1.size : Int) > 40)))
 (some false)
 (ob (L73_4 s1 false 0) fun y0 =>
 two y0 (fun a1 =>
 some true) (fun b2 =>
 some b2))
def un_ref5Text (p : ByteArray) : Option (Bool) := ref5Text p
def df_ref5Text : DFn TL := DFn.of (DA.one (DT.one DI.str)) un_ref5Text (DA.one dB)
def ss_ref5Text : sL := [(173004, sl_L73_4)]
def env_ref5Text : Env := envOf tab sl sh [(73, fd73)] []
theorem env_ref5Text_ok : EnvOK Tryz.prog (mkD cZ ss_ref5Text) env_ref5Text := envOK_of base (aC (st73.okl rfl (aC (LoopOK.cast ok_L73_4 rfl) aN)) aN) aN
theorem run_ref5Text (x : ByteArray) : Out.run (mkO cZ ss_ref5Text) (evOrc env_ref5Text 12 20 73 ((DA.one (DT.one DI.str) : DA TL (ByteArray)).enc x)) (DA.one dB : DA TL (Bool)).dec = un_ref5Text x := by kernel_rfl
theorem ok_ref5Text : DOK Tryz.prog 73 .pure df_ref5Text := data_of env_ref5Text_ok (loops := 12) (n := 20) (.inr rfl) st73.enters (DA.one (DT.one DI.str)) un_ref5Text (DA.one dB) run_ref5Text
def ref12_counter (c1 : Counter) : Option (Bool) :=
 cond ((!sEq c1.key s_empty))
 (ob (ref5Text c1.key) fun r0 =>
 some (cond r0 (cond (decide (c1.coll ≥ 0)) (cond (decide (c1.coll < 3)) (cond (decide ((-1099511627776) ≤ c1.lo)) (cond (decide (c1.lo ≤ c1.start)) (cond (decide (c1.start ≤ c1.hi)) (decide (c1.hi ≤ 1099511627776)) false) false) false) false) false) false))
 (some false)
def un_ref12_counter (p : Counter) : Option (Bool) := ref12_counter p
def df_ref12_counter : DFn TL := DFn.of (DA.one (DT.agg dc_Counter)) un_ref12_counter (DA.one dB)
def cs_ref12_counter : cL := [(73, df_ref5Text)]
def env_ref12_counter : Env := envOf tab sl sh [(43, fd43)] [(73, .pure)]
theorem env_ref12_counter_ok : EnvOK Tryz.prog (mkD cs_ref12_counter sZ) env_ref12_counter := envOK_of base (aC (st43.okl rfl aN) aN) (aC (okD rfl ok_ref5Text) aN)
theorem run_ref12_counter (x : Counter) : Out.run (mkO cs_ref12_counter sZ) (evOrc env_ref12_counter 12 20 43 ((DA.one (DT.agg dc_Counter) : DA TL (Counter)).enc x)) (DA.one dB : DA TL (Bool)).dec = un_ref12_counter x := by kernel_rfl
theorem ok_ref12_counter : DOK Tryz.prog 43 .pure df_ref12_counter := data_of env_ref12_counter_ok (loops := 12) (n := 20) (.inr rfl) st43.enters (DA.one (DT.agg dc_Counter)) un_ref12_counter (DA.one dB) run_ref12_counter
def step_L44_2 (s1 : ByteArray) (i1 : Int) (i2 : Int) (bx1 : Book) : Option ((ByteArray × Int × Int × Book) ⊕ (((Int × Book) ⊕ (Int × Book)))) :=
 cond ((decide (i2 < (bx1.counters.length : Int))))
 (cond (decide (0 ≤ i2))
 (ob (bx1.counters[i2.toNat]?) fun e0 =>
 cond ((sEq e0.key s1))
 (some (.inr (.inr (i2, bx1))))
 (some (.inl (s1, i1, (w64 (i2 + 1)), bx1))))
 none)
 (some (.inr (.inl (i1, bx1))))
def stp_L44_2 (p : ByteArray × Int × Int × Book) : Option ((ByteArray × Int × Int × Book) ⊕ (((Int × Book) ⊕ (Int × Book)))) := step_L44_2 p.1 p.2.1 p.2.2.1 p.2.2.2
def L44_2 (s1 : ByteArray) (i1 : Int) (i2 : Int) (bx1 : Book) : Option (((Int × Book) ⊕ (Int × Book))) := iterO stp_L44_2 (1099511627776) (s1, i1, i2, bx1)
def ch_L44_2 : Cod (Cst TL) (ByteArray × Int × Int × Book) := Cod.iso (Cod.cst 1 (kC (Cod.xs (Cod.sc (Cod.im Cod.str))) (kC (Cod.xs (Cod.sc (Cod.ptr 0 0))) (kC kI (kC kI kN)))) (kC (Cod.var 0 29 cc_Book) kN)) (fun p => (p.1.1, p.1.2.2.1, p.1.2.2.2.1, p.2.1)) (fun (x : ByteArray × Int × Int × Book) => ((x.1, ((), (x.2.1, (x.2.2.1, ())))), (x.2.2.2, ()))) (fun _ => rfl)
def co0_L44_2 : Cod (Cst TL) (Int × Book) := Cod.iso (Cod.cst 2 (kC kI kN) (kC (Cod.var 0 29 cc_Book) kN)) (fun p => (p.1.1, p.2.1)) (fun (x : Int × Book) => ((x.1, ()), (x.2, ()))) (fun _ => rfl)
def co1_L44_2 : Cod (Cst TL) (Int × Book) := Cod.iso (Cod.cst 2 (kC kI kN) (kC (Cod.var 0 29 cc_Book) kN)) (fun p => (p.1.1, p.2.1)) (fun (x : Int × Book) => ((x.1, ()), (x.2, ()))) (fun _ => rfl)
def sl_L44_2 : SFn TL := SFn.two ch_L44_2.dec (fun p => L44_2 p.1 p.2.1 p.2.2.1 p.2.2.2) (.exit 0) .ret co0_L44_2.enc co1_L44_2.enc
def env_lL44_2 : Env := envOf tab sl sh [] []
theorem env_lL44_2_ok : EnvOK Tryz.prog (mkD cZ sZ) env_lL44_2 := envOK_of base aN aN
theorem run_L44_2 (x : ByteArray × Int × Int × Book) : Out.run (mkO cZ sZ) (evRound env_lL44_2 12 20 fd44.an q_L44_2 (loopIn (loopsOf fd44.body) 2) (ch_L44_2.enc x)) (back2 ch_L44_2 co0_L44_2 co1_L44_2 (.exit 0) .ret) = stp_L44_2 x := by kernel_rfl
theorem ok_L44_2 : LoopOK Tryz.prog (oneS sl_L44_2) nt44 q_L44_2 (loopIn (loopsOf fd44.body) 2) :=
  loop_two env_lL44_2_ok (loops := 12) (k := 20) (an := fd44.an) (by kernel_rfl) (FnSt.subl rfl st44.keys (aC (.inl (by kernel_rfl)) aN)) ch_L44_2 co0_L44_2 co1_L44_2 (.exit 0) .ret rfl rfl stp_L44_2 _ run_L44_2 (fun x y h => ⟨_, h⟩) (fun _ => below_iff.1 rfl)
def ref12_place (bx1 : Book) (s1 : ByteArray) : Option (Int) :=
 ob (L44_2 s1 0 0 bx1) fun y0 =>
 two y0 (fun a1 =>
 some (-1)) (fun b2 =>
 some b2.1)
def un_ref12_place (p : Book × ByteArray) : Option (Int) := ref12_place p.1 p.2
def df_ref12_place : DFn TL := DFn.of (DA.cons (DT.agg dc_Book) (DA.one (DT.one DI.str))) un_ref12_place (DA.one dI)
def ss_ref12_place : sL := [(144002, sl_L44_2)]
def env_ref12_place : Env := envOf tab sl sh [(44, fd44)] []
theorem env_ref12_place_ok : EnvOK Tryz.prog (mkD cZ ss_ref12_place) env_ref12_place := envOK_of base (aC (st44.okl rfl (aC (LoopOK.cast ok_L44_2 rfl) aN)) aN) aN
theorem run_ref12_place (x : Book × ByteArray) : Out.run (mkO cZ ss_ref12_place) (evOrc env_ref12_place 12 20 44 ((DA.cons (DT.agg dc_Book) (DA.one (DT.one DI.str)) : DA TL (Book × ByteArray)).enc x)) (DA.one dI : DA TL (Int)).dec = un_ref12_place x := by kernel_rfl
theorem ok_ref12_place : DOK Tryz.prog 44 .pure df_ref12_place := data_of env_ref12_place_ok (loops := 12) (n := 20) (.inr rfl) st44.enters (DA.cons (DT.agg dc_Book) (DA.one (DT.one DI.str))) un_ref12_place (DA.one dI) run_ref12_place
def step_L76_5 (l1 : List Counter) (i1 : Int) (i2 : Int) (i3 : Int) (bx1 : Book) (bx2 : Book) : Option (((List Counter) × Int × Int × Int × Book × Book) ⊕ (((Int × Int × Book × Book) ⊕ (Int × Int × Book × Book × (List Counter) × (List Range) × (List Lease) × (List Int))))) :=
 cond ((decide (i3 < (l1.length : Int))))
 (cond (decide (0 ≤ i3))
 (ob (l1[i3.toNat]?) fun e0 =>
 ob (ref12_counter e0) fun r1 =>
 cond ((!r1))
 (some (.inr (.inr (i1, 1, (Book.mk [] [] [] []), bx2, bx1.counters, bx1.free, bx1.leases, bx1.bound))))
 (cond (decide (0 ≤ i3))
 (ob (l1[i3.toNat]?) fun e2 =>
 ob (ref12_place bx2 e2.key) fun r3 =>
 cond ((decide (r3 ≥ 0)))
 (some (.inr (.inr (i1, 7, (Book.mk [] [] [] []), bx2, bx1.counters, bx1.free, bx1.leases, bx1.bound))))
 (cond (decide (0 ≤ i3))
 (ob (l1[i3.toNat]?) fun e4 =>
 cond (fits ((bx2.counters ++ [(Counter.mk e4.key e4.coll e4.lo e4.hi e4.start (w64 (e4.hi - e4.start)) (w64 (e4.start - e4.lo)))]).length))
 (some (.inl (l1, i1, i2, (w64 (i3 + 1)), bx1, (Book.mk (bx2.counters ++ [(Counter.mk e4.key e4.coll e4.lo e4.hi e4.start (w64 (e4.hi - e4.start)) (w64 (e4.start - e4.lo)))]) bx2.free bx2.leases bx2.bound))))
 none)
 none))
 none))
 none)
 (some (.inr (.inl (i1, i2, bx1, bx2))))
def stp_L76_5 (p : (List Counter) × Int × Int × Int × Book × Book) : Option (((List Counter) × Int × Int × Int × Book × Book) ⊕ (((Int × Int × Book × Book) ⊕ (Int × Int × Book × Book × (List Counter) × (List Range) × (List Lease) × (List Int))))) := step_L76_5 p.1 p.2.1 p.2.2.1 p.2.2.2.1 p.2.2.2.2.1 p.2.2.2.2.2
def L76_5 (l1 : List Counter) (i1 : Int) (i2 : Int) (i3 : Int) (bx1 : Book) (bx2 : Book) : Option (((Int × Int × Book × Book) ⊕ (Int × Int × Book × Book × (List Counter) × (List Range) × (List Lease) × (List Int)))) := iterO stp_L76_5 (((l1.length : Int) - i3).toNat + 2) (l1, i1, i2, i3, bx1, bx2)
def ch_L76_5 : Cod (Cst TL) ((List Counter) × Int × Int × Int × Book × Book) := Cod.iso (Cod.cst 10 (kC (Cod.xs (Cod.sc (Cod.im (Cod.fz j_lCounter)))) (kC kI (kC (Cod.xs (Cod.sc (Cod.ptr 0 0))) (kC kI (kC (Cod.xs (Cod.sc (Cod.ptr 1 0))) (kC kI kN)))))) (kC (Cod.var 0 29 (kC (Cod.ar 2) (kC (Cod.ar 3) (kC (Cod.ar 4) (kC (Cod.ar 5) kN))))) (kC (Cod.var 1 29 (kC (Cod.ar 6) (kC (Cod.ar 7) (kC (Cod.ar 8) (kC (Cod.ar 9) kN))))) (kC (Cod.arr 2 65 j_lCounter) (kC (Cod.arr 3 153 j_lRange) (kC (Cod.arr 4 43 j_lLease) (kC (Cod.arr 5 3 j_lInt) (kC (Cod.arr 6 65 j_lCounter) (kC (Cod.arr 7 153 j_lRange) (kC (Cod.arr 8 43 j_lLease) (kC (Cod.arr 9 3 j_lInt) kN))))))))))) (fun p => (p.1.1, p.1.2.1, p.1.2.2.2.1, p.1.2.2.2.2.2.1, (Book.mk p.2.2.2.1 p.2.2.2.2.1 p.2.2.2.2.2.1 p.2.2.2.2.2.2.1), (Book.mk p.2.2.2.2.2.2.2.1 p.2.2.2.2.2.2.2.2.1 (t8 p.2).1 (t8 p.2).2.1))) (fun (x : (List Counter) × Int × Int × Int × Book × Book) => ((x.1, (x.2.1, ((), (x.2.2.1, ((), (x.2.2.2.1, ())))))), (((), ((), ((), ((), ())))), (((), ((), ((), ((), ())))), (x.2.2.2.2.1.counters, (x.2.2.2.2.1.free, (x.2.2.2.2.1.leases, (x.2.2.2.2.1.bound, (x.2.2.2.2.2.counters, (x.2.2.2.2.2.free, (x.2.2.2.2.2.leases, (x.2.2.2.2.2.bound, ())))))))))))) (fun _ => rfl)
def co0_L76_5 : Cod (Cst TL) (Int × Int × Book × Book) := Cod.iso (Cod.cst 20 (kC kI (kC (Cod.xs (Cod.sc (Cod.ptr 0 0))) (kC kI (kC (Cod.xs (Cod.sc (Cod.ptr 1 0))) kN)))) (kC (Cod.var 0 29 (kC (Cod.ar 2) (kC (Cod.ar 3) (kC (Cod.ar 4) (kC (Cod.ar 5) kN))))) (kC (Cod.var 1 29 (kC (Cod.ar 19) (kC (Cod.ar 7) (kC (Cod.ar 8) (kC (Cod.ar 9) kN))))) (kC (Cod.arr 2 65 j_lCounter) (kC (Cod.arr 3 153 j_lRange) (kC (Cod.arr 4 43 j_lLease) (kC (Cod.arr 5 3 j_lInt) (kC (Cod.arr 7 153 j_lRange) (kC (Cod.arr 8 43 j_lLease) (kC (Cod.arr 9 3 j_lInt) (kC (Cod.arr 19 65 j_lCounter) kN))))))))))) (fun p => (p.1.1, p.1.2.2.1, (Book.mk p.2.2.2.1 p.2.2.2.2.1 p.2.2.2.2.2.1 p.2.2.2.2.2.2.1), (Book.mk (t8 p.2).2.1 p.2.2.2.2.2.2.2.1 p.2.2.2.2.2.2.2.2.1 (t8 p.2).1))) (fun (x : Int × Int × Book × Book) => ((x.1, ((), (x.2.1, ((), ())))), (((), ((), ((), ((), ())))), (((), ((), ((), ((), ())))), (x.2.2.1.counters, (x.2.2.1.free, (x.2.2.1.leases, (x.2.2.1.bound, (x.2.2.2.free, (x.2.2.2.leases, (x.2.2.2.bound, (x.2.2.2.counters, ())))))))))))) (fun _ => rfl)
def co1_L76_5 : Cod (Cst TL) (Int × Int × Book × Book × (List Counter) × (List Range) × (List Lease) × (List Int)) := Cod.iso (Cod.cst 24 (kC kI (kC (Cod.xs (Cod.sc (Cod.ptr 0 0))) (kC kI (kC (Cod.xs (Cod.sc (Cod.ptr 1 0))) kN)))) (kC (Cod.var 0 29 (kC (Cod.ar 19) (kC (Cod.ar 20) (kC (Cod.ar 21) (kC (Cod.ar 22) kN))))) (kC (Cod.var 1 29 (kC (Cod.ar 23) (kC (Cod.ar 7) (kC (Cod.ar 8) (kC (Cod.ar 9) kN))))) (kC (Cod.arr 2 65 j_lCounter) (kC (Cod.arr 3 153 j_lRange) (kC (Cod.arr 4 43 j_lLease) (kC (Cod.arr 5 3 j_lInt) (kC (Cod.arr 7 153 j_lRange) (kC (Cod.arr 8 43 j_lLease) (kC (Cod.arr 9 3 j_lInt) (kC (Cod.arr 19 65 j_lCounter) (kC (Cod.arr 20 153 j_lRange) (kC (Cod.arr 21 43 j_lLease) (kC (Cod.arr 22 3 j_lInt) (kC (Cod.arr 23 65 j_lCounter) kN))))))))))))))) (fun p => (p.1.1, p.1.2.2.1, (Book.mk (t8 p.2).2.1 (t8 p.2).2.2.1 (t8 p.2).2.2.2.1 (t8 p.2).2.2.2.2.1), (Book.mk (t8 p.2).2.2.2.2.2.1 p.2.2.2.2.2.2.2.1 p.2.2.2.2.2.2.2.2.1 (t8 p.2).1), p.2.2.2.1, p.2.2.2.2.1, p.2.2.2.2.2.1, p.2.2.2.2.2.2.1)) (fun (x : Int × Int × Book × Book × (List Counter) × (List Range) × (List Lease) × (List Int)) => ((x.1, ((), (x.2.1, ((), ())))), (((), ((), ((), ((), ())))), (((), ((), ((), ((), ())))), (x.2.2.2.2.1, (x.2.2.2.2.2.1, (x.2.2.2.2.2.2.1, (x.2.2.2.2.2.2.2, (x.2.2.2.1.free, (x.2.2.2.1.leases, (x.2.2.2.1.bound, (x.2.2.1.counters, (x.2.2.1.free, (x.2.2.1.leases, (x.2.2.1.bound, (x.2.2.2.1.counters, ())))))))))))))))) (fun _ => rfl)
def sl_L76_5 : SFn TL := SFn.two ch_L76_5.dec (fun p => L76_5 p.1 p.2.1 p.2.2.1 p.2.2.2.1 p.2.2.2.2.1 p.2.2.2.2.2) (.exit 0) .ret co0_L76_5.enc co1_L76_5.enc
def cs_lL76_5 : cL := [(43, df_ref12_counter), (44, df_ref12_place)]
def env_lL76_5 : Env := envOf tab sl sh [] [(43, .pure), (44, .pure)]
theorem env_lL76_5_ok : EnvOK Tryz.prog (mkD cs_lL76_5 sZ) env_lL76_5 := envOK_of base aN (aC (okD rfl ok_ref12_counter) (aC (okD rfl ok_ref12_place) aN))
theorem run_L76_5 (x : (List Counter) × Int × Int × Int × Book × Book) : Out.run (mkO cs_lL76_5 sZ) (evRound env_lL76_5 12 20 fd76.an q_L76_5 (loopIn (loopsOf fd76.body) 5) (ch_L76_5.enc x)) (back2 ch_L76_5 co0_L76_5 co1_L76_5 (.exit 0) .ret) = stp_L76_5 x := by kernel_rfl
theorem ok_L76_5 : LoopOK Tryz.prog (oneS sl_L76_5) nt76 q_L76_5 (loopIn (loopsOf fd76.body) 5) :=
  loop_two env_lL76_5_ok (loops := 12) (k := 20) (an := fd76.an) (by kernel_rfl) (FnSt.subl rfl st76.keys (aC (.inl (by kernel_rfl)) aN)) ch_L76_5 co0_L76_5 co1_L76_5 (.exit 0) .ret rfl rfl stp_L76_5 _ run_L76_5 (fun x y h => ⟨_, h⟩) (fun _ => below_iff.1 rfl)
def ref12New (l1 : List Counter) (i1 : Int) : Option (Book × Int) :=
 cond ((decide ((l1.length : Int) > 4)))
 (some ((Book.mk [] [] [] []), 4))
 (ob (L76_5 l1 i1 0 0 (Book.mk [] [] [] []) (Book.mk [] [] [] [])) fun y0 =>
 two y0 (fun a1 =>
 cond ((cond (decide (a1.1 < 0)) true (decide (a1.1 > 1000))))
 (some ((Book.mk [] [] [] []), 1))
 (ob (ref11Add [] (Range.mk 0 a1.1)) fun r3 =>
 some ((Book.mk a1.2.2.2.counters r3 a1.2.2.2.leases a1.2.2.2.bound), 0))) (fun b2 =>
 some (b2.2.2.1, b2.2.1)))
def un_ref12New (p : (List Counter) × Int) : Option (Book × Int) := ref12New p.1 p.2
def df_ref12New : DFn TL := DFn.of (DA.cons (DT.one di_lCounter) (DA.one dI)) un_ref12New (DA.cons (DT.agg dc_Book) (DA.one dI))
def cs_ref12New : cL := [(125, df_ref11Add)]
def ss_ref12New : sL := [(176005, sl_L76_5)]
def env_ref12New : Env := envOf tab sl sh [(76, fd76)] [(125, .keep)]
theorem env_ref12New_ok : EnvOK Tryz.prog (mkD cs_ref12New ss_ref12New) env_ref12New := envOK_of base (aC (st76.okl rfl (aC (LoopOK.cast ok_L76_5 rfl) aN)) aN) (aC (okD rfl ok_ref11Add) aN)
theorem run_ref12New (x : (List Counter) × Int) : Out.run (mkO cs_ref12New ss_ref12New) (evOrc env_ref12New 12 20 76 ((DA.cons (DT.one di_lCounter) (DA.one dI) : DA TL ((List Counter) × Int)).enc x)) (DA.cons (DT.agg dc_Book) (DA.one dI) : DA TL (Book × Int)).dec = un_ref12New x := by kernel_rfl
theorem ok_ref12New : DOK Tryz.prog 76 .keep df_ref12New := data_of env_ref12New_ok (loops := 12) (n := 20) (.inl rfl) st76.enters (DA.cons (DT.one di_lCounter) (DA.one dI)) un_ref12New (DA.cons (DT.agg dc_Book) (DA.one dI)) run_ref12New
def l12Begin  : Option (Book) :=
 ob (ref12New [(Counter.mk s_a 0 0 20 10 0 0), (Counter.mk s_b 1 (-30) 30 0 0 0)] 40) fun r0 =>
 some r0.1
def un_l12Begin (_ : Unit) : Option (Book) := l12Begin
def df_l12Begin : DFn TL := DFn.of (DA.nil) un_l12Begin (DA.one (DT.agg dc_Book))
def cs_l12Begin : cL := [(76, df_ref12New)]
def env_l12Begin : Env := envOf tab sl sh [(37, fd37)] [(76, .keep)]
theorem env_l12Begin_ok : EnvOK Tryz.prog (mkD cs_l12Begin sZ) env_l12Begin := envOK_of base (aC (st37.okl rfl aN) aN) (aC (okD rfl ok_ref12New) aN)
theorem run_l12Begin (x : Unit) : Out.run (mkO cs_l12Begin sZ) (evOrc env_l12Begin 12 20 37 ((DA.nil : DA TL (Unit)).enc x)) (DA.one (DT.agg dc_Book) : DA TL (Book)).dec = un_l12Begin x := by kernel_rfl
theorem ok_l12Begin : DOK Tryz.prog 37 .keep df_l12Begin := data_of env_l12Begin_ok (loops := 12) (n := 20) (.inl rfl) st37.enters (DA.nil) un_l12Begin (DA.one (DT.agg dc_Book)) run_l12Begin
def l13Begin  : Option (Desk) :=
 ob (l12Begin) fun r0 =>
 some (Desk.mk r0 (A3Coll.mk (Coll.mk [] [] [] [] [] []) (Coll.mk [] [] [] [] [] []) (Coll.mk [] [] [] [] [] [])) [] (A6Device.mk (Device.mk 0 0 (Reply.mk 0 0 (Lease.mk 0 0 0 0 [] [] []))) (Device.mk 0 0 (Reply.mk 0 0 (Lease.mk 0 0 0 0 [] [] []))) (Device.mk 0 0 (Reply.mk 0 0 (Lease.mk 0 0 0 0 [] [] []))) (Device.mk 0 0 (Reply.mk 0 0 (Lease.mk 0 0 0 0 [] [] []))) (Device.mk 0 0 (Reply.mk 0 0 (Lease.mk 0 0 0 0 [] [] []))) (Device.mk 0 0 (Reply.mk 0 0 (Lease.mk 0 0 0 0 [] [] [])))) [] 0)
def un_l13Begin (_ : Unit) : Option (Desk) := l13Begin
def df_l13Begin : DFn TL := DFn.of (DA.nil) un_l13Begin (DA.one (DT.agg dc_Desk))
def cs_l13Begin : cL := [(37, df_l12Begin)]
def env_l13Begin : Env := envOf tab sl sh [(17, fd17)] [(37, .keep)]
theorem env_l13Begin_ok : EnvOK Tryz.prog (mkD cs_l13Begin sZ) env_l13Begin := envOK_of base (aC (st17.okl rfl aN) aN) (aC (okD rfl ok_l12Begin) aN)
theorem run_l13Begin (x : Unit) : Out.run (mkO cs_l13Begin sZ) (evOrc env_l13Begin 12 20 17 ((DA.nil : DA TL (Unit)).enc x)) (DA.one (DT.agg dc_Desk) : DA TL (Desk)).dec = un_l13Begin x := by kernel_rfl
theorem ok_l13Begin : DOK Tryz.prog 17 .keep df_l13Begin := data_of env_l13Begin_ok (loops := 12) (n := 20) (.inl rfl) st17.enters (DA.nil) un_l13Begin (DA.one (DT.agg dc_Desk)) run_l13Begin
def step_L3_14 (i1 : Int) (b1 : Bool) (i2 : Int) (i3 : Int) (d1 : Desk) : Option ((Int × Bool × Int × Int × Desk) ⊕ (((Int × Bool × Int × Desk) ⊕ (Int × Bool × Int × Desk)))) :=
 cond ((decide (i3 ≤ (w64 (i2 + 1)))))
 (ob (deskDo d1 (Cmd.mk 3 0 i3 0 0 [] [])) fun r0 =>
 cond ((r0.2.err != (cond (decide (i3 > i2)) 2 (cond (i3 == i2) 0 16))))
 (some (.inr (.inr (i1, false, i2, d1))))
 (some (.inl (i1, b1, i2, (w64 (i3 + 1)), d1))))
 (some (.inr (.inl (i1, b1, i2, d1))))
def stp_L3_14 (p : Int × Bool × Int × Int × Desk) : Option ((Int × Bool × Int × Int × Desk) ⊕ (((Int × Bool × Int × Desk) ⊕ (Int × Bool × Int × Desk)))) := step_L3_14 p.1 p.2.1 p.2.2.1 p.2.2.2.1 p.2.2.2.2
def L3_14 (i1 : Int) (b1 : Bool) (i2 : Int) (i3 : Int) (d1 : Desk) : Option (((Int × Bool × Int × Desk) ⊕ (Int × Bool × Int × Desk))) := iterO stp_L3_14 (1099511627776) (i1, b1, i2, i3, d1)
def ch_L3_14 : Cod (Cst TL) (Int × Bool × Int × Int × Desk) := Cod.iso (Cod.cst 1 (kC kI (kC (Cod.xs (Cod.sc (Cod.im Cod.bool))) (kC (Cod.xs (Cod.sc (Cod.ptr 0 0))) (kC kI (kC kI kN))))) (kC (Cod.var 0 50 cc_Desk) kN)) (fun p => (p.1.1, p.1.2.1, p.1.2.2.2.1, p.1.2.2.2.2.1, p.2.1)) (fun (x : Int × Bool × Int × Int × Desk) => ((x.1, (x.2.1, ((), (x.2.2.1, (x.2.2.2.1, ()))))), (x.2.2.2.2, ()))) (fun _ => rfl)
def co0_L3_14 : Cod (Cst TL) (Int × Bool × Int × Desk) := Cod.iso (Cod.cst 2 (kC kI (kC (Cod.xs (Cod.sc (Cod.im Cod.bool))) (kC (Cod.xs (Cod.sc (Cod.ptr 0 0))) (kC kI kN)))) (kC (Cod.var 0 50 cc_Desk) kN)) (fun p => (p.1.1, p.1.2.1, p.1.2.2.2.1, p.2.1)) (fun (x : Int × Bool × Int × Desk) => ((x.1, (x.2.1, ((), (x.2.2.1, ())))), (x.2.2.2, ()))) (fun _ => rfl)
def co1_L3_14 : Cod (Cst TL) (Int × Bool × Int × Desk) := Cod.iso (Cod.cst 2 (kC kI (kC (Cod.xs (Cod.sc (Cod.im Cod.bool))) (kC (Cod.xs (Cod.sc (Cod.ptr 0 0))) (kC kI kN)))) (kC (Cod.var 0 50 cc_Desk) kN)) (fun p => (p.1.1, p.1.2.1, p.1.2.2.2.1, p.2.1)) (fun (x : Int × Bool × Int × Desk) => ((x.1, (x.2.1, ((), (x.2.2.1, ())))), (x.2.2.2, ()))) (fun _ => rfl)
def sl_L3_14 : SFn TL := SFn.two ch_L3_14.dec (fun p => L3_14 p.1 p.2.1 p.2.2.1 p.2.2.2.1 p.2.2.2.2) (.exit 2) .ret co0_L3_14.enc co1_L3_14.enc
def cs_lL3_14 : cL := [(18, df_deskDo)]
def env_lL3_14 : Env := envOf tab sl sh [] [(18, .keep)]
theorem env_lL3_14_ok : EnvOK Tryz.prog (mkD cs_lL3_14 sZ) env_lL3_14 := envOK_of base aN (aC (okD rfl ok_deskDo) aN)
theorem run_L3_14 (x : Int × Bool × Int × Int × Desk) : Out.run (mkO cs_lL3_14 sZ) (evRound env_lL3_14 12 20 fd3.an q_L3_14 (loopIn (loopsOf fd3.body) 14) (ch_L3_14.enc x)) (back2 ch_L3_14 co0_L3_14 co1_L3_14 (.exit 2) .ret) = stp_L3_14 x := by kernel_rfl
theorem ok_L3_14 : LoopOK Tryz.prog (oneS sl_L3_14) nt3 q_L3_14 (loopIn (loopsOf fd3.body) 14) :=
  loop_two env_lL3_14_ok (loops := 12) (k := 20) (an := fd3.an) (by kernel_rfl) (FnSt.subl rfl st3.keys (aC (.inl (by kernel_rfl)) (aC (.inl (by kernel_rfl)) aN))) ch_L3_14 co0_L3_14 co1_L3_14 (.exit 2) .ret rfl rfl stp_L3_14 _ run_L3_14 (fun x y h => ⟨_, h⟩) (fun _ => below_iff.1 rfl)
def step_L3_6 (i1 : Int) (b1 : Bool) (i2 : Int) (d1 : Desk) : Option ((Int × Bool × Int × Desk) ⊕ (((Int × Bool × Desk) ⊕ (Int × Bool × Desk)))) :=
 cond ((decide (i2 ≤ i1)))
 (ob (deskDo d1 (Cmd.mk 1 0 0 (w64 ((w64 (2 * i2)) - 1)) 0 [] [])) fun r0 =>
 ob (deskDo r0.1 (Cmd.mk 1 0 0 (w64 (2 * i2)) 0 [] [])) fun r1 =>
 cond ((cond (r0.2.err != 0) true (cond (r0.2.n != i2) true (r1.2.err != 7))))
 (some (.inr (.inr (i1, false, d1))))
 (ob (L3_14 i1 b1 i2 0 r1.1) fun y2 =>
 two y2 (fun a3 =>
 cond ((decide (a3.2.2.1 < a3.1)))
 (ob (deskDo a3.2.2.2 (Cmd.mk 6 0 0 0 0 [] [])) fun r5 =>
 ob (deskDo r5.1 (Cmd.mk 6 0 0 0 0 [] [])) fun r6 =>
 cond ((cond (r5.2.err != 0) true (cond (r5.2.n != 0) true (r6.2.err != 7))))
 (some (.inr (.inr (a3.1, false, a3.2.2.2))))
 (some (.inl (a3.1, a3.2.1, (w64 (a3.2.2.1 + 1)), r5.1))))
 (some (.inl (a3.1, a3.2.1, (w64 (a3.2.2.1 + 1)), a3.2.2.2)))) (fun b4 =>
 some (.inr (.inr (b4.1, b4.2.1, b4.2.2.2))))))
 (some (.inr (.inl (i1, b1, d1))))
def stp_L3_6 (p : Int × Bool × Int × Desk) : Option ((Int × Bool × Int × Desk) ⊕ (((Int × Bool × Desk) ⊕ (Int × Bool × Desk)))) := step_L3_6 p.1 p.2.1 p.2.2.1 p.2.2.2
def L3_6 (i1 : Int) (b1 : Bool) (i2 : Int) (d1 : Desk) : Option (((Int × Bool × Desk) ⊕ (Int × Bool × Desk))) := iterO stp_L3_6 ((i1 - i2).toNat + 2) (i1, b1, i2, d1)
def ch_L3_6 : Cod (Cst TL) (Int × Bool × Int × Desk) := Cod.iso (Cod.cst 1 (kC kI (kC (Cod.xs (Cod.sc (Cod.im Cod.bool))) (kC (Cod.xs (Cod.sc (Cod.ptr 0 0))) (kC kI kN)))) (kC (Cod.var 0 50 cc_Desk) kN)) (fun p => (p.1.1, p.1.2.1, p.1.2.2.2.1, p.2.1)) (fun (x : Int × Bool × Int × Desk) => ((x.1, (x.2.1, ((), (x.2.2.1, ())))), (x.2.2.2, ()))) (fun _ => rfl)
def co0_L3_6 : Cod (Cst TL) (Int × Bool × Desk) := Cod.iso (Cod.cst 2 (kC kI (kC (Cod.xs (Cod.sc (Cod.im Cod.bool))) (kC (Cod.xs (Cod.sc (Cod.ptr 0 0))) kN))) (kC (Cod.var 0 50 cc_Desk) kN)) (fun p => (p.1.1, p.1.2.1, p.2.1)) (fun (x : Int × Bool × Desk) => ((x.1, (x.2.1, ((), ()))), (x.2.2, ()))) (fun _ => rfl)
def co1_L3_6 : Cod (Cst TL) (Int × Bool × Desk) := Cod.iso (Cod.cst 2 (kC kI (kC (Cod.xs (Cod.sc (Cod.im Cod.bool))) (kC (Cod.xs (Cod.sc (Cod.ptr 0 0))) kN))) (kC (Cod.var 0 50 cc_Desk) kN)) (fun p => (p.1.1, p.1.2.1, p.2.1)) (fun (x : Int × Bool × Desk) => ((x.1, (x.2.1, ((), ()))), (x.2.2, ()))) (fun _ => rfl)
def sl_L3_6 : SFn TL := SFn.two ch_L3_6.dec (fun p => L3_6 p.1 p.2.1 p.2.2.1 p.2.2.2) (.exit 0) .ret co0_L3_6.enc co1_L3_6.enc
def cs_lL3_6 : cL := [(18, df_deskDo)]
def ss_lL3_6 : sL := [(103014, sl_L3_14)]
def env_lL3_6 : Env := envOf tab sl sh [] [(18, .keep)]
theorem env_lL3_6_ok : EnvOK Tryz.prog (mkD cs_lL3_6 ss_lL3_6) env_lL3_6 := envOK_of base aN (aC (okD rfl ok_deskDo) aN)
theorem run_L3_6 (x : Int × Bool × Int × Desk) : Out.run (mkO cs_lL3_6 ss_lL3_6) (evRound env_lL3_6 12 20 fd3.an q_L3_6 (loopIn (loopsOf fd3.body) 6) (ch_L3_6.enc x)) (back2 ch_L3_6 co0_L3_6 co1_L3_6 (.exit 0) .ret) = stp_L3_6 x := by kernel_rfl
theorem ok_L3_6 : LoopOK Tryz.prog (oneS sl_L3_6) nt3 q_L3_6 (loopIn (loopsOf fd3.body) 6) :=
  loop_two env_lL3_6_ok (loops := 12) (k := 20) (an := fd3.an) (by kernel_rfl) (FnSt.subl rfl st3.keys (aC (.inl (by kernel_rfl)) (aC (.inr (LoopOK.cast ok_L3_14 rfl)) aN))) ch_L3_6 co0_L3_6 co1_L3_6 (.exit 0) .ret rfl rfl stp_L3_6 _ run_L3_6 (fun x y h => ⟨_, h⟩) (fun _ => below_iff.1 rfl)
def deskEpochs (i1 : Int) : Option (Bool) :=
 ob (known) fun r0 =>
 cond ((!r0))
 (some false)
 (ob (within i1 6) fun r1 =>
 ob (l13Begin) fun r2 =>
 ob (L3_6 (w64 (1 + r1)) false 1 r2) fun y3 =>
 two y3 (fun a4 =>
 ob (l13Begin) fun r6 =>
 ob (deskDo r6 (Cmd.mk 6 3 0 0 0 [] [])) fun r7 =>
 some (cond (r7.2.err == 2) ((a4.2.2.lost.length : Int) == (w64 (a4.1 - 1))) false)) (fun b5 =>
 some b5.2.1))
def un_deskEpochs (p : Int) : Option (Bool) := deskEpochs p
def df_deskEpochs : DFn TL := DFn.of (DA.one dI) un_deskEpochs (DA.one dB)
def cs_deskEpochs : cL := [(15, df_known), (16, df_within), (17, df_l13Begin), (18, df_deskDo)]
def ss_deskEpochs : sL := [(103006, sl_L3_6), (103014, sl_L3_14)]
def env_deskEpochs : Env := envOf tab sl sh [(3, fd3)] [(15, .pure), (16, .pure), (17, .keep), (18, .keep)]
theorem env_deskEpochs_ok : EnvOK Tryz.prog (mkD cs_deskEpochs ss_deskEpochs) env_deskEpochs := envOK_of base (aC (st3.okl rfl (aC (LoopOK.cast ok_L3_6 rfl) (aC (LoopOK.cast ok_L3_14 rfl) aN))) aN) (aC (okD rfl ok_known) (aC (okD rfl ok_within) (aC (okD rfl ok_l13Begin) (aC (okD rfl ok_deskDo) aN))))
theorem run_deskEpochs (x : Int) : Out.run (mkO cs_deskEpochs ss_deskEpochs) (evOrc env_deskEpochs 12 20 3 ((DA.one dI : DA TL (Int)).enc x)) (DA.one dB : DA TL (Bool)).dec = un_deskEpochs x := by kernel_rfl
theorem ok_deskEpochs : DOK Tryz.prog 3 .pure df_deskEpochs := data_of env_deskEpochs_ok (loops := 12) (n := 20) (.inr rfl) st3.enters (DA.one dI) un_deskEpochs (DA.one dB) run_deskEpochs

end

end Go.Proofs.YtcjpeijiaojeiaaGreat
