import Derived.Test.YtcpjdjnaipbieaaGreatP05
set_option linter.unusedVariables false
set_option linter.unusedSimpArgs false
namespace Go.Proofs.YtcpjdjnaipbieaaGreat
open Go.RowKit Rgn
set_option maxHeartbeats 4000000
set_option maxRecDepth 100000
variable {S:Nat → Prop} {W:World}
theorem l14longF (r:RF) :
  Calls Tryz.prog 129 #[rfV r] W (RetV (.bool (lgF r)) W):=by
 have bel:=b0 W
 go_enter Tryz.func129,Tryz.ntmps129
 refine gs 2 (Amb Z0 W) fun _ K1=>?_
 refine .bx rfl (fun H=>H.v 0 (rfV r)) ?_
 refine .mc rfl ?_
 refine .dk (fun u=>rfV r::u 0::u 1::us 26) K1 bel fun u1 w1 D bel=>?_
 obtain ⟨b2,E1_0,A2,B2⟩:=D.nw 0
 have E1_1:=D.q 1
 clear D
 rcases Bool.eq_false_or_eq_true (decide (80 < ((r.a.s.size:Nat):Int))) with c4 | c4
 ·
  have dc4:=of_decide_eq_true c4
  rcases Bool.eq_false_or_eq_true (decide (((r.a.s.size:Nat):Int) ≤ 1024)) with c5 | c5
  ·
   have dc5:=of_decide_eq_true c5
   refine gs 27 (Amb Z0 W) fun _ K3=>?_
   refine .fz rfl 1 0 E1_0 ?_
   refine .fj rfl 0 1 ?_
   refine .lc rfl 1 B2 ?_ (V:=.string r.a.s)
   refine .e rfl (V:=.int .i64 ((r.a.s.size:Nat):Int)) (fun H=>by have e5:=H.g 5 2; clear H; go_simp) ?_
   refine .e rfl (V:=.bool true) (fun H=>x_cm (H.g 6 3) (H.c _) c4) ?_
   refine .mv rfl 4 ?_
   refine .fz rfl 1 0 E1_0 ?_ (hg:=gq 5 rfl)
   refine .fj rfl 6 1 ?_ (hg:=gq 5 rfl)
   refine .lc rfl 7 B2 ?_ (V:=.string r.a.s) (hg:=gq 5 rfl)
   refine .e rfl (V:=.int .i64 ((r.a.s.size:Nat):Int)) (fun H=>by have e11:=H.g 11 8; clear H; go_simp) ?_ (hg:=gq 5 rfl)
   refine .e rfl (V:=.bool true) (fun H=>x_cm (H.g 12 9) (H.c _) c5) ?_ (hg:=gq 5 rfl)
   refine .e rfl (fun H=>x_pkT (H.g 8 5) (H.g 13 10)) ?_
   refine .mv rfl 11 ?_
   refine .sk rfl 12 ?_
   refine .sk rfl 12 ?_
   refine .sk rfl 12 ?_
   refine .sk rfl 12 ?_
   refine .sk rfl 12 ?_
   refine .su rfl 12 ?_
   refine .sn rfl 18 ?_
   refine .sn rfl 18 ?_
   refine .sn rfl 18 ?_
   refine .sn rfl 18 ?_
   refine .sn rfl 18 ?_
   refine .sk rfl 12 ?_
   refine .e rfl (fun H=>x_pkT (H.g 15 12) (H.c _)) ?_
   refine .mv rfl 25 ?_
   refine .dk (fun u=>rfV r::u1 0::u 26::sq u 0 26 []) K3 bel fun u2 w2 D bel=>?_
   have E2_26:=D.q 26
   clear D
   exact wp_ret (rt rfl E2_26 (lg_1 c4 c5) bel)
  ·
   have dc5:=of_decide_eq_false c5
   rcases Bool.eq_false_or_eq_true (decide (80 < ((r.b.s.size:Nat):Int))) with c6 | c6
   ·
    have dc6:=of_decide_eq_true c6
    refine gs 27 (Amb Z0 W) fun _ K3=>?_
    refine .fz rfl 1 0 E1_0 ?_
    refine .fj rfl 0 1 ?_
    refine .lc rfl 1 B2 ?_ (V:=.string r.a.s)
    refine .e rfl (V:=.int .i64 ((r.a.s.size:Nat):Int)) (fun H=>by have e5:=H.g 5 2; clear H; go_simp) ?_
    refine .e rfl (V:=.bool true) (fun H=>x_cm (H.g 6 3) (H.c _) c4) ?_
    refine .mv rfl 4 ?_
    refine .fz rfl 1 0 E1_0 ?_ (hg:=gq 5 rfl)
    refine .fj rfl 6 1 ?_ (hg:=gq 5 rfl)
    refine .lc rfl 7 B2 ?_ (V:=.string r.a.s) (hg:=gq 5 rfl)
    refine .e rfl (V:=.int .i64 ((r.a.s.size:Nat):Int)) (fun H=>by have e11:=H.g 11 8; clear H; go_simp) ?_ (hg:=gq 5 rfl)
    refine .e rfl (V:=.bool false) (fun H=>x_cm (H.g 12 9) (H.c _) c5) ?_ (hg:=gq 5 rfl)
    refine .e rfl (fun H=>x_pkT (H.g 8 5) (H.g 13 10)) ?_
    refine .mv rfl 11 ?_
    refine .fz rfl 1 2 E1_0 ?_ (hg:=gq 12 rfl)
    refine .fj rfl 13 3 ?_ (hg:=gq 12 rfl)
    refine .lc rfl 14 B2 ?_ (V:=.string r.b.s) (hg:=gq 12 rfl)
    refine .e rfl (V:=.int .i64 ((r.b.s.size:Nat):Int)) (fun H=>by have e18:=H.g 18 15; clear H; go_simp) ?_ (hg:=gq 12 rfl)
    refine .e rfl (V:=.bool true) (fun H=>x_cm (H.g 19 16) (H.c _) c6) ?_ (hg:=gq 12 rfl)
    refine .mv rfl 17 ?_ (hg:=gq 12 rfl)
    refine .fz rfl 1 2 E1_0 ?_ (hg:=gq 18 rfl)
    refine .fj rfl 19 3 ?_ (hg:=gq 18 rfl)
    refine .lc rfl 20 B2 ?_ (V:=.string r.b.s) (hg:=gq 18 rfl)
    refine .e rfl (V:=.int .i64 ((r.b.s.size:Nat):Int)) (fun H=>by have e24:=H.g 24 21; clear H; go_simp) ?_ (hg:=gq 18 rfl)
    refine .e rfl (V:=.bool (decide (((r.b.s.size:Nat):Int) ≤ 1024))) (fun H=>x_cmp (H.g 25 22) (H.c _)) ?_ (hg:=gq 18 rfl)
    refine .e rfl (fun H=>x_pkT (H.g 21 18) (H.g 26 23)) ?_ (hg:=gq 12 rfl)
    refine .e rfl (fun H=>x_pkF (H.g 15 12) (H.g 27 24)) ?_
    refine .mv rfl 25 ?_
    refine .dk (fun u=>rfV r::u1 0::u 26::sq u 0 26 []) K3 bel fun u2 w2 D bel=>?_
    have E2_26:=D.q 26
    clear D
    exact wp_ret (rt rfl E2_26 (lg_2 c4 c5 c6) bel)
   ·
    have dc6:=of_decide_eq_false c6
    refine gs 27 (Amb Z0 W) fun _ K3=>?_
    refine .fz rfl 1 0 E1_0 ?_
    refine .fj rfl 0 1 ?_
    refine .lc rfl 1 B2 ?_ (V:=.string r.a.s)
    refine .e rfl (V:=.int .i64 ((r.a.s.size:Nat):Int)) (fun H=>by have e5:=H.g 5 2; clear H; go_simp) ?_
    refine .e rfl (V:=.bool true) (fun H=>x_cm (H.g 6 3) (H.c _) c4) ?_
    refine .mv rfl 4 ?_
    refine .fz rfl 1 0 E1_0 ?_ (hg:=gq 5 rfl)
    refine .fj rfl 6 1 ?_ (hg:=gq 5 rfl)
    refine .lc rfl 7 B2 ?_ (V:=.string r.a.s) (hg:=gq 5 rfl)
    refine .e rfl (V:=.int .i64 ((r.a.s.size:Nat):Int)) (fun H=>by have e11:=H.g 11 8; clear H; go_simp) ?_ (hg:=gq 5 rfl)
    refine .e rfl (V:=.bool false) (fun H=>x_cm (H.g 12 9) (H.c _) c5) ?_ (hg:=gq 5 rfl)
    refine .e rfl (fun H=>x_pkT (H.g 8 5) (H.g 13 10)) ?_
    refine .mv rfl 11 ?_
    refine .fz rfl 1 2 E1_0 ?_ (hg:=gq 12 rfl)
    refine .fj rfl 13 3 ?_ (hg:=gq 12 rfl)
    refine .lc rfl 14 B2 ?_ (V:=.string r.b.s) (hg:=gq 12 rfl)
    refine .e rfl (V:=.int .i64 ((r.b.s.size:Nat):Int)) (fun H=>by have e18:=H.g 18 15; clear H; go_simp) ?_ (hg:=gq 12 rfl)
    refine .e rfl (V:=.bool false) (fun H=>x_cm (H.g 19 16) (H.c _) c6) ?_ (hg:=gq 12 rfl)
    refine .mv rfl 17 ?_ (hg:=gq 12 rfl)
    refine .sk rfl 18 ?_
    refine .sk rfl 18 ?_
    refine .sk rfl 18 ?_
    refine .sk rfl 18 ?_
    refine .sk rfl 18 ?_
    refine .e rfl (fun H=>x_pkF (H.g 21 18) (H.c _)) ?_ (hg:=gq 12 rfl)
    refine .e rfl (fun H=>x_pkF (H.g 15 12) (H.g 27 24)) ?_
    refine .mv rfl 25 ?_
    refine .dk (fun u=>rfV r::u1 0::u 26::sq u 0 26 []) K3 bel fun u2 w2 D bel=>?_
    have E2_26:=D.q 26
    clear D
    exact wp_ret (rt rfl E2_26 (lg_3 c4 c5 c6) bel)
 ·
  have dc4:=of_decide_eq_false c4
  rcases Bool.eq_false_or_eq_true (decide (80 < ((r.b.s.size:Nat):Int))) with c7 | c7
  ·
   have dc7:=of_decide_eq_true c7
   refine gs 27 (Amb Z0 W) fun _ K3=>?_
   refine .fz rfl 1 0 E1_0 ?_
   refine .fj rfl 0 1 ?_
   refine .lc rfl 1 B2 ?_ (V:=.string r.a.s)
   refine .e rfl (V:=.int .i64 ((r.a.s.size:Nat):Int)) (fun H=>by have e5:=H.g 5 2; clear H; go_simp) ?_
   refine .e rfl (V:=.bool false) (fun H=>x_cm (H.g 6 3) (H.c _) c4) ?_
   refine .mv rfl 4 ?_
   refine .sk rfl 5 ?_
   refine .sk rfl 5 ?_
   refine .sk rfl 5 ?_
   refine .sk rfl 5 ?_
   refine .sk rfl 5 ?_
   refine .e rfl (fun H=>x_pkF (H.g 8 5) (H.c _)) ?_
   refine .mv rfl 11 ?_
   refine .fz rfl 1 2 E1_0 ?_ (hg:=gq 12 rfl)
   refine .fj rfl 13 3 ?_ (hg:=gq 12 rfl)
   refine .lc rfl 14 B2 ?_ (V:=.string r.b.s) (hg:=gq 12 rfl)
   refine .e rfl (V:=.int .i64 ((r.b.s.size:Nat):Int)) (fun H=>by have e18:=H.g 18 15; clear H; go_simp) ?_ (hg:=gq 12 rfl)
   refine .e rfl (V:=.bool true) (fun H=>x_cm (H.g 19 16) (H.c _) c7) ?_ (hg:=gq 12 rfl)
   refine .mv rfl 17 ?_ (hg:=gq 12 rfl)
   refine .fz rfl 1 2 E1_0 ?_ (hg:=gq 18 rfl)
   refine .fj rfl 19 3 ?_ (hg:=gq 18 rfl)
   refine .lc rfl 20 B2 ?_ (V:=.string r.b.s) (hg:=gq 18 rfl)
   refine .e rfl (V:=.int .i64 ((r.b.s.size:Nat):Int)) (fun H=>by have e24:=H.g 24 21; clear H; go_simp) ?_ (hg:=gq 18 rfl)
   refine .e rfl (V:=.bool (decide (((r.b.s.size:Nat):Int) ≤ 1024))) (fun H=>x_cmp (H.g 25 22) (H.c _)) ?_ (hg:=gq 18 rfl)
   refine .e rfl (fun H=>x_pkT (H.g 21 18) (H.g 26 23)) ?_ (hg:=gq 12 rfl)
   refine .e rfl (fun H=>x_pkF (H.g 15 12) (H.g 27 24)) ?_
   refine .mv rfl 25 ?_
   refine .dk (fun u=>rfV r::u1 0::u 26::sq u 0 26 []) K3 bel fun u2 w2 D bel=>?_
   have E2_26:=D.q 26
   clear D
   exact wp_ret (rt rfl E2_26 (lg_4 c4 c7) bel)
  ·
   have dc7:=of_decide_eq_false c7
   refine gs 27 (Amb Z0 W) fun _ K3=>?_
   refine .fz rfl 1 0 E1_0 ?_
   refine .fj rfl 0 1 ?_
   refine .lc rfl 1 B2 ?_ (V:=.string r.a.s)
   refine .e rfl (V:=.int .i64 ((r.a.s.size:Nat):Int)) (fun H=>by have e5:=H.g 5 2; clear H; go_simp) ?_
   refine .e rfl (V:=.bool false) (fun H=>x_cm (H.g 6 3) (H.c _) c4) ?_
   refine .mv rfl 4 ?_
   refine .sk rfl 5 ?_
   refine .sk rfl 5 ?_
   refine .sk rfl 5 ?_
   refine .sk rfl 5 ?_
   refine .sk rfl 5 ?_
   refine .e rfl (fun H=>x_pkF (H.g 8 5) (H.c _)) ?_
   refine .mv rfl 11 ?_
   refine .fz rfl 1 2 E1_0 ?_ (hg:=gq 12 rfl)
   refine .fj rfl 13 3 ?_ (hg:=gq 12 rfl)
   refine .lc rfl 14 B2 ?_ (V:=.string r.b.s) (hg:=gq 12 rfl)
   refine .e rfl (V:=.int .i64 ((r.b.s.size:Nat):Int)) (fun H=>by have e18:=H.g 18 15; clear H; go_simp) ?_ (hg:=gq 12 rfl)
   refine .e rfl (V:=.bool false) (fun H=>x_cm (H.g 19 16) (H.c _) c7) ?_ (hg:=gq 12 rfl)
   refine .mv rfl 17 ?_ (hg:=gq 12 rfl)
   refine .sk rfl 18 ?_
   refine .sk rfl 18 ?_
   refine .sk rfl 18 ?_
   refine .sk rfl 18 ?_
   refine .sk rfl 18 ?_
   refine .e rfl (fun H=>x_pkF (H.g 21 18) (H.c _)) ?_ (hg:=gq 12 rfl)
   refine .e rfl (fun H=>x_pkF (H.g 15 12) (H.g 27 24)) ?_
   refine .mv rfl 25 ?_
   refine .dk (fun u=>rfV r::u1 0::u 26::sq u 0 26 []) K3 bel fun u2 w2 D bel=>?_
   have E2_26:=D.q 26
   clear D
   exact wp_ret (rt rfl E2_26 (lg_5 c4 c7) bel)
end Go.Proofs.YtcpjdjnaipbieaaGreat
namespace Go.Proofs.YtcpjdjnaipbieaaGreat
open Go.RowKit Rgn Eng
set_option maxHeartbeats 8000000
set_option maxRecDepth 100000
variable {S:Nat → Prop} {W:World}
theorem iOver {v0:Value} (c:Ci) (t0:(RingP c).p S v0 W) (p0:ht c.a + ht c.b.re + ht c.b.im + ht c.c ≤ 1073741824):Calls Tryz.prog 143 #[v0] W (Ret (MatP c.over) S W):=by
 have h1:=hc_conj c.b
 refine Run.goP (S:=S) (Pack.nil.s spRing t0) Tryz.func143 rfl ?_
 refine Run.dr ?_
 refine RunD.cR spNum (fun _ _ _ H=>eConj c.b (NumP.mk (H.f 1) (H.f 2)) (by first | omega | (dsimp only at *; omega))) ?_
 refine RunD.cR spNum (fun _ _ _ H=>eNeg c.b.conj (NumP.mk (H.f 4) (H.f 5)) (by first | omega | (dsimp only at *; omega))) ?_
 refine RunD.cO 2 softRat (fun _ _ _ H=>qNeg c.c (RatP.blk (H.oz 2)) (anyV (H.f 3)) (by first | omega | (dsimp only at *; omega))) ?_
 refine RunD.cRs [2] spNum (fun _ _ _ H=>eReal (-c.c) (H.s 2)) ?_
 refine RunD.cR spNum (fun _ _ _ H=>eReal c.a (H.f 0)) ?_
 refine RunD.en ?_
 exact Run.rR (fun _ _ _ H=>MatP.mk (H.f 6) (H.f 7) (H.f 9) (H.f 10) (H.f 11) (H.f 12) (H.f 1) (H.f 2))
theorem rgVal {v0 v1:Value} (c:Ci) (z:Cx) (t0:(RingP c).p S v0 W) (t1:(NumP z).p S v1 W) (p0:ht c.a + ht c.b.re + ht c.b.im + ht c.c + (ht z.re + ht z.im) ≤ 67108864):Calls Tryz.prog 265 #[v0,v1] W (Ret (RatP (c.val z)) S W):=by
 have h1:=hc_mul c.b z
 have h2:=hc_norm z
 have h3:=ht_mul c.a z.norm
 have h4:=ht_add (c.b.mul z).re (c.b.mul z).re
 refine Run.goP (S:=S) ((Pack.nil.s spRing t0).s spNum t1) Tryz.func265 rfl ?_
 refine Run.cR spNum (fun _ _ _ H=>eNMul c.b z (NumP.mk (H.f 1) (H.f 2)) (NumP.mk (H.f 4) (H.f 5)) (by first | omega | (dsimp only at *; omega))) ?_
 refine Run.cR sp2Rat (fun _ _ _ H=>eParts (c.b.mul z) (NumP.mk (H.f 6) (H.f 7))) ?_
 refine Run.dr ?_
 refine RunD.cR spRat (fun _ _ _ H=>eNorm z (NumP.mk (H.f 4) (H.f 5)) (by first | omega | (dsimp only at *; omega))) ?_
 refine RunD.cR spRat (fun _ _ _ H=>eMul c.a z.norm (RatP.n (H.f 0)) (RatP.n (H.f 10)) (by first | omega | (dsimp only at *; omega))) ?_
 refine RunD.cR spRat (fun _ _ _ H=>eTwice ((c.b.mul z).re) (H.f 8) (by first | omega | (dsimp only at *; omega))) ?_
 refine RunD.cR spRat (fun _ _ _ H=>retZ (eSum3 (c.a * z.norm) (((c.b.mul z).re) + ((c.b.mul z).re)) c.c (RatsP.mk3 (H.b 2) (H.f 11) (H.f 12) (H.f 3)) (by first | omega | (dsimp only at *; omega)))) ?_
 refine RunD.en ?_
 exact Run.rR (fun _ _ _ H=>VPe (φ:=RatP) (val_eq c z) (H.f 13))
theorem rgSide {v0 v1:Value} (c:Ci) (p:Pn) (t0:(RingP c).p S v0 W) (t1:(PlaceP p).p S v1 W) (p0:ht c.a + ht c.b.re + ht c.b.im + ht c.c + (ht p.z.re + ht p.z.im) ≤ 67108864):Calls Tryz.prog 212 #[v0,v1] W (RetV (.int .i64 (c.side p)) W):=by
 refine Run.goP (S:=S) ((Pack.nil.s spRing t0).s spPlace t1) Tryz.func212 rfl ?_
 refine (Bool.eq_false_or_eq_true (p.inf)).elim (fun c1=>?_) (fun c1=>?_)
 · refine Run.kn c1 ?_
   refine Run.cV [.int .i64 c.a.num.sign] kb (fun _ _ _ H=>qSign c.a (H.f 0)) ?_
   exact Run.rV (side_1 c1)
 · refine Run.kn c1 ?_
   refine Run.cR spRat (fun _ _ _ H=>rgVal c p.z (RingP.mk (H.f 0) (H.f 1) (H.f 2) (H.f 3)) (NumP.mk (H.f 4) (H.f 5)) p0) ?_
   refine Run.cV [.int .i64 ((c.val p.z).num.sign)] kb (fun _ _ _ H=>qSign (c.val p.z) (H.f 6)) ?_
   exact Run.rV (side_0 c1)
theorem plTold {v0:Value} (p:Pn) (t0:(PlaceP p).p S v0 W) (p0:ht p.z.re + ht p.z.im ≤ 1073741824):Calls Tryz.prog 158 #[v0] W (RetV (.tuple #[rpnV (pncut p),.int .i64 (pnerr p)]) W):=by
 refine Run.goP (S:=S) (Pack.nil.s spPlace t0) Tryz.func158 rfl ?_
 refine (Bool.eq_false_or_eq_true (p.inf)).elim (fun c1=>?_) (fun c1=>?_)
 · refine Run.kn c1 ?_
   exact Run.rV (pcut_inf c1)
 · refine Run.kn c1 ?_
   refine Run.cV ((rgC (gcut p.z)).toList ++ [.int .i64 (gerr p.z)]) (.tup [.agg (ks 0 8),.o (.k 8)]) (fun _ _ _ H=>eTold p.z (NumP.mk (H.f 0) (H.f 1)) (by first | omega | (dsimp only at *; omega))) ?_
   exact Run.rV (pcut_num c1)
theorem eStill  : Calls Tryz.prog 183 #[] W (Ret (MatP (Mb.mk (Cx.ofInt (1:Int) (0:Int)) ⟨0,0⟩ ⟨0,0⟩ (Cx.ofInt (1:Int) (0:Int)) false)) S W):=by
 refine Run.goP (S:=S) Pack.nil Tryz.func183 rfl ?_
 refine Run.cR spNum (fun _ _ _ H=>eInt 1 0 (by decide) (by decide) (by decide) (by decide)) ?_
 refine Run.cR spNum (fun _ _ _ H=>eInt 1 0 (by decide) (by decide) (by decide) (by decide)) ?_
 exact Run.rR (fun _ _ _ H=>MatP.mk (H.f 0) (H.f 1) (RatN.nil rfl) (RatN.nil rfl) (RatN.nil rfl) (RatN.nil rfl) (H.f 2) (H.f 3))
theorem ivIs (m:Mb) (p0:mbOk (rmb m) = true) :
  Calls Tryz.prog 25 #[mbV m] W (RetV (.tuple #[.agg #[.bool m.isR.a.a.n,.string m.isR.a.a.s,.bool m.isR.a.b.n,.string m.isR.a.b.s,.bool m.isR.b.re.a.n,.string m.isR.b.re.a.s,.bool m.isR.b.re.b.n,.string m.isR.b.re.b.s,.bool m.isR.b.im.a.n,.string m.isR.b.im.a.s,.bool m.isR.b.im.b.n,.string m.isR.b.im.b.s,.bool m.isR.c.a.n,.string m.isR.c.a.s,.bool m.isR.c.b.n,.string m.isR.c.b.s],.int .i64 m.isE]) W):=by
 have f:=mbfits_ht (mbOk_c p0).1
 have o1:ht (Cx.ofInt (1:Int) (0:Int)).re = 2:=by decide
 have o2:ht (Cx.ofInt (1:Int) (0:Int)).im = 2:=by decide
 have o3:ht (Cx.ofInt (0:Int) (1:Int)).re = 2:=by decide
 have o4:ht (Cx.ofInt (0:Int) (1:Int)).im = 2:=by decide
 have o5:ht (Rat.divInt (1:Int) (1:Int)) = 2:=by decide
 have o6:=ht_zero
 have k1:=hc_conj m.a
 have k2:=hc_sub (Cx.ofInt (1:Int) (0:Int)) m.a.conj
 have k30:=hc_mul m.b (Cx.ofInt (1:Int) (0:Int))
 have k40:=hc_neg (m.b.mul (Cx.ofInt (1:Int) (0:Int)))
 have k31:=hc_mul m.b ((Cx.ofInt (1:Int) (0:Int)).sub m.a.conj)
 have k41:=hc_neg (m.b.mul ((Cx.ofInt (1:Int) (0:Int)).sub m.a.conj))
 have k32:=hc_mul m.b (Cx.ofInt (0:Int) (1:Int))
 have k42:=hc_neg (m.b.mul (Cx.ofInt (0:Int) (1:Int)))
 refine Run.goP (S:=Z0) (Pack.nil.k (mbV m) (mbC m).toList (.s (.agg (ks 0 33)))) Tryz.func25 rfl ?_
 refine Run.cR spMatK (fun β ℓ w H=>eOpenO m p0) ?_
 refine Run.kn (b:=true) rfl ?_
 refine Run.dr ?_
 refine RunD.cR spRat (fun β ℓ w H=>qNewRat 1 1 (by decide) (by decide) (by decide) (by decide) (by decide)) ?_
 refine RunD.en ?_
 refine Run.cR spNum (fun β ℓ w H=>eInt 1 0 (by decide) (by decide) (by decide) (by decide)) ?_
 refine Run.cV [.bool m.c.zero] kb (fun β ℓ w H=>eZero m.c (NumP.mk (H.f 4) (H.f 5))) ?_
 rcases Bool.eq_false_or_eq_true m.c.zero with c1 | c1
 · refine Run.kn c1 ?_
   refine Run.dr ?_
   refine RunD.cR spNum (fun β ℓ w H=>eInt 1 0 (by decide) (by decide) (by decide) (by decide)) ?_
   refine RunD.cR spNum (fun β ℓ w H=>eConj m.a (NumP.mk (H.f 0) (H.f 1)) (by first | omega | (dsimp only at *; omega))) ?_
   refine RunD.cR spNum (fun β ℓ w H=>eSub (Cx.ofInt (1:Int) (0:Int)) m.a.conj (NumP.mk (H.f 11) (H.f 12)) (NumP.mk (H.f 13) (H.f 14)) (by first | omega | (dsimp only at *; omega))) ?_
   refine RunD.en ?_
   refine Run.cV [.bool ((Cx.ofInt (1:Int) (0:Int)).sub m.a.conj).zero] kb (fun β ℓ w H=>eZero ((Cx.ofInt (1:Int) (0:Int)).sub m.a.conj) (NumP.mk (H.f 15) (H.f 16))) ?_
   rcases Bool.eq_false_or_eq_true ((Cx.ofInt (1:Int) (0:Int)).sub m.a.conj).zero with c2 | c2
   · refine Run.kn c2 ?_
     refine Run.cR spNum (fun β ℓ w H=>eInt 0 1 (by decide) (by decide) (by decide) (by decide)) ?_
     refine Run.cR spNum (fun β ℓ w H=>eNMul m.b (Cx.ofInt (0:Int) (1:Int)) (NumP.mk (H.f 2) (H.f 3)) (NumP.mk (H.f 17) (H.f 18)) (by first | omega | (dsimp only at *; omega))) ?_
     refine Run.cR spNum (fun β ℓ w H=>eNeg (m.b.mul (Cx.ofInt (0:Int) (1:Int))) (NumP.mk (H.f 19) (H.f 20)) (by first | omega | (dsimp only at *; omega))) ?_
     refine Run.cR sp2Rat (fun β ℓ w H=>eParts ((m.b.mul (Cx.ofInt (0:Int) (1:Int))).neg) (NumP.mk (H.f 21) (H.f 22))) ?_
     rcases Bool.eq_false_or_eq_true m.t with c3 | c3
     · refine Run.kn c3 ?_
       refine Run.cV [.int .i64 ((m.b.mul (Cx.ofInt (0:Int) (1:Int))).neg).im.num.sign] kb (fun β ℓ w H=>qSign ((m.b.mul (Cx.ofInt (0:Int) (1:Int))).neg).im (H.f 24)) ?_
       refine Run.ic ((m.b.mul (Cx.ofInt (0:Int) (1:Int))).neg).im.num.sign 0 (((m.b.mul (Cx.ofInt (0:Int) (1:Int))).neg).im.num.sign != 0) ?_
       rcases Bool.eq_false_or_eq_true (((m.b.mul (Cx.ofInt (0:Int) (1:Int))).neg).im.num.sign != 0) with c4 | c4
       · refine Run.kn c4 ?_
         exact Run.rV (is_n (ok_i (is_w2 c1 c2) c4))
       refine Run.kn c4 ?_
       refine Run.se 5 ?_
       refine Run.cR spRat (fun β ℓ w H=>rgPow (Ci.mk (0:Rat) (Cx.ofInt (0:Int) (1:Int)) ((m.b.mul (Cx.ofInt (0:Int) (1:Int))).neg).re) (RingP.mk (H.rz 5) (H.f 17) (H.f 18) (H.f 23)) (by dsimp only at *; omega)) ?_
       refine Run.cV [.int .i64 (Ci.mk (0:Rat) (Cx.ofInt (0:Int) (1:Int)) ((m.b.mul (Cx.ofInt (0:Int) (1:Int))).neg).re).pow.num.sign] kb (fun β ℓ w H=>qSign (Ci.mk (0:Rat) (Cx.ofInt (0:Int) (1:Int)) ((m.b.mul (Cx.ofInt (0:Int) (1:Int))).neg).re).pow (H.f 25)) ?_
       refine Run.ic (Ci.mk (0:Rat) (Cx.ofInt (0:Int) (1:Int)) ((m.b.mul (Cx.ofInt (0:Int) (1:Int))).neg).re).pow.num.sign 0 (decide ((Ci.mk (0:Rat) (Cx.ofInt (0:Int) (1:Int)) ((m.b.mul (Cx.ofInt (0:Int) (1:Int))).neg).re).pow.num.sign ≤ 0)) ?_
       rcases Bool.eq_false_or_eq_true (decide ((Ci.mk (0:Rat) (Cx.ofInt (0:Int) (1:Int)) ((m.b.mul (Cx.ofInt (0:Int) (1:Int))).neg).re).pow.num.sign ≤ 0)) with c5 | c5
       · refine Run.kn c5 ?_
         exact Run.rV (is_n (ok_p (is_w2 c1 c2) c5))
       refine Run.kn c5 ?_
       refine Run.cV ((rciC (cicut (Ci.mk (0:Rat) (Cx.ofInt (0:Int) (1:Int)) ((m.b.mul (Cx.ofInt (0:Int) (1:Int))).neg).re).nrm)).toList ++ [.int .i64 (cierr (Ci.mk (0:Rat) (Cx.ofInt (0:Int) (1:Int)) ((m.b.mul (Cx.ofInt (0:Int) (1:Int))).neg).re).nrm)]) (.tup [.agg (ks 0 16),.o (.k 16)]) (fun β ℓ w H=>rgTold (Ci.mk (0:Rat) (Cx.ofInt (0:Int) (1:Int)) ((m.b.mul (Cx.ofInt (0:Int) (1:Int))).neg).re) (RingP.mk (H.rz 5) (H.f 17) (H.f 18) (H.f 23)) (by dsimp only at *; omega) (pos_flat (pos_of c5))) ?_
       refine Run.cR spRing (fun β ℓ w H=>rgNorm (Ci.mk (0:Rat) (Cx.ofInt (0:Int) (1:Int)) ((m.b.mul (Cx.ofInt (0:Int) (1:Int))).neg).re) (RingP.mk (H.rz 5) (H.f 17) (H.f 18) (H.f 23)) (by dsimp only at *; omega) (pos_flat (pos_of c5))) ?_
       refine Run.cR spMat (fun β ℓ w H=>iOver (Ci.mk (0:Rat) (Cx.ofInt (0:Int) (1:Int)) ((m.b.mul (Cx.ofInt (0:Int) (1:Int))).neg).re).nrm (RingP.mk (H.f 26) (H.f 27) (H.f 28) (H.f 29)) (Nat.le_trans (nrm_le (by dsimp only at *; omega)) (by decide))) ?_
       refine Run.cV ((rmbC (mbcut (Ci.mk (0:Rat) (Cx.ofInt (0:Int) (1:Int)) ((m.b.mul (Cx.ofInt (0:Int) (1:Int))).neg).re).nrm.over.nrm)).toList ++ [.int .i64 (mberr (Ci.mk (0:Rat) (Cx.ofInt (0:Int) (1:Int)) ((m.b.mul (Cx.ofInt (0:Int) (1:Int))).neg).re).nrm.over.nrm)]) (.tup [.agg (ks 0 33),.o (.k 33)]) (fun β ℓ w H=>mtTold (Ci.mk (0:Rat) (Cx.ofInt (0:Int) (1:Int)) ((m.b.mul (Cx.ofInt (0:Int) (1:Int))).neg).re).nrm.over (MatP.mk (H.f 30) (H.f 31) (H.f 32) (H.f 33) (H.f 34) (H.f 35) (H.f 36) (H.f 37)) (over_le (Nat.le_trans (nrm_le (by dsimp only at *; omega)) (by decide))) (over_piv (pos_nrm (pos_of c5)))) ?_
       refine Run.bi [.bool (!decide (mbcut (Ci.mk (0:Rat) (Cx.ofInt (0:Int) (1:Int)) ((m.b.mul (Cx.ofInt (0:Int) (1:Int))).neg).re).nrm.over.nrm = rmb m))] kb (fun w o ρ x y t' ho hx hy=>ex_neq_mb (r:=mbcut (Ci.mk (0:Rat) (Cx.ofInt (0:Int) (1:Int)) ((m.b.mul (Cx.ofInt (0:Int) (1:Int))).neg).re).nrm.over.nrm) (q:=rmb m) x y ho hx hy rfl) ?_
       rcases Bool.eq_false_or_eq_true (!decide (mbcut (Ci.mk (0:Rat) (Cx.ofInt (0:Int) (1:Int)) ((m.b.mul (Cx.ofInt (0:Int) (1:Int))).neg).re).nrm.over.nrm = rmb m)) with c6 | c6
       · refine Run.kn c6 ?_
         exact Run.rV (is_n (ok_b p0 (is_w2 c1 c2) c6))
       refine Run.kn c6 ?_
       exact Run.rV (is_y (is_w2 c1 c2) (ok_y p0 (is_w2 c1 c2) c3 c4 c5 c6))
     · refine Run.kn c3 ?_
       exact Run.rV (is_n (ok_t c3))
   · refine Run.kn c2 ?_
     refine Run.cR spNum (fun β ℓ w H=>eNMul m.b ((Cx.ofInt (1:Int) (0:Int)).sub m.a.conj) (NumP.mk (H.f 2) (H.f 3)) (NumP.mk (H.f 15) (H.f 16)) (by first | omega | (dsimp only at *; omega))) ?_
     refine Run.cR spNum (fun β ℓ w H=>eNeg (m.b.mul ((Cx.ofInt (1:Int) (0:Int)).sub m.a.conj)) (NumP.mk (H.f 17) (H.f 18)) (by first | omega | (dsimp only at *; omega))) ?_
     refine Run.cR sp2Rat (fun β ℓ w H=>eParts ((m.b.mul ((Cx.ofInt (1:Int) (0:Int)).sub m.a.conj)).neg) (NumP.mk (H.f 19) (H.f 20))) ?_
     rcases Bool.eq_false_or_eq_true m.t with c3 | c3
     · refine Run.kn c3 ?_
       refine Run.cV [.int .i64 ((m.b.mul ((Cx.ofInt (1:Int) (0:Int)).sub m.a.conj)).neg).im.num.sign] kb (fun β ℓ w H=>qSign ((m.b.mul ((Cx.ofInt (1:Int) (0:Int)).sub m.a.conj)).neg).im (H.f 22)) ?_
       refine Run.ic ((m.b.mul ((Cx.ofInt (1:Int) (0:Int)).sub m.a.conj)).neg).im.num.sign 0 (((m.b.mul ((Cx.ofInt (1:Int) (0:Int)).sub m.a.conj)).neg).im.num.sign != 0) ?_
       rcases Bool.eq_false_or_eq_true (((m.b.mul ((Cx.ofInt (1:Int) (0:Int)).sub m.a.conj)).neg).im.num.sign != 0) with c4 | c4
       · refine Run.kn c4 ?_
         exact Run.rV (is_n (ok_i (is_w1 c1 c2) c4))
       refine Run.kn c4 ?_
       refine Run.se 5 ?_
       refine Run.cR spRat (fun β ℓ w H=>rgPow (Ci.mk (0:Rat) ((Cx.ofInt (1:Int) (0:Int)).sub m.a.conj) ((m.b.mul ((Cx.ofInt (1:Int) (0:Int)).sub m.a.conj)).neg).re) (RingP.mk (H.rz 5) (H.f 15) (H.f 16) (H.f 21)) (by dsimp only at *; omega)) ?_
       refine Run.cV [.int .i64 (Ci.mk (0:Rat) ((Cx.ofInt (1:Int) (0:Int)).sub m.a.conj) ((m.b.mul ((Cx.ofInt (1:Int) (0:Int)).sub m.a.conj)).neg).re).pow.num.sign] kb (fun β ℓ w H=>qSign (Ci.mk (0:Rat) ((Cx.ofInt (1:Int) (0:Int)).sub m.a.conj) ((m.b.mul ((Cx.ofInt (1:Int) (0:Int)).sub m.a.conj)).neg).re).pow (H.f 23)) ?_
       refine Run.ic (Ci.mk (0:Rat) ((Cx.ofInt (1:Int) (0:Int)).sub m.a.conj) ((m.b.mul ((Cx.ofInt (1:Int) (0:Int)).sub m.a.conj)).neg).re).pow.num.sign 0 (decide ((Ci.mk (0:Rat) ((Cx.ofInt (1:Int) (0:Int)).sub m.a.conj) ((m.b.mul ((Cx.ofInt (1:Int) (0:Int)).sub m.a.conj)).neg).re).pow.num.sign ≤ 0)) ?_
       rcases Bool.eq_false_or_eq_true (decide ((Ci.mk (0:Rat) ((Cx.ofInt (1:Int) (0:Int)).sub m.a.conj) ((m.b.mul ((Cx.ofInt (1:Int) (0:Int)).sub m.a.conj)).neg).re).pow.num.sign ≤ 0)) with c5 | c5
       · refine Run.kn c5 ?_
         exact Run.rV (is_n (ok_p (is_w1 c1 c2) c5))
       refine Run.kn c5 ?_
       refine Run.cV ((rciC (cicut (Ci.mk (0:Rat) ((Cx.ofInt (1:Int) (0:Int)).sub m.a.conj) ((m.b.mul ((Cx.ofInt (1:Int) (0:Int)).sub m.a.conj)).neg).re).nrm)).toList ++ [.int .i64 (cierr (Ci.mk (0:Rat) ((Cx.ofInt (1:Int) (0:Int)).sub m.a.conj) ((m.b.mul ((Cx.ofInt (1:Int) (0:Int)).sub m.a.conj)).neg).re).nrm)]) (.tup [.agg (ks 0 16),.o (.k 16)]) (fun β ℓ w H=>rgTold (Ci.mk (0:Rat) ((Cx.ofInt (1:Int) (0:Int)).sub m.a.conj) ((m.b.mul ((Cx.ofInt (1:Int) (0:Int)).sub m.a.conj)).neg).re) (RingP.mk (H.rz 5) (H.f 15) (H.f 16) (H.f 21)) (by dsimp only at *; omega) (pos_flat (pos_of c5))) ?_
       refine Run.cR spRing (fun β ℓ w H=>rgNorm (Ci.mk (0:Rat) ((Cx.ofInt (1:Int) (0:Int)).sub m.a.conj) ((m.b.mul ((Cx.ofInt (1:Int) (0:Int)).sub m.a.conj)).neg).re) (RingP.mk (H.rz 5) (H.f 15) (H.f 16) (H.f 21)) (by dsimp only at *; omega) (pos_flat (pos_of c5))) ?_
       refine Run.cR spMat (fun β ℓ w H=>iOver (Ci.mk (0:Rat) ((Cx.ofInt (1:Int) (0:Int)).sub m.a.conj) ((m.b.mul ((Cx.ofInt (1:Int) (0:Int)).sub m.a.conj)).neg).re).nrm (RingP.mk (H.f 24) (H.f 25) (H.f 26) (H.f 27)) (Nat.le_trans (nrm_le (by dsimp only at *; omega)) (by decide))) ?_
       refine Run.cV ((rmbC (mbcut (Ci.mk (0:Rat) ((Cx.ofInt (1:Int) (0:Int)).sub m.a.conj) ((m.b.mul ((Cx.ofInt (1:Int) (0:Int)).sub m.a.conj)).neg).re).nrm.over.nrm)).toList ++ [.int .i64 (mberr (Ci.mk (0:Rat) ((Cx.ofInt (1:Int) (0:Int)).sub m.a.conj) ((m.b.mul ((Cx.ofInt (1:Int) (0:Int)).sub m.a.conj)).neg).re).nrm.over.nrm)]) (.tup [.agg (ks 0 33),.o (.k 33)]) (fun β ℓ w H=>mtTold (Ci.mk (0:Rat) ((Cx.ofInt (1:Int) (0:Int)).sub m.a.conj) ((m.b.mul ((Cx.ofInt (1:Int) (0:Int)).sub m.a.conj)).neg).re).nrm.over (MatP.mk (H.f 28) (H.f 29) (H.f 30) (H.f 31) (H.f 32) (H.f 33) (H.f 34) (H.f 35)) (over_le (Nat.le_trans (nrm_le (by dsimp only at *; omega)) (by decide))) (over_piv (pos_nrm (pos_of c5)))) ?_
       refine Run.bi [.bool (!decide (mbcut (Ci.mk (0:Rat) ((Cx.ofInt (1:Int) (0:Int)).sub m.a.conj) ((m.b.mul ((Cx.ofInt (1:Int) (0:Int)).sub m.a.conj)).neg).re).nrm.over.nrm = rmb m))] kb (fun w o ρ x y t' ho hx hy=>ex_neq_mb (r:=mbcut (Ci.mk (0:Rat) ((Cx.ofInt (1:Int) (0:Int)).sub m.a.conj) ((m.b.mul ((Cx.ofInt (1:Int) (0:Int)).sub m.a.conj)).neg).re).nrm.over.nrm) (q:=rmb m) x y ho hx hy rfl) ?_
       rcases Bool.eq_false_or_eq_true (!decide (mbcut (Ci.mk (0:Rat) ((Cx.ofInt (1:Int) (0:Int)).sub m.a.conj) ((m.b.mul ((Cx.ofInt (1:Int) (0:Int)).sub m.a.conj)).neg).re).nrm.over.nrm = rmb m)) with c6 | c6
       · refine Run.kn c6 ?_
         exact Run.rV (is_n (ok_b p0 (is_w1 c1 c2) c6))
       refine Run.kn c6 ?_
       exact Run.rV (is_y (is_w1 c1 c2) (ok_y p0 (is_w1 c1 c2) c3 c4 c5 c6))
     · refine Run.kn c3 ?_
       exact Run.rV (is_n (ok_t c3))
 · refine Run.kn c1 ?_
   refine Run.cR spNum (fun β ℓ w H=>eNMul m.b (Cx.ofInt (1:Int) (0:Int)) (NumP.mk (H.f 2) (H.f 3)) (NumP.mk (H.f 9) (H.f 10)) (by first | omega | (dsimp only at *; omega))) ?_
   refine Run.cR spNum (fun β ℓ w H=>eNeg (m.b.mul (Cx.ofInt (1:Int) (0:Int))) (NumP.mk (H.f 11) (H.f 12)) (by first | omega | (dsimp only at *; omega))) ?_
   refine Run.cR sp2Rat (fun β ℓ w H=>eParts ((m.b.mul (Cx.ofInt (1:Int) (0:Int))).neg) (NumP.mk (H.f 13) (H.f 14))) ?_
   rcases Bool.eq_false_or_eq_true m.t with c3 | c3
   · refine Run.kn c3 ?_
     refine Run.cV [.int .i64 ((m.b.mul (Cx.ofInt (1:Int) (0:Int))).neg).im.num.sign] kb (fun β ℓ w H=>qSign ((m.b.mul (Cx.ofInt (1:Int) (0:Int))).neg).im (H.f 16)) ?_
     refine Run.ic ((m.b.mul (Cx.ofInt (1:Int) (0:Int))).neg).im.num.sign 0 (((m.b.mul (Cx.ofInt (1:Int) (0:Int))).neg).im.num.sign != 0) ?_
     rcases Bool.eq_false_or_eq_true (((m.b.mul (Cx.ofInt (1:Int) (0:Int))).neg).im.num.sign != 0) with c4 | c4
     · refine Run.kn c4 ?_
       exact Run.rV (is_n (ok_i (is_w0 c1) c4))
     refine Run.kn c4 ?_
     refine Run.cR spRat (fun β ℓ w H=>rgPow (Ci.mk (Rat.divInt (1:Int) (1:Int)) m.d ((m.b.mul (Cx.ofInt (1:Int) (0:Int))).neg).re) (RingP.mk (H.f 8) (H.f 6) (H.f 7) (H.f 15)) (by dsimp only at *; omega)) ?_
     refine Run.cV [.int .i64 (Ci.mk (Rat.divInt (1:Int) (1:Int)) m.d ((m.b.mul (Cx.ofInt (1:Int) (0:Int))).neg).re).pow.num.sign] kb (fun β ℓ w H=>qSign (Ci.mk (Rat.divInt (1:Int) (1:Int)) m.d ((m.b.mul (Cx.ofInt (1:Int) (0:Int))).neg).re).pow (H.f 17)) ?_
     refine Run.ic (Ci.mk (Rat.divInt (1:Int) (1:Int)) m.d ((m.b.mul (Cx.ofInt (1:Int) (0:Int))).neg).re).pow.num.sign 0 (decide ((Ci.mk (Rat.divInt (1:Int) (1:Int)) m.d ((m.b.mul (Cx.ofInt (1:Int) (0:Int))).neg).re).pow.num.sign ≤ 0)) ?_
     rcases Bool.eq_false_or_eq_true (decide ((Ci.mk (Rat.divInt (1:Int) (1:Int)) m.d ((m.b.mul (Cx.ofInt (1:Int) (0:Int))).neg).re).pow.num.sign ≤ 0)) with c5 | c5
     · refine Run.kn c5 ?_
       exact Run.rV (is_n (ok_p (is_w0 c1) c5))
     refine Run.kn c5 ?_
     refine Run.cV ((rciC (cicut (Ci.mk (Rat.divInt (1:Int) (1:Int)) m.d ((m.b.mul (Cx.ofInt (1:Int) (0:Int))).neg).re).nrm)).toList ++ [.int .i64 (cierr (Ci.mk (Rat.divInt (1:Int) (1:Int)) m.d ((m.b.mul (Cx.ofInt (1:Int) (0:Int))).neg).re).nrm)]) (.tup [.agg (ks 0 16),.o (.k 16)]) (fun β ℓ w H=>rgTold (Ci.mk (Rat.divInt (1:Int) (1:Int)) m.d ((m.b.mul (Cx.ofInt (1:Int) (0:Int))).neg).re) (RingP.mk (H.f 8) (H.f 6) (H.f 7) (H.f 15)) (by dsimp only at *; omega) (pos_flat (pos_of c5))) ?_
     refine Run.cR spRing (fun β ℓ w H=>rgNorm (Ci.mk (Rat.divInt (1:Int) (1:Int)) m.d ((m.b.mul (Cx.ofInt (1:Int) (0:Int))).neg).re) (RingP.mk (H.f 8) (H.f 6) (H.f 7) (H.f 15)) (by dsimp only at *; omega) (pos_flat (pos_of c5))) ?_
     refine Run.cR spMat (fun β ℓ w H=>iOver (Ci.mk (Rat.divInt (1:Int) (1:Int)) m.d ((m.b.mul (Cx.ofInt (1:Int) (0:Int))).neg).re).nrm (RingP.mk (H.f 18) (H.f 19) (H.f 20) (H.f 21)) (Nat.le_trans (nrm_le (by dsimp only at *; omega)) (by decide))) ?_
     refine Run.cV ((rmbC (mbcut (Ci.mk (Rat.divInt (1:Int) (1:Int)) m.d ((m.b.mul (Cx.ofInt (1:Int) (0:Int))).neg).re).nrm.over.nrm)).toList ++ [.int .i64 (mberr (Ci.mk (Rat.divInt (1:Int) (1:Int)) m.d ((m.b.mul (Cx.ofInt (1:Int) (0:Int))).neg).re).nrm.over.nrm)]) (.tup [.agg (ks 0 33),.o (.k 33)]) (fun β ℓ w H=>mtTold (Ci.mk (Rat.divInt (1:Int) (1:Int)) m.d ((m.b.mul (Cx.ofInt (1:Int) (0:Int))).neg).re).nrm.over (MatP.mk (H.f 22) (H.f 23) (H.f 24) (H.f 25) (H.f 26) (H.f 27) (H.f 28) (H.f 29)) (over_le (Nat.le_trans (nrm_le (by dsimp only at *; omega)) (by decide))) (over_piv (pos_nrm (pos_of c5)))) ?_
     refine Run.bi [.bool (!decide (mbcut (Ci.mk (Rat.divInt (1:Int) (1:Int)) m.d ((m.b.mul (Cx.ofInt (1:Int) (0:Int))).neg).re).nrm.over.nrm = rmb m))] kb (fun w o ρ x y t' ho hx hy=>ex_neq_mb (r:=mbcut (Ci.mk (Rat.divInt (1:Int) (1:Int)) m.d ((m.b.mul (Cx.ofInt (1:Int) (0:Int))).neg).re).nrm.over.nrm) (q:=rmb m) x y ho hx hy rfl) ?_
     rcases Bool.eq_false_or_eq_true (!decide (mbcut (Ci.mk (Rat.divInt (1:Int) (1:Int)) m.d ((m.b.mul (Cx.ofInt (1:Int) (0:Int))).neg).re).nrm.over.nrm = rmb m)) with c6 | c6
     · refine Run.kn c6 ?_
       exact Run.rV (is_n (ok_b p0 (is_w0 c1) c6))
     refine Run.kn c6 ?_
     exact Run.rV (is_y (is_w0 c1) (ok_y p0 (is_w0 c1) c3 c4 c5 c6))
   · refine Run.kn c3 ?_
     exact Run.rV (is_n (ok_t c3))
end Go.Proofs.YtcpjdjnaipbieaaGreat
namespace Go.Proofs.YtcpjdjnaipbieaaGreat
open Go.RowKit Rgn
theorem own_low {n₀ sz k:Nat} {T:TypeId} {w w' : World} {v:Value} {cs:List Value} (h:w.ownsRow n₀ T sz v k cs) (g:RowKit.Below w.heap.size w w'):w'.ownsRow n₀ T sz v k cs:=by
 refine ⟨h.1,?_⟩
 rcases h.2 with h1 | ⟨b,cap,cur,h1,h2,h3,h4⟩
 ·exact .inl h1
 ·exact .inr ⟨b,cap,cur,h1,h2,(g.block b (lt_of h3)).trans h3,h4⟩
theorem own_open {n₀ sz k:Nat} {T:TypeId} {w:World} {v:Value} {cs:List Value} (h:w.ownsRow n₀ T sz v k cs) (hk:k ≠ 0) :
  ∃ b cap cur,v = .slice (some ⟨b,0,none⟩) k cap ∧ n₀ ≤ b ∧ w.heap[b]? = some (.cells cur T (0,0)) ∧ cur.toList.take cs.length = cs:=by
 rcases h.2 with ⟨_,h1⟩ | ⟨b,cap,cur,h1,h2,h3,h4,h5,h6,h7⟩
 ·exact absurd h1 hk
 ·exact ⟨b,cap,cur,h1,h2,h3,by rw [h.1]; exact h7⟩
def AllG:List Ci → List Value → (Nat → Prop) → World → Prop
 | [],[],_,_=>True
 | c :: l,v0 :: v1 :: v2 :: v3 :: vs,S,w=>(RingP c).p S (.agg #[v0,v1,v2,v3]) w ∧ AllG l vs S w
 | _,_,_,_=>False
def RetRow (T:TypeId) (n:Nat) (r:Value) (l:List Ci) (S:Nat → Prop) (W:World) (e:Ending) (w' : World):Prop :=
 ∃ b cap cur vs,e = .returned (.tuple #[.slice (some ⟨b,0,none⟩) n cap,r]) ∧ W.heap.size ≤ b ∧ w'.heap[b]? = some (.cells cur T (0,0)) ∧ cur.toList.take vs.length = vs ∧ AllG l vs (fun k=>S k ∨ W.heap.size ≤ k) w' ∧ RowKit.Below W.heap.size W w'
theorem AllG.cons {c:Ci} {l:List Ci} {vs:List Value} {S:Nat → Prop} {w:World} (h:AllG (c :: l) vs S w):∃ (b0:Nat) (v1 v2:Value) (b3:Nat) (vs' : List Value),vs = pt b0 :: v1 :: v2 :: pt b3 :: vs' ∧ S b0 ∧ S b3 ∧ (RatP c.a).p (· = b0) (pt b0) w ∧ (RatN c.b.re).p S v1 w ∧ (RatN c.b.im).p S v2 w ∧ (RatP c.c).p (· = b3) (pt b3) w ∧ AllG l vs' S w:=by
 match vs,h with
 | v0 :: v1 :: v2 :: v3 :: vs,⟨h1,h2⟩ =>
  obtain ⟨b0,y1,y2,b3,e,k1,k2,m0,m1,m2,m3⟩:=RingP.elim h1
  simp only [Value.agg.injEq,Array.mk.injEq,List.cons.injEq,and_true] at e
  obtain ⟨rfl,rfl,rfl,rfl⟩:=e
  exact ⟨b0,v1,v2,b3,vs,rfl,k1,k2,m0,m1,m2,m3,h2⟩
theorem AllG.nil {vs:List Value} {S:Nat → Prop} {w:World} (h:AllG [] vs S w):vs = []:=by
 match vs,h with
 | [],_=>rfl
section
variable {P:Program} {ops:Array Oper} {Q:Exit → Act → World → Prop} {o:Oper} {rest:List Oper} {a:Act} {w:World}
theorem wpT_apR {T TS:TypeId} {n₀ k b:Nat} {s x:Operand} {v v0 v1 v2 v3:Value} {cs:List Value} (bt:Nat) (hg:o.guard = none) (ho:o.op = .call { callee:=.builtin .append,args:=#[s,x],argTypes:=#[TS,TS] }) (hs:a.eval s = v) (hx:a.eval x = .slice (some ⟨b,0,none⟩) 1 1)
  (O:w.ownsRow n₀ T 4 v k cs) (hB:w.heap[b]? = some (.cells #[v0,v1,v2,v3] T (0,0))) (h0:v0.oneCell' = true) (h1:v1.oneCell' = true) (h2:v2.oneCell' = true) (h3:v3.oneCell' = true) (hn:n₀ ≤ w.heap.size) (hk:k ≤ 100000)
  (hu:sliceE P TS = some T) (hi:(P.info? T).map (fun i=>(i.zero.map (·.cells.size),i.size,i.bytes)) = some (some 4,4,bt)) (hb:bt ≤ 100000) (hL:Rgn.Loc T = true)
  (h:∀ v' w', w'.ownsRow n₀ T 4 v' (k + 1) (cs ++ [v0,v1,v2,v3]) → RowKit.Below n₀ w w' → (∀ S,GrowS S w w') → wpList P ops Q rest (a.put o.dst v') w'):wpList P ops Q (o :: rest) a w:=by
 cases hie:P.info? T with
 | none=>rw [hie] at hi; cases hi
 | some i =>
  rw [hie] at hi
  simp only [Option.map_some,Option.some.injEq,Prod.mk.injEq] at hi
  obtain ⟨hz,hsz,hby⟩:=hi
  cases hzz:i.zero with
  | none=>rw [hzz] at hz; cases hz
  | some z =>
   have hzs:z.cells.size = 4:=by rw [hzz] at hz; exact Option.some.inj hz
   have hnews:∀ j u,[v0,v1,v2,v3][j]? = some u → w.cell? ((⟨b,0,none⟩:Addr).add j) = some u:=by
    intro j u hj
    rw [Addr.add_lit]
    simpa [World.cell?,hB] using hj
   have hone:∀ u ∈ [v0,v1,v2,v3],u.oneCell' = true:=by
    intro u hu
    simp only [List.mem_cons,List.not_mem_nil,or_false] at hu
    rcases hu with rfl | rfl | rfl | rfl <;> assumption
   obtain ⟨v', w', hrun,hown,r2,_⟩:=run_append_own (P:=P) w n₀ TS o.type T i z 4 bt (sliceE_ex hu) hie hzz hsz hby hzs (by decide) v k cs O ⟨b,0,none⟩ 1 1 [v0,v1,v2,v3] rfl hnews hone (by simp only [maxLen]; omega)
    (Nat.le_trans (Nat.mul_le_mul (show k + 1 ≤ 100001 by omega) hb) (by decide)) hn
   refine wpList_plain hg fun K hK=>?_
   simp only [Oper.wp,ex_append ho hs hx hrun,Oper.upon]
   refine hK _ _ (h v' w' hown ⟨r2.os,r2.tape,r2.output,r2.size,fun q hq=>r2.block q (Nat.lt_of_lt_of_le hq hn) (fun e=>?_)⟩ (fun S=>⟨r2.os,r2.tape,r2.output,r2.size,fun q hq=>?_⟩))
   ·have:=O.lt q e.symm; omega
   ·by_cases e:some q = v.ownBlock
    ·rcases O.2 with ⟨h4,_⟩ | ⟨b', cap,cur,h4,h5,h6,_⟩
     ·rw [h4] at e; simp [Value.ownBlock] at e
     ·rw [h4] at e
      have e:q = b' := by simpa [Value.ownBlock] using e
      subst e
      exact .inr (.inl ⟨_,_,_,h6,hL⟩)
    ·exact .inl (r2.block q hq e)
theorem wpT_row {f:FuncId} {args:Array Value} {T:TypeId} {n:Nat} {r:Value} {l:List Ci} {S:Nat → Prop} (hg:o.guard = none) (hr:(execOp a.eval o).run P w = .ok (.enter f args) w) (hc:Calls P f args w (RetRow T n r l S w))
  (h:∀ b cap cur vs w', w.heap.size ≤ b → w'.heap[b]? = some (.cells cur T (0,0)) → cur.toList.take vs.length = vs → AllG l vs (fun k=>S k ∨ w.heap.size ≤ k) w' → RowKit.Below w.heap.size w w' → wpList P ops Q rest (a.put o.dst (.tuple #[.slice (some ⟨b,0,none⟩) n cap,r])) w'):wpList P ops Q (o :: rest) a w:=by
 refine wpList_plain hg fun K hK=>?_
 simp only [Oper.wp,hr,Oper.upon]
 refine hc.mono fun e w' ⟨b,cap,cur,vs,he,h1,h2,h3,h4,h5⟩=>?_
 subst he
 exact hK _ _ (h b cap cur vs w' h1 h2 h3 h4 h5)
end
theorem x_ldq {P:Program} {ρ:Operand → Value} {o:Oper} {w:World} {x:Operand} {ty t:TypeId} {g off:Nat} {cur:Array Value} {vs us:List Value} {fr:Nat × Nat} (hx:ρ x = .pointer (some ⟨g,off,none⟩)) (hB:w.heap[g]? = some (.cells cur t fr)) (hQ:cur.toList.take vs.length = vs)
  (ho:o.op = .load ty x:=by rfl) (hd:aggB P ty = true:=by kernel_rfl) (hi:(P.info? ty).map (·.size) = some us.length:=by kernel_rfl) (hv:(vs.drop off).take us.length = us:=by rfl) (hn:(off + us.length).ble vs.length = true:=by rfl):(execOp ρ o).run P w = .ok (.value (.agg us.toArray)) w:=by
 obtain ⟨d,h1,h2⟩:=aggB_ex hd
 have hn:=Nat.le_of_ble_eq_true hn
 have hl:vs.length ≤ cur.size:=by
  have:=congrArg List.length hQ
  rw [List.length_take] at this
  simp at this; omega
 refine ex_load_part ty _ ho hx hB h1 (by cases d <;> first | rfl | cases h2) us.length hi (by omega) ?_
 apply Array.ext_getElem?
 intro k
 rw [Array.getElem?_extract]
 by_cases hk:k < us.length
 ·rw [if_pos (by omega)]
  have e1:us[k]? = vs[off + k]?:=by
   rw [← hv,List.getElem?_take_of_lt hk,List.getElem?_drop]
  have e2:vs[off + k]? = cur.toList[off + k]?:=by
   have h3:(cur.toList.take vs.length)[off + k]? = cur.toList[off + k]?:=List.getElem?_take_of_lt (by omega)
   rw [hQ] at h3
   exact h3
  simp [e1,e2]
 ·rw [if_neg (by omega)]
  simp; omega
end Go.Proofs.YtcpjdjnaipbieaaGreat
namespace Go.Proofs.YtcpjdjnaipbieaaGreat
open Go.RowKit Rgn
set_option maxHeartbeats 4000000
set_option maxRecDepth 100000
variable {S:Nat → Prop} {W:World}
theorem ivWhY {b1:Nat} (x:Ci) (y:Ci) (B1:W.heap[b1]? = some (.cells #[.bool (decide (x.a.num < 0)),.string (bS x.a.num.natAbs),.bool (decide ((x.a.den:Int) < 0)),.string (bS (x.a.den:Int).natAbs),.bool (decide (x.b.re.num < 0)),.string (bS x.b.re.num.natAbs),.bool (decide ((x.b.re.den:Int) < 0)),.string (bS (x.b.re.den:Int).natAbs),.bool (decide (x.b.im.num < 0)),.string (bS x.b.im.num.natAbs),.bool (decide ((x.b.im.den:Int) < 0)),.string (bS (x.b.im.den:Int).natAbs),.bool (decide (x.c.num < 0)),.string (bS x.c.num.natAbs),.bool (decide ((x.c.den:Int) < 0)),.string (bS (x.c.den:Int).natAbs),.bool (decide (y.a.num < 0)),.string (bS y.a.num.natAbs),.bool (decide ((y.a.den:Int) < 0)),.string (bS (y.a.den:Int).natAbs),.bool (decide (y.b.re.num < 0)),.string (bS y.b.re.num.natAbs),.bool (decide ((y.b.re.den:Int) < 0)),.string (bS (y.b.re.den:Int).natAbs),.bool (decide (y.b.im.num < 0)),.string (bS y.b.im.num.natAbs),.bool (decide ((y.b.im.den:Int) < 0)),.string (bS (y.b.im.den:Int).natAbs),.bool (decide (y.c.num < 0)),.string (bS y.c.num.natAbs),.bool (decide ((y.c.den:Int) < 0)),.string (bS (y.c.den:Int).natAbs)] 47 (0,0))) (p0:ciOk (rci x) = true) (p1:ciOk (rci y) = true) :
  Calls Tryz.prog 160 #[.slice (some ⟨b1,0,none⟩) 2 2] W (RetRow 203 2 (.int .i64 0) [x,y] S W):=by
 have X1:=lt_of B1
 have bel:=b0 W
 go_enter Tryz.func160,Tryz.ntmps160
 refine gs 2 (Amb S W) fun _ K2=>?_
 refine .mc rfl ?_
 refine .mc rfl ?_
 refine .dk (fun u=>.slice (some ⟨b1,0,none⟩) 2 2::U::u 0::u 1::us 27) K2 bel fun u1 w1 D bel=>?_
 have E1_0:=D.q 0
 have E1_1:=D.q 1
 replace B1:=D.k B1
 clear D
 refine gs 1 (Amb S W) fun _ K3=>?_
 refine .mc rfl ?_
 refine .dk (fun u=>.slice (some ⟨b1,0,none⟩) 2 2::U::u1 0::u1 1::u 0::us 26) K3 bel fun u2 w2 D bel=>?_
 have E2_0:=D.q 0
 replace B1:=D.k B1
 clear D
 refine wp_seq_k fun _ K4=>?_
 refine gs 3 (Amb S W) fun _ K5=>?_
 refine .mz rfl 0 (V:=.slice (some ⟨b1,0,none⟩) 2 2) rfl ?_
 refine .e rfl (V:=.int .i64 2) (fun H=>x_lens (H.g 9 0)) ?_
 refine .mc rfl ?_
 refine .dk (fun u=>.slice (some ⟨b1,0,none⟩) 2 2::U::u1 0::u1 1::u2 0::U::U::U::U::sq u 0 3 (us 19)) K5 bel fun u3 w3 D bel=>?_
 have E3_0:=D.q 0
 have E3_1:=D.q 1
 have E3_2:=D.q 2
 replace B1:=D.k B1
 clear D
 refine wp_block ?_
 refine wp_loop_rounds 3 ?_
 refine rounds_k fun K6 hK6=>?_
 refine gs 1 (Amb S W) fun _ K7=>?_
 refine .e rfl (V:=.bool true) (fun H=>x_cmp (H.z 11 E3_2) (H.z 10 E3_1)) ?_
 refine .dk (fun u=>.slice (some ⟨b1,0,none⟩) 2 2::U::u1 0::u1 1::u2 0::U::U::U::U::sq u3 0 3 (u 0::us 18)) K7 bel fun u4 w4 D bel=>?_
 have E4_0:=D.q 0
 replace B1:=D.k B1
 clear D
 refine wp_seq_k fun _ K8=>?_
 refine wp_cond_true (by exact E4_0) ?_
 refine wp_skip ?_
 refine K8 _ _ ?_
 refine wp_seq_k fun _ K9=>?_
 refine wp_block ?_
 refine gs 4 (Amb S W) fun _ K10=>?_
 refine .e rfl (V:=pt b1) (fun H=>x_ixs 16 (H.z 9 E3_0) (H.z 11 E3_2)) ?_
 refine .lp rfl 0 (ciC x) B1 ?_
 refine .al rfl zCi ?_
 refine .so rfl 2 (fun H=>⟨H.r 6 2,H.g 14 1⟩) ?_
 refine .dk (fun u=>.slice (some ⟨b1,0,none⟩) 2 2::U::u1 0::u1 1::u2 0::U::u 2::U::U::sq u3 0 3 (u4 0::u 0::u 1::us 16)) K10 bel fun u5 w5 D bel=>?_
 obtain ⟨b11,E5_2,A11,B11⟩:=D.st 3
 have E5_0:=D.q 0
 have E5_1:=D.q 1
 replace B1:=D.k B1
 clear D
 refine gs 8 (Amb S W) fun _ K12=>?_
 refine .lr rfl 6 E5_2 B11 ?_
 refine .cR rfl [] Tryz.func155 (fun H=>⟨_,ar1 (H.g 16 0),eWheelO _ (by first | omega | exact p0 | exact p1)⟩) ?_
 refine .mn rfl 1 [1] ?_
 refine Go2.fn (i:=3) rfl (G0 rfl) (.val 3 [1,2] (RingP x)) (fun u μ ρ H=>by have e15:=H.r 15 2; have h0:=(H.a 2 rfl); obtain ⟨x0,x1,h1,h2⟩:=h0; rw [h1] at e15; exact ⟨x0,by clear H; go_simp,SP.tupKeep (by decide) (by decide) h2.1⟩) ?_
 refine .e rfl (V:=.bool true) (fun H=>by have e15:=H.r 15 2; have h0:=(H.a 2 rfl); obtain ⟨x0,x1,h1,h2,h3⟩:=h0; rw [h1] at e15; have h3:x1 = .bool true:=h3; subst h3; clear H; go_simp) ?_
 refine .al rfl (#[.pointer none,.pointer none,.pointer none,.pointer none]) ?_
 refine Go2.storeOwn (i:=6) (m:=5) rfl rfl (.head _) (SP.cells 5 [3] (fun u=>#[((u 3).v.cells.getD 0 undef),((u 3).v.cells.getD 1 undef),((u 3).v.cells.getD 2 undef),((u 3).v.cells.getD 3 undef)]) 203 (by intro u u' h; simp [h 3 (by simp)])) (fun u μ ρ b H h0 hB hb=>?_) ?_
 · have e7:=H.r 7 5; have e18:=H.r 18 3
   rw [h0] at e7
   obtain ⟨x1,x2,x3,x4,h1,h2,h3,h4,h5⟩:=(H.a 3 rfl)
   have o1:=VP1.rat h2
   have o2:=VP1.ratn h3
   have o3:=VP1.ratn h4
   have o4:=VP1.rat h5
   rw [h1] at e18
   refine ⟨μ.setRow b #[x1,x2,x3,x4],ex_store_row 203 _ _ rfl e7 e18 hb (by kernel_rfl) rfl (by simp [o1,o2,o3,o4] <;> rfl),fun g=>⟨b,?_,hB,?_⟩,setRow_only _ _ _⟩
   · rw [upd_other _ _ (by decide)]; exact h0
   · rw [setRow_at hb]; try simp [upd,h1,Value.cells]
 refine .mv rfl 4 ?_
 refine .dk (fun u=>.slice (some ⟨b1,0,none⟩) 2 2::U::u1 0::u1 1::u2 0::U::u5 2::u 5::u 7::sq u3 0 3 (u4 0::u5 0::u5 1::u 2::u 0::u 1::u 3::u 4::us 11)) K12 bel fun u6 w6 D bel=>?_
 obtain ⟨x13,x14,E6_1,F_x13,F_x14⟩:=(D.rr 1)
 obtain ⟨b15,x16,x17,b18,rfl,L15,L18,F15,F_x16,F_x17,F18⟩:=RingP.elim F_x13
 obtain rfl:x14 = _:=F_x14
 obtain ⟨x19,x20,E6_2,F_x19,F_x20⟩:=(D.rr 2)
 obtain ⟨b21,x22,x23,b24,rfl,L21,L24,F21,F_x22,F_x23,F24⟩:=RingP.elim F_x19
 obtain rfl:x20 = _:=F_x20
 obtain ⟨b25,x26,x27,b28,E6_3,L25,L28,F25,F_x26,F_x27,F28⟩:=RingP.elim (D.rr 3)
 obtain ⟨b29,E6_5,A29,B29⟩:=(D.a 6 rfl)
 replace A29:=le2 D.le A29
 have E6_0:=D.q 0
 have E6_4:=D.q 4
 have E6_7:=D.q 7
 replace B1:=D.k B1
 replace B11:=D.k B11
 simp only [Value.cells,E6_1,E6_2,E6_3,E6_5] at B29
 replace B29:w6.heap[b29]? = some (.cells #[pt b25,x26,x27,pt b28] 203 (0,0)):=B29
 clear D
 refine wp_seq_k fun _ K30=>?_
 refine gs 2 (Amb S W) fun _ K31=>?_
 refine .mz rfl 8 E6_7 ?_
 refine .e rfl (V:=.bool false) (fun H=>x_not (H.g 20 0)) ?_
 refine .dk (fun u=>.slice (some ⟨b1,0,none⟩) 2 2::U::u1 0::u1 1::u2 0::U::u5 2::u6 5::u6 7::sq u3 0 3 (u4 0::u5 0::u5 1::u6 2::u6 0::u6 1::u6 3::u6 4::u 0::u 1::us 9)) K31 bel fun u7 w7 D bel=>?_
 have E7_0:=D.q 0
 have E7_1:=D.q 1
 replace B1:=D.k B1
 replace B11:=D.k B11
 replace B29:=D.k B29
 replace F15:=D.o L15 F15
 replace F18:=D.o L18 F18
 replace F21:=D.o L21 F21
 replace F24:=D.o L24 F24
 replace F25:=D.o L25 F25
 replace F28:=D.o L28 F28
 replace F_x16:=D.gr (RatN x.b.re) F_x16
 replace F_x17:=D.gr (RatN x.b.im) F_x17
 replace F_x22:=D.gr (RatN x.b.re) F_x22
 replace F_x23:=D.gr (RatN x.b.im) F_x23
 replace F_x26:=D.gr (RatN x.b.re) F_x26
 replace F_x27:=D.gr (RatN x.b.im) F_x27
 clear D
 refine wp_cond_false (by exact E7_1) ?_
 refine wp_skip ?_
 refine K30 _ _ ?_
 refine wp_region_list ?_
 refine wpT_val rfl (ex_move rfl) ?_
 refine wpT_val (v:=.agg #[pt b25,x26,x27,pt b28]) rfl (ex_load_row 203 _ rfl (by exact E6_5) B29 Tryz.underlying203 rfl (by kernel_rfl)) ?_
 refine wpT_bs1 (e:=203) 4 (cs:=#[pt b25,x26,x27,pt b28]) rfl rfl rfl rfl (by kernel_rfl) (by kernel_rfl) (by decide) (by decide) rfl fun b33 w32 A33 B33 ow32=>?_
 have N1_33:=Nat.ne_of_lt (Nat.lt_of_lt_of_le (lt_of B1) A33)
 have N11_33:=Nat.ne_of_lt (Nat.lt_of_lt_of_le (lt_of B11) A33)
 have N29_33:=Nat.ne_of_lt (Nat.lt_of_lt_of_le (lt_of B29) A33)
 replace A33:=Nat.le_trans bel.size A33
 replace B1:=(ow32.block b1 (lt_of B1)).trans B1
 replace B11:=(ow32.block b11 (lt_of B11)).trans B11
 replace B29:=(ow32.block b29 (lt_of B29)).trans B29
 replace F15:=(RatP x.a).grow (Rgn.Below.growS ow32 (Nat.le_refl _) _) F15
 replace F18:=(RatP x.c).grow (Rgn.Below.growS ow32 (Nat.le_refl _) _) F18
 replace F21:=(RatP x.a).grow (Rgn.Below.growS ow32 (Nat.le_refl _) _) F21
 replace F24:=(RatP x.c).grow (Rgn.Below.growS ow32 (Nat.le_refl _) _) F24
 replace F25:=(RatP x.a).grow (Rgn.Below.growS ow32 (Nat.le_refl _) _) F25
 replace F28:=(RatP x.c).grow (Rgn.Below.growS ow32 (Nat.le_refl _) _) F28
 replace F_x16:=(RatN x.b.re).grow (Rgn.Below.growS ow32 (Nat.le_refl _) _) F_x16
 replace F_x17:=(RatN x.b.im).grow (Rgn.Below.growS ow32 (Nat.le_refl _) _) F_x17
 replace F_x22:=(RatN x.b.re).grow (Rgn.Below.growS ow32 (Nat.le_refl _) _) F_x22
 replace F_x23:=(RatN x.b.im).grow (Rgn.Below.growS ow32 (Nat.le_refl _) _) F_x23
 replace F_x26:=(RatN x.b.re).grow (Rgn.Below.growS ow32 (Nat.le_refl _) _) F_x26
 replace F_x27:=(RatN x.b.im).grow (Rgn.Below.growS ow32 (Nat.le_refl _) _) F_x27
 replace bel:=bel.trans (ow32.mono bel.size)
 refine wpT_apR (n₀:=W.heap.size) 32 rfl rfl (by exact E2_0) rfl (World.ownsRow_nil _ _ _ _) B33 rfl (VP1.ratn F_x26) (VP1.ratn F_x27) rfl bel.size (by decide) (by kernel_rfl) (by kernel_rfl) (by decide) rfl fun v34 w35 O_v34 ow35 gw35=>?_
 replace F15:=(RatP x.a).grow (gw35 _) F15
 replace F18:=(RatP x.c).grow (gw35 _) F18
 replace F21:=(RatP x.a).grow (gw35 _) F21
 replace F24:=(RatP x.c).grow (gw35 _) F24
 replace F25:=(RatP x.a).grow (gw35 _) F25
 replace F28:=(RatP x.c).grow (gw35 _) F28
 replace F_x16:=(RatN x.b.re).grow (gw35 _) F_x16
 replace F_x17:=(RatN x.b.im).grow (gw35 _) F_x17
 replace F_x22:=(RatN x.b.re).grow (gw35 _) F_x22
 replace F_x23:=(RatN x.b.im).grow (gw35 _) F_x23
 replace F_x26:=(RatN x.b.re).grow (gw35 _) F_x26
 replace F_x27:=(RatN x.b.im).grow (gw35 _) F_x27
 replace B1:=(ow35.block _ X1).trans B1
 replace bel:=bel.trans ow35
 refine wpList_as (fr (.slice (some ⟨b1,0,none⟩) 2 2::U::u1 0::u1 1::u2 0::U::u5 2::u6 5::u6 7::sq u3 0 3 (u4 0::u5 0::u5 1::u6 2::u6 0::u6 1::u6 3::u6 4::u7 0::u7 1::u2 0::.agg #[pt b25,x26,x27,pt b28]::.slice (some ⟨b33,0,none⟩) 1 1::v34::us 5))) (by kernel_rfl) ?_
 refine wpT_val rfl (ex_assign rfl) ?_
 refine wpList_as (fr (.slice (some ⟨b1,0,none⟩) 2 2::U::u1 0::u1 1::v34::U::u5 2::u6 5::u6 7::sq u3 0 3 (u4 0::u5 0::u5 1::u6 2::u6 0::u6 1::u6 3::u6 4::u7 0::u7 1::u2 0::.agg #[pt b25,x26,x27,pt b28]::.slice (some ⟨b33,0,none⟩) 1 1::v34::us 5))) (by kernel_rfl) ?_
 refine wpList_nil ?_
 show _
 refine inBlock_normal ?_
 refine K9 _ _ ?_
 refine wp_region_list ?_
 refine wpT_val (v:=.int .i64 1) rfl (by have aw_:IntKind.wrap .i64 1 = 1:=(by decide); have:=E3_2; go_simp) ?_
 refine wpT_val rfl (ex_move rfl) ?_
 refine wpList_as (fr (.slice (some ⟨b1,0,none⟩) 2 2::U::u1 0::u1 1::v34::U::u5 2::u6 5::u6 7::u3 0::u3 1::.int .i64 1::u4 0::u5 0::u5 1::u6 2::u6 0::u6 1::u6 3::u6 4::u7 0::u7 1::u2 0::.agg #[pt b25,x26,x27,pt b28]::.slice (some ⟨b33,0,none⟩) 1 1::v34::.int .i64 1::us 4)) (by kernel_rfl) ?_
 refine wpList_nil ?_
 show _
 refine hK6 _ _ ?_
 refine rounds_k fun K36 hK36=>?_
 refine gs 1 (Amb S W) fun _ K37=>?_
 refine .e rfl (V:=.bool true) (fun H=>x_cmp (H.v 11 (.int .i64 1)) (H.z 10 E3_1)) ?_
 refine .dk (fun u=>.slice (some ⟨b1,0,none⟩) 2 2::U::u1 0::u1 1::v34::U::u5 2::u6 5::u6 7::u3 0::u3 1::.int .i64 1::u 0::u5 0::u5 1::u6 2::u6 0::u6 1::u6 3::u6 4::u7 0::u7 1::u2 0::.agg #[pt b25,x26,x27,pt b28]::.slice (some ⟨b33,0,none⟩) 1 1::v34::.int .i64 1::us 4) K37 bel fun u10 w10 D bel=>?_
 have E10_0:=D.q 0
 replace B1:=D.k B1
 replace F15:=D.o L15 F15
 replace F18:=D.o L18 F18
 replace F21:=D.o L21 F21
 replace F24:=D.o L24 F24
 replace F25:=D.o L25 F25
 replace F28:=D.o L28 F28
 replace O_v34:=own_low O_v34 (D.d.base.bel0 (RowKit.Below.refl _ _) (Nat.le_refl _))
 replace F_x16:=D.gr (RatN x.b.re) F_x16
 replace F_x17:=D.gr (RatN x.b.im) F_x17
 replace F_x22:=D.gr (RatN x.b.re) F_x22
 replace F_x23:=D.gr (RatN x.b.im) F_x23
 replace F_x26:=D.gr (RatN x.b.re) F_x26
 replace F_x27:=D.gr (RatN x.b.im) F_x27
 clear D
 refine wp_seq_k fun _ K38=>?_
 refine wp_cond_true (by exact E10_0) ?_
 refine wp_skip ?_
 refine K38 _ _ ?_
 refine wp_seq_k fun _ K39=>?_
 refine wp_block ?_
 refine gs 4 (Amb S W) fun _ K40=>?_
 refine .e rfl (V:=.pointer (some ⟨b1,16,none⟩)) (fun H=>x_ixs 16 (H.z 9 E3_0) (H.v 11 (.int .i64 1))) ?_
 refine .lp rfl 0 (ciC y) B1 ?_
 refine .al rfl zCi ?_
 refine .so rfl 2 (fun H=>⟨H.r 6 2,H.g 14 1⟩) ?_
 refine .dk (fun u=>.slice (some ⟨b1,0,none⟩) 2 2::U::u1 0::u1 1::v34::U::u 2::u6 5::u6 7::u3 0::u3 1::.int .i64 1::u10 0::u 0::u 1::u6 2::u6 0::u6 1::u6 3::u6 4::u7 0::u7 1::u2 0::.agg #[pt b25,x26,x27,pt b28]::.slice (some ⟨b33,0,none⟩) 1 1::v34::.int .i64 1::us 4) K40 bel fun u11 w11 D bel=>?_
 obtain ⟨b41,E11_2,A41,B41⟩:=D.st 3
 have E11_0:=D.q 0
 have E11_1:=D.q 1
 replace B1:=D.k B1
 replace F15:=D.o L15 F15
 replace F18:=D.o L18 F18
 replace F21:=D.o L21 F21
 replace F24:=D.o L24 F24
 replace F25:=D.o L25 F25
 replace F28:=D.o L28 F28
 replace O_v34:=own_low O_v34 (D.d.base.bel0 (RowKit.Below.refl _ _) (Nat.le_refl _))
 replace F_x16:=D.gr (RatN x.b.re) F_x16
 replace F_x17:=D.gr (RatN x.b.im) F_x17
 replace F_x22:=D.gr (RatN x.b.re) F_x22
 replace F_x23:=D.gr (RatN x.b.im) F_x23
 replace F_x26:=D.gr (RatN x.b.re) F_x26
 replace F_x27:=D.gr (RatN x.b.im) F_x27
 clear D
 refine gs 8 (Amb S W) fun _ K42=>?_
 refine .lr rfl 6 E11_2 B41 ?_
 refine .cR rfl [] Tryz.func155 (fun H=>⟨_,ar1 (H.g 16 0),eWheelO _ (by first | omega | exact p0 | exact p1)⟩) ?_
 refine .mn rfl 1 [1] ?_
 refine Go2.fn (i:=3) rfl (G0 rfl) (.val 3 [1,2] (RingP y)) (fun u μ ρ H=>by have e15:=H.r 15 2; have h0:=(H.a 2 rfl); obtain ⟨x0,x1,h1,h2⟩:=h0; rw [h1] at e15; exact ⟨x0,by clear H; go_simp,SP.tupKeep (by decide) (by decide) h2.1⟩) ?_
 refine .e rfl (V:=.bool true) (fun H=>by have e15:=H.r 15 2; have h0:=(H.a 2 rfl); obtain ⟨x0,x1,h1,h2,h3⟩:=h0; rw [h1] at e15; have h3:x1 = .bool true:=h3; subst h3; clear H; go_simp) ?_
 refine .al rfl (#[.pointer none,.pointer none,.pointer none,.pointer none]) ?_
 refine Go2.storeOwn (i:=6) (m:=5) rfl rfl (.head _) (SP.cells 5 [3] (fun u=>#[((u 3).v.cells.getD 0 undef),((u 3).v.cells.getD 1 undef),((u 3).v.cells.getD 2 undef),((u 3).v.cells.getD 3 undef)]) 203 (by intro u u' h; simp [h 3 (by simp)])) (fun u μ ρ b H h0 hB hb=>?_) ?_
 · have e7:=H.r 7 5; have e18:=H.r 18 3
   rw [h0] at e7
   obtain ⟨x1,x2,x3,x4,h1,h2,h3,h4,h5⟩:=(H.a 3 rfl)
   have o1:=VP1.rat h2
   have o2:=VP1.ratn h3
   have o3:=VP1.ratn h4
   have o4:=VP1.rat h5
   rw [h1] at e18
   refine ⟨μ.setRow b #[x1,x2,x3,x4],ex_store_row 203 _ _ rfl e7 e18 hb (by kernel_rfl) rfl (by simp [o1,o2,o3,o4] <;> rfl),fun g=>⟨b,?_,hB,?_⟩,setRow_only _ _ _⟩
   · rw [upd_other _ _ (by decide)]; exact h0
   · rw [setRow_at hb]; try simp [upd,h1,Value.cells]
 refine .mv rfl 4 ?_
 refine .dk (fun u=>.slice (some ⟨b1,0,none⟩) 2 2::U::u1 0::u1 1::v34::U::u11 2::u 5::u 7::u3 0::u3 1::.int .i64 1::u10 0::u11 0::u11 1::u 2::u 0::u 1::u 3::u 4::u7 0::u7 1::u2 0::.agg #[pt b25,x26,x27,pt b28]::.slice (some ⟨b33,0,none⟩) 1 1::v34::.int .i64 1::us 4) K42 bel fun u12 w12 D bel=>?_
 obtain ⟨x43,x44,E12_1,F_x43,F_x44⟩:=(D.rr 1)
 obtain ⟨b45,x46,x47,b48,rfl,L45,L48,F45,F_x46,F_x47,F48⟩:=RingP.elim F_x43
 obtain rfl:x44 = _:=F_x44
 obtain ⟨x49,x50,E12_2,F_x49,F_x50⟩:=(D.rr 2)
 obtain ⟨b51,x52,x53,b54,rfl,L51,L54,F51,F_x52,F_x53,F54⟩:=RingP.elim F_x49
 obtain rfl:x50 = _:=F_x50
 obtain ⟨b55,x56,x57,b58,E12_3,L55,L58,F55,F_x56,F_x57,F58⟩:=RingP.elim (D.rr 3)
 obtain ⟨b59,E12_5,A59,B59⟩:=(D.a 6 rfl)
 replace A59:=le2 D.le A59
 have E12_0:=D.q 0
 have E12_4:=D.q 4
 have E12_7:=D.q 7
 replace B1:=D.k B1
 replace B41:=D.k B41
 simp only [Value.cells,E12_1,E12_2,E12_3,E12_5] at B59
 replace B59:w12.heap[b59]? = some (.cells #[pt b55,x56,x57,pt b58] 203 (0,0)):=B59
 replace F25:=D.o L25 F25
 replace F28:=D.o L28 F28
 replace O_v34:=own_low O_v34 (D.d.base.bel0 (RowKit.Below.refl _ _) (Nat.le_refl _))
 replace F_x26:=D.gr (RatN x.b.re) F_x26
 replace F_x27:=D.gr (RatN x.b.im) F_x27
 clear D
 refine wp_seq_k fun _ K60=>?_
 refine gs 2 (Amb S W) fun _ K61=>?_
 refine .mz rfl 8 E12_7 ?_
 refine .e rfl (V:=.bool false) (fun H=>x_not (H.g 20 0)) ?_
 refine .dk (fun u=>.slice (some ⟨b1,0,none⟩) 2 2::U::u1 0::u1 1::v34::U::u11 2::u12 5::u12 7::u3 0::u3 1::.int .i64 1::u10 0::u11 0::u11 1::u12 2::u12 0::u12 1::u12 3::u12 4::u 0::u 1::u2 0::.agg #[pt b25,x26,x27,pt b28]::.slice (some ⟨b33,0,none⟩) 1 1::v34::.int .i64 1::us 4) K61 bel fun u13 w13 D bel=>?_
 have E13_0:=D.q 0
 have E13_1:=D.q 1
 replace B1:=D.k B1
 replace B41:=D.k B41
 replace B59:=D.k B59
 replace F25:=D.o L25 F25
 replace F28:=D.o L28 F28
 replace F45:=D.o L45 F45
 replace F48:=D.o L48 F48
 replace F51:=D.o L51 F51
 replace F54:=D.o L54 F54
 replace F55:=D.o L55 F55
 replace F58:=D.o L58 F58
 replace O_v34:=own_low O_v34 (D.d.base.bel0 (RowKit.Below.refl _ _) (Nat.le_refl _))
 replace F_x26:=D.gr (RatN x.b.re) F_x26
 replace F_x27:=D.gr (RatN x.b.im) F_x27
 replace F_x46:=D.gr (RatN y.b.re) F_x46
 replace F_x47:=D.gr (RatN y.b.im) F_x47
 replace F_x52:=D.gr (RatN y.b.re) F_x52
 replace F_x53:=D.gr (RatN y.b.im) F_x53
 replace F_x56:=D.gr (RatN y.b.re) F_x56
 replace F_x57:=D.gr (RatN y.b.im) F_x57
 clear D
 refine wp_cond_false (by exact E13_1) ?_
 refine wp_skip ?_
 refine K60 _ _ ?_
 refine wp_region_list ?_
 refine wpT_val rfl (ex_move rfl) ?_
 refine wpList_as (fr (.slice (some ⟨b1,0,none⟩) 2 2::U::u1 0::u1 1::v34::U::u11 2::u12 5::u12 7::u3 0::u3 1::.int .i64 1::u10 0::u11 0::u11 1::u12 2::u12 0::u12 1::u12 3::u12 4::u13 0::u13 1::v34::.agg #[pt b25,x26,x27,pt b28]::.slice (some ⟨b33,0,none⟩) 1 1::v34::.int .i64 1::us 4)) (by kernel_rfl) ?_
 refine wpT_val (v:=.agg #[pt b55,x56,x57,pt b58]) rfl (ex_load_row 203 _ rfl (by exact E12_5) B59 Tryz.underlying203 rfl (by kernel_rfl)) ?_
 refine wpT_bs1 (e:=203) 4 (cs:=#[pt b55,x56,x57,pt b58]) rfl rfl rfl rfl (by kernel_rfl) (by kernel_rfl) (by decide) (by decide) rfl fun b63 w62 A63 B63 ow62=>?_
 have N1_63:=Nat.ne_of_lt (Nat.lt_of_lt_of_le (lt_of B1) A63)
 have N41_63:=Nat.ne_of_lt (Nat.lt_of_lt_of_le (lt_of B41) A63)
 have N59_63:=Nat.ne_of_lt (Nat.lt_of_lt_of_le (lt_of B59) A63)
 replace A63:=Nat.le_trans bel.size A63
 replace O_v34:=own_low O_v34 ow62
 replace B1:=(ow62.block b1 (lt_of B1)).trans B1
 replace B41:=(ow62.block b41 (lt_of B41)).trans B41
 replace B59:=(ow62.block b59 (lt_of B59)).trans B59
 replace F25:=(RatP x.a).grow (Rgn.Below.growS ow62 (Nat.le_refl _) _) F25
 replace F28:=(RatP x.c).grow (Rgn.Below.growS ow62 (Nat.le_refl _) _) F28
 replace F45:=(RatP y.a).grow (Rgn.Below.growS ow62 (Nat.le_refl _) _) F45
 replace F48:=(RatP y.c).grow (Rgn.Below.growS ow62 (Nat.le_refl _) _) F48
 replace F51:=(RatP y.a).grow (Rgn.Below.growS ow62 (Nat.le_refl _) _) F51
 replace F54:=(RatP y.c).grow (Rgn.Below.growS ow62 (Nat.le_refl _) _) F54
 replace F55:=(RatP y.a).grow (Rgn.Below.growS ow62 (Nat.le_refl _) _) F55
 replace F58:=(RatP y.c).grow (Rgn.Below.growS ow62 (Nat.le_refl _) _) F58
 replace F_x26:=(RatN x.b.re).grow (Rgn.Below.growS ow62 (Nat.le_refl _) _) F_x26
 replace F_x27:=(RatN x.b.im).grow (Rgn.Below.growS ow62 (Nat.le_refl _) _) F_x27
 replace F_x46:=(RatN y.b.re).grow (Rgn.Below.growS ow62 (Nat.le_refl _) _) F_x46
 replace F_x47:=(RatN y.b.im).grow (Rgn.Below.growS ow62 (Nat.le_refl _) _) F_x47
 replace F_x52:=(RatN y.b.re).grow (Rgn.Below.growS ow62 (Nat.le_refl _) _) F_x52
 replace F_x53:=(RatN y.b.im).grow (Rgn.Below.growS ow62 (Nat.le_refl _) _) F_x53
 replace F_x56:=(RatN y.b.re).grow (Rgn.Below.growS ow62 (Nat.le_refl _) _) F_x56
 replace F_x57:=(RatN y.b.im).grow (Rgn.Below.growS ow62 (Nat.le_refl _) _) F_x57
 replace bel:=bel.trans (ow62.mono bel.size)
 refine wpT_apR (n₀:=W.heap.size) 32 rfl rfl rfl rfl O_v34 B63 rfl (VP1.ratn F_x56) (VP1.ratn F_x57) rfl bel.size (by decide) (by kernel_rfl) (by kernel_rfl) (by decide) rfl fun v64 w65 O_v64 ow65 gw65=>?_
 replace F25:=(RatP x.a).grow (gw65 _) F25
 replace F28:=(RatP x.c).grow (gw65 _) F28
 replace F45:=(RatP y.a).grow (gw65 _) F45
 replace F48:=(RatP y.c).grow (gw65 _) F48
 replace F51:=(RatP y.a).grow (gw65 _) F51
 replace F54:=(RatP y.c).grow (gw65 _) F54
 replace F55:=(RatP y.a).grow (gw65 _) F55
 replace F58:=(RatP y.c).grow (gw65 _) F58
 replace F_x26:=(RatN x.b.re).grow (gw65 _) F_x26
 replace F_x27:=(RatN x.b.im).grow (gw65 _) F_x27
 replace F_x46:=(RatN y.b.re).grow (gw65 _) F_x46
 replace F_x47:=(RatN y.b.im).grow (gw65 _) F_x47
 replace F_x52:=(RatN y.b.re).grow (gw65 _) F_x52
 replace F_x53:=(RatN y.b.im).grow (gw65 _) F_x53
 replace F_x56:=(RatN y.b.re).grow (gw65 _) F_x56
 replace F_x57:=(RatN y.b.im).grow (gw65 _) F_x57
 replace B1:=(ow65.block _ X1).trans B1
 replace bel:=bel.trans ow65
 refine wpT_val rfl (ex_assign rfl) ?_
 refine wpList_as (fr (.slice (some ⟨b1,0,none⟩) 2 2::U::u1 0::u1 1::v64::U::u11 2::u12 5::u12 7::u3 0::u3 1::.int .i64 1::u10 0::u11 0::u11 1::u12 2::u12 0::u12 1::u12 3::u12 4::u13 0::u13 1::v34::.agg #[pt b55,x56,x57,pt b58]::.slice (some ⟨b63,0,none⟩) 1 1::v64::.int .i64 1::us 4)) (by kernel_rfl) ?_
 refine wpList_as (fr (.slice (some ⟨b1,0,none⟩) 2 2::U::u1 0::u1 1::v64::U::u11 2::u12 5::u12 7::u3 0::u3 1::.int .i64 1::u10 0::u11 0::u11 1::u12 2::u12 0::u12 1::u12 3::u12 4::u13 0::u13 1::v34::.agg #[pt b55,x56,x57,pt b58]::.slice (some ⟨b63,0,none⟩) 1 1::v64::.int .i64 1::us 4)) (by kernel_rfl) ?_
 refine wpList_nil ?_
 show _
 refine inBlock_normal ?_
 refine K39 _ _ ?_
 refine wp_region_list ?_
 refine wpT_val (v:=.int .i64 2) rfl (by have aw_:IntKind.wrap .i64 2 = 2:=(by decide); go_simp) ?_
 refine wpT_val rfl (ex_move rfl) ?_
 refine wpList_as (fr (.slice (some ⟨b1,0,none⟩) 2 2::U::u1 0::u1 1::v64::U::u11 2::u12 5::u12 7::u3 0::u3 1::.int .i64 2::u10 0::u11 0::u11 1::u12 2::u12 0::u12 1::u12 3::u12 4::u13 0::u13 1::v34::.agg #[pt b55,x56,x57,pt b58]::.slice (some ⟨b63,0,none⟩) 1 1::v64::.int .i64 2::us 4)) (by kernel_rfl) ?_
 refine wpList_nil ?_
 show _
 refine hK36 _ _ ?_
 refine rounds_k fun K66 hK66=>?_
 refine gs 1 (Amb S W) fun _ K67=>?_
 refine .e rfl (V:=.bool false) (fun H=>x_cmp (H.v 11 (.int .i64 2)) (H.z 10 E3_1)) ?_
 refine .dk (fun u=>.slice (some ⟨b1,0,none⟩) 2 2::U::u1 0::u1 1::v64::U::u11 2::u12 5::u12 7::u3 0::u3 1::.int .i64 2::u 0::u11 0::u11 1::u12 2::u12 0::u12 1::u12 3::u12 4::u13 0::u13 1::v34::.agg #[pt b55,x56,x57,pt b58]::.slice (some ⟨b63,0,none⟩) 1 1::v64::.int .i64 2::us 4) K67 bel fun u16 w16 D bel=>?_
 have E16_0:=D.q 0
 replace B1:=D.k B1
 replace F25:=D.o L25 F25
 replace F28:=D.o L28 F28
 replace F45:=D.o L45 F45
 replace F48:=D.o L48 F48
 replace F51:=D.o L51 F51
 replace F54:=D.o L54 F54
 replace F55:=D.o L55 F55
 replace F58:=D.o L58 F58
 replace O_v64:=own_low O_v64 (D.d.base.bel0 (RowKit.Below.refl _ _) (Nat.le_refl _))
 replace F_x26:=D.gr (RatN x.b.re) F_x26
 replace F_x27:=D.gr (RatN x.b.im) F_x27
 replace F_x46:=D.gr (RatN y.b.re) F_x46
 replace F_x47:=D.gr (RatN y.b.im) F_x47
 replace F_x52:=D.gr (RatN y.b.re) F_x52
 replace F_x53:=D.gr (RatN y.b.im) F_x53
 replace F_x56:=D.gr (RatN y.b.re) F_x56
 replace F_x57:=D.gr (RatN y.b.im) F_x57
 clear D
 refine wp_seq_k fun _ K68=>?_
 refine wp_cond_false (by exact E16_0) ?_
 refine wp_exit ?_
 refine then_exit ?_
 refine then_exit ?_
 refine inBlock_here ?_
 refine K4 _ _ ?_
 refine wp_seq_k fun _ K69=>?_
 refine gs 3 (Amb S W) fun _ K70=>?_
 refine .mz rfl 0 (V:=.slice (some ⟨b1,0,none⟩) 2 2) rfl ?_
 refine .e rfl (V:=.int .i64 2) (fun H=>x_lens (H.g 27 0)) ?_
 refine .e rfl (V:=.bool false) (fun H=>x_cmp (H.g 28 1) (H.c _)) ?_
 refine .dk (fun u=>.slice (some ⟨b1,0,none⟩) 2 2::U::u1 0::u1 1::v64::U::u11 2::u12 5::u12 7::u3 0::u3 1::.int .i64 2::u16 0::u11 0::u11 1::u12 2::u12 0::u12 1::u12 3::u12 4::u13 0::u13 1::v34::.agg #[pt b55,x56,x57,pt b58]::.slice (some ⟨b63,0,none⟩) 1 1::v64::.int .i64 2::sq u 0 3 (U::[])) K70 bel fun u17 w17 D bel=>?_
 have E17_2:=D.q 2
 replace F25:=D.o L25 F25
 replace F28:=D.o L28 F28
 replace F55:=D.o L55 F55
 replace F58:=D.o L58 F58
 replace O_v64:=own_low O_v64 (D.d.base.bel0 (RowKit.Below.refl _ _) (Nat.le_refl _))
 replace F_x26:=D.gr (RatN x.b.re) F_x26
 replace F_x27:=D.gr (RatN x.b.im) F_x27
 replace F_x56:=D.gr (RatN y.b.re) F_x56
 replace F_x57:=D.gr (RatN y.b.im) F_x57
 clear D
 refine wp_cond_false (by exact E17_2) ?_
 refine wp_skip ?_
 refine K69 _ _ ?_
 refine gs 3 (Amb S W) fun _ K71=>?_
 refine .mz rfl 4 (V:=v64) rfl ?_
 refine .mv rfl 0 ?_
 refine .mc rfl ?_
 refine .dk (fun u=>.slice (some ⟨b1,0,none⟩) 2 2::U::u 1::u 2::v64::U::u11 2::u12 5::u12 7::u3 0::u3 1::.int .i64 2::u16 0::u11 0::u11 1::u12 2::u12 0::u12 1::u12 3::u12 4::u13 0::u13 1::v34::.agg #[pt b55,x56,x57,pt b58]::.slice (some ⟨b63,0,none⟩) 1 1::v64::.int .i64 2::sq u17 0 3 (u 0::[])) K71 bel fun u18 w18 D bel=>?_
 have E18_1:=D.q 1
 have E18_2:=D.q 2
 replace F25:=D.o L25 F25
 replace F28:=D.o L28 F28
 replace F55:=D.o L55 F55
 replace F58:=D.o L58 F58
 replace O_v64:=own_low O_v64 (D.d.base.bel0 (RowKit.Below.refl _ _) (Nat.le_refl _))
 replace F_x26:=D.gr (RatN x.b.re) F_x26
 replace F_x27:=D.gr (RatN x.b.im) F_x27
 replace F_x56:=D.gr (RatN y.b.re) F_x56
 replace F_x57:=D.gr (RatN y.b.im) F_x57
 clear D
 refine wp_ret ?_
 obtain ⟨b_,cap_,cur_,e_,hb_,hB_,hq_⟩:=own_open O_v64 (by decide)
 subst e_
 exact ret_ok rfl (by exact results_two rfl (by exact E18_1) (by exact E18_2)) ⟨b_,cap_,cur_,_,rfl,hb_,hB_,hq_,⟨(RingP.mk (VP.at F25 L25) F_x26 F_x27 (VP.at F28 L28)),⟨(RingP.mk (VP.at F55 L55) F_x56 F_x57 (VP.at F58 L58)),trivial⟩⟩,bel⟩
end Go.Proofs.YtcpjdjnaipbieaaGreat
namespace Go.Proofs.YtcpjdjnaipbieaaGreat
open Go.RowKit Rgn
@[reducible] def Exc (b:Nat) (φ:VP):VP:=⟨fun S v w=>φ.p (fun k=>S k ∧ k ≠ b) v w,fun hS h=>φ.mono (fun k hk h=>⟨hS k hk h.1,h.2⟩) h,fun {S v w w'} hg h =>
 φ.grow ⟨hg.os,hg.tape,hg.output,hg.size,fun k hk=>(hg.block k hk).imp id (fun h=>h.imp id (fun h=>⟨h.1,fun hS=>h.2 hS.1⟩))⟩ h⟩
@[reducible] def Lss (n:Nat) (φ:VP):VP:=⟨fun S v w=>φ.p (fun k=>S k ∧ k < n) v w,fun hS h=>φ.mono (fun k hk h=>⟨hS k hk h.1,h.2⟩) h,fun {S v w w'} hg h =>
 φ.grow ⟨hg.os,hg.tape,hg.output,hg.size,fun k hk=>(hg.block k hk).imp id (fun h=>h.imp id (fun h=>⟨h.1,fun hS=>h.2 hS.1⟩))⟩ h⟩
theorem Lss.of (φ:VP) {S:Nat → Prop} {v:Value} {w:World} (h:φ.p S v w):(Lss w.heap.size φ).p S v w:=VP.inS φ (Nat.le_refl _) h
theorem Exc.of {n b:Nat} (φ:VP) {S:Nat → Prop} {v:Value} {w:World} (hn:∀ k,k < n → k ≠ b) (h:(Lss n φ).p S v w):(Exc b φ).p S v w:=φ.mono (fun k _ h=>⟨h.1,hn k h.2⟩) h
end Go.Proofs.YtcpjdjnaipbieaaGreat
namespace Go.Proofs.YtcpjdjnaipbieaaGreat
open Go.RowKit Rgn Eng
set_option maxHeartbeats 8000000
set_option maxRecDepth 100000
variable {S:Nat → Prop} {W:World}
theorem ivProd {v0 v1:Value} (c:Ci) (d:Ci) (t0:(RingP c).p S v0 W) (t1:(RingP d).p S v1 W) (p0:ht c.a + ht c.b.re + ht c.b.im + ht c.c + (ht d.a + ht d.b.re + ht d.b.im + ht d.c) ≤ 67108864):Calls Tryz.prog 161 #[v0,v1] W (Ret (RatP (c.dot d)) S W):=by
 have z2:ht (Rat.divInt (1:Int) (2:Int)) = 3:=by decide
 have h1:=ht_mul c.a d.c
 have h2:=ht_mul d.a c.c
 have h3:=hc_conj d.b
 have h4:=hc_mul c.b d.b.conj
 have h5:=ht_add (c.a * d.c) (d.a * c.c)
 have h6:=ht_mul (c.a * d.c + d.a * c.c) (Rat.divInt (1:Int) (2:Int))
 refine Run.goP (S:=S) ((Pack.nil.s spRing t0).s spRing t1) Tryz.func161 rfl ?_
 refine Run.dr ?_
 refine RunD.cO 3 softRat (fun _ _ _ H=>qMul c.a d.c (RatP.blk (H.oz 3)) (anyV (H.f 0)) (anyV (H.f 7)) (by first | omega | (dsimp only at *; omega))) ?_
 refine RunD.cO 4 softRat (fun _ _ _ H=>qMul d.a c.c (RatP.blk (H.oz 4)) (anyV (H.f 4)) (anyV (H.f 3)) (by first | omega | (dsimp only at *; omega))) ?_
 refine RunD.cO 2 softRat (fun _ _ _ H=>qAdd (c.a * d.c) (d.a * c.c) (RatP.blk (H.oz 2)) (anyV (H.o 3)) (anyV (H.o 4)) (by first | omega | (dsimp only at *; omega))) ?_
 refine RunD.en ?_
 refine Run.dr ?_
 refine RunD.cR spNum (fun _ _ _ H=>eConj d.b (NumP.mk (H.f 5) (H.f 6)) (by first | omega | (dsimp only at *; omega))) ?_
 refine RunD.cR spNum (fun _ _ _ H=>eNMul c.b d.b.conj (NumP.mk (H.f 1) (H.f 2)) (NumP.mk (H.f 11) (H.f 12)) (by first | omega | (dsimp only at *; omega))) ?_
 refine RunD.cR sp2Rat (fun _ _ _ H=>eParts (c.b.mul d.b.conj) (NumP.mk (H.f 13) (H.f 14))) ?_
 refine RunD.en ?_
 refine Run.cR spRat (fun _ _ _ H=>qNewRat 1 2 (by decide) (by decide) (by decide) (by decide) (by decide)) ?_
 refine Run.cO 2 softRat (fun _ _ _ H=>qMul ((c.a * d.c) + (d.a * c.c)) (Rat.divInt 1 2) (RatP.blk (q:=(c.a * d.c) + (d.a * c.c)) (H.o 2)) (anyV (H.o 2)) (anyV (H.f 17)) (by first | omega | (dsimp only at *; omega))) ?_
 refine Run.cO 2 softRat (fun _ _ _ H=>qSub (((c.a * d.c) + (d.a * c.c)) * (Rat.divInt 1 2)) ((c.b.mul d.b.conj).re) (RatP.blk (q:=((c.a * d.c) + (d.a * c.c)) * (Rat.divInt 1 2)) (H.o 2)) (anyV (H.o 2)) (anyV (H.f 15)) (by first | omega | (dsimp only at *; omega))) ?_
 exact Run.rR (fun _ _ _ H=>H.s 2)
end Go.Proofs.YtcpjdjnaipbieaaGreat
namespace Go.Proofs.YtcpjdjnaipbieaaGreat
open Go.RowKit Rgn
set_option maxHeartbeats 4000000
set_option maxRecDepth 100000
variable {S:Nat → Prop} {W:World}
theorem ivRtY (x:Ci) (y:Ci) (p0:ciOk (rci x) = true) (p1:ciOk (rci y) = true) :
  Calls Tryz.prog 34 #[ciV x,ciV y] W (RetV (.tuple #[.bool ((x.dot y).num.sign == 0),.int .i64 0]) W):=by
 have f1:=cifits_ht (ciOk_c p0).1
 have f2:=cifits_ht (ciOk_c p1).1
 have bel:=b0 W
 go_enter Tryz.func34,Tryz.ntmps34
 refine gs 4 (Amb Z0 W) fun _ K1=>?_
 refine .bx rfl (fun H=>H.v 0 (ciV x)) ?_
 refine .bx rfl (fun H=>H.v 1 (ciV y)) ?_
 refine .mc rfl ?_
 refine .mc rfl ?_
 refine .dk (fun u=>ciV x::ciV y::sq u 0 4 (us 21)) K1 bel fun u1 w1 D bel=>?_
 obtain ⟨b2,E1_0,A2,B2⟩:=D.nw 0
 obtain ⟨b3,E1_1,A3,B3⟩:=D.nw 1
 have E1_2:=D.q 2
 have E1_3:=D.q 3
 clear D
 refine wp_seq_k fun _ K4=>?_
 refine wp_region_list ?_
 refine wpT_val (v:=ciV x) rfl (ex_load_row 47 _ rfl (by exact E1_0) B2 Tryz.underlying47 rfl (by kernel_rfl)) ?_
 refine wpT_val (v:=ciV y) rfl (ex_load_row 47 _ rfl (by exact E1_1) B3 Tryz.underlying47 rfl (by kernel_rfl)) ?_
 refine wpT_bs2 (e:=47) 16 (cs:=#[.bool (decide (x.a.num < 0)),.string (bS x.a.num.natAbs),.bool (decide ((x.a.den:Int) < 0)),.string (bS (x.a.den:Int).natAbs),.bool (decide (x.b.re.num < 0)),.string (bS x.b.re.num.natAbs),.bool (decide ((x.b.re.den:Int) < 0)),.string (bS (x.b.re.den:Int).natAbs),.bool (decide (x.b.im.num < 0)),.string (bS x.b.im.num.natAbs),.bool (decide ((x.b.im.den:Int) < 0)),.string (bS (x.b.im.den:Int).natAbs),.bool (decide (x.c.num < 0)),.string (bS x.c.num.natAbs),.bool (decide ((x.c.den:Int) < 0)),.string (bS (x.c.den:Int).natAbs),.bool (decide (y.a.num < 0)),.string (bS y.a.num.natAbs),.bool (decide ((y.a.den:Int) < 0)),.string (bS (y.a.den:Int).natAbs),.bool (decide (y.b.re.num < 0)),.string (bS y.b.re.num.natAbs),.bool (decide ((y.b.re.den:Int) < 0)),.string (bS (y.b.re.den:Int).natAbs),.bool (decide (y.b.im.num < 0)),.string (bS y.b.im.num.natAbs),.bool (decide ((y.b.im.den:Int) < 0)),.string (bS (y.b.im.den:Int).natAbs),.bool (decide (y.c.num < 0)),.string (bS y.c.num.natAbs),.bool (decide ((y.c.den:Int) < 0)),.string (bS (y.c.den:Int).natAbs)]) rfl rfl rfl rfl rfl rfl (by kernel_rfl) (by kernel_rfl) (by decide) (by decide) rfl fun b6 w5 A6 B6 ow5=>?_
 have N2_6:=Nat.ne_of_lt (Nat.lt_of_lt_of_le (lt_of B2) A6)
 have N3_6:=Nat.ne_of_lt (Nat.lt_of_lt_of_le (lt_of B3) A6)
 replace A6:=Nat.le_trans bel.size A6
 replace B2:=(ow5.block b2 (lt_of B2)).trans B2
 replace B3:=(ow5.block b3 (lt_of B3)).trans B3
 replace bel:=bel.trans (ow5.mono bel.size)
 refine wpT_row (S:=Amb Z0 W) rfl (ex_call rfl rfl Tryz.func160 (by kernel_rfl) (by kernel_rfl) (by simp only [List.map_toArray,List.map_cons,List.map_nil]; rfl)) (ivWhY (x:=x) (y:=y) B6 (by first | assumption | omega | (dsimp only at *; omega)) (by first | assumption | omega | (dsimp only at *; omega))) fun b8 c8 u8 vs_ w7 A8 B8 Q8 f_0 ow7=>?_
 obtain ⟨b9,x11,x12,b10,vt_,e_,L9,L10,F9,F_x11,F_x12,F10,f_1⟩:=AllG.cons f_0
 subst e_
 replace L9:Amb Z0 W b9:=L9.elim id (fun h=>.inr (Nat.le_trans bel.size h))
 replace L10:Amb Z0 W b10:=L10.elim id (fun h=>.inr (Nat.le_trans bel.size h))
 replace F_x11:(RatN x.b.re).p (Amb Z0 W) x11 w7:=(RatN x.b.re).mono (fun _ _ h=>h.elim id (fun h=>.inr (Nat.le_trans bel.size h))) F_x11
 replace F_x12:(RatN x.b.im).p (Amb Z0 W) x12 w7:=(RatN x.b.im).mono (fun _ _ h=>h.elim id (fun h=>.inr (Nat.le_trans bel.size h))) F_x12
 obtain ⟨b13,x15,x16,b14,vt_,e_,L13,L14,F13,F_x15,F_x16,F14,f_2⟩:=AllG.cons f_1
 subst e_
 replace L13:Amb Z0 W b13:=L13.elim id (fun h=>.inr (Nat.le_trans bel.size h))
 replace L14:Amb Z0 W b14:=L14.elim id (fun h=>.inr (Nat.le_trans bel.size h))
 replace F_x15:(RatN y.b.re).p (Amb Z0 W) x15 w7:=(RatN y.b.re).mono (fun _ _ h=>h.elim id (fun h=>.inr (Nat.le_trans bel.size h))) F_x15
 replace F_x16:(RatN y.b.im).p (Amb Z0 W) x16 w7:=(RatN y.b.im).mono (fun _ _ h=>h.elim id (fun h=>.inr (Nat.le_trans bel.size h))) F_x16
 obtain rfl:=AllG.nil f_2
 replace A8:=Nat.le_trans bel.size A8
 replace B2:=(ow7.block b2 (lt_of B2)).trans B2
 replace B3:=(ow7.block b3 (lt_of B3)).trans B3
 replace B6:=(ow7.block b6 (lt_of B6)).trans B6
 replace bel:=bel.trans (ow7.mono bel.size)
 refine wpList_as (fr (ciV x::ciV y::sq u1 0 4 (U::U::U::ciV x::ciV y::.slice (some ⟨b6,0,none⟩) 2 2::.tuple #[.slice (some ⟨b8,0,none⟩) 2 c8,.int .i64 0]::us 14))) (by kernel_rfl) ?_
 refine wpT_val rfl (ex_move rfl) ?_
 refine wpT_val (v:=.slice (some ⟨b8,0,none⟩) 2 c8) rfl (x_ex (vs:=#[.slice (some ⟨b8,0,none⟩) 2 c8,.int .i64 0]) rfl) ?_
 refine wpT_val (v:=.int .i64 0) rfl (x_ex (vs:=#[.slice (some ⟨b8,0,none⟩) 2 c8,.int .i64 0]) rfl) ?_
 refine wpT_val rfl (ex_assign rfl) ?_
 refine wpList_as (fr (ciV x::ciV y::sq u1 0 4 (.slice (some ⟨b8,0,none⟩) 2 c8::U::.tuple #[.slice (some ⟨b8,0,none⟩) 2 c8,.int .i64 0]::ciV x::ciV y::.slice (some ⟨b6,0,none⟩) 2 2::.tuple #[.slice (some ⟨b8,0,none⟩) 2 c8,.int .i64 0]::.slice (some ⟨b8,0,none⟩) 2 c8::.int .i64 0::us 12))) (by kernel_rfl) ?_
 refine wpT_val rfl (ex_assign rfl) ?_
 refine wpList_as (fr (ciV x::ciV y::sq u1 0 4 (.slice (some ⟨b8,0,none⟩) 2 c8::.int .i64 0::.tuple #[.slice (some ⟨b8,0,none⟩) 2 c8,.int .i64 0]::ciV x::ciV y::.slice (some ⟨b6,0,none⟩) 2 2::.tuple #[.slice (some ⟨b8,0,none⟩) 2 c8,.int .i64 0]::.slice (some ⟨b8,0,none⟩) 2 c8::.int .i64 0::us 12))) (by kernel_rfl) ?_
 refine wpList_nil ?_
 show _
 refine K4 _ _ ?_
 refine wp_seq_k fun _ K17=>?_
 refine gs 2 (Amb Z0 W) fun _ K18=>?_
 refine .mz rfl 7 (V:=.int .i64 0) rfl ?_
 refine .e rfl (V:=.bool false) (fun H=>x_cm (H.g 15 0) (H.c _) (bne_self_eq_false (show Int from 0))) ?_
 refine .dk (fun u=>ciV x::ciV y::sq u1 0 4 (.slice (some ⟨b8,0,none⟩) 2 c8::.int .i64 0::.tuple #[.slice (some ⟨b8,0,none⟩) 2 c8,.int .i64 0]::ciV x::ciV y::.slice (some ⟨b6,0,none⟩) 2 2::.tuple #[.slice (some ⟨b8,0,none⟩) 2 c8,.int .i64 0]::.slice (some ⟨b8,0,none⟩) 2 c8::.int .i64 0::u 0::u 1::us 10)) K18 bel fun u3 w3 D bel=>?_
 have E3_1:=D.q 1
 replace F9:=D.o L9 F9
 replace F10:=D.o L10 F10
 replace F13:=D.o L13 F13
 replace F14:=D.o L14 F14
 replace B8:=D.k B8
 replace F_x11:=D.gr (RatN x.b.re) F_x11
 replace F_x12:=D.gr (RatN x.b.im) F_x12
 replace F_x15:=D.gr (RatN y.b.re) F_x15
 replace F_x16:=D.gr (RatN y.b.im) F_x16
 clear D
 refine wp_cond_false (by exact E3_1) ?_
 refine wp_skip ?_
 refine K17 _ _ ?_
 refine gd 11 (Amb Z0 W) fun _ K19=>?_
 refine .mz rfl 6 (V:=.slice (some ⟨b8,0,none⟩) 2 c8) rfl ?_
 refine .e rfl (V:=pt b8) (fun H=>x_ixs 4 (H.g 18 0) (H.c (.int .i64 0))) ?_
 refine .e rfl (V:=.agg #[pt b9,x11,x12,pt b10]) (fun H=>x_ldq (vs:=[pt b9,x11,x12,pt b10,pt b13,x15,x16,pt b14]) (us:=[pt b9,x11,x12,pt b10]) (H.g 19 1) (H.b B8) Q8) ?_
 refine .mz rfl 6 (V:=.slice (some ⟨b8,0,none⟩) 2 c8) rfl ?_
 refine .e rfl (V:=.pointer (some ⟨b8,4,none⟩)) (fun H=>x_ixs 4 (H.g 21 3) (H.c (.int .i64 1))) ?_
 refine .e rfl (V:=.agg #[pt b13,x15,x16,pt b14]) (fun H=>x_ldq (vs:=[pt b9,x11,x12,pt b10,pt b13,x15,x16,pt b14]) (us:=[pt b13,x15,x16,pt b14]) (H.g 22 4) (H.b B8) Q8) ?_
 refine .cR rfl [] Tryz.func161 (fun H=>⟨_,ar2 (H.g 20 2) (H.g 23 5),ivProd x y (RingP.mk (H.was _ [] (VP.at F9 L9)) (H.was _ [] F_x11) (H.was _ [] F_x12) (H.was _ [] (VP.at F10 L10))) (RingP.mk (H.was _ [] (VP.at F13 L13)) (H.was _ [] F_x15) (H.was _ [] F_x16) (H.was _ [] (VP.at F14 L14))) (by first | assumption | omega | (dsimp only at *; omega))⟩) ?_
 refine .cK rfl Tryz.func140 (fun H=>⟨_,ar1 (H.r 24 6),qSign _ (SV.any (H.a 6 rfl))⟩) ?_
 refine .e rfl (V:=.bool (((x.dot y).num.sign) == 0)) (fun H=>x_cmp (H.g 25 7) (H.c _)) ?_
 refine .mv rfl 8 ?_
 refine .mc rfl ?_
 refine .dk (fun u=>ciV x::ciV y::u1 0::u1 1::u 9::u 10::.slice (some ⟨b8,0,none⟩) 2 c8::.int .i64 0::.tuple #[.slice (some ⟨b8,0,none⟩) 2 c8,.int .i64 0]::ciV x::ciV y::.slice (some ⟨b6,0,none⟩) 2 2::.tuple #[.slice (some ⟨b8,0,none⟩) 2 c8,.int .i64 0]::.slice (some ⟨b8,0,none⟩) 2 c8::.int .i64 0::u3 0::u3 1::U::sq u 0 9 []) K19 bel fun u4 w4 D bel=>?_
 have E4_9:=D.q 9
 have E4_10:=D.q 10
 clear D
 refine wp_ret ?_
 refine ret_ok rfl (by exact results_two rfl (by exact E4_9) (by exact E4_10)) (RetV.mk ?_ bel)
 exact congrArg Ending.returned (rfl)
end Go.Proofs.YtcpjdjnaipbieaaGreat
namespace Go.Proofs.YtcpjdjnaipbieaaGreat
open Go.RowKit Rgn Eng
set_option maxHeartbeats 8000000
set_option maxRecDepth 100000
variable {S:Nat → Prop} {W:World}
theorem ivOvO (c:Ci) (p0:ciOk (rci c) = true):Calls Tryz.prog 31 #[ciV c] W (RetV (.tuple #[rmbV (mbcut c.over.nrm),.int .i64 (mberr c.over.nrm)]) W):=by
 have f1:=cifits_ht (ciOk_c p0).1
 refine Run.goP (S:=Z0) (Pack.nil.k (ciV c) (ciC c).toList (.s (.agg (ks 0 16)))) Tryz.func31 rfl ?_
 refine Run.cR (spRingC true) (fun _ _ _ H=>eWheelO c p0) ?_
 refine Run.cR spMat (fun _ _ _ H=>iOver c (RingP.mk (H.f 0) (H.f 1) (H.f 2) (H.f 3)) (by first | assumption | omega | exact over_piv (ciOk_c p0).2.1 | (refine over_le ?_; omega) | (dsimp only at *; omega))) ?_
 refine Run.cV ((rmbC (mbcut c.over.nrm)).toList ++ [.int .i64 (mberr c.over.nrm)]) (.tup [.agg (ks 0 33),.o (.k 33)]) (fun _ _ _ H=>mtTold c.over (MatP.mk (H.f 4) (H.f 5) (H.f 6) (H.f 7) (H.f 8) (H.f 9) (H.f 10) (H.f 11)) (by first | assumption | omega | exact over_piv (ciOk_c p0).2.1 | (refine over_le ?_; omega) | (dsimp only at *; omega)) (by first | assumption | omega | exact over_piv (ciOk_c p0).2.1 | (refine over_le ?_; omega) | (dsimp only at *; omega))) ?_
 exact Run.rV rfl
theorem ivOvN (r:RCi) (p0:ciOk r = false):Calls Tryz.prog 31 #[rciV r] W (RetV (.tuple #[rmbV rzMb,.int .i64 2]) W):=by
 refine Run.goP (S:=Z0) (Pack.nil.k (rciV r) (rciC r).toList (.s (.agg (ks 0 16)))) Tryz.func31 rfl ?_
 refine Run.cR (spRingJC false) (fun _ _ _ H=>eWheelN r p0) ?_
 exact Run.rV rfl
theorem mtUndo {v0:Value} (m:Mb) (t0:(MatP m).p S v0 W) (p0:ht m.a.re + ht m.a.im + ht m.b.re + ht m.b.im + ht m.c.re + ht m.c.im + ht m.d.re + ht m.d.im ≤ 268435456) (p1:m.det.zero = false):Calls Tryz.prog 193 #[v0] W (Ret (MatP m.undo) S W):=by
 have h1:=hc_neg m.b
 have h2:=hc_neg m.c
 have h3:=hc_conj m.d
 have h4:=hc_conj m.a
 have h5:=hc_conj m.b.neg
 have h6:=hc_conj m.c.neg
 refine Run.goP (S:=S) (Pack.nil.s spMat t0) Tryz.func193 rfl ?_
 refine Run.dr ?_
 refine RunD.cR spNum (fun _ _ _ H=>eNeg m.b (NumP.mk (H.f 2) (H.f 3)) (by first | omega | (dsimp only at *; omega) | exact undo_p1 p1 _ | exact undo_p0 p1 _)) ?_
 refine RunD.cR spNum (fun _ _ _ H=>eNeg m.c (NumP.mk (H.f 4) (H.f 5)) (by first | omega | (dsimp only at *; omega) | exact undo_p1 p1 _ | exact undo_p0 p1 _)) ?_
 refine RunD.en ?_
 refine (Bool.eq_false_or_eq_true (m.t)).elim (fun c1=>?_) (fun c1=>?_)
 · refine Run.kn c1 ?_
   refine Run.dr ?_
   refine RunD.cR spNum (fun _ _ _ H=>eConj m.d (NumP.mk (H.f 6) (H.f 7)) (by first | omega | (dsimp only at *; omega) | exact undo_p1 p1 c1 | exact undo_p0 p1 c1)) ?_
   refine RunD.cR spNum (fun _ _ _ H=>eConj m.b.neg (NumP.mk (H.f 8) (H.f 9)) (by first | omega | (dsimp only at *; omega) | exact undo_p1 p1 c1 | exact undo_p0 p1 c1)) ?_
   refine RunD.cR spNum (fun _ _ _ H=>eConj m.c.neg (NumP.mk (H.f 10) (H.f 11)) (by first | omega | (dsimp only at *; omega) | exact undo_p1 p1 c1 | exact undo_p0 p1 c1)) ?_
   refine RunD.cR spNum (fun _ _ _ H=>eConj m.a (NumP.mk (H.f 0) (H.f 1)) (by first | omega | (dsimp only at *; omega) | exact undo_p1 p1 c1 | exact undo_p0 p1 c1)) ?_
   refine RunD.en ?_
   refine Run.cR spMat (fun _ _ _ H=>mtNorm (Mb.mk m.d.conj m.b.neg.conj m.c.neg.conj m.a.conj m.t) (MatP.mk (H.f 12) (H.f 13) (H.f 14) (H.f 15) (H.f 16) (H.f 17) (H.f 18) (H.f 19)) (by first | omega | (dsimp only at *; omega) | exact undo_p1 p1 c1 | exact undo_p0 p1 c1) (by first | omega | (dsimp only at *; omega) | exact undo_p1 p1 c1 | exact undo_p0 p1 c1)) ?_
   exact Run.rR (fun _ _ _ H=>VPe (φ:=MatP) (undo_1 c1) (MatP.mk (H.f 20) (H.f 21) (H.f 22) (H.f 23) (H.f 24) (H.f 25) (H.f 26) (H.f 27)))
 · refine Run.kn c1 ?_
   refine Run.cR spMat (fun _ _ _ H=>mtNorm (Mb.mk m.d m.b.neg m.c.neg m.a m.t) (MatP.mk (H.f 6) (H.f 7) (H.f 8) (H.f 9) (H.f 10) (H.f 11) (H.f 0) (H.f 1)) (by first | omega | (dsimp only at *; omega) | exact undo_p1 p1 c1 | exact undo_p0 p1 c1) (by first | omega | (dsimp only at *; omega) | exact undo_p1 p1 c1 | exact undo_p0 p1 c1)) ?_
   exact Run.rR (fun _ _ _ H=>VPe (φ:=MatP) (undo_0 c1) (MatP.mk (H.f 12) (H.f 13) (H.f 14) (H.f 15) (H.f 16) (H.f 17) (H.f 18) (H.f 19)))
theorem mtSend {v0 v1:Value} (m:Mb) (p:Pn) (t0:(MatP m).p S v0 W) (t1:(PlaceP p).p S v1 W) (p0:ht m.a.re + ht m.a.im + ht m.b.re + ht m.b.im + ht m.c.re + ht m.c.im + ht m.d.re + ht m.d.im + (ht p.z.re + ht p.z.im) ≤ 67108864):Calls Tryz.prog 157 #[v0,v1] W (Ret (PlaceP (m.send p)) S W):=by
 have h1:=hc_conj p.z
 have h2:=hc_mul m.a p.z
 have h3:=hc_mul m.c p.z
 have h4:=hc_mul m.a p.z.conj
 have h5:=hc_mul m.c p.z.conj
 have h6:=hc_add (m.a.mul p.z) m.b
 have h7:=hc_add (m.c.mul p.z) m.d
 have h8:=hc_add (m.a.mul p.z.conj) m.b
 have h9:=hc_add (m.c.mul p.z.conj) m.d
 refine Run.goP (S:=S) ((Pack.nil.s spMat t0).s spPlace t1) Tryz.func157 rfl ?_
 refine Run.dr ?_
 refine RunD.en ?_
 refine (Bool.eq_false_or_eq_true (p.inf)).elim (fun c1=>?_) (fun c1=>?_)
 · refine Run.kn c1 ?_
   refine Run.cV [.bool m.c.zero] kb (fun _ _ _ H=>eZero m.c (NumP.mk (H.f 4) (H.f 5))) ?_
   refine (Bool.eq_false_or_eq_true (m.c.zero)).elim (fun c2=>?_) (fun c2=>?_)
   · refine Run.kn c2 ?_
     exact Run.rR (fun _ _ _ H=>VPe (φ:=PlaceP) (send_iT (by rw [c1]; rfl) c2) (PlaceP.mk (RatN.nil rfl) (RatN.nil rfl)))
   · refine Run.kn c2 ?_
     refine Run.cR spNum (fun _ _ _ H=>eDiv m.a m.c (NumP.mk (H.f 0) (H.f 1)) (NumP.mk (H.f 4) (H.f 5)) (by first | omega | (dsimp only at *; omega) | exact zero_norm _ | exact zero_norm c2) (by first | omega | (dsimp only at *; omega) | exact zero_norm _ | exact zero_norm c2)) ?_
     exact Run.rR (fun _ _ _ H=>VPe (φ:=PlaceP) (send_iF (by rw [c1]; rfl) c2) (PlaceP.mk (H.f 10) (H.f 11)))
 · refine Run.kn c1 ?_
   refine (Bool.eq_false_or_eq_true (m.t)).elim (fun c3=>?_) (fun c3=>?_)
   · refine Run.kn c3 ?_
     refine Run.cR spNum (fun _ _ _ H=>eConj p.z (NumP.mk (H.f 8) (H.f 9)) (by first | omega | (dsimp only at *; omega) | exact zero_norm _ | exact zero_norm c3)) ?_
     refine Run.dr ?_
     refine RunD.cR spNum (fun _ _ _ H=>eNMul m.a p.z.conj (NumP.mk (H.f 0) (H.f 1)) (NumP.mk (H.f 10) (H.f 11)) (by first | omega | (dsimp only at *; omega) | exact zero_norm _ | exact zero_norm c3)) ?_
     refine RunD.cR spNum (fun _ _ _ H=>eAdd (m.a.mul p.z.conj) m.b (NumP.mk (H.f 12) (H.f 13)) (NumP.mk (H.f 2) (H.f 3)) (by first | omega | (dsimp only at *; omega) | exact zero_norm _ | exact zero_norm c3)) ?_
     refine RunD.cR spNum (fun _ _ _ H=>eNMul m.c p.z.conj (NumP.mk (H.f 4) (H.f 5)) (NumP.mk (H.f 10) (H.f 11)) (by first | omega | (dsimp only at *; omega) | exact zero_norm _ | exact zero_norm c3)) ?_
     refine RunD.cR spNum (fun _ _ _ H=>eAdd (m.c.mul p.z.conj) m.d (NumP.mk (H.f 16) (H.f 17)) (NumP.mk (H.f 6) (H.f 7)) (by first | omega | (dsimp only at *; omega) | exact zero_norm _ | exact zero_norm c3)) ?_
     refine RunD.en ?_
     refine Run.cV [.bool (((m.c.mul p.z.conj).add m.d).zero)] kb (fun _ _ _ H=>eZero ((m.c.mul p.z.conj).add m.d) (NumP.mk (H.f 18) (H.f 19))) ?_
     refine (Bool.eq_false_or_eq_true (((m.c.mul p.z.conj).add m.d).zero)).elim (fun c4=>?_) (fun c4=>?_)
     · refine Run.kn c4 ?_
       exact Run.rR (fun _ _ _ H=>VPe (φ:=PlaceP) (send_n1T (by rw [c1]; rfl) c3 c4) (PlaceP.mk (RatN.nil rfl) (RatN.nil rfl)))
     · refine Run.kn c4 ?_
       refine Run.cR spNum (fun _ _ _ H=>eDiv ((m.a.mul p.z.conj).add m.b) ((m.c.mul p.z.conj).add m.d) (NumP.mk (H.f 14) (H.f 15)) (NumP.mk (H.f 18) (H.f 19)) (by first | omega | (dsimp only at *; omega) | exact zero_norm c4 | exact zero_norm c3) (by first | omega | (dsimp only at *; omega) | exact zero_norm c4 | exact zero_norm c3)) ?_
       exact Run.rR (fun _ _ _ H=>VPe (φ:=PlaceP) (send_n1F (by rw [c1]; rfl) c3 c4) (PlaceP.mk (H.f 20) (H.f 21)))
   · refine Run.kn c3 ?_
     refine Run.dr ?_
     refine RunD.cR spNum (fun _ _ _ H=>eNMul m.a p.z (NumP.mk (H.f 0) (H.f 1)) (NumP.mk (H.f 8) (H.f 9)) (by first | omega | (dsimp only at *; omega) | exact zero_norm _ | exact zero_norm c3)) ?_
     refine RunD.cR spNum (fun _ _ _ H=>eAdd (m.a.mul p.z) m.b (NumP.mk (H.f 10) (H.f 11)) (NumP.mk (H.f 2) (H.f 3)) (by first | omega | (dsimp only at *; omega) | exact zero_norm _ | exact zero_norm c3)) ?_
     refine RunD.cR spNum (fun _ _ _ H=>eNMul m.c p.z (NumP.mk (H.f 4) (H.f 5)) (NumP.mk (H.f 8) (H.f 9)) (by first | omega | (dsimp only at *; omega) | exact zero_norm _ | exact zero_norm c3)) ?_
     refine RunD.cR spNum (fun _ _ _ H=>eAdd (m.c.mul p.z) m.d (NumP.mk (H.f 14) (H.f 15)) (NumP.mk (H.f 6) (H.f 7)) (by first | omega | (dsimp only at *; omega) | exact zero_norm _ | exact zero_norm c3)) ?_
     refine RunD.en ?_
     refine Run.cV [.bool (((m.c.mul p.z).add m.d).zero)] kb (fun _ _ _ H=>eZero ((m.c.mul p.z).add m.d) (NumP.mk (H.f 16) (H.f 17))) ?_
     refine (Bool.eq_false_or_eq_true (((m.c.mul p.z).add m.d).zero)).elim (fun c5=>?_) (fun c5=>?_)
     · refine Run.kn c5 ?_
       exact Run.rR (fun _ _ _ H=>VPe (φ:=PlaceP) (send_n0T (by rw [c1]; rfl) c3 c5) (PlaceP.mk (RatN.nil rfl) (RatN.nil rfl)))
     · refine Run.kn c5 ?_
       refine Run.cR spNum (fun _ _ _ H=>eDiv ((m.a.mul p.z).add m.b) ((m.c.mul p.z).add m.d) (NumP.mk (H.f 12) (H.f 13)) (NumP.mk (H.f 16) (H.f 17)) (by first | omega | (dsimp only at *; omega) | exact zero_norm c5 | exact zero_norm c3) (by first | omega | (dsimp only at *; omega) | exact zero_norm c5 | exact zero_norm c3)) ?_
       exact Run.rR (fun _ _ _ H=>VPe (φ:=PlaceP) (send_n0F (by rw [c1]; rfl) c3 c5) (PlaceP.mk (H.f 18) (H.f 19)))
end Go.Proofs.YtcpjdjnaipbieaaGreat
namespace Go.Proofs.YtcpjdjnaipbieaaGreat
open Go.RowKit Rgn
set_option maxHeartbeats 1000000
set_option maxRecDepth 100000
variable {S:Nat → Prop} {W:World}
theorem ivPtZ (c:Ci) (z:Cx) (p0:ciOk (rci c) = true) (p1:gfits (rg z) = true) :
  Calls Tryz.prog 32 #[ciV c,pnV (Pn.mk false z)] W (RetV (.tuple #[.agg #[.bool ((pncut (c.over.send (Pn.mk false z))).inf),.bool ((((pncut (c.over.send (Pn.mk false z))).z).re).a).n,.string ((((pncut (c.over.send (Pn.mk false z))).z).re).a).s,.bool ((((pncut (c.over.send (Pn.mk false z))).z).re).b).n,.string ((((pncut (c.over.send (Pn.mk false z))).z).re).b).s,.bool ((((pncut (c.over.send (Pn.mk false z))).z).im).a).n,.string ((((pncut (c.over.send (Pn.mk false z))).z).im).a).s,.bool ((((pncut (c.over.send (Pn.mk false z))).z).im).b).n,.string ((((pncut (c.over.send (Pn.mk false z))).z).im).b).s],.int .i64 (pnerr (c.over.send (Pn.mk false z)))]) W):=by
 have f3:ht z.re + ht z.im ≤ 20000:=gfits_ht2 p1
 have f1:=cifits_ht (ciOk_c p0).1
 have f2:=over_l2 f1
 have f4:ht c.over.a.re + ht c.over.a.im + ht c.over.b.re + ht c.over.b.im + ht c.over.c.re + ht c.over.c.im + ht c.over.d.re + ht c.over.d.im + (ht (Pn.mk false z).z.re + ht (Pn.mk false z).z.im) ≤ 67108864:=Nat.le_trans (Nat.add_le_add f2 (f3)) (by decide)
 have f5:ht (c.over.send (Pn.mk false z)).z.re + ht (c.over.send (Pn.mk false z)).z.im ≤ 1073741824:=Nat.le_trans (send_le f2 (Nat.le_trans (f3) (by decide))) (by decide)
 clear f2
 have bel:=b0 W
 go_enter Tryz.func32,Tryz.ntmps32
 refine gs 4 (Amb Z0 W) fun _ K1=>?_
 refine .bx rfl (fun H=>H.v 0 (ciV c)) ?_
 refine .bx rfl (fun H=>H.v 1 (pnV (Pn.mk false z))) ?_
 refine .al rfl zPn ?_
 refine .mc rfl ?_
 refine .dk (fun u=>ciV c::pnV (Pn.mk false z)::sq u 0 4 (us 28)) K1 bel fun u1 w1 D bel=>?_
 obtain ⟨b2,E1_0,A2,B2⟩:=D.nw 0
 obtain ⟨b3,E1_1,A3,B3⟩:=D.nw 1
 obtain ⟨b4,E1_2,A4,B4⟩:=D.nw 2
 have E1_3:=D.q 3
 have N2_4:=D.n2 0 2 E1_0 E1_2
 have N3_4:=D.n2 1 2 E1_1 E1_2
 clear D
 refine gs 8 (Amb Z0 W) fun _ K5=>?_
 refine .lr rfl 2 E1_0 B2 ?_
 refine .cR rfl [] Tryz.func155 (fun H=>⟨_,ar1 (H.g 11 0),eWheelO _ (by first | omega | assumption)⟩) ?_
 refine .mn rfl 1 [1] ?_
 refine Go2.fn (i:=3) rfl (G0 rfl) (.val 3 [1,2] (RingP c)) (fun u μ ρ H=>by have e10:=H.r 10 2; have h0:=(H.a 2 rfl); obtain ⟨x0,x1,h1,h2⟩:=h0; rw [h1] at e10; exact ⟨x0,by clear H; go_simp,SP.tupKeep (by decide) (by decide) h2.1⟩) ?_
 refine .e rfl (V:=.bool true) (fun H=>by have e10:=H.r 10 2; have h0:=(H.a 2 rfl); obtain ⟨x0,x1,h1,h2,h3⟩:=h0; rw [h1] at e10; have h3:x1 = .bool true:=h3; subst h3; clear H; go_simp) ?_
 refine .al rfl (#[.pointer none,.pointer none,.pointer none,.pointer none]) ?_
 refine Go2.storeOwn (i:=6) (m:=5) rfl rfl (.head _) (SP.cells 5 [3] (fun u=>#[((u 3).v.cells.getD 0 undef),((u 3).v.cells.getD 1 undef),((u 3).v.cells.getD 2 undef),((u 3).v.cells.getD 3 undef)]) 203 (by intro u u' h; simp [h 3 (by simp)])) (fun u μ ρ b H h0 hB hb=>?_) ?_
 · have e6:=H.r 6 5; have e13:=H.r 13 3
   rw [h0] at e6
   obtain ⟨x1,x2,x3,x4,h1,h2,h3,h4,h5⟩:=(H.a 3 rfl)
   have o1:=VP1.rat h2
   have o2:=VP1.ratn h3
   have o3:=VP1.ratn h4
   have o4:=VP1.rat h5
   rw [h1] at e13
   refine ⟨μ.setRow b #[x1,x2,x3,x4],ex_store_row 203 _ _ rfl e6 e13 hb (by kernel_rfl) rfl (by simp [o1,o2,o3,o4] <;> rfl),fun g=>⟨b,?_,hB,?_⟩,setRow_only _ _ _⟩
   · rw [upd_other _ _ (by decide)]; exact h0
   · rw [setRow_at hb]; try simp [upd,h1,Value.cells]
 refine .mv rfl 4 ?_
 refine .dk (fun u=>ciV c::pnV (Pn.mk false z)::sq u1 0 4 (u 5::u 7::U::U::u 2::u 0::u 1::u 3::u 4::us 19)) K5 bel fun u2 w2 D bel=>?_
 obtain ⟨b6,x7,x8,b9,E2_3,L6,L9,F6,F_x7,F_x8,F9⟩:=RingP.elim (D.rr 3)
 obtain ⟨b10,E2_5,A10,B10⟩:=(D.a 6 rfl)
 replace A10:=le2 D.le A10
 have E2_7:=D.q 7
 have N4_10:=D.n1 5 (lt_of B4) E2_5
 replace B3:=D.k B3
 replace B4:=D.k B4
 simp only [Value.cells,E2_3,E2_5] at B10
 replace B10:w2.heap[b10]? = some (.cells #[pt b6,x7,x8,pt b9] 203 (0,0)):=B10
 clear D
 refine gs 8 (Amb Z0 W) fun _ K11=>?_
 refine .lr rfl 3 E1_1 B3 ?_
 refine .cR rfl [] Tryz.func156 (fun H=>⟨_,ar1 (H.g 16 0),eSpotZ z (by first | omega | assumption)⟩) ?_
 refine .mn rfl 1 [1] ?_
 refine Go2.fn (i:=3) rfl (G0 rfl) (.val 3 [1,2] (PlaceP (Pn.mk false z))) (fun u μ ρ H=>by have e15:=H.r 15 2; have h0:=(H.a 2 rfl); obtain ⟨x0,x1,h1,h2⟩:=h0; rw [h1] at e15; exact ⟨x0,by clear H; go_simp,SP.tupKeep (by decide) (by decide) h2.1⟩) ?_
 refine .e rfl (V:=.bool true) (fun H=>by have e15:=H.r 15 2; have h0:=(H.a 2 rfl); obtain ⟨x0,x1,h1,h2,h3⟩:=h0; rw [h1] at e15; have h3:x1 = .bool true:=h3; subst h3; clear H; go_simp) ?_
 refine .al rfl (#[.bool false,.pointer none,.pointer none]) ?_
 refine Go2.storeOwn (i:=6) (m:=5) rfl rfl (.head _) (SP.cells 5 [3] (fun u=>#[.bool ((Pn.mk false z).inf),((u 3).v.cells.getD 1 undef),((u 3).v.cells.getD 2 undef)]) 229 (by intro u u' h; simp [h 3 (by simp)])) (fun u μ ρ b H h0 hB hb=>?_) ?_
 · have e8:=H.r 8 5; have e18:=H.r 18 3
   rw [h0] at e8
   obtain ⟨x2,x3,h1,h3,h4⟩:=(H.a 3 rfl)
   have o2:=VP1.ratn h3
   have o3:=VP1.ratn h4
   rw [h1] at e18
   refine ⟨μ.setRow b #[.bool ((Pn.mk false z).inf),x2,x3],ex_store_row 229 _ _ rfl e8 e18 hb (by kernel_rfl) rfl (by simp [o2,o3] <;> rfl),fun g=>⟨b,?_,hB,?_⟩,setRow_only _ _ _⟩
   · rw [upd_other _ _ (by decide)]; exact h0
   · rw [setRow_at hb]; try simp [upd,h1,Value.cells]
 refine .mv rfl 4 ?_
 refine .dk (fun u=>ciV c::pnV (Pn.mk false z)::sq u1 0 4 (u2 5::u2 7::u 5::u 7::u2 2::u2 0::u2 1::u2 3::u2 4::u 2::u 0::u 1::u 3::u 4::us 14)) K11 bel fun u3 w3 D bel=>?_
 obtain ⟨x12,x13,E3_3,F_x12,F_x13⟩:=(D.rr 3)
 obtain ⟨b14,E3_5,A14,B14⟩:=(D.a 6 rfl)
 replace A14:=le2 D.le A14
 have E3_7:=D.q 7
 have N4_14:=D.n1 5 (lt_of B4) E3_5
 replace B4:=D.k B4
 replace B10:=D.k B10
 simp only [Value.cells,E3_3,E3_5] at B14
 replace B14:w3.heap[b14]? = some (.cells #[.bool ((Pn.mk false z).inf),x12,x13] 229 (0,0)):=B14
 replace F6:=D.o L6 F6
 replace F9:=D.o L9 F9
 replace F_x7:=D.gr (RatN c.b.re) F_x7
 replace F_x8:=D.gr (RatN c.b.im) F_x8
 clear D
 refine wp_seq_k fun _ K15=>?_
 refine gs 6 (Amb Z0 W) fun _ K16=>?_
 refine .mz rfl 7 E2_7 ?_
 refine .e rfl (V:=.bool false) (fun H=>x_not (H.g 20 0)) ?_
 refine .mv rfl 1 ?_
 refine .mz rfl 9 E3_7 ?_ (hg:=gq 2 rfl)
 refine .e rfl (V:=.bool false) (fun H=>x_not (H.g 23 3)) ?_ (hg:=gq 2 rfl)
 refine .e rfl (fun H=>x_pkF (H.g 22 2) (H.g 24 4)) ?_
 refine .dk (fun u=>ciV c::pnV (Pn.mk false z)::sq u1 0 4 (u2 5::u2 7::u3 5::u3 7::u2 2::u2 0::u2 1::u2 3::u2 4::u3 2::u3 0::u3 1::u3 3::u3 4::sq u 0 6 (us 8))) K16 bel fun u4 w4 D bel=>?_
 have E4_5:=D.q 5
 replace B4:=D.k B4
 replace B10:=D.k B10
 replace B14:=D.k B14
 replace F6:=D.o L6 F6
 replace F9:=D.o L9 F9
 replace F_x7:=D.gr (RatN c.b.re) F_x7
 replace F_x8:=D.gr (RatN c.b.im) F_x8
 replace F_x12:=D.gr (RatN (((Pn.mk false z).z).re)) F_x12
 replace F_x13:=D.gr (RatN (((Pn.mk false z).z).im)) F_x13
 clear D
 refine wp_cond_false (by exact E4_5) ?_
 refine wp_skip ?_
 refine K15 _ _ ?_
 refine gd1 9 (Amb Z0 W) 7 B4 fun _ K17=>?_
 refine .e rfl (fun H=>x_ldr (H.z 6 E2_5) (H.b1 B10 N4_10)) ?_
 refine .cR rfl [] Tryz.func143 (fun H=>⟨_,ar1 (H.g 27 0),iOver c (RingP.mk (H.was _ [] (VP.at F6 L6)) (H.was _ [] F_x7) (H.was _ [] F_x8) (H.was _ [] (VP.at F9 L9))) (by first | omega | assumption)⟩) ?_
 refine .e rfl (fun H=>x_ldr (H.z 8 E3_5) (H.b1 B14 N4_14)) ?_
 refine .cR rfl [1] Tryz.func157 (fun H=>⟨_,ar2 (H.r 28 1) (H.g 29 2),mtSend c.over (Pn.mk false z) (SV.sub [1] (H.a 1 rfl) rfl) (PlaceP.mk (H.was _ [1] F_x12) (H.was _ [1] F_x13)) (by first | omega | assumption)⟩) ?_
 refine .cK rfl Tryz.func158 (fun H=>⟨_,ar1 (H.r 30 3),plTold (c.over.send (Pn.mk false z)) (SV.any (H.a 3 rfl)) (by first | omega | assumption)⟩) ?_
 refine .e rfl (V:=rpnV (pncut (c.over.send (Pn.mk false z)))) (fun H=>x_ex (H.g 31 4)) ?_
 refine .e rfl (V:=.int .i64 (pnerr (c.over.send (Pn.mk false z)))) (fun H=>x_ex (H.g 31 4)) ?_
 refine .s1 rfl B4 (fun H=>⟨H.z 4 E1_2,H.g 32 5⟩) ?_
 refine .mv rfl 6 ?_
 refine .d1 (fun u=>ciV c::pnV (Pn.mk false z)::sq u1 0 3 (u 8::u2 5::u2 7::u3 5::u3 7::u2 2::u2 0::u2 1::u2 3::u2 4::u3 2::u3 0::u3 1::u3 3::u3 4::sq u4 0 6 (U::sq u 0 7 []))) K17 bel A4 fun u5 w5 D bel=>?_
 have E5_8:=D.q 8
 replace B4:=D.ol 7
 clear D
 refine wp_ret ?_
 refine ret_ok rfl (by exact results_mix rfl (by exact E1_2) B4 Tryz.underlying56 rfl (by kernel_rfl) (by exact E5_8)) (RetV.mk ?_ bel)
 exact congrArg Ending.returned (rfl)
end Go.Proofs.YtcpjdjnaipbieaaGreat
namespace Go.Proofs.YtcpjdjnaipbieaaGreat
open Go.RowKit Rgn
abbrev lineM:Mb:=⟨Cx.ofInt (1:Int) (0:Int),Cx.ofInt (0:Int) (0:Int),Cx.ofInt (0:Int) (0:Int),Cx.ofInt (1:Int) (0:Int),true⟩
theorem fits_c {q:Rat} (h:ht q = 2):fits (rf q) = true:=fits_ht (by omega)
theorem gfits_c {a b:Int} (h1:ht (a:Rat) = 2) (h2:ht (b:Rat) = 2):gfits (rg (Cx.ofInt a b)) = true:=gfits_ht (z:=Cx.ofInt a b) ⟨by show ht (a:Rat) ≤ _; omega,by show ht (b:Rat) ≤ _; omega⟩
theorem ht_c0:ht ((0:Int):Rat) = 2:=by decide
theorem ht_c1:ht ((1:Int):Rat) = 2:=by decide
theorem ht_cm:ht ((-1:Int):Rat) = 2:=by decide
theorem unitFits:cifits (rci unitK) = true:=by
 show (fits (rf ((1:Int):Rat)) && gfits (rg (Cx.ofInt (0:Int) (0:Int))) && fits (rf ((-1:Int):Rat))) = true
 rw [fits_c ht_c1,fits_c ht_cm,gfits_c ht_c0 ht_c0]; rfl
theorem lineFits:cifits (rci lineK) = true:=by
 show (fits (rf ((0:Int):Rat)) && gfits (rg (Cx.ofInt (0:Int) (1:Int))) && fits (rf ((0:Int):Rat))) = true
 rw [fits_c ht_c0,gfits_c ht_c0 ht_c1]; rfl
theorem lineMFits:mbfits (rmb lineM) = true:=by
 show (gfits (rg (Cx.ofInt (1:Int) (0:Int))) && gfits (rg (Cx.ofInt (0:Int) (0:Int))) && gfits (rg (Cx.ofInt (0:Int) (0:Int))) && gfits (rg (Cx.ofInt (1:Int) (0:Int)))) = true
 rw [gfits_c ht_c1 ht_c0,gfits_c ht_c0 ht_c0]; rfl
theorem unitOk:ciOk (rci unitK) = true:=ciOk_yes unitFits (by decide +kernel) (by decide +kernel)
theorem lineOk:ciOk (rci lineK) = true:=ciOk_yes lineFits (by decide +kernel) (by decide +kernel)
theorem lineMOk:mbOk (rmb lineM) = true:=mbOk_yes lineMFits (by decide +kernel) (by decide +kernel)
theorem line_over:lineK.over.nrm = lineM:=by decide +kernel
theorem line_is:lineM.isOk = true:=by decide +kernel
theorem line_k:lineM.isK.nrm = lineK:=by decide +kernel
theorem unit_send:(unitK.over.send ⟨false,Cx.ofInt (0:Int) (0:Int)⟩).inf = true:=by decide +kernel
theorem unit_line:((unitK.dot lineK).num.sign == 0) = true:=by decide +kernel
theorem line_R:lineM.isR = rci lineK:=by unfold Mb.isR; rw [if_pos line_is,line_k]; unfold cicut; rw [if_pos lineFits]
theorem line_E:lineM.isE = 0:=by unfold Mb.isE; rw [if_pos line_is,line_k]; unfold cierr; rw [if_pos lineFits]
theorem line_M:mbcut lineK.over.nrm = rmb lineM:=by rw [line_over]; unfold mbcut; rw [if_pos lineMFits]
theorem line_e:mberr lineK.over.nrm = 0:=by rw [line_over]; unfold mberr; rw [if_pos lineMFits]
abbrev rpnI:RPn:=⟨true,rz⟩
section
variable {W:World}
theorem wkPt (c:Ci) (z:Cx) (p0:c = unitK) (p1:z = Cx.ofInt (0:Int) (0:Int)) :
  Calls Tryz.prog 32 #[ciV c,pnV (Pn.mk false z)] W (RetV (.tuple #[rpnV rpnI,.int .i64 0]) W):=by
 subst p0; subst p1
 exact reV (pcut_inf unit_send).symm (ivPtZ unitK (Cx.ofInt (0:Int) (0:Int)) unitOk (gfits_c ht_c0 ht_c0))
theorem wkOver (c:Ci) (p0:c = lineK) :
  Calls Tryz.prog 31 #[ciV c] W (RetV (.tuple #[mbV lineM,.int .i64 0]) W):=by
 subst p0
 exact reV (show Value.tuple #[rmbV (mbcut lineK.over.nrm),.int .i64 (mberr lineK.over.nrm)] = .tuple #[rmbV (rmb lineM),.int .i64 0] by rw [line_M,line_e]) (ivOvO lineK lineOk)
theorem wkRt (x:Ci) (y:Ci) (p0:x = unitK) (p1:y = lineK) :
  Calls Tryz.prog 34 #[ciV x,ciV y] W (RetV (.tuple #[.bool true,.int .i64 0]) W):=by
 subst p0; subst p1
 exact reV (show Value.tuple #[.bool ((unitK.dot lineK).num.sign == 0),.int .i64 0] = .tuple #[.bool true,.int .i64 0] by rw [unit_line]) (ivRtY unitK lineK unitOk lineOk)
theorem wkIs (m:Mb) (p0:m = lineM) :
  Calls Tryz.prog 25 #[mbV m] W (RetV (.tuple #[ciV lineK,.int .i64 0]) W):=by
 subst p0
 exact reV (show Value.tuple #[rciV lineM.isR,.int .i64 lineM.isE] = .tuple #[rciV (rci lineK),.int .i64 0] by rw [line_R,line_E]) (ivIs lineM lineMOk)
end
theorem side_3 (c:Ci) (P:Pn):c.side P = -1 ∨ c.side P = 0 ∨ c.side P = 1:=by
 unfold Ci.side
 split
 ·rcases rat_tri c.a with h | h | h
  ·exact .inl (sg_neg h)
  ·exact .inr (.inl (sg_zero.2 h))
  ·exact .inr (.inr (sg_pos h))
 ·rcases rat_tri (c.val P.z) with h | h | h
  ·exact .inl (sg_neg h)
  ·exact .inr (.inl (sg_zero.2 h))
  ·exact .inr (.inr (sg_pos h))
theorem side_lt {c:Ci} {P:Pn} (h:decide (c.side P < 0) = true):Value.tuple #[.int .i64 (-1),.int .i64 0] = .tuple #[.int .i64 (c.side P),.int .i64 0]:=by
 have h1:=of_decide_eq_true h
 rcases side_3 c P with e | e | e
 ·rw [e]
 ·omega
 ·omega
theorem side_gt {c:Ci} {P:Pn} (_:decide (c.side P < 0) = false) (h:decide (0 < c.side P) = true):Value.tuple #[.int .i64 1,.int .i64 0] = .tuple #[.int .i64 (c.side P),.int .i64 0]:=by
 have h1:=of_decide_eq_true h
 rcases side_3 c P with e | e | e
 ·omega
 ·omega
 ·rw [e]
theorem side_eq {c:Ci} {P:Pn} (h:decide (c.side P < 0) = false) (h' : decide (0 < c.side P) = false):Value.tuple #[.int .i64 0,.int .i64 0] = .tuple #[.int .i64 (c.side P),.int .i64 0]:=by
 have h1:=of_decide_eq_false h
 have h2:=of_decide_eq_false h'
 have e:c.side P = 0:=by omega
 rw [e]
theorem mb_l2 {m:Mb} (h:mbOk (rmb m) = true):ht m.a.re + ht m.a.im + ht m.b.re + ht m.b.im + ht m.c.re + ht m.c.im + ht m.d.re + ht m.d.im ≤ 200000:=by
 have:=mbfits_ht (mbOk_c h).1
 omega
theorem undo_l {m:Mb} (h:mbOk (rmb m) = true):ht m.undo.a.re + ht m.undo.a.im + ht m.undo.b.re + ht m.undo.b.im + ht m.undo.c.re + ht m.undo.c.im + ht m.undo.d.re + ht m.undo.d.im ≤ 67108864:=by
 have h1:=undo_le (mb_l2 h)
 unfold Mb.ub HB at h1
 omega
abbrev stI:Mb:=Mb.mk (Cx.ofInt (1:Int) (0:Int)) (Cx.mk 0 0) (Cx.mk 0 0) (Cx.ofInt (1:Int) (0:Int)) false
theorem st_fit:mbfits (rmb Mb.st) = true:=by
 have e:Mb.st = ⟨Cx.ofInt (1:Int) (0:Int),Cx.ofInt (0:Int) (0:Int),Cx.ofInt (0:Int) (0:Int),Cx.ofInt (1:Int) (0:Int),false⟩:=by decide +kernel
 rw [e]
 show (gfits (rg (Cx.ofInt (1:Int) (0:Int))) && gfits (rg (Cx.ofInt (0:Int) (0:Int))) && gfits (rg (Cx.ofInt (0:Int) (0:Int))) && gfits (rg (Cx.ofInt (1:Int) (0:Int)))) = true
 rw [gfits_c ht_c1 ht_c0,gfits_c ht_c0 ht_c0]; rfl
theorem st_n:stI.nrm = Mb.st:=by decide +kernel
theorem st_R:mbcut stI.nrm = rmb Mb.st:=by rw [st_n]; unfold mbcut; rw [if_pos st_fit]
theorem undo_n {m:Mb} (h:m.det.zero = false):m.undo.piv.zero = false:=det_piv (undo_det h)
theorem img_T {m:Mb} {c:Ci} (p0:mbOk (rmb m) = true) (p1:ciOk (rci c) = true):Value.tuple #[rciV (cicut (m.img c).nrm.nrm),.int .i64 (cierr (m.img c).nrm.nrm)] = .tuple #[rciV (cicut (m.img c).nrm),.int .i64 (cierr (m.img c).nrm)]:=by
 rw [nrm_nrm (img_flat (mbOk_c p0).2.1 (ciOk_c p1).2.1)]
theorem nrm2 {m:Mb} (h:m.piv.zero = false):m.nrm.nrm = m.nrm:=by rw [← behind_st m.nrm,nrm_behind _ h,behind_st]
abbrev OkM:={ m:Mb // mbOk (rmb m) = true }
theorem st_ok:mbOk (rmb Mb.st) = true:=mbOk_yes st_fit (by decide +kernel) (by decide +kernel)
instance:Inhabited OkM:=⟨⟨Mb.st,st_ok⟩⟩
def cpE (s:Mb × Bool) (m:OkM):Mb × Bool:=(m.1.behind s.1,s.2 && mbfits (rmb (m.1.behind s.1)))
def cpS (l:List OkM):Mb × Bool:=l.foldl cpE (stI,true)
theorem cpS_snoc (l:List OkM) (m:OkM):cpS (l ++ [m]) = cpE (cpS l) m:=by unfold cpS; rw [List.foldl_append]; rfl
theorem cp_stop:∀ (r pre:List OkM),(cpS pre).2 = false → (cpS (pre ++ r)).2 = false
 | [],pre,h=>by rw [List.append_nil]; exact h
 | m :: r,pre,h=>by
  rw [show pre ++ m :: r = (pre ++ [m]) ++ r by simp]
  exact cp_stop r (pre ++ [m]) (by rw [cpS_snoc]; unfold cpE; rw [h]; rfl)
structure Gd (s:Mb):Prop where
 d:s.det.zero = false
 n:s.nrm = s
 h:HB s.a 20000 ∧ HB s.b 20000 ∧ HB s.c 20000 ∧ HB s.d 20000
 f:mbfits (rmb s) = true
theorem gd_st:Gd stI:=⟨by decide +kernel,by decide +kernel,by unfold HB; decide +kernel,by rw [show stI = Mb.st by decide +kernel]; exact st_fit⟩
theorem ok_hb (m:OkM):HB m.1.a 20000 ∧ HB m.1.b 20000 ∧ HB m.1.c 20000 ∧ HB m.1.d 20000:=by
 have:=mbfits_ht (mbOk_c m.2).1
 unfold HB; omega
section
variable {s:Mb} (g:Gd s) (m:OkM)
include g
theorem beh_dd:(m.1.dot (Mb.cjM m.1.t s)).det.zero = false:=by
 rw [dot_det,cjM_det]
 exact mul_zero_f (mbOk_c m.2).2.1 (by
  have:=g.d
  unfold cjC
  split
  ·rw [zero_conj]; exact this
  ·exact this)
theorem beh_piv:(m.1.dot (Mb.cjM m.1.t s)).piv.zero = false:=det_piv (beh_dd g m)
theorem beh_det:(m.1.behind s).det.zero = false:=nrm_det (beh_dd g m)
theorem beh_n:(m.1.behind s).nrm = m.1.behind s:=nrm2 (beh_piv g m)
theorem beh_pre:ht m.1.a.re + ht m.1.a.im + ht m.1.b.re + ht m.1.b.im + ht m.1.c.re + ht m.1.c.im + ht m.1.d.re + ht m.1.d.im + (ht s.a.re + ht s.a.im + ht s.b.re + ht s.b.im + ht s.c.re + ht s.c.im + ht s.d.re + ht s.d.im) ≤ 16777216:=by
 have h1:=ok_hb m
 have h2:=g.h
 unfold HB at h1 h2
 omega
theorem beh_le:ht (m.1.behind s).a.re + ht (m.1.behind s).a.im + ht (m.1.behind s).b.re + ht (m.1.behind s).b.im + ht (m.1.behind s).c.re + ht (m.1.behind s).c.im + ht (m.1.behind s).d.re + ht (m.1.behind s).d.im ≤ 67108864:=by
 obtain ⟨a1,b1,c1,d1⟩:=ok_hb m
 obtain ⟨a2,b2,c2,d2⟩:=g.h
 have a3:=a2.cj m.1.t
 have b3:=b2.cj m.1.t
 have c3:=c2.cj m.1.t
 have d3:=d2.cj m.1.t
 have e1:=(a1.mul a3 80000).add (b1.mul c3 80000) 160000
 have e2:=(a1.mul b3 80000).add (b1.mul d3 80000) 160000
 have e3:=(c1.mul a3 80000).add (d1.mul c3 80000) 160000
 have e4:=(c1.mul b3 80000).add (d1.mul d3 80000) 160000
 have ep:HB (m.1.dot (Mb.cjM m.1.t s)).piv 160000:=by
  unfold Mb.piv
  split
  ·exact e4
  ·exact e3
 have f1:=e1.div ep 1920000
 have f2:=e2.div ep 1920000
 have f3:=e3.div ep 1920000
 have f4:=e4.div ep 1920000
 have F1:HB (m.1.behind s).a 1920000:=f1
 have F2:HB (m.1.behind s).b 1920000:=f2
 have F3:HB (m.1.behind s).c 1920000:=f3
 have F4:HB (m.1.behind s).d 1920000:=f4
 unfold HB at F1 F2 F3 F4
 omega
theorem gd_le:ht s.a.re + ht s.a.im + ht s.b.re + ht s.b.im + ht s.c.re + ht s.c.im + ht s.d.re + ht s.d.im ≤ 67108864:=by
 have h2:=g.h
 unfold HB at h2
 omega
theorem gd_step (hf:mbfits (rmb (m.1.behind s)) = true):Gd (m.1.behind s):=⟨beh_det g m,beh_n g m,by
 have:=mbfits_ht hf
 unfold HB; omega,hf⟩
end
theorem err_0 {m:Mb} (h:mbfits (rmb m) = true):(mberr m != 0) = false:=by unfold mberr; rw [if_pos h]; rfl
def cpR (l:List OkM):RMb:=if (cpS l).2 = true then rmb (cpS l).1 else rzMb
def cpX (l:List OkM):Int:=if (cpS l).2 = true then 0 else 4
end Go.Proofs.YtcpjdjnaipbieaaGreat
namespace Go.Proofs.YtcpjdjnaipbieaaGreat
open Go.RowKit Rgn Eng
set_option maxHeartbeats 8000000
set_option maxRecDepth 100000
variable {S:Nat → Prop} {W:World}
theorem mtBehind {v0 v1:Value} (x:Mb) (y:Mb) (t0:(MatP x).p S v0 W) (t1:(MatP y).p S v1 W) (p0:ht x.a.re + ht x.a.im + ht x.b.re + ht x.b.im + ht x.c.re + ht x.c.im + ht x.d.re + ht x.d.im + (ht y.a.re + ht y.a.im + ht y.b.re + ht y.b.im + ht y.c.re + ht y.c.im + ht y.d.re + ht y.d.im) ≤ 16777216) (p1:(x.dot (Mb.cjM x.t y)).piv.zero = false):Calls Tryz.prog 184 #[v0,v1] W (Ret (MatP (x.behind y)) S W):=by
 have ga:=hc_conj y.a
 have gb:=hc_conj y.b
 have gc:=hc_conj y.c
 have gd:=hc_conj y.d
 have haa:=mul_n (x:=x.a) (y:=y.a) (n:=16777216) (by omega)
 have kaa:=cj_n (x:=x.a) (y:=y.a) (n:=16777216) (by omega)
 have hbc:=mul_n (x:=x.b) (y:=y.c) (n:=16777216) (by omega)
 have kbc:=cj_n (x:=x.b) (y:=y.c) (n:=16777216) (by omega)
 have hab:=mul_n (x:=x.a) (y:=y.b) (n:=16777216) (by omega)
 have kab:=cj_n (x:=x.a) (y:=y.b) (n:=16777216) (by omega)
 have hbd:=mul_n (x:=x.b) (y:=y.d) (n:=16777216) (by omega)
 have kbd:=cj_n (x:=x.b) (y:=y.d) (n:=16777216) (by omega)
 have hca:=mul_n (x:=x.c) (y:=y.a) (n:=16777216) (by omega)
 have kca:=cj_n (x:=x.c) (y:=y.a) (n:=16777216) (by omega)
 have hdc:=mul_n (x:=x.d) (y:=y.c) (n:=16777216) (by omega)
 have kdc:=cj_n (x:=x.d) (y:=y.c) (n:=16777216) (by omega)
 have hcb:=mul_n (x:=x.c) (y:=y.b) (n:=16777216) (by omega)
 have kcb:=cj_n (x:=x.c) (y:=y.b) (n:=16777216) (by omega)
 have hdd:=mul_n (x:=x.d) (y:=y.d) (n:=16777216) (by omega)
 have kdd:=cj_n (x:=x.d) (y:=y.d) (n:=16777216) (by omega)
 have saa:=add_n haa hbc
 have taa:=add_n kaa kbc
 have sab:=add_n hab hbd
 have tab:=add_n kab kbd
 have sca:=add_n hca hdc
 have tca:=add_n kca kdc
 have scb:=add_n hcb hdd
 have tcb:=add_n kcb kdd
 refine Run.goP (S:=S) ((Pack.nil.s spMat t0).s spMat t1) Tryz.func184 rfl ?_
 refine (Bool.eq_false_or_eq_true (x.t)).elim (fun c1=>?_) (fun c1=>?_)
 · refine Run.kn c1 ?_
   refine Run.dr ?_
   refine RunD.cR spNum (fun _ _ _ H=>eConj y.a (NumP.mk (H.f 8) (H.f 9)) (by first | omega | (dsimp only at *; omega) | exact behind_p1 p1 c1 | exact behind_p0 p1 c1)) ?_
   refine RunD.cR spNum (fun _ _ _ H=>eConj y.b (NumP.mk (H.f 10) (H.f 11)) (by first | omega | (dsimp only at *; omega) | exact behind_p1 p1 c1 | exact behind_p0 p1 c1)) ?_
   refine RunD.cR spNum (fun _ _ _ H=>eConj y.c (NumP.mk (H.f 12) (H.f 13)) (by first | omega | (dsimp only at *; omega) | exact behind_p1 p1 c1 | exact behind_p0 p1 c1)) ?_
   refine RunD.cR spNum (fun _ _ _ H=>eConj y.d (NumP.mk (H.f 14) (H.f 15)) (by first | omega | (dsimp only at *; omega) | exact behind_p1 p1 c1 | exact behind_p0 p1 c1)) ?_
   refine RunD.en ?_
   refine Run.dr ?_
   refine RunD.cR spNum (fun _ _ _ H=>eNMul x.a y.a.conj (NumP.mk (H.f 0) (H.f 1)) (NumP.mk (H.f 16) (H.f 17)) (by first | omega | (dsimp only at *; omega) | exact behind_p1 p1 c1 | exact behind_p0 p1 c1)) ?_
   refine RunD.cR spNum (fun _ _ _ H=>eNMul x.b y.c.conj (NumP.mk (H.f 2) (H.f 3)) (NumP.mk (H.f 20) (H.f 21)) (by first | omega | (dsimp only at *; omega) | exact behind_p1 p1 c1 | exact behind_p0 p1 c1)) ?_
   refine RunD.cR spNum (fun _ _ _ H=>eAdd (x.a.mul y.a.conj) (x.b.mul y.c.conj) (NumP.mk (H.f 24) (H.f 25)) (NumP.mk (H.f 26) (H.f 27)) (by first | omega | (dsimp only at *; omega) | exact behind_p1 p1 c1 | exact behind_p0 p1 c1)) ?_
   refine RunD.cR spNum (fun _ _ _ H=>eNMul x.a y.b.conj (NumP.mk (H.f 0) (H.f 1)) (NumP.mk (H.f 18) (H.f 19)) (by first | omega | (dsimp only at *; omega) | exact behind_p1 p1 c1 | exact behind_p0 p1 c1)) ?_
   refine RunD.cR spNum (fun _ _ _ H=>eNMul x.b y.d.conj (NumP.mk (H.f 2) (H.f 3)) (NumP.mk (H.f 22) (H.f 23)) (by first | omega | (dsimp only at *; omega) | exact behind_p1 p1 c1 | exact behind_p0 p1 c1)) ?_
   refine RunD.cR spNum (fun _ _ _ H=>eAdd (x.a.mul y.b.conj) (x.b.mul y.d.conj) (NumP.mk (H.f 30) (H.f 31)) (NumP.mk (H.f 32) (H.f 33)) (by first | omega | (dsimp only at *; omega) | exact behind_p1 p1 c1 | exact behind_p0 p1 c1)) ?_
   refine RunD.cR spNum (fun _ _ _ H=>eNMul x.c y.a.conj (NumP.mk (H.f 4) (H.f 5)) (NumP.mk (H.f 16) (H.f 17)) (by first | omega | (dsimp only at *; omega) | exact behind_p1 p1 c1 | exact behind_p0 p1 c1)) ?_
   refine RunD.cR spNum (fun _ _ _ H=>eNMul x.d y.c.conj (NumP.mk (H.f 6) (H.f 7)) (NumP.mk (H.f 20) (H.f 21)) (by first | omega | (dsimp only at *; omega) | exact behind_p1 p1 c1 | exact behind_p0 p1 c1)) ?_
   refine RunD.cR spNum (fun _ _ _ H=>eAdd (x.c.mul y.a.conj) (x.d.mul y.c.conj) (NumP.mk (H.f 36) (H.f 37)) (NumP.mk (H.f 38) (H.f 39)) (by first | omega | (dsimp only at *; omega) | exact behind_p1 p1 c1 | exact behind_p0 p1 c1)) ?_
   refine RunD.cR spNum (fun _ _ _ H=>eNMul x.c y.b.conj (NumP.mk (H.f 4) (H.f 5)) (NumP.mk (H.f 18) (H.f 19)) (by first | omega | (dsimp only at *; omega) | exact behind_p1 p1 c1 | exact behind_p0 p1 c1)) ?_
   refine RunD.cR spNum (fun _ _ _ H=>eNMul x.d y.d.conj (NumP.mk (H.f 6) (H.f 7)) (NumP.mk (H.f 22) (H.f 23)) (by first | omega | (dsimp only at *; omega) | exact behind_p1 p1 c1 | exact behind_p0 p1 c1)) ?_
   refine RunD.cR spNum (fun _ _ _ H=>eAdd (x.c.mul y.b.conj) (x.d.mul y.d.conj) (NumP.mk (H.f 42) (H.f 43)) (NumP.mk (H.f 44) (H.f 45)) (by first | omega | (dsimp only at *; omega) | exact behind_p1 p1 c1 | exact behind_p0 p1 c1)) ?_
   refine RunD.bi [.bool (x.t != y.t)] kb (fun _ _ _ o1 o2 _ ho hx hy=>ex_neq_bool (t:=4) x.t y.t Tryz.underlying4 ho hx hy) ?_
   refine RunD.cR spMat (fun _ _ _ H=>mtNorm (Mb.mk ((x.a.mul y.a.conj).add (x.b.mul y.c.conj)) ((x.a.mul y.b.conj).add (x.b.mul y.d.conj)) ((x.c.mul y.a.conj).add (x.d.mul y.c.conj)) ((x.c.mul y.b.conj).add (x.d.mul y.d.conj)) (x.t != y.t)) (MatP.mk (H.f 28) (H.f 29) (H.f 34) (H.f 35) (H.f 40) (H.f 41) (H.f 46) (H.f 47)) (by first | omega | (dsimp only at *; omega) | exact behind_p1 p1 c1 | exact behind_p0 p1 c1) (by first | omega | (dsimp only at *; omega) | exact behind_p1 p1 c1 | exact behind_p0 p1 c1)) ?_
   refine RunD.en ?_
   exact Run.rR (fun _ _ _ H=>VPe (φ:=MatP) (behind_1 (t:=x.t != y.t) c1 rfl) (MatP.mk (H.f 48) (H.f 49) (H.f 50) (H.f 51) (H.f 52) (H.f 53) (H.f 54) (H.f 55)))
 · refine Run.kn c1 ?_
   refine Run.dr ?_
   refine RunD.cR spNum (fun _ _ _ H=>eNMul x.a y.a (NumP.mk (H.f 0) (H.f 1)) (NumP.mk (H.f 8) (H.f 9)) (by first | omega | (dsimp only at *; omega) | exact behind_p1 p1 c1 | exact behind_p0 p1 c1)) ?_
   refine RunD.cR spNum (fun _ _ _ H=>eNMul x.b y.c (NumP.mk (H.f 2) (H.f 3)) (NumP.mk (H.f 12) (H.f 13)) (by first | omega | (dsimp only at *; omega) | exact behind_p1 p1 c1 | exact behind_p0 p1 c1)) ?_
   refine RunD.cR spNum (fun _ _ _ H=>eAdd (x.a.mul y.a) (x.b.mul y.c) (NumP.mk (H.f 16) (H.f 17)) (NumP.mk (H.f 18) (H.f 19)) (by first | omega | (dsimp only at *; omega) | exact behind_p1 p1 c1 | exact behind_p0 p1 c1)) ?_
   refine RunD.cR spNum (fun _ _ _ H=>eNMul x.a y.b (NumP.mk (H.f 0) (H.f 1)) (NumP.mk (H.f 10) (H.f 11)) (by first | omega | (dsimp only at *; omega) | exact behind_p1 p1 c1 | exact behind_p0 p1 c1)) ?_
   refine RunD.cR spNum (fun _ _ _ H=>eNMul x.b y.d (NumP.mk (H.f 2) (H.f 3)) (NumP.mk (H.f 14) (H.f 15)) (by first | omega | (dsimp only at *; omega) | exact behind_p1 p1 c1 | exact behind_p0 p1 c1)) ?_
   refine RunD.cR spNum (fun _ _ _ H=>eAdd (x.a.mul y.b) (x.b.mul y.d) (NumP.mk (H.f 22) (H.f 23)) (NumP.mk (H.f 24) (H.f 25)) (by first | omega | (dsimp only at *; omega) | exact behind_p1 p1 c1 | exact behind_p0 p1 c1)) ?_
   refine RunD.cR spNum (fun _ _ _ H=>eNMul x.c y.a (NumP.mk (H.f 4) (H.f 5)) (NumP.mk (H.f 8) (H.f 9)) (by first | omega | (dsimp only at *; omega) | exact behind_p1 p1 c1 | exact behind_p0 p1 c1)) ?_
   refine RunD.cR spNum (fun _ _ _ H=>eNMul x.d y.c (NumP.mk (H.f 6) (H.f 7)) (NumP.mk (H.f 12) (H.f 13)) (by first | omega | (dsimp only at *; omega) | exact behind_p1 p1 c1 | exact behind_p0 p1 c1)) ?_
   refine RunD.cR spNum (fun _ _ _ H=>eAdd (x.c.mul y.a) (x.d.mul y.c) (NumP.mk (H.f 28) (H.f 29)) (NumP.mk (H.f 30) (H.f 31)) (by first | omega | (dsimp only at *; omega) | exact behind_p1 p1 c1 | exact behind_p0 p1 c1)) ?_
   refine RunD.cR spNum (fun _ _ _ H=>eNMul x.c y.b (NumP.mk (H.f 4) (H.f 5)) (NumP.mk (H.f 10) (H.f 11)) (by first | omega | (dsimp only at *; omega) | exact behind_p1 p1 c1 | exact behind_p0 p1 c1)) ?_
   refine RunD.cR spNum (fun _ _ _ H=>eNMul x.d y.d (NumP.mk (H.f 6) (H.f 7)) (NumP.mk (H.f 14) (H.f 15)) (by first | omega | (dsimp only at *; omega) | exact behind_p1 p1 c1 | exact behind_p0 p1 c1)) ?_
   refine RunD.cR spNum (fun _ _ _ H=>eAdd (x.c.mul y.b) (x.d.mul y.d) (NumP.mk (H.f 34) (H.f 35)) (NumP.mk (H.f 36) (H.f 37)) (by first | omega | (dsimp only at *; omega) | exact behind_p1 p1 c1 | exact behind_p0 p1 c1)) ?_
   refine RunD.bi [.bool (x.t != y.t)] kb (fun _ _ _ o1 o2 _ ho hx hy=>ex_neq_bool (t:=4) x.t y.t Tryz.underlying4 ho hx hy) ?_
   refine RunD.cR spMat (fun _ _ _ H=>mtNorm (Mb.mk ((x.a.mul y.a).add (x.b.mul y.c)) ((x.a.mul y.b).add (x.b.mul y.d)) ((x.c.mul y.a).add (x.d.mul y.c)) ((x.c.mul y.b).add (x.d.mul y.d)) (x.t != y.t)) (MatP.mk (H.f 20) (H.f 21) (H.f 26) (H.f 27) (H.f 32) (H.f 33) (H.f 38) (H.f 39)) (by first | omega | (dsimp only at *; omega) | exact behind_p1 p1 c1 | exact behind_p0 p1 c1) (by first | omega | (dsimp only at *; omega) | exact behind_p1 p1 c1 | exact behind_p0 p1 c1)) ?_
   refine RunD.en ?_
   exact Run.rR (fun _ _ _ H=>VPe (φ:=MatP) (behind_0 (t:=x.t != y.t) c1 rfl) (MatP.mk (H.f 40) (H.f 41) (H.f 42) (H.f 43) (H.f 44) (H.f 45) (H.f 46) (H.f 47)))
end Go.Proofs.YtcpjdjnaipbieaaGreat
namespace Go.Proofs.YtcpjdjnaipbieaaGreat
open Go.RowKit Rgn
set_option maxHeartbeats 4000000
set_option maxRecDepth 100000
variable {S:Nat → Prop} {W:World}
theorem l14works :
  Calls Tryz.prog 24 #[] W (RetV (.bool true) W):=by
 have bel:=b0 W
 go_enter Tryz.func24,Tryz.ntmps24
 refine gs 1 (Amb Z0 W) fun _ K1=>?_
 refine .mc rfl ?_
 refine .dk (fun u=>u 0::us 71) K1 bel fun u1 w1 D bel=>?_
 have E1_0:=D.q 0
 clear D
 refine gs 10 (Amb Z0 W) fun _ K2=>?_
 refine .cK rfl Tryz.func55 (fun H=>⟨_,ar0,l14Unit⟩) ?_
 refine .cK rfl Tryz.func130 (fun H=>⟨_,ar2 (H.c (.int .i64 0)) (H.c (.int .i64 0)),cInt _ _ (by first | omega | rfl) (by first | omega | rfl) (by first | omega | rfl) (by first | omega | rfl)⟩) ?_
 refine .e rfl (V:=pnV (Pn.mk false (Cx.ofInt (0:Int) (0:Int)))) (fun H=>by have e11:=H.g 11 1; clear H; go_simp) ?_
 refine .cK rfl Tryz.func32 (fun H=>⟨_,ar2 (H.g 10 0) (H.g 12 2),wkPt _ (Cx.ofInt (0:Int) (0:Int)) (by first | omega | rfl) (by first | omega | rfl)⟩) ?_
 refine .mv rfl 3 ?_
 refine .e rfl (V:=rpnV rpnI) (fun H=>x_ex (H.g 9 4)) ?_
 refine .e rfl (V:=.int .i64 0) (fun H=>x_ex (H.g 9 4)) ?_
 refine .al rfl zPn ?_
 refine .so rfl 7 (fun H=>⟨H.r 1 7,H.g 14 5⟩) ?_
 refine .mv rfl 6 ?_
 refine .dk (fun u=>u1 0::u 7::u 9::U::U::U::U::U::U::u 4::sq u 0 4 (u 5::u 6::us 56)) K2 bel fun u2 w2 D bel=>?_
 obtain ⟨b3,E2_7,A3,B3⟩:=D.st 8
 have E2_9:=D.q 9
 clear D
 refine gs 8 (Amb Z0 W) fun _ K4=>?_
 refine .cK rfl Tryz.func58 (fun H=>⟨_,ar0,l14Line⟩) ?_
 refine .cK rfl Tryz.func31 (fun H=>⟨_,ar1 (H.g 17 0),wkOver _ (by first | omega | rfl)⟩) ?_
 refine .mv rfl 1 ?_
 refine .e rfl (V:=mbV lineM) (fun H=>x_ex (H.g 16 2)) ?_
 refine .e rfl (V:=.int .i64 0) (fun H=>x_ex (H.g 16 2)) ?_
 refine .al rfl zMb ?_
 refine .so rfl 5 (fun H=>⟨H.r 3 5,H.g 19 3⟩) ?_
 refine .mv rfl 4 ?_
 refine .dk (fun u=>u1 0::u2 7::u2 9::u 5::u 7::U::U::U::U::u2 4::sq u2 0 4 (u2 5::u2 6::u 2::u 0::u 1::u 3::u 4::us 51)) K4 bel fun u3 w3 D bel=>?_
 obtain ⟨b5,E3_5,A5,B5⟩:=D.st 6
 have E3_7:=D.q 7
 replace B3:=D.k B3
 clear D
 refine gs 8 (Amb Z0 W) fun _ K6=>?_
 refine .cK rfl Tryz.func55 (fun H=>⟨_,ar0,l14Unit⟩) ?_
 refine .cK rfl Tryz.func58 (fun H=>⟨_,ar0,l14Line⟩) ?_
 refine .cK rfl Tryz.func34 (fun H=>⟨_,ar2 (H.g 22 0) (H.g 23 1),wkRt _ _ (by first | omega | rfl) (by first | omega | rfl)⟩) ?_
 refine .mv rfl 2 ?_
 refine .e rfl (V:=.bool true) (fun H=>x_ex (H.g 21 3)) ?_
 refine .e rfl (V:=.int .i64 0) (fun H=>x_ex (H.g 21 3)) ?_
 refine .mv rfl 4 ?_
 refine .mv rfl 5 ?_
 refine .dk (fun u=>u1 0::u2 7::u2 9::u3 5::u3 7::u 6::u 7::U::U::u2 4::sq u2 0 4 (u2 5::u2 6::u3 2::u3 0::u3 1::u3 3::u3 4::u 3::sq u 0 3 (u 4::u 5::us 45))) K6 bel fun u4 w4 D bel=>?_
 have E4_6:=D.q 6
 have E4_7:=D.q 7
 replace B3:=D.k B3
 replace B5:=D.k B5
 clear D
 refine gs 8 (Amb Z0 W) fun _ K7=>?_
 refine .lr rfl 3 E3_5 B5 ?_
 refine .cK rfl Tryz.func25 (fun H=>⟨_,ar1 (H.g 28 0),wkIs _ (by first | omega | rfl)⟩) ?_
 refine .mv rfl 1 ?_
 refine .e rfl (V:=ciV lineK) (fun H=>x_ex (H.g 27 2)) ?_
 refine .e rfl (V:=.int .i64 0) (fun H=>x_ex (H.g 27 2)) ?_
 refine .al rfl zCi ?_
 refine .so rfl 5 (fun H=>⟨H.r 7 5,H.g 30 3⟩) ?_
 refine .mv rfl 4 ?_
 refine .dk (fun u=>u1 0::u2 7::u2 9::u3 5::u3 7::u4 6::u4 7::u 5::u 7::u2 4::sq u2 0 4 (u2 5::u2 6::u3 2::u3 0::u3 1::u3 3::u3 4::u4 3::sq u4 0 3 (u4 4::u4 5::u 2::u 0::u 1::u 3::u 4::us 40))) K7 bel fun u5 w5 D bel=>?_
 obtain ⟨b8,E5_5,A8,B8⟩:=D.st 6
 have E5_7:=D.q 7
 replace B3:=D.k B3
 replace B5:=D.k B5
 clear D
 refine gd 41 (Amb Z0 W) fun _ K9=>?_
 refine .mz rfl 2 E2_9 ?_
 refine .cK rfl Tryz.func27 (fun H=>⟨_,ar1 (H.g 32 0),l14Num _⟩) ?_
 refine .e rfl (V:=.bool true) (fun H=>x_cm (H.g 33 1) (H.c _) (beq_self_eq_true (0:Int))) ?_
 refine .mv rfl 2 ?_
 refine .lr rfl 1 E2_7 B3 ?_ (hg:=gq 3 rfl)
 refine .e rfl (V:=rpnV (RPn.mk true rz)) (fun H=>by have k0:=H.c (.bool true); clear H; go_simp) ?_ (hg:=gq 3 rfl)
 refine .e rfl (V:=.bool true) (fun H=>ex_eql_pn (r:=rpnI) (q:=RPn.mk true rz) _ _ rfl (H.g 36 4) (H.g 37 5) (rfl.trans (decide_eq_true rfl))) ?_ (hg:=gq 3 rfl)
 refine .e rfl (fun H=>x_pkT (H.g 35 3) (H.g 38 6)) ?_
 refine .mv rfl 7 ?_
 refine .mz rfl 4 E3_7 ?_ (hg:=gq 8 rfl)
 refine .cK rfl Tryz.func27 (fun H=>⟨_,ar1 (H.g 41 9),l14Num _⟩) ?_ (hg:=gq 8 rfl)
 refine .e rfl (V:=.bool true) (fun H=>x_cm (H.g 42 10) (H.c _) (beq_self_eq_true (0:Int))) ?_ (hg:=gq 8 rfl)
 refine .e rfl (fun H=>x_pkT (H.g 40 8) (H.g 43 11)) ?_
 refine .mv rfl 12 ?_
 refine .lr rfl 3 E3_5 B5 ?_ (hg:=gq 13 rfl)
 refine .cK rfl Tryz.func130 (fun H=>⟨_,ar2 (H.c (.int .i64 1)) (H.c (.int .i64 0)),cInt _ _ (by first | omega | rfl) (by first | omega | rfl) (by first | omega | rfl) (by first | omega | rfl)⟩) ?_ (hg:=gq 13 rfl)
 refine .cK rfl Tryz.func130 (fun H=>⟨_,ar2 (H.c (.int .i64 0)) (H.c (.int .i64 0)),cInt _ _ (by first | omega | rfl) (by first | omega | rfl) (by first | omega | rfl) (by first | omega | rfl)⟩) ?_ (hg:=gq 13 rfl)
 refine .cK rfl Tryz.func130 (fun H=>⟨_,ar2 (H.c (.int .i64 0)) (H.c (.int .i64 0)),cInt _ _ (by first | omega | rfl) (by first | omega | rfl) (by first | omega | rfl) (by first | omega | rfl)⟩) ?_ (hg:=gq 13 rfl)
 refine .cK rfl Tryz.func130 (fun H=>⟨_,ar2 (H.c (.int .i64 1)) (H.c (.int .i64 0)),cInt _ _ (by first | omega | rfl) (by first | omega | rfl) (by first | omega | rfl) (by first | omega | rfl)⟩) ?_ (hg:=gq 13 rfl)
 refine .e rfl (V:=mbV (Mb.mk (Cx.ofInt (1:Int) (0:Int)) (Cx.ofInt (0:Int) (0:Int)) (Cx.ofInt (0:Int) (0:Int)) (Cx.ofInt (1:Int) (0:Int)) true)) (fun H=>by have e47:=H.g 47 15; have e48:=H.g 48 16; have e49:=H.g 49 17; have e50:=H.g 50 18; have k4:=H.c (.bool true); clear H; go_simp) ?_ (hg:=gq 13 rfl)
 refine .e rfl (V:=.bool true) (fun H=>ex_eql_mb (r:=rmb lineM) (q:=rmb (Mb.mk (Cx.ofInt (1:Int) (0:Int)) (Cx.ofInt (0:Int) (0:Int)) (Cx.ofInt (0:Int) (0:Int)) (Cx.ofInt (1:Int) (0:Int)) true)) _ _ rfl (H.g 46 14) (H.g 51 19) ((rmb_dec lineM (Mb.mk (Cx.ofInt (1:Int) (0:Int)) (Cx.ofInt (0:Int) (0:Int)) (Cx.ofInt (0:Int) (0:Int)) (Cx.ofInt (1:Int) (0:Int)) true)).trans (decide_eq_true rfl))) ?_ (hg:=gq 13 rfl)
 refine .e rfl (fun H=>x_pkT (H.g 45 13) (H.g 52 20)) ?_
 refine .mv rfl 21 ?_
 refine .mz rfl 5 E4_6 ?_ (hg:=gq 22 rfl)
 refine .e rfl (fun H=>x_pkT (H.g 54 22) (H.g 55 23)) ?_
 refine .mv rfl 24 ?_
 refine .mz rfl 6 E4_7 ?_ (hg:=gq 25 rfl)
 refine .cK rfl Tryz.func27 (fun H=>⟨_,ar1 (H.g 58 26),l14Num _⟩) ?_ (hg:=gq 25 rfl)
 refine .e rfl (V:=.bool true) (fun H=>x_cm (H.g 59 27) (H.c _) (beq_self_eq_true (0:Int))) ?_ (hg:=gq 25 rfl)
 refine .e rfl (fun H=>x_pkT (H.g 57 25) (H.g 60 28)) ?_
 refine .mv rfl 29 ?_
 refine .lr rfl 7 E5_5 B8 ?_ (hg:=gq 30 rfl)
 refine .cK rfl Tryz.func58 (fun H=>⟨_,ar0,l14Line⟩) ?_ (hg:=gq 30 rfl)
 refine .e rfl (V:=.bool true) (fun H=>ex_eql_ci (r:=rci lineK) (q:=rci lineK) _ _ rfl (H.g 63 31) (H.g 64 32) ((rci_dec lineK lineK).trans (decide_eq_true rfl))) ?_ (hg:=gq 30 rfl)
 refine .e rfl (fun H=>x_pkT (H.g 62 30) (H.g 65 33)) ?_
 refine .mv rfl 34 ?_
 refine .mz rfl 8 E5_7 ?_ (hg:=gq 35 rfl)
 refine .cK rfl Tryz.func27 (fun H=>⟨_,ar1 (H.g 68 36),l14Num _⟩) ?_ (hg:=gq 35 rfl)
 refine .e rfl (V:=.bool true) (fun H=>x_cm (H.g 69 37) (H.c _) (beq_self_eq_true (0:Int))) ?_ (hg:=gq 35 rfl)
 refine .e rfl (fun H=>x_pkT (H.g 67 35) (H.g 70 38)) ?_
 refine .mv rfl 39 ?_
 refine .dk (fun u=>u 40::u2 7::u2 9::u3 5::u3 7::u4 6::u4 7::u5 5::u5 7::u2 4::sq u2 0 4 (u2 5::u2 6::u3 2::u3 0::u3 1::u3 3::u3 4::u4 3::sq u4 0 3 (u4 4::u4 5::u5 2::u5 0::u5 1::u5 3::u5 4::sq u 0 40 []))) K9 bel fun u6 w6 D bel=>?_
 have E6_40:=D.q 40
 clear D
 exact wp_ret (rt rfl E6_40 rfl bel)
end Go.Proofs.YtcpjdjnaipbieaaGreat
namespace Go.Proofs.YtcpjdjnaipbieaaGreat
open Go.RowKit Rgn Eng
set_option maxHeartbeats 4000000
set_option maxRecDepth 100000
variable {S:Nat → Prop} {W:World}
theorem l14long1 {b1:Nat} (a:RG) (B:W.heap[b1]? = some (.cells (rgC a) 27 (0,0))):Calls Tryz.prog 23 #[.slice (some ⟨b1,0,none⟩) 1 1] W (RetV (.bool (lgG a)) W):=by
 refine Run.goP (S:=Z0) (Pack.nil.b B (some 1) 8) Tryz.func23 rfl ?_
 refine Run.cV [.bool (lgF a.re)] kb (fun β ℓ w H=>l14longF a.re) ?_
 rcases Bool.eq_false_or_eq_true (lgF a.re) with h | h
 · refine Run.kn h ?_
   exact Run.rV (by unfold lgG; rw [h,Bool.true_or])
 refine Run.kn h ?_
 refine Run.cV [.bool (lgF a.im)] kb (fun β ℓ w H=>l14longF a.im) ?_
 rcases Bool.eq_false_or_eq_true (lgF a.im) with h2 | h2
 · refine Run.kn h2 ?_
   exact Run.rV (by unfold lgG; rw [h,h2]; first | done | rfl)
 refine Run.kn h2 ?_
 exact Run.rV (by unfold lgG; rw [h,h2]; first | done | rfl)
end Go.Proofs.YtcpjdjnaipbieaaGreat
namespace Go.Proofs.YtcpjdjnaipbieaaGreat
open Go.RowKit Rgn Eng
set_option maxHeartbeats 8000000
set_option maxRecDepth 100000
variable {S:Nat → Prop} {W:World}
theorem l14wide {b0:Nat} (c:RCi) (d:RCi) (B0:W.heap[b0]? = some (.cells (rciC c ++ rciC d) 47 (0,0))):Calls Tryz.prog 30 #[.slice (some ⟨b0,0,none⟩) 2 2] W (RetV (.bool (lgC c || lgC d)) W):=by
 refine Run.goP (S:=Z0) (Pack.nil.b B0 (some 2) 32) Tryz.func30 rfl ?_
 refine Run.cV [.bool (lgF c.a)] kb (fun _ _ _ H=>l14longF c.a) ?_
 refine (Bool.eq_false_or_eq_true (lgF c.a)).elim (fun c1=>?_) (fun c1=>?_)
 · refine Run.kn c1 ?_
   exact Run.rV (V' := .bool true) ((by unfold lgC; simp [c1]))
 · refine Run.kn c1 ?_
   refine Run.cV [.bool (lgG c.b)] kb (fun _ _ _ H=>l14long1 c.b (H.b 1)) ?_
   refine (Bool.eq_false_or_eq_true (lgG c.b)).elim (fun c2=>?_) (fun c2=>?_)
   · refine Run.kn c2 ?_
     exact Run.rV (V' := .bool true) ((by unfold lgC; simp [c1,c2]))
   · refine Run.kn c2 ?_
     refine Run.cV [.bool (lgF c.c)] kb (fun _ _ _ H=>l14longF c.c) ?_
     refine (Bool.eq_false_or_eq_true (lgF c.c)).elim (fun c3=>?_) (fun c3=>?_)
     · refine Run.kn c3 ?_
       exact Run.rV (V' := .bool true) ((by unfold lgC; simp [c1,c2,c3]))
     · refine Run.kn c3 ?_
       refine Run.cV [.bool (lgF d.a)] kb (fun _ _ _ H=>l14longF d.a) ?_
       refine (Bool.eq_false_or_eq_true (lgF d.a)).elim (fun c4=>?_) (fun c4=>?_)
       · refine Run.kn c4 ?_
         exact Run.rV (V' := .bool true) ((by unfold lgC; simp [c1,c2,c3,c4]))
       · refine Run.kn c4 ?_
         refine Run.cV [.bool (lgG d.b)] kb (fun _ _ _ H=>l14long1 d.b (H.b 2)) ?_
         refine (Bool.eq_false_or_eq_true (lgG d.b)).elim (fun c5=>?_) (fun c5=>?_)
         · refine Run.kn c5 ?_
           exact Run.rV (V' := .bool true) ((by unfold lgC; simp [c1,c2,c3,c4,c5]))
         · refine Run.kn c5 ?_
           refine Run.cV [.bool (lgF d.c)] kb (fun _ _ _ H=>l14longF d.c) ?_
           refine (Bool.eq_false_or_eq_true (lgF d.c)).elim (fun c6=>?_) (fun c6=>?_)
           · refine Run.kn c6 ?_
             exact Run.rV (V' := .bool true) ((by unfold lgC; simp [c1,c2,c3,c4,c5,c6]))
           · refine Run.kn c6 ?_
             exact Run.rV (V' := .bool false) ((by unfold lgC; simp [c1,c2,c3,c4,c5,c6]))
theorem mtAt {v0 v1 w2_0 w2_1 w2_2 w2_3:Value} {b2:Nat} (v:Cx) (w:Cx) (c:Ci) (t0:(NumP v).p S v0 W) (t1:(NumP w).p S v1 W) (B2:W.heap[b2]? = some (.cells #[w2_0,w2_1,w2_2,w2_3] 203 (0,0))) (t2:(RingP c).p S (.agg #[w2_0,w2_1,w2_2,w2_3]) W) (p0:ht v.re + ht v.im + ht w.re + ht w.im ≤ 10000000) (p1:ht c.a + ht c.b.re + ht c.b.im + ht c.c ≤ 400000):Calls Tryz.prog 243 #[v0,v1,.pointer (some ⟨b2,0,none⟩)] W (Ret (RatP (c.at v w)) S W):=by
 obtain ⟨e1,e2,e3⟩:=hb_ci p1
 obtain ⟨f1,f2⟩:HB v 10000000 ∧ HB w 10000000:=(by unfold HB; omega)
 have k0:=HB.mul e2 f1 20800000
 have k1:=HB.conj f2
 have k2:=HB.mul k0 k1 61600000
 have k3:=HB.norm f1 40000000
 have k4:=hb_mul e1 k3 40400000
 have k5:=hb_add k2.1 k2.1 123200000
 have k6:=HB.norm f2 40000000
 have k7:=hb_mul e3 k6 40400000
 have k8:=(hb_add (hb_add (hb_add (Nat.le_of_eq ht_zero) k4 40400002) k5 163600002) k7 204000002)
 refine Run.goP (S:=S) (((Pack.nil.s spNum t0).s spNum t1).bv B2 none 4 (ringCells t2)) Tryz.func243 rfl ?_
 refine Run.dr ?_
 refine RunD.cR spNum (fun _ _ _ H=>eNMul c.b v (NumP.mk (H.f 5) (H.f 6)) (NumP.mk (H.f 0) (H.f 1)) (Nat.le_trans (Nat.add_le_add (Nat.add_le_add (Nat.add_le_add e2.1 e2.2) f1.1) f1.2) (by decide))) ?_
 refine RunD.cR spNum (fun _ _ _ H=>eConj w (NumP.mk (H.f 2) (H.f 3)) (Nat.le_trans (Nat.add_le_add f2.1 f2.2) (by decide))) ?_
 refine RunD.cR spNum (fun _ _ _ H=>eNMul (c.b.mul v) w.conj (NumP.mk (H.f 8) (H.f 9)) (NumP.mk (H.f 10) (H.f 11)) (Nat.le_trans (Nat.add_le_add (Nat.add_le_add (Nat.add_le_add k0.1 k0.2) k1.1) k1.2) (by decide))) ?_
 refine RunD.cR sp2Rat (fun _ _ _ H=>eParts ((c.b.mul v).mul w.conj) (NumP.mk (H.f 12) (H.f 13))) ?_
 refine RunD.en ?_
 refine Run.dr ?_
 refine RunD.cR spRat (fun _ _ _ H=>eNorm v (NumP.mk (H.f 0) (H.f 1)) (Nat.le_trans (Nat.add_le_add f1.1 f1.2) (by decide))) ?_
 refine RunD.cR spRat (fun _ _ _ H=>eMul c.a v.norm (RatP.n (H.f 4)) (RatP.n (H.f 16)) (Nat.le_trans (Nat.add_le_add e1 k3) (by decide))) ?_
 refine RunD.cR spRat (fun _ _ _ H=>eTwice (((c.b.mul v).mul w.conj).re) (H.f 14) (Nat.le_trans k2.1 (by decide))) ?_
 refine RunD.cR spRat (fun _ _ _ H=>eNorm w (NumP.mk (H.f 2) (H.f 3)) (Nat.le_trans (Nat.add_le_add f2.1 f2.2) (by decide))) ?_
 refine RunD.cR spRat (fun _ _ _ H=>eMul c.c w.norm (RatP.n (H.f 7)) (RatP.n (H.f 19)) (Nat.le_trans (Nat.add_le_add e3 k6) (by decide))) ?_
 refine RunD.cR spRat (fun _ _ _ H=>retZ (eSum3 (c.a * v.norm) ((((c.b.mul v).mul w.conj).re) + (((c.b.mul v).mul w.conj).re)) (c.c * w.norm) (RatsP.mk3 (H.b 3) (H.f 17) (H.f 18) (H.f 20)) (Nat.le_trans (Nat.add_le_add (Nat.add_le_add k4 k5) k7) (by decide)))) ?_
 refine RunD.en ?_
 exact Run.rR (fun _ _ _ H=>VPe (φ:=RatP) (at_eq c v w) (H.f 21))
theorem mtImg {v0 v1:Value} (m:Mb) (c:Ci) (t0:(MatP m).p S v0 W) (t1:(RingP c).p S v1 W) (p0:ht m.a.re + ht m.a.im + ht m.b.re + ht m.b.im + ht m.c.re + ht m.c.im + ht m.d.re + ht m.d.im ≤ 268435456) (p1:m.ub 2400000) (p2:ht c.a + ht c.b.re + ht c.b.im + ht c.c ≤ 400000) (p3:m.det.zero = false) (p4:c.pos = true):Calls Tryz.prog 159 #[v0,v1] W (Ret (RingP ((m.img c).nrm)) S W):=by
 obtain ⟨e1,e2,e3⟩:=hb_ci p2
 have k0:=HB.conj p1.2.1
 have k1:=HB.mul p1.1 k0 9600000
 have k2:=HB.scale k1 e1 10000000
 have k3:=HB.mul e2 p1.1 5600000
 have k4:=HB.conj p1.2.2.2
 have k5:=HB.mul k3 k4 16000000
 have k6:=HB.add k2 k5 26000000
 have k7:=HB.mul e2 p1.2.1 5600000
 have k8:=HB.conj k7
 have k9:=HB.mul k8 p1.2.2.1 16000000
 have k10:=HB.add k6 k9 42000000
 have k11:=HB.mul p1.2.2.1 k4 9600000
 have k12:=HB.scale k11 e3 10000000
 have k13:=HB.add k10 k12 52000000
 have k14:=HB.conj k13
 have k15:=at_hb e1 e2 e3 p1.1 p1.2.2.1 52000000
 have k16:=at_hb e1 e2 e3 p1.2.1 p1.2.2.2 52000000
 refine Run.goP (S:=S) ((Pack.nil.s spMat t0).s spRing t1) Tryz.func159 rfl ?_
 refine Run.cR spMat (fun _ _ _ H=>mtUndo m (MatP.mk (H.f 0) (H.f 1) (H.f 2) (H.f 3) (H.f 4) (H.f 5) (H.f 6) (H.f 7)) p0 p3) ?_
 refine Run.dr ?_
 refine RunD.en ?_
 refine Run.dr ?_
 refine RunD.cR spNum (fun _ _ _ H=>eConj m.undo.b (NumP.mk (H.f 14) (H.f 15)) (Nat.le_trans (Nat.add_le_add p1.2.1.1 p1.2.1.2) (by decide))) ?_
 refine RunD.cR spNum (fun _ _ _ H=>eNMul m.undo.a m.undo.b.conj (NumP.mk (H.f 12) (H.f 13)) (NumP.mk (H.f 20) (H.f 21)) (Nat.le_trans (Nat.add_le_add (Nat.add_le_add (Nat.add_le_add p1.1.1 p1.1.2) k0.1) k0.2) (by decide))) ?_
 refine RunD.cR spNum (fun _ _ _ H=>eScale (m.undo.a.mul m.undo.b.conj) c.a (NumP.mk (H.f 22) (H.f 23)) (RatP.n (H.f 8)) (Nat.le_trans (Nat.add_le_add (Nat.add_le_add k1.1 k1.2) e1) (by decide))) ?_
 refine RunD.cR spNum (fun _ _ _ H=>eNMul c.b m.undo.a (NumP.mk (H.f 9) (H.f 10)) (NumP.mk (H.f 12) (H.f 13)) (Nat.le_trans (Nat.add_le_add (Nat.add_le_add (Nat.add_le_add e2.1 e2.2) p1.1.1) p1.1.2) (by decide))) ?_
 refine RunD.cR spNum (fun _ _ _ H=>eConj m.undo.d (NumP.mk (H.f 18) (H.f 19)) (Nat.le_trans (Nat.add_le_add p1.2.2.2.1 p1.2.2.2.2) (by decide))) ?_
 refine RunD.cR spNum (fun _ _ _ H=>eNMul (c.b.mul m.undo.a) m.undo.d.conj (NumP.mk (H.f 26) (H.f 27)) (NumP.mk (H.f 28) (H.f 29)) (Nat.le_trans (Nat.add_le_add (Nat.add_le_add (Nat.add_le_add k3.1 k3.2) k4.1) k4.2) (by decide))) ?_
 refine RunD.cR spNum (fun _ _ _ H=>eAdd ((m.undo.a.mul m.undo.b.conj).scale c.a) ((c.b.mul m.undo.a).mul m.undo.d.conj) (NumP.mk (H.f 24) (H.f 25)) (NumP.mk (H.f 30) (H.f 31)) (Nat.le_trans (Nat.add_le_add (Nat.add_le_add (Nat.add_le_add k2.1 k2.2) k5.1) k5.2) (by decide))) ?_
 refine RunD.cR spNum (fun _ _ _ H=>eNMul c.b m.undo.b (NumP.mk (H.f 9) (H.f 10)) (NumP.mk (H.f 14) (H.f 15)) (Nat.le_trans (Nat.add_le_add (Nat.add_le_add (Nat.add_le_add e2.1 e2.2) p1.2.1.1) p1.2.1.2) (by decide))) ?_
 refine RunD.cR spNum (fun _ _ _ H=>eConj (c.b.mul m.undo.b) (NumP.mk (H.f 34) (H.f 35)) (Nat.le_trans (Nat.add_le_add k7.1 k7.2) (by decide))) ?_
 refine RunD.cR spNum (fun _ _ _ H=>eNMul ((c.b.mul m.undo.b).conj) m.undo.c (NumP.mk (H.f 36) (H.f 37)) (NumP.mk (H.f 16) (H.f 17)) (Nat.le_trans (Nat.add_le_add (Nat.add_le_add (Nat.add_le_add k8.1 k8.2) p1.2.2.1.1) p1.2.2.1.2) (by decide))) ?_
 refine RunD.cR spNum (fun _ _ _ H=>eAdd (((m.undo.a.mul m.undo.b.conj).scale c.a).add ((c.b.mul m.undo.a).mul m.undo.d.conj)) (((c.b.mul m.undo.b).conj).mul m.undo.c) (NumP.mk (H.f 32) (H.f 33)) (NumP.mk (H.f 38) (H.f 39)) (Nat.le_trans (Nat.add_le_add (Nat.add_le_add (Nat.add_le_add k6.1 k6.2) k9.1) k9.2) (by decide))) ?_
 refine RunD.cR spNum (fun _ _ _ H=>eConj m.undo.d (NumP.mk (H.f 18) (H.f 19)) (Nat.le_trans (Nat.add_le_add p1.2.2.2.1 p1.2.2.2.2) (by decide))) ?_
 refine RunD.cR spNum (fun _ _ _ H=>eNMul m.undo.c m.undo.d.conj (NumP.mk (H.f 16) (H.f 17)) (NumP.mk (H.f 42) (H.f 43)) (Nat.le_trans (Nat.add_le_add (Nat.add_le_add (Nat.add_le_add p1.2.2.1.1 p1.2.2.1.2) k4.1) k4.2) (by decide))) ?_
 refine RunD.cR spNum (fun _ _ _ H=>eScale (m.undo.c.mul m.undo.d.conj) c.c (NumP.mk (H.f 44) (H.f 45)) (RatP.n (H.f 11)) (Nat.le_trans (Nat.add_le_add (Nat.add_le_add k11.1 k11.2) e3) (by decide))) ?_
 refine RunD.cR spNum (fun _ _ _ H=>eAdd ((((m.undo.a.mul m.undo.b.conj).scale c.a).add ((c.b.mul m.undo.a).mul m.undo.d.conj)).add (((c.b.mul m.undo.b).conj).mul m.undo.c)) ((m.undo.c.mul m.undo.d.conj).scale c.c) (NumP.mk (H.f 40) (H.f 41)) (NumP.mk (H.f 46) (H.f 47)) (Nat.le_trans (Nat.add_le_add (Nat.add_le_add (Nat.add_le_add k10.1 k10.2) k12.1) k12.2) (by decide))) ?_
 refine RunD.en ?_
 refine (Bool.eq_false_or_eq_true (m.t)).elim (fun c1=>?_) (fun c1=>?_)
 · refine Run.kn c1 ?_
   refine Run.cR spNum (fun _ _ _ H=>eConj (((((m.undo.a.mul m.undo.b.conj).scale c.a).add ((c.b.mul m.undo.a).mul m.undo.d.conj)).add (((c.b.mul m.undo.b).conj).mul m.undo.c)).add ((m.undo.c.mul m.undo.d.conj).scale c.c)) (NumP.mk (H.f 48) (H.f 49)) (Nat.le_trans (Nat.add_le_add k13.1 k13.2) (by decide))) ?_
   refine Run.dr ?_
   refine RunD.cR spRat (fun _ _ _ H=>mtAt m.undo.a m.undo.c c (NumP.mk (H.f 12) (H.f 13)) (NumP.mk (H.f 16) (H.f 17)) (H.b 1) (RingP.mk (H.f 8) (H.f 9) (H.f 10) (H.f 11)) (Nat.le_trans (Nat.add_le_add (Nat.add_le_add (Nat.add_le_add p1.1.1 p1.1.2) p1.2.2.1.1) p1.2.2.1.2) (by decide)) p2) ?_
   refine RunD.cR spRat (fun _ _ _ H=>mtAt m.undo.b m.undo.d c (NumP.mk (H.f 14) (H.f 15)) (NumP.mk (H.f 18) (H.f 19)) (H.b 1) (RingP.mk (H.f 8) (H.f 9) (H.f 10) (H.f 11)) (Nat.le_trans (Nat.add_le_add (Nat.add_le_add (Nat.add_le_add p1.2.1.1 p1.2.1.2) p1.2.2.2.1) p1.2.2.2.2) (by decide)) p2) ?_
   refine RunD.cR spRing (fun _ _ _ H=>rgNorm (Ci.mk (c.at m.undo.a m.undo.c) ((((((m.undo.a.mul m.undo.b.conj).scale c.a).add ((c.b.mul m.undo.a).mul m.undo.d.conj)).add (((c.b.mul m.undo.b).conj).mul m.undo.c)).add ((m.undo.c.mul m.undo.d.conj).scale c.c)).conj) (c.at m.undo.b m.undo.d)) (RingP.mk (H.f 52) (H.f 50) (H.f 51) (H.f 53)) (Nat.le_trans (Nat.add_le_add (Nat.add_le_add (Nat.add_le_add k15 k14.1) k14.2) k16) (by decide)) (by first | exact imgF_1' p3 p4 c1 | exact imgF_0' p3 p4 c1)) ?_
   refine RunD.en ?_
   exact Run.rR (fun _ _ _ H=>VPe (φ:=RingP) (imgE_1 c1) (RingP.mk (H.f 54) (H.f 55) (H.f 56) (H.f 57)))
 · refine Run.kn c1 ?_
   refine Run.dr ?_
   refine RunD.cR spRat (fun _ _ _ H=>mtAt m.undo.a m.undo.c c (NumP.mk (H.f 12) (H.f 13)) (NumP.mk (H.f 16) (H.f 17)) (H.b 1) (RingP.mk (H.f 8) (H.f 9) (H.f 10) (H.f 11)) (Nat.le_trans (Nat.add_le_add (Nat.add_le_add (Nat.add_le_add p1.1.1 p1.1.2) p1.2.2.1.1) p1.2.2.1.2) (by decide)) p2) ?_
   refine RunD.cR spRat (fun _ _ _ H=>mtAt m.undo.b m.undo.d c (NumP.mk (H.f 14) (H.f 15)) (NumP.mk (H.f 18) (H.f 19)) (H.b 1) (RingP.mk (H.f 8) (H.f 9) (H.f 10) (H.f 11)) (Nat.le_trans (Nat.add_le_add (Nat.add_le_add (Nat.add_le_add p1.2.1.1 p1.2.1.2) p1.2.2.2.1) p1.2.2.2.2) (by decide)) p2) ?_
   refine RunD.cR spRing (fun _ _ _ H=>rgNorm (Ci.mk (c.at m.undo.a m.undo.c) (((((m.undo.a.mul m.undo.b.conj).scale c.a).add ((c.b.mul m.undo.a).mul m.undo.d.conj)).add (((c.b.mul m.undo.b).conj).mul m.undo.c)).add ((m.undo.c.mul m.undo.d.conj).scale c.c)) (c.at m.undo.b m.undo.d)) (RingP.mk (H.f 50) (H.f 48) (H.f 49) (H.f 51)) (Nat.le_trans (Nat.add_le_add (Nat.add_le_add (Nat.add_le_add k15 k13.1) k13.2) k16) (by decide)) (by first | exact imgF_1' p3 p4 c1 | exact imgF_0' p3 p4 c1)) ?_
   refine RunD.en ?_
   exact Run.rR (fun _ _ _ H=>VPe (φ:=RingP) (imgE_0 c1) (RingP.mk (H.f 52) (H.f 53) (H.f 54) (H.f 55)))
end Go.Proofs.YtcpjdjnaipbieaaGreat
namespace Go.Proofs.YtcpjdjnaipbieaaGreat
open Go.RowKit Rgn Eng
variable {S:Nat → Prop} {W:World}
theorem eSpotP (P:Pn) (p1:PnF P):Calls Tryz.prog 156 #[rpnV (pnR P)] W (Ret (VP.tup (PlaceP P) (VP.is (.bool true))) S W):=by
 cases e:P.inf with
 | true=>have:=pnR_I p1 e; subst this; exact eSpotI
 | false =>
  have h:=p1.f
  obtain ⟨i,z⟩:=P
  cases e
  exact eSpotZ z h
end Go.Proofs.YtcpjdjnaipbieaaGreat
namespace Go.Proofs.YtcpjdjnaipbieaaGreat
open Go.RowKit Rgn Eng
set_option maxHeartbeats 8000000
set_option maxRecDepth 100000
variable {S:Nat → Prop} {W:World}
theorem ivPt (c:Ci) (P:Pn) (p0:ciOk (rci c) = true) (p1:PnF P):Calls Tryz.prog 32 #[ciV c,rpnV (pnR P)] W (RetV (.tuple #[rpnV (pncut (c.over.nrm.send P)),.int .i64 (pnerr (c.over.nrm.send P))]) W):=by
 have f1:=cifits_ht (ciOk_c p0).1
 have f2:=over_l2 f1
 have f3:=p1.ht
 have f4:=send_le f2 (Nat.le_trans f3 (by decide))
 refine Run.goP (S:=Z0) ((Pack.nil.k (ciV c) (ciC c).toList (.s (.agg (ks 0 16)))).k (rpnV (pnR P)) (rpnC (pnR P)).toList (.s (.agg (ks 0 9)))) Tryz.func32 rfl ?_
 refine Run.cR (spRingC true) (fun _ _ _ H=>eWheelO c p0) ?_
 refine Run.cR (spPlaceC true) (fun _ _ _ H=>eSpotP P p1) ?_
 refine Run.dr ?_
 refine RunD.cR spMat (fun _ _ _ H=>iOver c (RingP.mk (H.f 0) (H.f 1) (H.f 2) (H.f 3)) (by first | assumption | omega)) ?_
 refine RunD.cR spPlace (fun _ _ _ H=>mtSend c.over P (MatP.mk (H.f 6) (H.f 7) (H.f 8) (H.f 9) (H.f 10) (H.f 11) (H.f 12) (H.f 13)) (PlaceP.mk (H.f 4) (H.f 5)) (by first | assumption | omega)) ?_
 refine RunD.cV ((rpnC (pncut (c.over.send P))).toList ++ [.int .i64 (pnerr (c.over.send P))]) (.tup [.agg (ks 0 9),.o (.k 9)]) (fun _ _ _ H=>plTold (c.over.send P) (PlaceP.mk (H.f 14) (H.f 15)) (by first | assumption | omega)) ?_
 refine RunD.en ?_
 exact Run.rV (ptT p0)
theorem ivPtM (c:Ci) (p:RPn) (p0:ciOk (rci c) = true) (p1:pnOk p = false):Calls Tryz.prog 32 #[ciV c,rpnV p] W (RetV (.tuple #[rpnV rzPn,.int .i64 2]) W):=by
 refine Run.goP (S:=Z0) ((Pack.nil.k (ciV c) (ciC c).toList (.s (.agg (ks 0 16)))).k (rpnV p) (rpnC p).toList (.s (.agg (ks 0 9)))) Tryz.func32 rfl ?_
 refine Run.cR (spRingC true) (fun _ _ _ H=>eWheelO c p0) ?_
 refine Run.cR spPlaceJK (fun _ _ _ H=>eSpotJ p) ?_
 refine Run.kn p1 ?_
 exact Run.rV rfl
theorem ivCi (c:Ci) (d:Ci) (p0:ciOk (rci c) = true) (p1:ciOk (rci d) = true):Calls Tryz.prog 33 #[ciV c,ciV d] W (RetV (.tuple #[rciV (cicut (c.over.nrm.img d).nrm),.int .i64 (cierr (c.over.nrm.img d).nrm)]) W):=by
 have f1:=cifits_ht (ciOk_c p0).1
 have f2:=cifits_ht (ciOk_c p1).1
 have o1:=over_l2 f1
 have g1:=over_dt p0
 have g2:=(ciOk_c p1).2.1
 have g3:=img_pos g1 g2
 have g5:=undo_le o1
 have g4:=img_le g5 f2
 refine Run.goP (S:=Z0) ((Pack.nil.k (ciV c) (ciC c).toList (.s (.agg (ks 0 16)))).k (ciV d) (ciC d).toList (.s (.agg (ks 0 16)))) Tryz.func33 rfl ?_
 refine Run.cR (spRingC true) (fun _ _ _ H=>eWheelO c p0) ?_
 refine Run.cR (spRingC true) (fun _ _ _ H=>eWheelO d p1) ?_
 refine Run.dr ?_
 refine RunD.cR spMat (fun _ _ _ H=>iOver c (RingP.mk (H.f 0) (H.f 1) (H.f 2) (H.f 3)) (by first | omega | (dsimp only at *; omega))) ?_
 refine RunD.cR spRing (fun _ _ _ H=>mtImg c.over d (MatP.mk (H.f 8) (H.f 9) (H.f 10) (H.f 11) (H.f 12) (H.f 13) (H.f 14) (H.f 15)) (RingP.mk (H.f 4) (H.f 5) (H.f 6) (H.f 7)) (by first | omega | (dsimp only at *; omega)) (by exact undo_up g5) (by first | omega | (dsimp only at *; omega)) (by exact g1) (by exact g2)) ?_
 refine RunD.cV ((rciC (cicut ((c.over.img d).nrm).nrm)).toList ++ [.int .i64 (cierr ((c.over.img d).nrm).nrm)]) (.tup [.agg (ks 0 16),.o (.k 16)]) (fun _ _ _ H=>rgTold ((c.over.img d).nrm) (RingP.mk (H.f 16) (H.f 17) (H.f 18) (H.f 19)) (by first | omega | (dsimp only at *; omega)) (by exact pos_flat (pos_nrm g3))) ?_
 refine RunD.en ?_
 exact Run.rV (imgT p0 p1)
theorem ccChkO (c:Ci) (p0:ciOk (rci c) = true):Calls Tryz.prog 98 #[ciV c] W (RetV (.int .i64 0) W):=by
 refine Run.goP (S:=Z0) (Pack.nil.k (ciV c) (ciC c).toList (.s (.agg (ks 0 16)))) Tryz.func98 rfl ?_
 refine Run.cR (spRingC true) (fun _ _ _ H=>eWheelO c p0) ?_
 exact Run.rV rfl
theorem ccChkN (r:RCi) (p0:ciOk r = false):Calls Tryz.prog 98 #[rciV r] W (RetV (.int .i64 2) W):=by
 refine Run.goP (S:=Z0) (Pack.nil.k (rciV r) (rciC r).toList (.s (.agg (ks 0 16)))) Tryz.func98 rfl ?_
 refine Run.cR (spRingJC false) (fun _ _ _ H=>eWheelN r p0) ?_
 exact Run.rV rfl
theorem mbChkO (m:Mb) (p0:mbOk (rmb m) = true):Calls Tryz.prog 99 #[mbV m] W (RetV (.int .i64 0) W):=by
 refine Run.goP (S:=Z0) (Pack.nil.k (mbV m) (mbC m).toList (.s (.agg (ks 0 33)))) Tryz.func99 rfl ?_
 refine Run.cR (spMatC true) (fun _ _ _ H=>eOpenO m p0) ?_
 exact Run.rV rfl
theorem mbChkN (r:RMb) (p0:mbOk r = false):Calls Tryz.prog 99 #[rmbV r] W (RetV (.int .i64 2) W):=by
 refine Run.goP (S:=Z0) (Pack.nil.k (rmbV r) (rmbC r).toList (.s (.agg (ks 0 33)))) Tryz.func99 rfl ?_
 refine Run.cR (spMatJC false) (fun _ _ _ H=>eOpenN r p0) ?_
 exact Run.rV rfl
theorem ccSide (c:Ci) (P:Pn) (p0:ciOk (rci c) = true) (p1:PnF P):Calls Tryz.prog 102 #[ciV c,rpnV (pnR P)] W (RetV (.tuple #[.int .i64 (c.side P),.int .i64 0]) W):=by
 have f1:=cifits_ht (ciOk_c p0).1
 have f3:=p1.ht
 refine Run.goP (S:=Z0) ((Pack.nil.k (ciV c) (ciC c).toList (.s (.agg (ks 0 16)))).k (rpnV (pnR P)) (rpnC (pnR P)).toList (.s (.agg (ks 0 9)))) Tryz.func102 rfl ?_
 refine Run.cR (spRingC true) (fun _ _ _ H=>eWheelO c p0) ?_
 refine Run.cR (spPlaceC true) (fun _ _ _ H=>eSpotP P p1) ?_
 refine Run.cV [.int .i64 (c.side P)] kb (fun _ _ _ H=>rgSide c P (RingP.mk (H.f 0) (H.f 1) (H.f 2) (H.f 3)) (PlaceP.mk (H.f 4) (H.f 5)) (by omega)) ?_
 refine Run.ic (c.side P) 0 (decide ((c.side P) < 0)) ?_
 refine (Bool.eq_false_or_eq_true (decide ((c.side P) < 0))).elim (fun c1=>?_) (fun c1=>?_)
 · refine Run.kn c1 ?_
   exact Run.rV (side_lt c1)
 · refine Run.kn c1 ?_
   refine Run.ic (c.side P) 0 (decide (0 < (c.side P))) ?_
   refine (Bool.eq_false_or_eq_true (decide (0 < (c.side P)))).elim (fun c2=>?_) (fun c2=>?_)
   · refine Run.kn c2 ?_
     exact Run.rV (side_gt c1 c2)
   · refine Run.kn c2 ?_
     exact Run.rV (side_eq c1 c2)
theorem ccSideM (c:Ci) (p:RPn) (p0:ciOk (rci c) = true) (p1:pnOk p = false):Calls Tryz.prog 102 #[ciV c,rpnV p] W (RetV (.tuple #[.int .i64 0,.int .i64 2]) W):=by
 refine Run.goP (S:=Z0) ((Pack.nil.k (ciV c) (ciC c).toList (.s (.agg (ks 0 16)))).k (rpnV p) (rpnC p).toList (.s (.agg (ks 0 9)))) Tryz.func102 rfl ?_
 refine Run.cR (spRingC true) (fun _ _ _ H=>eWheelO c p0) ?_
 refine Run.cR spPlaceJK (fun _ _ _ H=>eSpotJ p) ?_
 refine Run.kn p1 ?_
 exact Run.rV rfl
theorem mbInv (m:Mb) (p0:mbOk (rmb m) = true):Calls Tryz.prog 106 #[mbV m] W (RetV (.tuple #[rmbV (mbcut m.undo.nrm),.int .i64 (mberr m.undo.nrm)]) W):=by
 have f1:=mb_l2 p0
 have f2:=undo_l p0
 refine Run.goP (S:=Z0) (Pack.nil.k (mbV m) (mbC m).toList (.s (.agg (ks 0 33)))) Tryz.func106 rfl ?_
 refine Run.cR (spMatC true) (fun _ _ _ H=>eOpenO m p0) ?_
 refine Run.cR spMat (fun _ _ _ H=>mtUndo m (MatP.mk (H.f 0) (H.f 1) (H.f 2) (H.f 3) (H.f 4) (H.f 5) (H.f 6) (H.f 7)) (by omega) (by exact (mbOk_c p0).2.1)) ?_
 refine Run.cV ((rmbC (mbcut m.undo.nrm)).toList ++ [.int .i64 (mberr m.undo.nrm)]) (.tup [.agg (ks 0 33),.o (.k 33)]) (fun _ _ _ H=>mtTold m.undo (MatP.mk (H.f 8) (H.f 9) (H.f 10) (H.f 11) (H.f 12) (H.f 13) (H.f 14) (H.f 15)) (by omega) (by exact undo_n (mbOk_c p0).2.1)) ?_
 exact Run.rV rfl
theorem ccImg (m:Mb) (c:Ci) (p0:mbOk (rmb m) = true) (p1:ciOk (rci c) = true):Calls Tryz.prog 105 #[mbV m,ciV c] W (RetV (.tuple #[rciV (cicut (m.img c).nrm),.int .i64 (cierr (m.img c).nrm)]) W):=by
 have f1:=mb_l2 p0
 have f2:=cifits_ht (ciOk_c p1).1
 have g1:=(mbOk_c p0).2.1
 have g2:=(ciOk_c p1).2.1
 have g5:=undo_le f1
 have g4:=img_le g5 f2
 have g3:=img_pos g1 g2
 refine Run.goP (S:=Z0) ((Pack.nil.k (mbV m) (mbC m).toList (.s (.agg (ks 0 33)))).k (ciV c) (ciC c).toList (.s (.agg (ks 0 16)))) Tryz.func105 rfl ?_
 refine Run.cR (spMatC true) (fun _ _ _ H=>eOpenO m p0) ?_
 refine Run.cR (spRingC true) (fun _ _ _ H=>eWheelO c p1) ?_
 refine Run.cR spRing (fun _ _ _ H=>mtImg m c (MatP.mk (H.f 0) (H.f 1) (H.f 2) (H.f 3) (H.f 4) (H.f 5) (H.f 6) (H.f 7)) (RingP.mk (H.f 8) (H.f 9) (H.f 10) (H.f 11)) (by first | omega | (dsimp only at *; omega)) (by exact undo_up g5) (by first | omega | (dsimp only at *; omega)) (by exact g1) (by exact g2)) ?_
 refine Run.cV ((rciC (cicut ((m.img c).nrm).nrm)).toList ++ [.int .i64 (cierr ((m.img c).nrm).nrm)]) (.tup [.agg (ks 0 16),.o (.k 16)]) (fun _ _ _ H=>rgTold ((m.img c).nrm) (RingP.mk (H.f 12) (H.f 13) (H.f 14) (H.f 15)) (by first | omega | (dsimp only at *; omega)) (by exact pos_flat (pos_nrm g3))) ?_
 exact Run.rV (img_T p0 p1)
theorem mbOne  : Calls Tryz.prog 101 #[] W (RetV (rmbV (rmb Mb.st)) W):=by
 refine Run.goP (S:=Z0) Pack.nil Tryz.func101 rfl ?_
 refine Run.cR spMat (fun _ _ _ H=>eStill) ?_
 refine Run.cV ((rmbC (mbcut (Mb.mk (Cx.ofInt (1:Int) (0:Int)) (Cx.mk 0 0) (Cx.mk 0 0) (Cx.ofInt (1:Int) (0:Int)) false).nrm)).toList ++ [.int .i64 (mberr (Mb.mk (Cx.ofInt (1:Int) (0:Int)) (Cx.mk 0 0) (Cx.mk 0 0) (Cx.ofInt (1:Int) (0:Int)) false).nrm)]) (.tup [.agg (ks 0 33),.o (.k 33)]) (fun _ _ _ H=>mtTold (Mb.mk (Cx.ofInt (1:Int) (0:Int)) (Cx.mk 0 0) (Cx.mk 0 0) (Cx.ofInt (1:Int) (0:Int)) false) (MatP.mk (H.f 0) (H.f 1) (H.f 2) (H.f 3) (H.f 4) (H.f 5) (H.f 6) (H.f 7)) (by decide +kernel) (by decide +kernel)) ?_
 exact Run.rV (congrArg rmbV st_R)
theorem mbCm1 (m:Mb) (p0:mbOk (rmb m) = true):Calls Tryz.prog 217 #[mbV m] W (RetV (.bool false) W):=by
 refine Run.goP (S:=Z0) (Pack.nil.k (mbV m) (mbC m).toList (.s (.agg (ks 0 33)))) Tryz.func217 rfl ?_
 refine Run.cV [] (.s (.o (.c (.int .i64 0)))) (fun _ _ _ H=>mbChkO m p0) ?_
 exact Run.rV rfl
theorem ixMob2 {b0:Nat} (x:Mb) (y:Mb) (B0:W.heap[b0]? = some (.cells (⟨(mbC x).toList ++ ((mbC y).toList)⟩) 44 (0,0))) (p0:mbOk (rmb x) = true) (p1:mbOk (rmb y) = true):Calls Tryz.prog 268 #[.slice (some ⟨b0,0,none⟩) 2 2,.func (.func 217) #[] #[]] W (RetV (.int .i64 (-1)) W):=by
 refine Run.goP (S:=Z0) ((Pack.nil.b B0 (some 2) 66).k (.func (.func 217) #[] #[]) [] (.s (.o (.fn 217 [])))) Tryz.func268 rfl ?_
 refine Run.cV [] (cb false) (fun _ _ _ H=>mbCm1 x p0) ?_
 refine Run.cV [] (cb false) (fun _ _ _ H=>mbCm1 y p1) ?_
 exact Run.rV rfl
theorem ctMob2 {b0:Nat} (x:Mb) (y:Mb) (B0:W.heap[b0]? = some (.cells (⟨(mbC x).toList ++ ((mbC y).toList)⟩) 44 (0,0))) (p0:mbOk (rmb x) = true) (p1:mbOk (rmb y) = true):Calls Tryz.prog 216 #[.slice (some ⟨b0,0,none⟩) 2 2,.func (.func 217) #[] #[]] W (RetV (.bool false) W):=by
 refine Run.goP (S:=Z0) ((Pack.nil.b B0 (some 2) 66).k (.func (.func 217) #[] #[]) [] (.s (.o (.fn 217 [])))) Tryz.func216 rfl ?_
 refine Run.cV [] (.s (.o (.c (.int .i64 (-1))))) (fun _ _ _ H=>ixMob2 x y (H.b 0) p0 p1) ?_
 exact Run.rV rfl
theorem ixMob3 {b0:Nat} (x:Mb) (y:Mb) (z:Mb) (B0:W.heap[b0]? = some (.cells (⟨(mbC x).toList ++ ((mbC y).toList ++ ((mbC z).toList))⟩) 44 (0,0))) (p0:mbOk (rmb x) = true) (p1:mbOk (rmb y) = true) (p2:mbOk (rmb z) = true):Calls Tryz.prog 268 #[.slice (some ⟨b0,0,none⟩) 3 3,.func (.func 217) #[] #[]] W (RetV (.int .i64 (-1)) W):=by
 refine Run.goP (S:=Z0) ((Pack.nil.b B0 (some 3) 99).k (.func (.func 217) #[] #[]) [] (.s (.o (.fn 217 [])))) Tryz.func268 rfl ?_
 refine Run.cV [] (cb false) (fun _ _ _ H=>mbCm1 x p0) ?_
 refine Run.cV [] (cb false) (fun _ _ _ H=>mbCm1 y p1) ?_
 refine Run.cV [] (cb false) (fun _ _ _ H=>mbCm1 z p2) ?_
 exact Run.rV rfl
theorem ctMob3 {b0:Nat} (x:Mb) (y:Mb) (z:Mb) (B0:W.heap[b0]? = some (.cells (⟨(mbC x).toList ++ ((mbC y).toList ++ ((mbC z).toList))⟩) 44 (0,0))) (p0:mbOk (rmb x) = true) (p1:mbOk (rmb y) = true) (p2:mbOk (rmb z) = true):Calls Tryz.prog 216 #[.slice (some ⟨b0,0,none⟩) 3 3,.func (.func 217) #[] #[]] W (RetV (.bool false) W):=by
 refine Run.goP (S:=Z0) ((Pack.nil.b B0 (some 3) 99).k (.func (.func 217) #[] #[]) [] (.s (.o (.fn 217 [])))) Tryz.func216 rfl ?_
 refine Run.cV [] (.s (.o (.c (.int .i64 (-1))))) (fun _ _ _ H=>ixMob3 x y z (H.b 0) p0 p1 p2) ?_
 exact Run.rV rfl
end Go.Proofs.YtcpjdjnaipbieaaGreat
set_option maxRecDepth 100000
set_option maxHeartbeats 4000000
namespace Go.Proofs.YtcpjdjnaipbieaaGreat
open Go.RowKit Rgn Go.Shelf Eng
def rfIn:Code → Option (Operand × Array Tmp × Code × Code)
 | .seq a b=>match rfIn a with | some x=>some x | none=>rfIn b
 | .block _ c=>rfIn c
 | .rangeFunc g ps x y=>some (g,ps,x,y)
 | _=>none
def restOf:Code → Option Code
 | .seq a b=>match restOf b with | some r=>some r | none=>if (rfIn a).isSome then some b else none
 | _=>none
noncomputable def cpC:Code:=(Tryz.f104.body).getD .skip
noncomputable def cpG:Operand:=match rfIn cpC with | some x=>x.1 | none=>.const undef
noncomputable def cpP:Array Tmp:=match rfIn cpC with | some x=>x.2.1 | none=>#[]
noncomputable def cpAs:Code:=match rfIn cpC with | some x=>x.2.2.1 | none=>.skip
noncomputable def cpBd:Code:=match rfIn cpC with | some x=>x.2.2.2 | none=>.skip
noncomputable def cpRest:Code:=(restOf cpC).getD .skip
abbrev cpFn:Nat:=269
def cpEnc (x:Nat × OkM):Array Value:=#[.int .i64 (x.1:Int),mbV x.2.1]
def cpEl (l:List OkM) (j:Nat):Nat × OkM:=(j,l.getD j default)
def RL (l:List OkM):List RMb:=l.map fun m=>rmb m.1
theorem cpEl_enc (l:List OkM):∀ j,j < (RL l).length → cpEnc (cpEl l j) = #[.int .i64 (j:Int),rmbV ((RL l).getD j rzMb)]:=fun j hj=>by
 have hj' : j < l.length:=by simpa [RL] using hj
 have e:(RL l).getD j rzMb = rmb (l.getD j default).1:=by
  simp only [RL,List.getD_eq_getElem?_getD,List.getElem?_map,List.getElem?_eq_getElem hj']; rfl
 rw [e]; rfl
abbrev sn (pre:List (Nat × OkM)):List OkM:=pre.map (·.2)
def CpI (W:World) (b2 b3 b4 bb:Nat) (sv:Value) (B:Nat) (pre:List (Nat × OkM)) (W' : World):Prop :=
  ∃ ys:Array Value,((cpS (sn pre)).2 = true ∧ Gd (cpS (sn pre)).1 ∧ (MatP (cpS (sn pre)).1).p (Amb Z0 W) (.agg ys) W') ∧
    (W'.heap[b2]? = some (.cells (rmbC rzMb) 44 (0,0)) ∧ W'.heap[b3]? = some (.cells #[.int .i64 0] 32 (0,0)) ∧
     W'.heap[b4]? = some (.cells ys 198 (0,0)) ∧ W'.heap[bb]? = some (.cells #[sv] 286 (0,0))) ∧ RowKit.Below W.heap.size W W' ∧ B ≤ W'.heap.size
def CpXs (W:World) (b2 b3:Nat) (c:Code) (pre:List (Nat × OkM)) (W' : World):Prop :=
 c = .ret ∧ (cpS (sn pre)).2 = false ∧ (W'.heap[b2]? = some (.cells (rmbC rzMb) 44 (0,0)) ∧ W'.heap[b3]? = some (.cells #[.int .i64 4] 32 (0,0))) ∧ RowKit.Below W.heap.size W W'
def CpAx (n0 b2 b3 b4 bb:Nat) (x:Nat × OkM) (a' : Act) (W' : World):Prop :=
 (a'.defers = [] ∧ a'.tmps.size = 44 ∧ a'.tmps.getD 2 undef = pt b2 ∧ a'.tmps.getD 3 undef = pt b3 ∧ a'.tmps.getD 4 undef = pt b4 ∧ a'.tmps.getD 20 undef = .func (.func cpFn) #[] #[pt bb]) ∧
  ∃ q,(n0 ≤ q ∧ b2 ≠ q ∧ b3 ≠ q ∧ b4 ≠ q ∧ bb ≠ q) ∧ a'.tmps.getD 6 undef = pt q ∧ W'.heap[q]? = some (.cells (mbC x.2.1) 44 (0,0))
theorem cpI_own (W:World) (b2 b3 b4 bb:Nat) (sv:Value) (B0:Nat) {B:Nat} (hB:W.heap.size ≤ B):OwnFrom B (CpI W b2 b3 b4 bb sv B0):=fun pre X Y row hs hg hr=>by
 obtain ⟨ys,⟨h1,h2,h3⟩,⟨h4,h5,h6,h7⟩,h8,h9⟩:=hs
 have ck:=ck_grown hg (fun r e=>(hr r e).2)
 exact ⟨ys,⟨h1,h2,matCk h3 ck⟩,⟨ck _ _ _ _ h4,ck _ _ _ _ h5,ck _ _ _ _ h6,ck _ _ _ _ h7⟩,ownFrom_below (β:=Unit) (Nat.le_refl _) hB () X Y row h8 hg hr,Nat.le_trans h9 hg.size⟩
theorem cpX_own (W:World) (b2 b3:Nat) {B:Nat} (hB:W.heap.size ≤ B) (c:Code):OwnFrom B (CpXs W b2 b3 c):=fun pre X Y row hs hg hr=>by
 obtain ⟨h1,h2,⟨h3,h4⟩,h5⟩:=hs
 have ck:=ck_grown hg (fun r e=>(hr r e).2)
 exact ⟨h1,h2,⟨ck _ _ _ _ h3,ck _ _ _ _ h4⟩,ownFrom_below (β:=Unit) (Nat.le_refl _) hB () X Y row h5 hg hr⟩
theorem cpAx_own (n0 b2 b3 b4 bb:Nat) (x:Nat × OkM) (a' : Act) (B:Nat):OwnFrom B (fun (_:Unit) W=>CpAx n0 b2 b3 b4 bb x a' W):=fun _ X Y row hs hg hr=>by
 obtain ⟨h1,q,h2,h3,h4⟩:=hs
 exact ⟨h1,q,h2,h3,ck_grown hg (fun r e=>(hr r e).2) _ _ _ _ h4⟩
def asc (t:Nat):List (Nat × SV) → Option SV
 | []=>none
 | (u,v) :: l=>if Nat.beq u t then some v else asc t l
def frOf:Nat → Nat → List (Nat × SV) → List (Option SV)
 | 0,_,_=>[]
 | n + 1,t,l=>asc t l :: frOf n (t + 1) l
theorem frOf_len:∀ (n t:Nat) (l:List (Nat × SV)),(frOf n t l).length = n
 | 0,_,_=>rfl
 | n + 1,t,l=>by simp [frOf,frOf_len n]
theorem frOf_at:∀ (n t:Nat) (l:List (Nat × SV)) (k:Nat) (v:SV),nth (frOf n t l) k = some (some v) → asc (t + k) l = some v
 | 0,_,_,k,v,h=>by cases k <;> cases h
 | n + 1,t,l,0,v,h=>Option.some.inj h
 | n + 1,t,l,k + 1,v,h=>by
  have:=frOf_at n (t + 1) l k v h
  rwa [show t + 1 + k = t + (k + 1) by omega] at this
theorem asc_mem {t:Nat} {v:SV}:∀ {l:List (Nat × SV)},asc t l = some v → (t,v) ∈ l
 | [],h=>by cases h
 | (u,w) :: l,h=>by
  unfold asc at h
  split at h
  ·rename_i e
   have e:=Nat.eq_of_beq_eq_true e
   cases h; subst e; exact .head _
  ·exact .tail _ (asc_mem h)
theorem agF_of {D:List Deferred} {E:Env} {n:Nat} {l:List (Nat × SV)} {a:Act} (h0:a.defers = D) (h1:a.tmps.size = n) (h:∀ p ∈ l,a.tmps.getD p.1 undef = p.2.d E):AgF D E (frOf n 0 l) a :=
 ⟨h0,by rw [frOf_len]; exact h1,fun t v ht=>by
  have:=frOf_at n 0 l t v ht
  rw [Nat.zero_add] at this
  exact h _ (asc_mem this)⟩
abbrev sp (b:Nat):SV:=.s (.o (.p b 0))
abbrev cpSl:List (Nat × SV):=[(2,sp 0),(3,sp 1),(4,sp 2),(20,.s (.o (.fn cpFn [3])))]
abbrev cpBl:List Eng.Blk:=[⟨44,(rmbC rzMb).toList.map At.c,true,none,false⟩,⟨32,[.c (.int .i64 0)],true,none,false⟩,⟨198,vs 0 8 ++ [.k 0],true,none,false⟩,⟨286,[.k 34],true,none,false⟩]
def cpBls:Bool → List Eng.Blk
 | false=>cpBl
 | true=>cpBl ++ [⟨44,ks 1 33,true,none,false⟩]
abbrev cpK (s:Mb) (x:Nat × OkM) (sv:Value):List Value:=.bool s.t :: ((mbC x.2.1).toList ++ [sv,.int .i64 (x.1:Int)])
abbrev cpPh (s:Mb) (B:Nat) (w0:World):List VP:=[RatN s.a.re,RatN s.a.im,RatN s.b.re,RatN s.b.im,RatN s.c.re,RatN s.c.im,RatN s.d.re,RatN s.d.im,KeepV B w0]
noncomputable abbrev cpMA:MS:=⟨.code cpAs,[],frOf 44 0 (cpSl ++ [(21,.s (.o (.k 35))),(22,.s (.agg (ks 1 33)))]),cpBls false,36,9,[],[]⟩
noncomputable abbrev cpMB:MS:=⟨.code cpBd,[],frOf 44 0 (cpSl ++ [(6,sp 4)]),cpBls true,36,9,[],[]⟩
def be (b2 b3 b4 bb q:Nat):Nat → Nat
 | 0=>b2
 | 1=>b3
 | 2=>b4
 | 3=>bb
 | _=>q
theorem pt_inj {a b:Nat} (h:pt a = pt b):a = b:=by
 have h:Value.pointer (some ⟨a,0,none⟩) = .pointer (some ⟨b,0,none⟩):=h
 injection h with h; injection h with h; injection h
theorem fn_inj {f a b:Nat} (h:Value.func (.func f) #[] #[pt a] = .func (.func f) #[] #[pt b]):a = b:=by
 injection h with _ _ h
 have h:=congrArg Array.toList h
 simp only [List.cons.injEq,and_true] at h
 exact pt_inj h
section
variable {W:World}
theorem cp_inv {w:World} {s:Mb} {x:Nat × OkM} {sv:Value} {B:Nat} {w0:World} {b2 b3 b4 bb q:Nat} (hsv:sv.oneCell' = true) (five:Bool) {y1 y2 y3 y4 y5 y6 y7 y8:Value}
  (h1:(RatN s.a.re).p (Amb Z0 W) y1 w) (h2:(RatN s.a.im).p (Amb Z0 W) y2 w) (h3:(RatN s.b.re).p (Amb Z0 W) y3 w) (h4:(RatN s.b.im).p (Amb Z0 W) y4 w) (h5:(RatN s.c.re).p (Amb Z0 W) y5 w) (h6:(RatN s.c.im).p (Amb Z0 W) y6 w) (h7:(RatN s.d.re).p (Amb Z0 W) y7 w) (h8:(RatN s.d.im).p (Amb Z0 W) y8 w)
  (kf:KeepsFrom B w0 w) (bel:RowKit.Below W.heap.size W w) (g2:W.heap.size ≤ b2) (g3:W.heap.size ≤ b3) (g4:W.heap.size ≤ b4) (gb:W.heap.size ≤ bb) (gq:W.heap.size ≤ q)
  (n23:b2 ≠ b3) (n24:b2 ≠ b4) (n2b:b2 ≠ bb) (n34:b3 ≠ b4) (n3b:b3 ≠ bb) (n4b:b4 ≠ bb) (nq:five = true → b2 ≠ q ∧ b3 ≠ q ∧ b4 ≠ q ∧ bb ≠ q)
  (B2:w.heap[b2]? = some (.cells (rmbC rzMb) 44 (0,0))) (B3:w.heap[b3]? = some (.cells #[.int .i64 0] 32 (0,0))) (B4:w.heap[b4]? = some (.cells #[y1,y2,y3,y4,y5,y6,y7,y8,.bool s.t] 198 (0,0))) (Bb:w.heap[bb]? = some (.cells #[sv] 286 (0,0)))
  (Bq:five = true → w.heap[q]? = some (.cells (mbC x.2.1) 44 (0,0))) :
  Inv (Amb Z0 W) Z0 W (cpK s x sv) (cpPh s B w0) ⟨be b2 b3 b4 bb q,cpK s x sv,kat [y1,y2,y3,y4,y5,y6,y7,y8,.bool false]⟩ (cpBls five) [] w:=by
 refine Inv.make _ _ _ (kat_all ?_) (kat_all ?_) bel (fun b k h=>?_) (fun b c k l h h' hn e=>?_) (fun n φ h=>?_)
 ·show (true && ((mbC x.2.1).toList ++ [sv,.int .i64 (x.1:Int)]).all (·.oneCell')) = true
  simp only [List.all_append,List.all_cons,List.all_nil,hsv,Bool.and_true,Bool.true_and]
  rfl
 ·simp only [List.all_cons,List.all_nil,VP1.ratn h1,VP1.ratn h2,VP1.ratn h3,VP1.ratn h4,VP1.ratn h5,VP1.ratn h6,VP1.ratn h7,VP1.ratn h8,Bool.and_true,Bool.true_and]
  rfl
 ·cases five with
  | false =>
   match b,h with
   | 0,h=>have h:some _ = some k:=h; cases h; exact ⟨rfl,rfl,rfl,g2,B2⟩
   | 1,h=>have h:some _ = some k:=h; cases h; exact ⟨rfl,rfl,rfl,g3,B3⟩
   | 2,h=>have h:some _ = some k:=h; cases h; exact ⟨rfl,rfl,rfl,g4,B4⟩
   | 3,h=>have h:some _ = some k:=h; cases h; exact ⟨rfl,rfl,rfl,gb,Bb⟩
   | b + 4,h=>cases b <;> cases h
  | true =>
   match b,h with
   | 0,h=>have h:some _ = some k:=h; cases h; exact ⟨rfl,rfl,rfl,g2,B2⟩
   | 1,h=>have h:some _ = some k:=h; cases h; exact ⟨rfl,rfl,rfl,g3,B3⟩
   | 2,h=>have h:some _ = some k:=h; cases h; exact ⟨rfl,rfl,rfl,g4,B4⟩
   | 3,h=>have h:some _ = some k:=h; cases h; exact ⟨rfl,rfl,rfl,gb,Bb⟩
   | 4,h=>have h:some _ = some k:=h; cases h; exact ⟨rfl,rfl,rfl,gq,Bq rfl⟩
   | b + 5,h=>cases b <;> cases h
 ·cases five with
  | false =>
   have hb:=nth_lt h; have hc:=nth_lt h'
   have hb:b < 4:=hb
   have hc:c < 4:=hc
   rcases b with _ | _ | _ | _ | b <;> rcases c with _ | _ | _ | _ | c <;> first | exact absurd rfl hn | exact absurd hb (by omega) | exact absurd hc (by omega) | (simp [be] at e; omega)
  | true =>
   obtain ⟨n2,n3,n4,nb⟩:=nq rfl
   have hb:=nth_lt h; have hc:=nth_lt h'
   have hb:b < 5:=hb
   have hc:c < 5:=hc
   rcases b with _ | _ | _ | _ | _ | b <;> rcases c with _ | _ | _ | _ | _ | c <;> first | exact absurd rfl hn | exact absurd hb (by omega) | exact absurd hc (by omega) | (simp [be] at e; omega)
 ·match n,h with
  | 0,h=>have h:some _ = some φ:=h; cases h; exact h1
  | 1,h=>have h:some _ = some φ:=h; cases h; exact h2
  | 2,h=>have h:some _ = some φ:=h; cases h; exact h3
  | 3,h=>have h:some _ = some φ:=h; cases h; exact h4
  | 4,h=>have h:some _ = some φ:=h; cases h; exact h5
  | 5,h=>have h:some _ = some φ:=h; cases h; exact h6
  | 6,h=>have h:some _ = some φ:=h; cases h; exact h7
  | 7,h=>have h:some _ = some φ:=h; cases h; exact h8
  | 8,h=>have h:some _ = some φ:=h; cases h; exact kf
  | n + 9,h=>cases n <;> cases h
end
section
variable {W:World}
theorem below_btw {n:Nat} {W A C:World} (h1:RowKit.Below n W A) (h2:RowKit.Below n W C) (hs:A.heap.size ≤ C.heap.size):RowKit.Below n A C :=
 ⟨h2.os.trans h1.os.symm,h2.tape.trans h1.tape.symm,h2.output.trans h1.output.symm,hs,fun k hk=>(h2.block k hk).trans (h1.block k hk).symm⟩
theorem cpT {T:Array Value} (x:Nat × OkM):(cpP.zip (cpEnc x)).foldl (fun t (p,v)=>t.setIfInBounds p v) T = (T.setIfInBounds 21 (.int .i64 (x.1:Int))).setIfInBounds 22 (mbV x.2.1):=by
 rw [show cpP = #[21,22] by kernel_rfl]; simp [cpEnc]
theorem getD_set {T:Array Value} {i t:Nat} {v:Value} (h:i ≠ t):(T.setIfInBounds i v).getD t undef = T.getD t undef:=by
 simp only [Array.getD_eq_getD_getElem?]; rw [Array.getElem?_setIfInBounds_ne h]
theorem getD_set' {T:Array Value} {i:Nat} {v:Value} (h:i < T.size):(T.setIfInBounds i v).getD i undef = v:=by
 simp [Array.getD_eq_getD_getElem?,h]
theorem hm0:Tryz.prog.follows .mixedOrders = true:=by kernel_rfl
theorem cp_assign {w:World} {a:Act} {b2 b3 b4 bb:Nat} {sv:Value} (hsv:sv.oneCell' = true) (g2:W.heap.size ≤ b2) (g3:W.heap.size ≤ b3) (g4:W.heap.size ≤ b4) (gb:W.heap.size ≤ bb)
  (n23:b2 ≠ b3) (n24:b2 ≠ b4) (n2b:b2 ≠ bb) (n34:b3 ≠ b4) (n3b:b3 ≠ bb) (n4b:b4 ≠ bb)
  (sz:a.tmps.size = 44) (a2:a.tmps.getD 2 undef = pt b2) (a3:a.tmps.getD 3 undef = pt b3) (a4:a.tmps.getD 4 undef = pt b4) (a20:a.tmps.getD 20 undef = .func (.func cpFn) #[] #[pt bb])
  (l:Nat) (pre:List (Nat × OkM)) (x:Nat × OkM) (wr:World) (K:Act → World → Prop) (hI:CpI W b2 b3 b4 bb sv w.heap.size pre wr)
  (hK:∀ a' W', KeepsFrom w.heap.size wr W' → KpM W.heap.size bb wr W' → CpI W b2 b3 b4 bb sv w.heap.size pre W' → CpAx W.heap.size b2 b3 b4 bb x a' W' → K a' W') :
  cpAs.wpIn (Fence.wide.inRound l) 7 Tryz.prog (Exit.then K (fun _ _ _=>False)) { tmps:=(cpP.zip (cpEnc x)).foldl (fun t (p,v)=>t.setIfInBounds p v) a.tmps,defers:=[] } wr:=by
 obtain ⟨ys,⟨h1,h2,h3⟩,⟨B2,B3,B4,Bb⟩,bel,hsz⟩:=hI
 obtain ⟨y1,y2,y3,y4,y5,y6,y7,y8,e,k1,k2,k3,k4,k5,k6,k7,k8⟩:=h3
 cases e
 refine ws_rd (l:=l) hm0 (by kernel_rfl) (fun ⟨_,_,h⟩=>h) ?_
 rw [cpT]
 refine ws_fr (D:=dstsC cpAs) (a0:={ tmps:=(a.tmps.setIfInBounds 21 (.int .i64 (x.1:Int))).setIfInBounds 22 (mbV x.2.1),defers:=[] }) (by kernel_rfl) (fun _ h=>h) (fun _ _=>rfl) ?_
 have R:Run Tryz.prog Z0 W (cpK (cpS (sn pre)).1 x sv) (cpPh (cpS (sn pre)).1 w.heap.size wr) (FrQ (dstsC cpAs) { tmps:=(a.tmps.setIfInBounds 21 (.int .i64 (x.1:Int))).setIfInBounds 22 (mbV x.2.1),defers:=[] } (Exit.then K (fun _ _ _=>False))) cpMA:=by
  refine Run.q .normal fun β ℓ a1 w1 I G hf=>?_
  have hf:=hf.resolve_left (fun e=>by cases e)
  have hn:∀ t,t ≠ 21 → t ≠ 22 → hasN (dstsC cpAs) t = false → a1.tmps.getD t undef = a.tmps.getD t undef:=fun t h1 h2 h3=>by
   rw [hf t h3]
   show ((a.tmps.setIfInBounds 21 _).setIfInBounds 22 _).getD t undef = _
   rw [getD_set (Ne.symm h2),getD_set (Ne.symm h1)]
  have e2:β 0 = b2:=pt_inj ((G.at 2).symm.trans ((hn 2 (by decide) (by decide) (by kernel_rfl)).trans a2))
  have e3:β 1 = b3:=pt_inj ((G.at 3).symm.trans ((hn 3 (by decide) (by decide) (by kernel_rfl)).trans a3))
  have e4:β 2 = b4:=pt_inj ((G.at 4).symm.trans ((hn 4 (by decide) (by decide) (by kernel_rfl)).trans a4))
  have eb:β 3 = bb:=fn_inj ((G.at 20).symm.trans ((hn 20 (by decide) (by decide) (by kernel_rfl)).trans a20))
  have kf:KeepsFrom w.heap.size wr w1:=I.f 8 (φ:=KeepV w.heap.size wr)
  have C2:=I.b 0 (cs:=rmbC rzMb) (T:=44)
  have C3:=I.b 1 (cs:=#[.int .i64 0]) (T:=32)
  have C4:=I.b 2 (cs:=#[ℓ 0,ℓ 1,ℓ 2,ℓ 3,ℓ 4,ℓ 5,ℓ 6,ℓ 7,.bool (cpS (sn pre)).1.t]) (T:=198)
  have Cb:=I.b 3 (cs:=#[sv]) (T:=286)
  have Cq:=I.b 4 (cs:=mbC x.2.1) (T:=44)
  rw [e2] at C2; rw [e3] at C3; rw [e4] at C4; rw [eb] at Cb
  have M:=(MatP (cpS (sn pre)).1).mono (fun k _ hk=>I.up k hk) (MatP.mk (c:=(cpS (sn pre)).1) (I.f 0) (I.f 1) (I.f 2) (I.f 3) (I.f 4) (I.f 5) (I.f 6) (I.f 7))
  exact hK a1 w1 kf ⟨below_btw bel I.bel kf.size,Cb.trans Bb.symm⟩ ⟨_,⟨h1,h2,M⟩,⟨C2,C3,C4,Cb⟩,I.bel,Nat.le_trans hsz kf.size⟩
   ⟨⟨G.nd,G.sz.trans (by kernel_rfl),(hn 2 (by decide) (by decide) (by kernel_rfl)).trans a2,(hn 3 (by decide) (by decide) (by kernel_rfl)).trans a3,(hn 4 (by decide) (by decide) (by kernel_rfl)).trans a4,(hn 20 (by decide) (by decide) (by kernel_rfl)).trans a20⟩,β 4,⟨I.e.ow 4,by rw [← e2]; exact I.ne 0 4,by rw [← e3]; exact I.ne 1 4,by rw [← e4]; exact I.ne 2 4,by rw [← eb]; exact I.ne 3 4⟩,G.at 6,Cq⟩
 refine R.r _ _ _ _ (cp_inv (x:=x) (q:=b2) hsv false k1 k2 k3 k4 k5 k6 k7 k8 (KeepsFrom.refl _ _) bel g2 g3 g4 gb g2 n23 n24 n2b n34 n3b n4b (fun h=>by cases h) B2 B3 B4 Bb (fun h=>by cases h)) (agF_of rfl (by simp [sz]) ?_)
 intro p hp
 simp only [List.cons_append,List.nil_append,List.mem_cons,List.not_mem_nil,or_false] at hp
 rcases hp with rfl | rfl | rfl | rfl | rfl | rfl
 ·exact (getD_set (by decide)).trans ((getD_set (by decide)).trans a2)
 ·exact (getD_set (by decide)).trans ((getD_set (by decide)).trans a3)
 ·exact (getD_set (by decide)).trans ((getD_set (by decide)).trans a4)
 ·exact (getD_set (by decide)).trans ((getD_set (by decide)).trans a20)
 ·exact (getD_set (by decide)).trans ((getD_set' (by omega)).trans (by kernel_rfl))
 ·exact (getD_set' (by simp [sz])).trans (by kernel_rfl)
theorem mberr_0 {m:Mb} (h:mbfits (rmb m) = true):mberr m = 0:=by unfold mberr; rw [if_pos h]
theorem mberr_4 {m:Mb} (h:mbfits (rmb m) = false):mberr m = 4:=by unfold mberr; rw [if_neg (by rw [h]; decide)]
theorem cp_body {n0:Nat} {b2 b3 b4 bb:Nat} {sv:Value} (hsv:sv.oneCell' = true) (g2:W.heap.size ≤ b2) (g3:W.heap.size ≤ b3) (g4:W.heap.size ≤ b4) (gb:W.heap.size ≤ bb)
  (n23:b2 ≠ b3) (n24:b2 ≠ b4) (n2b:b2 ≠ bb) (n34:b3 ≠ b4) (n3b:b3 ≠ bb) (n4b:b4 ≠ bb)
  (l:Nat) (pre:List (Nat × OkM)) (x:Nat × OkM) (a' : Act) (wr:World) (hI:CpI W b2 b3 b4 bb sv n0 pre wr) (hA:CpAx W.heap.size b2 b3 b4 bb x a' wr) :
  cpBd.wpIn (Fence.wide.inRound l) 7 Tryz.prog (ownPostG n0 (KpM W.heap.size bb) (CpI W b2 b3 b4 bb sv n0) (CpXs W b2 b3) (pre ++ [x]) wr) a' wr:=by
 obtain ⟨ys,⟨h1,h2,h3⟩,⟨B2,B3,B4,Bb⟩,bel,hsz⟩:=hI
 obtain ⟨⟨ad,sz,a2,a3,a4,a20⟩,q,⟨gq,m2,m3,m4,mb⟩,a6,Bq⟩:=hA
 obtain ⟨y1,y2,y3,y4,y5,y6,y7,y8,e,k1,k2,k3,k4,k5,k6,k7,k8⟩:=h3
 cases e
 refine ws_rd (l:=l) hm0 (by kernel_rfl) (fun ⟨_,_,h⟩=>h) ?_
 refine ws_fr (D:=dstsC cpBd) (a0:=a') (by kernel_rfl) (fun _ h=>h) (fun _ _=>rfl) ?_
 obtain ⟨s,hs⟩:∃ s,s = (cpS (sn pre)).1:=⟨_,rfl⟩
 have hsn:cpS (sn (pre ++ [x])) = (x.2.1.behind s,mbfits (rmb (x.2.1.behind s))):=by
  show cpS ((pre ++ [x]).map (·.2)) = _
  rw [List.map_append,List.map_cons,List.map_nil,cpS_snoc]
  unfold cpE
  rw [show (cpS (pre.map (·.2))).2 = true from h1,hs]; rfl
 rw [← hs] at h2 k1 k2 k3 k4 k5 k6 k7 k8 B4
 have R:Run Tryz.prog Z0 W (cpK s x sv) (cpPh s n0 wr) (FrQ (dstsC cpBd) a' (ownPostG n0 (KpM W.heap.size bb) (CpI W b2 b3 b4 bb sv n0) (CpXs W b2 b3) (pre ++ [x]) wr)) cpMB:=by
  refine Run.cR (spMatC true) (fun _ _ _ H=>eOpenO x.2.1 x.2.2) ?_
  refine Run.cR spMat (fun _ _ _ H=>mtBehind x.2.1 s (MatP.mk (H.f 9) (H.f 10) (H.f 11) (H.f 12) (H.f 13) (H.f 14) (H.f 15) (H.f 16)) (MatP.mk (H.f 0) (H.f 1) (H.f 2) (H.f 3) (H.f 4) (H.f 5) (H.f 6) (H.f 7)) (beh_pre h2 x.2) (beh_piv h2 x.2)) ?_
  refine Run.cV ((rmbC (mbcut (x.2.1.behind s).nrm)).toList ++ [.int .i64 (mberr (x.2.1.behind s).nrm)]) (.tup [.agg (ks 0 33),.o (.k 33)]) (fun _ _ _ H=>mtTold (x.2.1.behind s) (MatP.mk (H.f 17) (H.f 18) (H.f 19) (H.f 20) (H.f 21) (H.f 22) (H.f 23) (H.f 24)) (beh_le h2 x.2) (det_piv (beh_det h2 x.2))) ?_
  refine Run.ic (mberr (x.2.1.behind s).nrm) 0 (mberr (x.2.1.behind s).nrm != 0) ?_
  have anchor:∀ {β:Nat → Nat} {ℓ:Nat → Value} {κ:List Value} {fr:List (Option SV)} {df:List Deferred} {a1:Act},AgF df ⟨β,κ,ℓ⟩ fr a1 → Fr (dstsC cpBd) a' a1 → ((nth fr 2).bind id).map (SV.d ⟨β,κ,ℓ⟩) = some (pt (β 0)) → ((nth fr 3).bind id).map (SV.d ⟨β,κ,ℓ⟩) = some (pt (β 1)) →
    ((nth fr 4).bind id).map (SV.d ⟨β,κ,ℓ⟩) = some (pt (β 2)) → ((nth fr 20).bind id).map (SV.d ⟨β,κ,ℓ⟩) = some (.func (.func cpFn) #[] #[pt (β 3)]) → β 0 = b2 ∧ β 1 = b3 ∧ β 2 = b4 ∧ β 3 = bb:=fun G hf q2 q3 q4 qb =>
   ⟨pt_inj ((G.at 2 q2).symm.trans ((hf 2 (by kernel_rfl)).trans a2)),pt_inj ((G.at 3 q3).symm.trans ((hf 3 (by kernel_rfl)).trans a3)),pt_inj ((G.at 4 q4).symm.trans ((hf 4 (by kernel_rfl)).trans a4)),fn_inj ((G.at 20 qb).symm.trans ((hf 20 (by kernel_rfl)).trans a20))⟩
  cases hft:mbfits (rmb (x.2.1.behind s)) with
  | true =>
   refine Run.kn (c:=false) (show (mberr (x.2.1.behind s).nrm != 0) = false by rw [beh_n h2 x.2,mberr_0 hft]; rfl) ?_
   refine Run.q .normal fun β ℓ a1 w1 I G hf=>?_
   have hf:=hf.resolve_left (fun e=>by cases e)
   obtain ⟨e2,e3,e4,eb⟩:=anchor G hf (by kernel_rfl) (by kernel_rfl) (by kernel_rfl) (by kernel_rfl)
   have kf:KeepsFrom n0 wr w1:=I.f 8 (φ:=KeepV n0 wr)
   have C2:=I.b 0 (cs:=rmbC rzMb) (T:=44)
   have C3:=I.b 1 (cs:=#[.int .i64 0]) (T:=32)
   have C4:=I.b 2 (cs:=#[ℓ 17,ℓ 18,ℓ 19,ℓ 20,ℓ 21,ℓ 22,ℓ 23,ℓ 24,.bool (x.2.1.behind s).t]) (T:=198)
   have Cb:=I.b 3 (cs:=#[sv]) (T:=286)
   rw [e2] at C2; rw [e3] at C3; rw [e4] at C4; rw [eb] at Cb
   have M:=(MatP (x.2.1.behind s)).mono (fun k _ hk=>I.up k hk) (MatP.mk (c:=x.2.1.behind s) (I.f 17) (I.f 18) (I.f 19) (I.f 20) (I.f 21) (I.f 22) (I.f 23) (I.f 24))
   refine ⟨kf,⟨below_btw bel I.bel kf.size,Cb.trans Bb.symm⟩,_,⟨?_,?_,?_⟩,⟨C2,C3,C4,Cb⟩,I.bel,Nat.le_trans hsz kf.size⟩
   ·rw [hsn]; exact hft
   ·rw [hsn]; exact gd_step h2 x.2 hft
   ·rw [hsn]; exact M
  | false =>
   refine Run.kn (c:=true) (show (mberr (x.2.1.behind s).nrm != 0) = true by rw [beh_n h2 x.2,mberr_4 hft]; rfl) ?_
   refine Run.q .ret fun β ℓ a1 w1 I G hf=>?_
   have hf:=hf.resolve_left (fun e=>by cases e)
   obtain ⟨e2,e3,e4,eb⟩:=anchor G hf (by kernel_rfl) (by kernel_rfl) (by kernel_rfl) (by kernel_rfl)
   have kf:KeepsFrom n0 wr w1:=I.f 8 (φ:=KeepV n0 wr)
   have C2:=I.b 0 (cs:=rmbC rzMb) (T:=44)
   have C3:=I.b 1 (cs:=#[.int .i64 (mberr (x.2.1.behind s).nrm)]) (T:=32)
   rw [e2] at C2; rw [e3,beh_n h2 x.2,mberr_4 hft] at C3
   exact ⟨kf,rfl,by rw [hsn]; exact hft,⟨C2,C3⟩,I.bel⟩
 refine R.r _ _ _ _ (cp_inv (x:=x) (q:=q) hsv true k1 k2 k3 k4 k5 k6 k7 k8 (KeepsFrom.refl _ _) bel g2 g3 g4 gb gq n23 n24 n2b n34 n3b n4b (fun _=>⟨m2,m3,m4,mb⟩) B2 B3 B4 Bb (fun _=>Bq)) (agF_of ad sz ?_)
 intro p hp
 simp only [List.cons_append,List.nil_append,List.mem_cons,List.not_mem_nil,or_false] at hp
 rcases hp with rfl | rfl | rfl | rfl | rfl
 ·exact a2
 ·exact a3
 ·exact a4
 ·exact a20
 ·exact a6
end
theorem bmU_app {α:Type} (n:Nat) (el:Nat → α):∀ (d k:Nat),k + d = n → ∃ r,bmU n el n = bmU n el k ++ r
 | 0,k,h=>⟨[],by rw [List.append_nil,show k = n by omega]⟩
 | d + 1,k,h=>by
  obtain ⟨r,hr⟩:=bmU_app n el d (k + 1) (by omega)
  exact ⟨[el (n - 1 - k)] ++ r,by rw [hr,bmU_succ,List.append_assoc]⟩
theorem retM2 {P:Program} {fn:Func} {R:Ending → World → Prop} {a:Act} {w:World} {v:Value} {F:Fence} {n D:Nat} (hd:a.defers = [{ target:=.collected D,args:=#[] }]) (hK:w.heap[D]? = some (.deferred (some []))) (hr:(results fn a.tmps).run P (w.putObj D (.deferred none)) = .ok v (w.putObj D (.deferred none))) (hR:R (.returned v) (w.putObj D (.deferred none))):bodyPostM F n P fn R .ret a w:=by
 show LeavesInM F n P fn a.tmps R a.defers .returning w
 rw [hd]
 exact ⟨by simp,.inl ⟨_,_,rfl,run_takeDeferred hK,⟨_,hr,hR⟩⟩⟩
section
variable {W:World}
noncomputable abbrev cpF:Func:=Tryz.f104
noncomputable abbrev cpMT (D:Nat):MS:=⟨.code cpRest,[],frOf 44 0 [(2,sp 0),(3,sp 1),(4,sp 2)],[⟨44,(rmbC rzMb).toList.map At.c,true,none,false⟩,⟨32,[.c (.int .i64 0)],true,none,false⟩,⟨198,vs 0 8 ++ [.k 0],true,none,false⟩],1,9,[],[{ target:=.collected D,args:=#[] }]⟩
theorem cp_ret {a:Act} {w:World} {b2 b3 D:Nat} {r:RMb} {e:Int} (hd:a.defers = [{ target:=.collected D,args:=#[] }]) (hD:W.heap.size ≤ D) (hK:w.heap[D]? = some (.deferred (some []))) (a2:a.tmps.getD 2 undef = pt b2) (a3:a.tmps.getD 3 undef = pt b3)
  (B2:w.heap[b2]? = some (.cells (rmbC r) 44 (0,0))) (B3:w.heap[b3]? = some (.cells #[.int .i64 e] 32 (0,0))) (bel:RowKit.Below W.heap.size W w):bodyPostM Fence.wide 9 Tryz.prog cpF (RetV (.tuple #[rmbV r,.int .i64 e]) W) .ret a w:=by
 have ck:=ck_put hK rfl (.deferred none)
 refine retM2 hd hK (results_rc rfl a2 (ck _ _ _ _ B2) Tryz.underlying44 rfl (by rw [info_mob33]; rfl) a3 (load_errno (ck _ _ _ _ B3))) (RetV.mk rfl ?_)
 exact bel.trans ((Below.refl _ w).grown (grownBy_putObj' w D _) (by have:=bel.size; exact this) (fun k e=>by cases e; exact hD))
theorem cp_tail {a:Act} {w:World} {s:Mb} (g:Gd s) {b2 b3 b4 D:Nat} (hD:W.heap.size ≤ D) {y1 y2 y3 y4 y5 y6 y7 y8:Value}
  (h1:(RatN s.a.re).p (Amb Z0 W) y1 w) (h2:(RatN s.a.im).p (Amb Z0 W) y2 w) (h3:(RatN s.b.re).p (Amb Z0 W) y3 w) (h4:(RatN s.b.im).p (Amb Z0 W) y4 w) (h5:(RatN s.c.re).p (Amb Z0 W) y5 w) (h6:(RatN s.c.im).p (Amb Z0 W) y6 w) (h7:(RatN s.d.re).p (Amb Z0 W) y7 w) (h8:(RatN s.d.im).p (Amb Z0 W) y8 w)
  (bel:RowKit.Below W.heap.size W w) (g2:W.heap.size ≤ b2) (g3:W.heap.size ≤ b3) (g4:W.heap.size ≤ b4) (n23:b2 ≠ b3) (n24:b2 ≠ b4) (n34:b3 ≠ b4)
  (B2:w.heap[b2]? = some (.cells (rmbC rzMb) 44 (0,0))) (B3:w.heap[b3]? = some (.cells #[.int .i64 0] 32 (0,0))) (B4:w.heap[b4]? = some (.cells #[y1,y2,y3,y4,y5,y6,y7,y8,.bool s.t] 198 (0,0)))
  (hK:w.heap[D]? = some (.deferred (some []))) (ad:a.defers = [{ target:=.collected D,args:=#[] }]) (sz:a.tmps.size = 44) (a2:a.tmps.getD 2 undef = pt b2) (a3:a.tmps.getD 3 undef = pt b3) (a4:a.tmps.getD 4 undef = pt b4) :
  wsC Tryz.prog cpRest (bodyPostM Fence.wide 9 Tryz.prog cpF (RetV (.tuple #[rmbV (rmb s),.int .i64 0]) W)) a w:=by
 have R:Run Tryz.prog Z0 W [.bool s.t] [RatN s.a.re,RatN s.a.im,RatN s.b.re,RatN s.b.im,RatN s.c.re,RatN s.c.im,RatN s.d.re,RatN s.d.im,ObjV D (.deferred (some []))] (bodyPostM Fence.wide 9 Tryz.prog cpF (RetV (.tuple #[rmbV (rmb s),.int .i64 0]) W)) (cpMT D):=by
  refine Run.cV ((rmbC (mbcut s.nrm)).toList ++ [.int .i64 (mberr s.nrm)]) (.tup [.agg (ks 0 33),.o (.k 33)]) (fun _ _ _ H=>mtTold s (MatP.mk (H.f 0) (H.f 1) (H.f 2) (H.f 3) (H.f 4) (H.f 5) (H.f 6) (H.f 7)) (gd_le g) (det_piv g.d)) ?_
  refine Run.q .ret fun β ℓ a1 w1 I G=>?_
  have C2:=I.b 0 (cs:=rmbC (mbcut s.nrm)) (T:=44)
  have C3:=I.b 1 (cs:=#[.int .i64 (mberr s.nrm)]) (T:=32)
  rw [g.n,show mbcut s = rmb s by unfold mbcut; rw [if_pos g.f]] at C2
  rw [g.n,mberr_0 g.f] at C3
  exact cp_ret G.nd hD (I.f 8 (φ:=ObjV D (.deferred (some [])))).1 (G.at 2) (G.at 3) C2 C3 I.bel
 refine R.r _ ⟨be b2 b3 b4 b4 b4,[.bool s.t],kat [y1,y2,y3,y4,y5,y6,y7,y8,.bool false]⟩ _ _ (Inv.make _ _ _ (kat_all rfl) (kat_all ?_) bel (fun b k h=>?_) (fun b c k l h h' hn e=>?_) (fun n φ h=>?_)) (agF_of ad sz ?_)
 ·simp only [List.all_cons,List.all_nil,VP1.ratn h1,VP1.ratn h2,VP1.ratn h3,VP1.ratn h4,VP1.ratn h5,VP1.ratn h6,VP1.ratn h7,VP1.ratn h8,Bool.and_true,Bool.true_and]
  rfl
 ·match b,h with
  | 0,h=>have h:some _ = some k:=h; cases h; exact ⟨rfl,rfl,rfl,g2,B2⟩
  | 1,h=>have h:some _ = some k:=h; cases h; exact ⟨rfl,rfl,rfl,g3,B3⟩
  | 2,h=>have h:some _ = some k:=h; cases h; exact ⟨rfl,rfl,rfl,g4,B4⟩
  | b + 3,h=>cases b <;> cases h
 ·have hb:=nth_lt h; have hc:=nth_lt h'
  have hb:b < 3:=hb
  have hc:c < 3:=hc
  rcases b with _ | _ | _ | b <;> rcases c with _ | _ | _ | c <;> first | exact absurd rfl hn | exact absurd hb (by omega) | exact absurd hc (by omega) | (simp [be] at e; omega)
 ·match n,h with
  | 0,h=>have h:some _ = some φ:=h; cases h; exact h1
  | 1,h=>have h:some _ = some φ:=h; cases h; exact h2
  | 2,h=>have h:some _ = some φ:=h; cases h; exact h3
  | 3,h=>have h:some _ = some φ:=h; cases h; exact h4
  | 4,h=>have h:some _ = some φ:=h; cases h; exact h5
  | 5,h=>have h:some _ = some φ:=h; cases h; exact h6
  | 6,h=>have h:some _ = some φ:=h; cases h; exact h7
  | 7,h=>have h:some _ = some φ:=h; cases h; exact h8
  | 8,h=>have h:some _ = some φ:=h; cases h; exact ⟨hK,rfl⟩
  | n + 9,h=>cases n <;> cases h
 ·intro p hp
  simp only [List.mem_cons,List.not_mem_nil,or_false] at hp
  rcases hp with rfl | rfl | rfl
  ·exact a2
  ·exact a3
  ·exact a4
theorem cpRun {w:World} {a:Act} (l:List OkM) {n:Nat} (hn:(RL l).length = n) (h0:n ≠ 0) (hlen:n ≤ 1000) {b0 b2 b3 b4 bb:Nat} {cur:Array Value} {T:TypeId} {fr:Nat × Nat} (hb0:b0 < W.heap.size) (hB0:w.heap[b0]? = some (.cells cur T fr)) (hR:MRow cur 0 (RL l))
  (g2:W.heap.size ≤ b2) (g3:W.heap.size ≤ b3) (g4:W.heap.size ≤ b4) (gb:W.heap.size ≤ bb) (n23:b2 ≠ b3) (n24:b2 ≠ b4) (n2b:b2 ≠ bb) (n34:b3 ≠ b4) (n3b:b3 ≠ bb) (n4b:b4 ≠ bb)
  (I0:CpI W b2 b3 b4 bb (.slice (some ⟨b0,0,none⟩) n n) w.heap.size [] w) (ad:a.defers = []) (sz:a.tmps.size = 44) (a2:a.tmps.getD 2 undef = pt b2) (a3:a.tmps.getD 3 undef = pt b3) (a4:a.tmps.getD 4 undef = pt b4) (a20:a.tmps.getD 20 undef = .func (.func cpFn) #[] #[pt bb]) :
  (Code.rangeFunc cpG cpP cpAs cpBd).wp Tryz.prog (Exit.inBlock 0 (Exit.then (wsC Tryz.prog cpRest (bodyPostM Fence.wide 9 Tryz.prog cpF (RetV (.tuple #[rmbV (cpR (sn (bmU n (cpEl l) n))),.int .i64 (cpX (sn (bmU n (cpEl l) n)))]) W))) (bodyPostM Fence.wide 9 Tryz.prog cpF (RetV (.tuple #[rmbV (cpR (sn (bmU n (cpEl l) n))),.int .i64 (cpX (sn (bmU n (cpEl l) n)))]) W)))) a w:=by
 subst hn
 have hsv:(Value.slice (some ⟨b0,0,none⟩) (RL l).length (RL l).length).oneCell' = true:=rfl
 have I0' := I0
 obtain ⟨ys,_,⟨_,_,_,Bb⟩,bel0,_⟩:=I0'
 have nL:=bel0.size
 have hg:a.eval cpG = .func (.func cpFn) #[] #[pt bb]:=by rw [show cpG = .tmp 20 by kernel_rfl]; exact a20
 refine (wpIn_wide (n:=9)).1 (wpIn_rangeFunc_ownH (F:=Fence.wide) (n:=9) (α:=Nat × OkM) rfl (by decide) (gf:=cpFn) (lb:=#[pt bb]) hg trivial (enters_of Tryz.func269 (by kernel_rfl) rfl) (encs:=cpEnc) (Kp:=KpM W.heap.size bb)
  (bm_stops cpEnc (cpEl l) 8 (by decide) bb W.heap.size b0 0 (RL l).length (RL l) cur fr (cpEl_enc l) h0 (by omega) (Nat.le_refl _) (by omega) hb0 w nL Bb hB0 hR)
  kpM_t (kpM_b nL (lt_of Bb)) (Below.refl _ _) (fun x=>by rw [show cpP = #[21,22] by kernel_rfl]; rfl) (CpI W b2 b3 b4 bb (.slice (some ⟨b0,0,none⟩) (RL l).length (RL l).length) w.heap.size) (CpXs W b2 b3) (cpI_own W b2 b3 b4 bb _ _ nL) (cpX_own W b2 b3 nL) I0
  (CpAx W.heap.size b2 b3 b4 bb) (fun x a' => cpAx_own _ _ _ _ _ x a' _) (fun lp pre x wr K hI hK=>cp_assign hsv g2 g3 g4 gb n23 n24 n2b n34 n3b n4b sz a2 a3 a4 a20 lp pre x wr K hI hK)
  (fun lp pre x a' wr _ _ hI hA _=>cp_body hsv g2 g3 g4 gb n23 n24 n2b n34 n3b n4b lp pre x a' wr hI hA) ?_ ?_)
 ·rintro D xs W' hD rfl ⟨ys,⟨h1,h2,h3⟩,⟨B2,B3,B4,_⟩,bel,hsz⟩ hK
  rw [ad]
  show wsC Tryz.prog cpRest _ _ W'
  obtain ⟨y1,y2,y3,y4,y5,y6,y7,y8,e,k1,k2,k3,k4,k5,k6,k7,k8⟩:=h3
  cases e
  rw [show cpR (sn (bmU (RL l).length (cpEl l) (RL l).length)) = rmb (cpS (sn (bmU (RL l).length (cpEl l) (RL l).length))).1 by unfold cpR; rw [if_pos h1],show cpX (sn (bmU (RL l).length (cpEl l) (RL l).length)) = 0 by unfold cpX; rw [if_pos h1]]
  exact cp_tail h2 (Nat.le_trans nL hD) k1 k2 k3 k4 k5 k6 k7 k8 bel g2 g3 g4 n23 n24 n34 B2 B3 B4 hK rfl sz a2 a3 a4
 ·rintro D c pre W' hD ⟨k,hk,rfl⟩ ⟨rfl,h1,⟨B2,B3⟩,bel⟩ hK
  rw [ad]
  refine wpIn_ret ?_
  obtain ⟨r,hr⟩:=bmU_app (RL l).length (cpEl l) ((RL l).length - k) k (by omega)
  have h2:(cpS (sn (bmU (RL l).length (cpEl l) (RL l).length))).2 = false:=by
   rw [hr]
   show (cpS ((_ ++ r).map _)).2 = false
   rw [List.map_append]
   exact cp_stop _ _ h1
  show bodyPostM Fence.wide 9 Tryz.prog cpF _ .ret _ W'
  rw [show cpR (sn (bmU (RL l).length (cpEl l) (RL l).length)) = rzMb by unfold cpR; rw [if_neg (by rw [h2]; decide)],show cpX (sn (bmU (RL l).length (cpEl l) (RL l).length)) = 4 by unfold cpX; rw [if_neg (by rw [h2]; decide)]]
  exact cp_ret rfl (Nat.le_trans nL hD) hK a2 a3 B2 B3 bel
theorem gapp {A B:List Value} (hA:A.length = 33) {k:Nat}:(A ++ B)[33 + k]? = B[k]?:=by rw [List.getElem?_append_right (by omega)]; congr 1; omega
theorem gapl {A B:List Value} (hA:A.length = 33) {k:Nat} (h:k < 33):(A ++ B)[k]? = A[k]?:=List.getElem?_append_left (by omega)
theorem mrow2 (x y:Mb):MRow (⟨(mbC x).toList ++ ((mbC y).toList)⟩) 0 [rmb x,rmb y]:=by
 intro i r h k v hk
 have hk' : k < 33:=(List.getElem?_eq_some_iff.1 hk).1
 rw [show 0 + 33 * i + k = 33 * i + k by omega]
 match i,h with
 | 0,h=>cases h; rw [show 33 * 0 + k = k by omega]; show (List.toArray ((mbC x).toList ++ ((mbC y).toList)))[_]? = _; rw [List.getElem?_toArray,gapl rfl hk']; exact hk
 | 1,h=>cases h; rw [show 33 * 1 + k = 33 + k by omega]; show (List.toArray ((mbC x).toList ++ ((mbC y).toList)))[_]? = _; rw [List.getElem?_toArray,gapp rfl]; exact hk
 | i + 2,h=>cases i <;> cases h
theorem mrow3 (x y z:Mb):MRow (⟨(mbC x).toList ++ ((mbC y).toList ++ ((mbC z).toList))⟩) 0 [rmb x,rmb y,rmb z]:=by
 intro i r h k v hk
 have hk' : k < 33:=(List.getElem?_eq_some_iff.1 hk).1
 rw [show 0 + 33 * i + k = 33 * i + k by omega]
 match i,h with
 | 0,h=>cases h; rw [show 33 * 0 + k = k by omega]; show (List.toArray ((mbC x).toList ++ ((mbC y).toList ++ ((mbC z).toList))))[_]? = _; rw [List.getElem?_toArray,gapl rfl hk']; exact hk
 | 1,h=>cases h; rw [show 33 * 1 + k = 33 + k by omega]; show (List.toArray ((mbC x).toList ++ ((mbC y).toList ++ ((mbC z).toList))))[_]? = _; rw [List.getElem?_toArray,gapp rfl,gapl rfl hk']; exact hk
 | 2,h=>cases h; rw [show 33 * 2 + k = 33 + (33 + k) by omega]; show (List.toArray ((mbC x).toList ++ ((mbC y).toList ++ ((mbC z).toList))))[_]? = _; rw [List.getElem?_toArray,gapp rfl,gapp rfl]; exact hk
 | i + 3,h=>cases i <;> cases h
theorem cpm2 {b0:Nat} (x y:OkM) (B0:W.heap[b0]? = some (.cells (⟨(mbC x.1).toList ++ ((mbC y.1).toList)⟩) 44 (0,0))):Calls Tryz.prog 104 #[.slice (some ⟨b0,0,none⟩) 2 2] W (RetV (.tuple #[rmbV (cpR [y,x]),.int .i64 (cpX [y,x])]) W):=by
 refine Run.goM (S:=Z0) (Pack.nil.b B0 (some 2) 66) Tryz.func104 rfl ?_
 refine Run.cV [] (cb false) (fun _ _ _ H=>ctMob2 x.1 y.1 (H.b 0) x.2 y.2) ?_
 refine Run.cR spMat (fun _ _ _ H=>eStill) ?_
 refine Run.cF (g:=cpFn) 286 [.sl 0 0 2 2] (fun β _ w H=>bm_in (some ⟨β 0,0,none⟩) 2 2 w) ?_
 refine Run.rf (g:=cpG) (ps:=cpP) (x:=cpAs) (y:=cpBd) (id:=0) (c:=cpRest) fun β ℓ a w I G hold=>?_
 have M:=(MatP stI).mono (fun k _ hk=>I.up k hk) (MatP.mk (c:=stI) (I.f 0) (I.f 1) (I.f 2) (I.f 3) (I.f 4) (I.f 5) (I.f 6) (I.f 7))
 have C0:=I.b 0 (cs:=⟨(mbC x.1).toList ++ ((mbC y.1).toList)⟩) (T:=44)
 have e:sn (bmU 2 (cpEl [x,y]) 2) = [y,x]:=rfl
 have h:=cpRun (W:=W) (a:=a) (w:=w) [x,y] (n:=2) rfl (by decide) (by decide) (b0:=β 0) (b2:=β 1) (b3:=β 2) (b4:=β 3) (bb:=β 4) hold C0 (mrow2 x.1 y.1) (I.e.ow 1) (I.e.ow 2) (I.e.ow 3) (I.e.ow 4) (I.ne 1 2) (I.ne 1 3) (I.ne 1 4) (I.ne 2 3) (I.ne 2 4) (I.ne 3 4)
  ⟨_,⟨rfl,gd_st,M⟩,⟨I.b 1 (cs:=rmbC rzMb) (T:=44),I.b 2 (cs:=#[.int .i64 0]) (T:=32),I.b 3 (cs:=#[ℓ 0,ℓ 1,ℓ 2,ℓ 3,ℓ 4,ℓ 5,ℓ 6,ℓ 7,.bool stI.t]) (T:=198),I.b 4 (cs:=#[.slice (some ⟨β 0,0,none⟩) 2 2]) (T:=286)⟩,I.bel,Nat.le_refl _⟩
  (G.nd.trans (by kernel_rfl)) (G.sz.trans (by kernel_rfl)) (G.at 2) (G.at 3) (G.at 4) (G.at 20)
 rw [e] at h
 exact h
theorem cpm3 {b0:Nat} (x y z:OkM) (B0:W.heap[b0]? = some (.cells (⟨(mbC x.1).toList ++ ((mbC y.1).toList ++ ((mbC z.1).toList))⟩) 44 (0,0))):Calls Tryz.prog 104 #[.slice (some ⟨b0,0,none⟩) 3 3] W (RetV (.tuple #[rmbV (cpR [z,y,x]),.int .i64 (cpX [z,y,x])]) W):=by
 refine Run.goM (S:=Z0) (Pack.nil.b B0 (some 3) 99) Tryz.func104 rfl ?_
 refine Run.cV [] (cb false) (fun _ _ _ H=>ctMob3 x.1 y.1 z.1 (H.b 0) x.2 y.2 z.2) ?_
 refine Run.cR spMat (fun _ _ _ H=>eStill) ?_
 refine Run.cF (g:=cpFn) 286 [.sl 0 0 3 3] (fun β _ w H=>bm_in (some ⟨β 0,0,none⟩) 3 3 w) ?_
 refine Run.rf (g:=cpG) (ps:=cpP) (x:=cpAs) (y:=cpBd) (id:=0) (c:=cpRest) fun β ℓ a w I G hold=>?_
 have M:=(MatP stI).mono (fun k _ hk=>I.up k hk) (MatP.mk (c:=stI) (I.f 0) (I.f 1) (I.f 2) (I.f 3) (I.f 4) (I.f 5) (I.f 6) (I.f 7))
 have C0:=I.b 0 (cs:=⟨(mbC x.1).toList ++ ((mbC y.1).toList ++ ((mbC z.1).toList))⟩) (T:=44)
 have e:sn (bmU 3 (cpEl [x,y,z]) 3) = [z,y,x]:=rfl
 have h:=cpRun (W:=W) (a:=a) (w:=w) [x,y,z] (n:=3) rfl (by decide) (by decide) (b0:=β 0) (b2:=β 1) (b3:=β 2) (b4:=β 3) (bb:=β 4) hold C0 (mrow3 x.1 y.1 z.1) (I.e.ow 1) (I.e.ow 2) (I.e.ow 3) (I.e.ow 4) (I.ne 1 2) (I.ne 1 3) (I.ne 1 4) (I.ne 2 3) (I.ne 2 4) (I.ne 3 4)
  ⟨_,⟨rfl,gd_st,M⟩,⟨I.b 1 (cs:=rmbC rzMb) (T:=44),I.b 2 (cs:=#[.int .i64 0]) (T:=32),I.b 3 (cs:=#[ℓ 0,ℓ 1,ℓ 2,ℓ 3,ℓ 4,ℓ 5,ℓ 6,ℓ 7,.bool stI.t]) (T:=198),I.b 4 (cs:=#[.slice (some ⟨β 0,0,none⟩) 3 3]) (T:=286)⟩,I.bel,Nat.le_refl _⟩
  (G.nd.trans (by kernel_rfl)) (G.sz.trans (by kernel_rfl)) (G.at 2) (G.at 3) (G.at 4) (G.at 20)
 rw [e] at h
 exact h
end
end Go.Proofs.YtcpjdjnaipbieaaGreat
