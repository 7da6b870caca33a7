import Derived.Test.YtllohoibifcmdaaGreatP03
import Derived.LoopN
import Derived.Scope
import Derived.IntWalk
set_option linter.unusedVariables false
set_option linter.unusedSimpArgs false
namespace Go.Proofs.YtllohoibifcmdaaGreat
open Go.RowKit Rgn
set_option maxHeartbeats 4000000
set_option maxRecDepth 100000
variable {S:Nat → Prop} {W:World}
theorem gaMay (r:RG) :
  Calls Tryz.prog 46 #[rgV r] W (RetV (.bool (gmay r)) W):=by
 have bel:=b0 W
 go_enter Tryz.func46,Tryz.ntmps46
 rcases Bool.eq_false_or_eq_true (fmay r.re) with c1 | c1
 ·
  rcases Bool.eq_false_or_eq_true (fmay r.im) with c2 | c2
  ·
   refine gs 2 (Amb Z0 W) fun _ K3=>?_
   refine .bx rfl (fun H=>H.v 0 (rgV r)) ?_
   refine .mc rfl ?_
   refine .dk (fun u=>rgV r::u 0::u 1::us 8) K3 bel fun u1 w1 D bel=>?_
   obtain ⟨b4,E1_0,A4,B4⟩:=D.nw 0
   have E1_1:=D.q 1
   clear D
   refine gs 9 (Amb Z0 W) fun _ K5=>?_
   refine .fz rfl 1 0 E1_0 ?_
   refine .lp rfl 0 (rfC r.re) B4 ?_
   refine .cK rfl (V:=.bool true) Tryz.func100 (fun H=>⟨_,ar1 (H.g 4 1),reV (congrArg Value.bool c1) (frMay _)⟩) ?_
   refine .mv rfl 2 ?_
   refine .fz rfl 1 4 E1_0 ?_ (hg:=gq 3 rfl)
   refine .lp rfl 4 (rfC r.im) B4 ?_ (hg:=gq 3 rfl)
   refine .cK rfl (V:=.bool true) Tryz.func100 (fun H=>⟨_,ar1 (H.g 8 5),reV (congrArg Value.bool c2) (frMay _)⟩) ?_ (hg:=gq 3 rfl)
   refine .e rfl (fun H=>x_pkT (H.g 6 3) (H.g 9 6)) ?_
   refine .mv rfl 7 ?_
   refine .dk (fun u=>rgV r::u1 0::u 8::sq u 0 8 []) K5 bel fun u2 w2 D bel=>?_
   have E2_8:=D.q 8
   clear D
   exact wp_ret (rt rfl E2_8 (and_b c1 c2) bel)
  ·
   refine gs 2 (Amb Z0 W) fun _ K6=>?_
   refine .bx rfl (fun H=>H.v 0 (rgV r)) ?_
   refine .mc rfl ?_
   refine .dk (fun u=>rgV r::u 0::u 1::us 8) K6 bel fun u1 w1 D bel=>?_
   obtain ⟨b7,E1_0,A7,B7⟩:=D.nw 0
   have E1_1:=D.q 1
   clear D
   refine gs 9 (Amb Z0 W) fun _ K8=>?_
   refine .fz rfl 1 0 E1_0 ?_
   refine .lp rfl 0 (rfC r.re) B7 ?_
   refine .cK rfl (V:=.bool true) Tryz.func100 (fun H=>⟨_,ar1 (H.g 4 1),reV (congrArg Value.bool c1) (frMay _)⟩) ?_
   refine .mv rfl 2 ?_
   refine .fz rfl 1 4 E1_0 ?_ (hg:=gq 3 rfl)
   refine .lp rfl 4 (rfC r.im) B7 ?_ (hg:=gq 3 rfl)
   refine .cK rfl (V:=.bool false) Tryz.func100 (fun H=>⟨_,ar1 (H.g 8 5),reV (congrArg Value.bool c2) (frMay _)⟩) ?_ (hg:=gq 3 rfl)
   refine .e rfl (fun H=>x_pkT (H.g 6 3) (H.g 9 6)) ?_
   refine .mv rfl 7 ?_
   refine .dk (fun u=>rgV r::u1 0::u 8::sq u 0 8 []) K8 bel fun u2 w2 D bel=>?_
   have E2_8:=D.q 8
   clear D
   exact wp_ret (rt rfl E2_8 (and_b c1 c2) bel)
 ·
  rcases Bool.eq_false_or_eq_true (fmay r.im) with c9 | c9
  ·
   refine gs 2 (Amb Z0 W) fun _ K10=>?_
   refine .bx rfl (fun H=>H.v 0 (rgV r)) ?_
   refine .mc rfl ?_
   refine .dk (fun u=>rgV r::u 0::u 1::us 8) K10 bel fun u1 w1 D bel=>?_
   obtain ⟨b11,E1_0,A11,B11⟩:=D.nw 0
   have E1_1:=D.q 1
   clear D
   refine gs 9 (Amb Z0 W) fun _ K12=>?_
   refine .fz rfl 1 0 E1_0 ?_
   refine .lp rfl 0 (rfC r.re) B11 ?_
   refine .cK rfl (V:=.bool false) Tryz.func100 (fun H=>⟨_,ar1 (H.g 4 1),reV (congrArg Value.bool c1) (frMay _)⟩) ?_
   refine .mv rfl 2 ?_
   refine .sk rfl 3 ?_
   refine .sk rfl 3 ?_
   refine .sk rfl 3 ?_
   refine .e rfl (fun H=>x_pkF (H.g 6 3) (H.c _)) ?_
   refine .mv rfl 7 ?_
   refine .dk (fun u=>rgV r::u1 0::u 8::sq u 0 8 []) K12 bel fun u2 w2 D bel=>?_
   have E2_8:=D.q 8
   clear D
   exact wp_ret (rt rfl E2_8 (and_b c1 c9) bel)
  ·
   refine gs 2 (Amb Z0 W) fun _ K13=>?_
   refine .bx rfl (fun H=>H.v 0 (rgV r)) ?_
   refine .mc rfl ?_
   refine .dk (fun u=>rgV r::u 0::u 1::us 8) K13 bel fun u1 w1 D bel=>?_
   obtain ⟨b14,E1_0,A14,B14⟩:=D.nw 0
   have E1_1:=D.q 1
   clear D
   refine gs 9 (Amb Z0 W) fun _ K15=>?_
   refine .fz rfl 1 0 E1_0 ?_
   refine .lp rfl 0 (rfC r.re) B14 ?_
   refine .cK rfl (V:=.bool false) Tryz.func100 (fun H=>⟨_,ar1 (H.g 4 1),reV (congrArg Value.bool c1) (frMay _)⟩) ?_
   refine .mv rfl 2 ?_
   refine .sk rfl 3 ?_
   refine .sk rfl 3 ?_
   refine .sk rfl 3 ?_
   refine .e rfl (fun H=>x_pkF (H.g 6 3) (H.c _)) ?_
   refine .mv rfl 7 ?_
   refine .dk (fun u=>rgV r::u1 0::u 8::sq u 0 8 []) K15 bel fun u2 w2 D bel=>?_
   have E2_8:=D.q 8
   clear D
   exact wp_ret (rt rfl E2_8 (and_b c1 c9) bel)
theorem gaInt (m:Int) (n:Int) (p0:-9223372036854775808 ≤ m) (p1:m ≤ 9223372036854775807) (p2:-9223372036854775808 ≤ n) (p3:n ≤ 9223372036854775807) :
  Calls Tryz.prog 48 #[.int .i64 m,.int .i64 n] W (RetV (gV (Cx.ofInt m n)) W):=by
 have bel:=b0 W
 go_enter Tryz.func48,Tryz.ntmps48
 refine gs 1 (Amb Z0 W) fun _ K1=>?_
 refine .al rfl zG ?_
 refine .dk (fun u=>.int .i64 m::.int .i64 n::U::U::u 0::us 5) K1 bel fun u1 w1 D bel=>?_
 obtain ⟨b2,E1_0,A2,B2⟩:=D.nw 0
 clear D
 refine gs1 6 (Amb Z0 W) 5 B2 fun _ K3=>?_
 refine .mz rfl 0 (V:=.int .i64 m) rfl ?_
 refine .cK rfl Tryz.func47 (fun H=>⟨_,ar1 (H.g 5 0),frInt _ (by omega) (by omega)⟩) ?_
 refine .mz rfl 1 (V:=.int .i64 n) rfl ?_
 refine .cK rfl Tryz.func47 (fun H=>⟨_,ar1 (H.g 7 2),frInt _ (by omega) (by omega)⟩) ?_
 refine .e rfl (V:=gV ⟨(m:Rat),(n:Rat)⟩) (fun H=>by have e6:=H.g 6 1; have e8:=H.g 8 3; clear H; go_simp) ?_
 refine .s1 rfl B2 (fun H=>⟨H.z 4 E1_0,H.g 9 4⟩) ?_
 refine .d1 (fun u=>.int .i64 m::.int .i64 n::U::U::u1 0::sq u 0 5 []) K3 bel A2 fun u2 w2 D bel=>?_
 replace B2:=D.ol 5
 clear D
 exact wp_ret (rr rfl E1_0 B2 rfl bel)
theorem gaZero (r:RG) :
  Calls Tryz.prog 37 #[rgV r] W (RetV (.bool (decide (r = rg (Cx.ofInt (0:Int) (0:Int))))) W):=by
 have bel:=b0 W
 go_enter Tryz.func37,Tryz.ntmps37
 refine gs 2 (Amb Z0 W) fun _ K1=>?_
 refine .bx rfl (fun H=>H.v 0 (rgV r)) ?_
 refine .mc rfl ?_
 refine .dk (fun u=>rgV r::u 0::u 1::us 3) K1 bel fun u1 w1 D bel=>?_
 obtain ⟨b2,E1_0,A2,B2⟩:=D.nw 0
 have E1_1:=D.q 1
 clear D
 refine gd 4 (Amb Z0 W) fun _ K3=>?_
 refine .lr rfl 1 E1_0 B2 ?_
 refine .cK rfl Tryz.func48 (fun H=>⟨_,ar2 (H.c (.int .i64 0)) (H.c (.int .i64 0)),gaInt _ _ (by omega) (by omega) (by omega) (by omega)⟩) ?_
 refine .e rfl (V:=.bool ((decide (r = rg (Cx.ofInt (0:Int) (0:Int)))))) (fun H=>ex_eql_gauss (r:=r) (q:=rg (Cx.ofInt (0:Int) (0:Int))) _ _ rfl (H.g 3 0) (H.g 4 1) rfl) ?_
 refine .mv rfl 2 ?_
 refine .dk (fun u=>rgV r::u1 0::u 3::sq u 0 3 []) K3 bel fun u2 w2 D bel=>?_
 have E2_3:=D.q 3
 clear D
 exact wp_ret (rt rfl E2_3 rfl bel)
theorem lWhole (m:Int) (n:Int) (p0:-9223372036854775808 ≤ m) (p1:m ≤ 9223372036854775807) (p2:-9223372036854775808 ≤ n) (p3:n ≤ 9223372036854775807) :
  Calls Tryz.prog 10 #[.int .i64 m,.int .i64 n] W (RetV (gV (Cx.ofInt m n)) W):=by
 have bel:=b0 W
 go_enter Tryz.func10,Tryz.ntmps10
 refine gs 1 (Amb Z0 W) fun _ K1=>?_
 refine .al rfl zG ?_
 refine .dk (fun u=>.int .i64 m::.int .i64 n::U::U::u 0::us 5) K1 bel fun u1 w1 D bel=>?_
 obtain ⟨b2,E1_0,A2,B2⟩:=D.nw 0
 clear D
 refine gs1 6 (Amb Z0 W) 5 B2 fun _ K3=>?_
 refine .mz rfl 0 (V:=.int .i64 m) rfl ?_
 refine .cK rfl Tryz.func13 (fun H=>⟨_,ar1 (H.g 5 0),fInt _ (by omega) (by omega)⟩) ?_
 refine .mz rfl 1 (V:=.int .i64 n) rfl ?_
 refine .cK rfl Tryz.func13 (fun H=>⟨_,ar1 (H.g 7 2),fInt _ (by omega) (by omega)⟩) ?_
 refine .e rfl (V:=gV ⟨(m:Rat),(n:Rat)⟩) (fun H=>by have e6:=H.g 6 1; have e8:=H.g 8 3; clear H; go_simp) ?_
 refine .s1 rfl B2 (fun H=>⟨H.z 4 E1_0,H.g 9 4⟩) ?_
 refine .d1 (fun u=>.int .i64 m::.int .i64 n::U::U::u1 0::sq u 0 5 []) K3 bel A2 fun u2 w2 D bel=>?_
 replace B2:=D.ol 5
 clear D
 exact wp_ret (rr rfl E1_0 B2 rfl bel)
theorem hWhole (r:RG) :
  Calls Tryz.prog 28 #[rgV r] W (RetV (.bool (gwhole r)) W):=by
 have bel:=b0 W
 go_enter Tryz.func28,Tryz.ntmps28
 rcases Bool.eq_false_or_eq_true (gmay r) with c1 | c1
 ·
  rcases Bool.eq_false_or_eq_true (decide (r.re.b = rw (1:Int))) with c2 | c2
  ·
   have dc2:=of_decide_eq_true c2
   rcases Bool.eq_false_or_eq_true (decide (r.im.b = rw (1:Int))) with c3 | c3
   ·
    have dc3:=of_decide_eq_true c3
    refine gs 2 (Amb Z0 W) fun _ K4=>?_
    refine .bx rfl (fun H=>H.v 0 (rgV r)) ?_
    refine .mc rfl ?_
    refine .dk (fun u=>rgV r::u 0::u 1::us 16) K4 bel fun u1 w1 D bel=>?_
    obtain ⟨b5,E1_0,A5,B5⟩:=D.nw 0
    have E1_1:=D.q 1
    clear D
    refine gd 17 (Amb Z0 W) fun _ K6=>?_
    refine .lr rfl 1 E1_0 B5 ?_
    refine .cK rfl (V:=.bool true) Tryz.func46 (fun H=>⟨_,ar1 (H.g 3 0),reV (congrArg Value.bool c1) (gaMay _)⟩) ?_
    refine .mv rfl 1 ?_
    refine .fz rfl 1 0 E1_0 ?_ (hg:=gq 2 rfl)
    refine .fj rfl 3 2 ?_ (hg:=gq 2 rfl)
    refine .lp rfl 4 (rwC r.re.b) B5 ?_ (hg:=gq 2 rfl)
    refine .cK rfl Tryz.func80 (fun H=>⟨_,ar1 (H.c (.int .i64 1)),wOf _ (by omega) (by omega)⟩) ?_ (hg:=gq 2 rfl)
    refine .e rfl (V:=.bool true) (fun H=>ex_eql_whole (r:=r.re.b) (q:=rw (1:Int)) _ _ rfl (H.g 8 5) (H.g 9 6) (rfl.trans c2)) ?_ (hg:=gq 2 rfl)
    refine .e rfl (fun H=>x_pkT (H.g 5 2) (H.g 10 7)) ?_
    refine .mv rfl 8 ?_
    refine .fz rfl 1 4 E1_0 ?_ (hg:=gq 9 rfl)
    refine .fj rfl 10 6 ?_ (hg:=gq 9 rfl)
    refine .lp rfl 11 (rwC r.im.b) B5 ?_ (hg:=gq 9 rfl)
    refine .cK rfl Tryz.func80 (fun H=>⟨_,ar1 (H.c (.int .i64 1)),wOf _ (by omega) (by omega)⟩) ?_ (hg:=gq 9 rfl)
    refine .e rfl (V:=.bool true) (fun H=>ex_eql_whole (r:=r.im.b) (q:=rw (1:Int)) _ _ rfl (H.g 15 12) (H.g 16 13) (rfl.trans c3)) ?_ (hg:=gq 9 rfl)
    refine .e rfl (fun H=>x_pkT (H.g 12 9) (H.g 17 14)) ?_
    refine .mv rfl 15 ?_
    refine .dk (fun u=>rgV r::u1 0::u 16::sq u 0 16 []) K6 bel fun u2 w2 D bel=>?_
    have E2_16:=D.q 16
    clear D
    exact wp_ret (rt rfl E2_16 (and3_b c1 c2 c3) bel)
   ·
    have dc3:=of_decide_eq_false c3
    refine gs 2 (Amb Z0 W) fun _ K7=>?_
    refine .bx rfl (fun H=>H.v 0 (rgV r)) ?_
    refine .mc rfl ?_
    refine .dk (fun u=>rgV r::u 0::u 1::us 16) K7 bel fun u1 w1 D bel=>?_
    obtain ⟨b8,E1_0,A8,B8⟩:=D.nw 0
    have E1_1:=D.q 1
    clear D
    refine gd 17 (Amb Z0 W) fun _ K9=>?_
    refine .lr rfl 1 E1_0 B8 ?_
    refine .cK rfl (V:=.bool true) Tryz.func46 (fun H=>⟨_,ar1 (H.g 3 0),reV (congrArg Value.bool c1) (gaMay _)⟩) ?_
    refine .mv rfl 1 ?_
    refine .fz rfl 1 0 E1_0 ?_ (hg:=gq 2 rfl)
    refine .fj rfl 3 2 ?_ (hg:=gq 2 rfl)
    refine .lp rfl 4 (rwC r.re.b) B8 ?_ (hg:=gq 2 rfl)
    refine .cK rfl Tryz.func80 (fun H=>⟨_,ar1 (H.c (.int .i64 1)),wOf _ (by omega) (by omega)⟩) ?_ (hg:=gq 2 rfl)
    refine .e rfl (V:=.bool true) (fun H=>ex_eql_whole (r:=r.re.b) (q:=rw (1:Int)) _ _ rfl (H.g 8 5) (H.g 9 6) (rfl.trans c2)) ?_ (hg:=gq 2 rfl)
    refine .e rfl (fun H=>x_pkT (H.g 5 2) (H.g 10 7)) ?_
    refine .mv rfl 8 ?_
    refine .fz rfl 1 4 E1_0 ?_ (hg:=gq 9 rfl)
    refine .fj rfl 10 6 ?_ (hg:=gq 9 rfl)
    refine .lp rfl 11 (rwC r.im.b) B8 ?_ (hg:=gq 9 rfl)
    refine .cK rfl Tryz.func80 (fun H=>⟨_,ar1 (H.c (.int .i64 1)),wOf _ (by omega) (by omega)⟩) ?_ (hg:=gq 9 rfl)
    refine .e rfl (V:=.bool false) (fun H=>ex_eql_whole (r:=r.im.b) (q:=rw (1:Int)) _ _ rfl (H.g 15 12) (H.g 16 13) (rfl.trans c3)) ?_ (hg:=gq 9 rfl)
    refine .e rfl (fun H=>x_pkT (H.g 12 9) (H.g 17 14)) ?_
    refine .mv rfl 15 ?_
    refine .dk (fun u=>rgV r::u1 0::u 16::sq u 0 16 []) K9 bel fun u2 w2 D bel=>?_
    have E2_16:=D.q 16
    clear D
    exact wp_ret (rt rfl E2_16 (and3_b c1 c2 c3) bel)
  ·
   have dc2:=of_decide_eq_false c2
   rcases Bool.eq_false_or_eq_true (decide (r.im.b = rw (1:Int))) with c10 | c10
   ·
    have dc10:=of_decide_eq_true c10
    refine gs 2 (Amb Z0 W) fun _ K11=>?_
    refine .bx rfl (fun H=>H.v 0 (rgV r)) ?_
    refine .mc rfl ?_
    refine .dk (fun u=>rgV r::u 0::u 1::us 16) K11 bel fun u1 w1 D bel=>?_
    obtain ⟨b12,E1_0,A12,B12⟩:=D.nw 0
    have E1_1:=D.q 1
    clear D
    refine gd 17 (Amb Z0 W) fun _ K13=>?_
    refine .lr rfl 1 E1_0 B12 ?_
    refine .cK rfl (V:=.bool true) Tryz.func46 (fun H=>⟨_,ar1 (H.g 3 0),reV (congrArg Value.bool c1) (gaMay _)⟩) ?_
    refine .mv rfl 1 ?_
    refine .fz rfl 1 0 E1_0 ?_ (hg:=gq 2 rfl)
    refine .fj rfl 3 2 ?_ (hg:=gq 2 rfl)
    refine .lp rfl 4 (rwC r.re.b) B12 ?_ (hg:=gq 2 rfl)
    refine .cK rfl Tryz.func80 (fun H=>⟨_,ar1 (H.c (.int .i64 1)),wOf _ (by omega) (by omega)⟩) ?_ (hg:=gq 2 rfl)
    refine .e rfl (V:=.bool false) (fun H=>ex_eql_whole (r:=r.re.b) (q:=rw (1:Int)) _ _ rfl (H.g 8 5) (H.g 9 6) (rfl.trans c2)) ?_ (hg:=gq 2 rfl)
    refine .e rfl (fun H=>x_pkT (H.g 5 2) (H.g 10 7)) ?_
    refine .mv rfl 8 ?_
    refine .sk rfl 9 ?_
    refine .sk rfl 9 ?_
    refine .sk rfl 9 ?_
    refine .sk rfl 9 ?_
    refine .sk rfl 9 ?_
    refine .e rfl (fun H=>x_pkF (H.g 12 9) (H.c _)) ?_
    refine .mv rfl 15 ?_
    refine .dk (fun u=>rgV r::u1 0::u 16::sq u 0 16 []) K13 bel fun u2 w2 D bel=>?_
    have E2_16:=D.q 16
    clear D
    exact wp_ret (rt rfl E2_16 (and3_b c1 c2 c10) bel)
   ·
    have dc10:=of_decide_eq_false c10
    refine gs 2 (Amb Z0 W) fun _ K14=>?_
    refine .bx rfl (fun H=>H.v 0 (rgV r)) ?_
    refine .mc rfl ?_
    refine .dk (fun u=>rgV r::u 0::u 1::us 16) K14 bel fun u1 w1 D bel=>?_
    obtain ⟨b15,E1_0,A15,B15⟩:=D.nw 0
    have E1_1:=D.q 1
    clear D
    refine gd 17 (Amb Z0 W) fun _ K16=>?_
    refine .lr rfl 1 E1_0 B15 ?_
    refine .cK rfl (V:=.bool true) Tryz.func46 (fun H=>⟨_,ar1 (H.g 3 0),reV (congrArg Value.bool c1) (gaMay _)⟩) ?_
    refine .mv rfl 1 ?_
    refine .fz rfl 1 0 E1_0 ?_ (hg:=gq 2 rfl)
    refine .fj rfl 3 2 ?_ (hg:=gq 2 rfl)
    refine .lp rfl 4 (rwC r.re.b) B15 ?_ (hg:=gq 2 rfl)
    refine .cK rfl Tryz.func80 (fun H=>⟨_,ar1 (H.c (.int .i64 1)),wOf _ (by omega) (by omega)⟩) ?_ (hg:=gq 2 rfl)
    refine .e rfl (V:=.bool false) (fun H=>ex_eql_whole (r:=r.re.b) (q:=rw (1:Int)) _ _ rfl (H.g 8 5) (H.g 9 6) (rfl.trans c2)) ?_ (hg:=gq 2 rfl)
    refine .e rfl (fun H=>x_pkT (H.g 5 2) (H.g 10 7)) ?_
    refine .mv rfl 8 ?_
    refine .sk rfl 9 ?_
    refine .sk rfl 9 ?_
    refine .sk rfl 9 ?_
    refine .sk rfl 9 ?_
    refine .sk rfl 9 ?_
    refine .e rfl (fun H=>x_pkF (H.g 12 9) (H.c _)) ?_
    refine .mv rfl 15 ?_
    refine .dk (fun u=>rgV r::u1 0::u 16::sq u 0 16 []) K16 bel fun u2 w2 D bel=>?_
    have E2_16:=D.q 16
    clear D
    exact wp_ret (rt rfl E2_16 (and3_b c1 c2 c10) bel)
 ·
  rcases Bool.eq_false_or_eq_true (decide (r.re.b = rw (1:Int))) with c17 | c17
  ·
   have dc17:=of_decide_eq_true c17
   rcases Bool.eq_false_or_eq_true (decide (r.im.b = rw (1:Int))) with c18 | c18
   ·
    have dc18:=of_decide_eq_true c18
    refine gs 2 (Amb Z0 W) fun _ K19=>?_
    refine .bx rfl (fun H=>H.v 0 (rgV r)) ?_
    refine .mc rfl ?_
    refine .dk (fun u=>rgV r::u 0::u 1::us 16) K19 bel fun u1 w1 D bel=>?_
    obtain ⟨b20,E1_0,A20,B20⟩:=D.nw 0
    have E1_1:=D.q 1
    clear D
    refine gd 17 (Amb Z0 W) fun _ K21=>?_
    refine .lr rfl 1 E1_0 B20 ?_
    refine .cK rfl (V:=.bool false) Tryz.func46 (fun H=>⟨_,ar1 (H.g 3 0),reV (congrArg Value.bool c1) (gaMay _)⟩) ?_
    refine .mv rfl 1 ?_
    refine .sk rfl 2 ?_
    refine .sk rfl 2 ?_
    refine .sk rfl 2 ?_
    refine .sk rfl 2 ?_
    refine .sk rfl 2 ?_
    refine .e rfl (fun H=>x_pkF (H.g 5 2) (H.c _)) ?_
    refine .mv rfl 8 ?_
    refine .sk rfl 9 ?_
    refine .sk rfl 9 ?_
    refine .sk rfl 9 ?_
    refine .sk rfl 9 ?_
    refine .sk rfl 9 ?_
    refine .e rfl (fun H=>x_pkF (H.g 12 9) (H.c _)) ?_
    refine .mv rfl 15 ?_
    refine .dk (fun u=>rgV r::u1 0::u 16::sq u 0 16 []) K21 bel fun u2 w2 D bel=>?_
    have E2_16:=D.q 16
    clear D
    exact wp_ret (rt rfl E2_16 (and3_b c1 c17 c18) bel)
   ·
    have dc18:=of_decide_eq_false c18
    refine gs 2 (Amb Z0 W) fun _ K22=>?_
    refine .bx rfl (fun H=>H.v 0 (rgV r)) ?_
    refine .mc rfl ?_
    refine .dk (fun u=>rgV r::u 0::u 1::us 16) K22 bel fun u1 w1 D bel=>?_
    obtain ⟨b23,E1_0,A23,B23⟩:=D.nw 0
    have E1_1:=D.q 1
    clear D
    refine gd 17 (Amb Z0 W) fun _ K24=>?_
    refine .lr rfl 1 E1_0 B23 ?_
    refine .cK rfl (V:=.bool false) Tryz.func46 (fun H=>⟨_,ar1 (H.g 3 0),reV (congrArg Value.bool c1) (gaMay _)⟩) ?_
    refine .mv rfl 1 ?_
    refine .sk rfl 2 ?_
    refine .sk rfl 2 ?_
    refine .sk rfl 2 ?_
    refine .sk rfl 2 ?_
    refine .sk rfl 2 ?_
    refine .e rfl (fun H=>x_pkF (H.g 5 2) (H.c _)) ?_
    refine .mv rfl 8 ?_
    refine .sk rfl 9 ?_
    refine .sk rfl 9 ?_
    refine .sk rfl 9 ?_
    refine .sk rfl 9 ?_
    refine .sk rfl 9 ?_
    refine .e rfl (fun H=>x_pkF (H.g 12 9) (H.c _)) ?_
    refine .mv rfl 15 ?_
    refine .dk (fun u=>rgV r::u1 0::u 16::sq u 0 16 []) K24 bel fun u2 w2 D bel=>?_
    have E2_16:=D.q 16
    clear D
    exact wp_ret (rt rfl E2_16 (and3_b c1 c17 c18) bel)
  ·
   have dc17:=of_decide_eq_false c17
   rcases Bool.eq_false_or_eq_true (decide (r.im.b = rw (1:Int))) with c25 | c25
   ·
    have dc25:=of_decide_eq_true c25
    refine gs 2 (Amb Z0 W) fun _ K26=>?_
    refine .bx rfl (fun H=>H.v 0 (rgV r)) ?_
    refine .mc rfl ?_
    refine .dk (fun u=>rgV r::u 0::u 1::us 16) K26 bel fun u1 w1 D bel=>?_
    obtain ⟨b27,E1_0,A27,B27⟩:=D.nw 0
    have E1_1:=D.q 1
    clear D
    refine gd 17 (Amb Z0 W) fun _ K28=>?_
    refine .lr rfl 1 E1_0 B27 ?_
    refine .cK rfl (V:=.bool false) Tryz.func46 (fun H=>⟨_,ar1 (H.g 3 0),reV (congrArg Value.bool c1) (gaMay _)⟩) ?_
    refine .mv rfl 1 ?_
    refine .sk rfl 2 ?_
    refine .sk rfl 2 ?_
    refine .sk rfl 2 ?_
    refine .sk rfl 2 ?_
    refine .sk rfl 2 ?_
    refine .e rfl (fun H=>x_pkF (H.g 5 2) (H.c _)) ?_
    refine .mv rfl 8 ?_
    refine .sk rfl 9 ?_
    refine .sk rfl 9 ?_
    refine .sk rfl 9 ?_
    refine .sk rfl 9 ?_
    refine .sk rfl 9 ?_
    refine .e rfl (fun H=>x_pkF (H.g 12 9) (H.c _)) ?_
    refine .mv rfl 15 ?_
    refine .dk (fun u=>rgV r::u1 0::u 16::sq u 0 16 []) K28 bel fun u2 w2 D bel=>?_
    have E2_16:=D.q 16
    clear D
    exact wp_ret (rt rfl E2_16 (and3_b c1 c17 c25) bel)
   ·
    have dc25:=of_decide_eq_false c25
    refine gs 2 (Amb Z0 W) fun _ K29=>?_
    refine .bx rfl (fun H=>H.v 0 (rgV r)) ?_
    refine .mc rfl ?_
    refine .dk (fun u=>rgV r::u 0::u 1::us 16) K29 bel fun u1 w1 D bel=>?_
    obtain ⟨b30,E1_0,A30,B30⟩:=D.nw 0
    have E1_1:=D.q 1
    clear D
    refine gd 17 (Amb Z0 W) fun _ K31=>?_
    refine .lr rfl 1 E1_0 B30 ?_
    refine .cK rfl (V:=.bool false) Tryz.func46 (fun H=>⟨_,ar1 (H.g 3 0),reV (congrArg Value.bool c1) (gaMay _)⟩) ?_
    refine .mv rfl 1 ?_
    refine .sk rfl 2 ?_
    refine .sk rfl 2 ?_
    refine .sk rfl 2 ?_
    refine .sk rfl 2 ?_
    refine .sk rfl 2 ?_
    refine .e rfl (fun H=>x_pkF (H.g 5 2) (H.c _)) ?_
    refine .mv rfl 8 ?_
    refine .sk rfl 9 ?_
    refine .sk rfl 9 ?_
    refine .sk rfl 9 ?_
    refine .sk rfl 9 ?_
    refine .sk rfl 9 ?_
    refine .e rfl (fun H=>x_pkF (H.g 12 9) (H.c _)) ?_
    refine .mv rfl 15 ?_
    refine .dk (fun u=>rgV r::u1 0::u 16::sq u 0 16 []) K31 bel fun u2 w2 D bel=>?_
    have E2_16:=D.q 16
    clear D
    exact wp_ret (rt rfl E2_16 (and3_b c1 c17 c25) bel)
theorem xGauss {v0:Value} (x:Cx) (t0:(CxP x).p S v0 W) (p0:ht x.re + ht x.im ≤ 68719476736) :
  Calls Tryz.prog 55 #[v0] W (RetV (.tuple #[.agg #[.bool (gcut x).re.a.n,.string (gcut x).re.a.s,.bool (gcut x).re.b.n,.string (gcut x).re.b.s,.bool (gcut x).im.a.n,.string (gcut x).im.a.s,.bool (gcut x).im.b.n,.string (gcut x).im.b.s],.int .i64 (gerr x)]) W):=by
 obtain ⟨b1,b2,rfl,L1,L2,F1,F2⟩:=CxP.elim t0
 replace L1:Amb S W b1:=.inl L1
 replace L2:Amb S W b2:=.inl L2
 have bel:=b0 W
 go_enter Tryz.func55,Tryz.ntmps55
 rcases Bool.eq_false_or_eq_true ((ferr x.re) != 0) with c3 | c3
 ·
  rcases Bool.eq_false_or_eq_true ((ferr x.im) != 0) with c4 | c4
  ·
   refine gs 3 (Amb S W) fun _ K5=>?_
   refine .bx rfl (fun H=>H.v 0 (.agg #[pt b1,pt b2])) ?_
   refine .al rfl zG ?_
   refine .mc rfl ?_
   refine .dk (fun u=>.agg #[pt b1,pt b2]::sq u 0 3 (us 26)) K5 bel fun u1 w1 D bel=>?_
   obtain ⟨b6,E1_0,A6,B6⟩:=D.nw 0
   obtain ⟨b7,E1_1,A7,B7⟩:=D.nw 1
   have E1_2:=D.q 2
   have N1_7:=D.n1 1 (RatP.lt F1) E1_1
   have N2_7:=D.n1 1 (RatP.lt F2) E1_1
   have N6_7:=D.n2 0 1 E1_0 E1_1
   replace F1:=D.o L1 F1
   replace F2:=D.o L2 F2
   clear D
   refine gs 9 (Amb S W) fun _ K8=>?_
   refine .fz rfl 1 0 E1_0 ?_
   refine .lc rfl 0 B6 ?_ (V:=pt b1)
   refine .cK rfl Tryz.func114 (fun H=>⟨_,ar1 (H.g 10 1),xFrac _ (VP.any _ (H.was _ [] (VP.at F1 L1))) (by omega)⟩) ?_
   refine .mv rfl 2 ?_
   refine .e rfl (V:=rfV (fcut x.re)) (fun H=>x_ex (H.g 8 3)) ?_
   refine .e rfl (V:=.int .i64 (ferr x.re)) (fun H=>x_ex (H.g 8 3)) ?_
   refine .al rfl zF ?_
   refine .so rfl 6 (fun H=>⟨H.r 4 6,H.g 12 4⟩) ?_
   refine .mv rfl 5 ?_
   refine .dk (fun u=>.agg #[pt b1,pt b2]::sq u1 0 3 (u 6::u 8::U::U::u 3::sq u 0 3 (u 4::u 5::us 16))) K8 bel fun u2 w2 D bel=>?_
   obtain ⟨b9,E2_6,A9,B9⟩:=D.st 7
   have E2_8:=D.q 8
   have N7_9:=D.n1 6 (lt_of B7) E2_6
   replace B6:=D.k B6
   replace B7:=D.k B7
   replace F1:=D.o L1 F1
   replace F2:=D.o L2 F2
   clear D
   refine gs 9 (Amb S W) fun _ K10=>?_
   refine .fz rfl 1 1 E1_0 ?_
   refine .lc rfl 0 B6 ?_ (V:=pt b2)
   refine .cK rfl Tryz.func114 (fun H=>⟨_,ar1 (H.g 16 1),xFrac _ (VP.any _ (H.was _ [] (VP.at F2 L2))) (by omega)⟩) ?_
   refine .mv rfl 2 ?_
   refine .e rfl (V:=rfV (fcut x.im)) (fun H=>x_ex (H.g 14 3)) ?_
   refine .e rfl (V:=.int .i64 (ferr x.im)) (fun H=>x_ex (H.g 14 3)) ?_
   refine .al rfl zF ?_
   refine .so rfl 6 (fun H=>⟨H.r 6 6,H.g 18 4⟩) ?_
   refine .mv rfl 5 ?_
   refine .dk (fun u=>.agg #[pt b1,pt b2]::sq u1 0 3 (u2 6::u2 8::u 6::u 8::u2 3::sq u2 0 3 (u2 4::u2 5::u 3::sq u 0 3 (u 4::u 5::us 10)))) K10 bel fun u3 w3 D bel=>?_
   obtain ⟨b11,E3_6,A11,B11⟩:=D.st 7
   have E3_8:=D.q 8
   have N7_11:=D.n1 6 (lt_of B7) E3_6
   replace B7:=D.k B7
   replace B9:=D.k B9
   clear D
   refine wp_seq_k fun _ K12=>?_
   refine gs 6 (Amb S W) fun _ K13=>?_
   refine .mz rfl 5 E2_8 ?_
   refine .e rfl (V:=.bool true) (fun H=>x_cm (H.g 20 0) (H.c _) c3) ?_
   refine .mv rfl 1 ?_
   refine .sk rfl 2 ?_
   refine .sk rfl 2 ?_
   refine .e rfl (fun H=>x_pkT (H.g 22 2) (H.c _)) ?_
   refine .dk (fun u=>.agg #[pt b1,pt b2]::sq u1 0 3 (u2 6::u2 8::u3 6::u3 8::u2 3::sq u2 0 3 (u2 4::u2 5::u3 3::sq u3 0 3 (u3 4::u3 5::sq u 0 6 (us 4))))) K13 bel fun u4 w4 D bel=>?_
   have E4_5:=D.q 5
   replace B7:=D.k B7
   replace B9:=D.k B9
   replace B11:=D.k B11
   clear D
   refine wp_cond_true (by exact E4_5) ?_
   refine gs1 3 (Amb S W) 1 B7 fun _ K14=>?_
   refine .e rfl (V:=.agg zG) (fun H=>by clear H; go_simp) ?_
   refine .s1 rfl B7 (fun H=>⟨H.z 2 E1_1,H.g 26 0⟩) ?_
   refine .mc rfl ?_
   refine .d1 (fun u=>.agg #[pt b1,pt b2]::u1 0::u1 1::u 2::u2 6::u2 8::u3 6::u3 8::u2 3::sq u2 0 3 (u2 4::u2 5::u3 3::sq u3 0 3 (u3 4::u3 5::sq u4 0 6 (u 0::us 3)))) K14 bel A7 fun u5 w5 D bel=>?_
   have E5_2:=D.q 2
   replace B7:=D.ol 1
   clear D
   refine wp_ret ?_
   refine ret_ok rfl (by exact results_mix rfl (by exact E1_1) B7 Tryz.underlying30 rfl (by kernel_rfl) (by exact E5_2)) (RetV.mk ?_ bel)
   exact congrArg Ending.returned (gcut_no (.inl c3))
  ·
   refine gs 3 (Amb S W) fun _ K15=>?_
   refine .bx rfl (fun H=>H.v 0 (.agg #[pt b1,pt b2])) ?_
   refine .al rfl zG ?_
   refine .mc rfl ?_
   refine .dk (fun u=>.agg #[pt b1,pt b2]::sq u 0 3 (us 26)) K15 bel fun u1 w1 D bel=>?_
   obtain ⟨b16,E1_0,A16,B16⟩:=D.nw 0
   obtain ⟨b17,E1_1,A17,B17⟩:=D.nw 1
   have E1_2:=D.q 2
   have N1_17:=D.n1 1 (RatP.lt F1) E1_1
   have N2_17:=D.n1 1 (RatP.lt F2) E1_1
   have N16_17:=D.n2 0 1 E1_0 E1_1
   replace F1:=D.o L1 F1
   replace F2:=D.o L2 F2
   clear D
   refine gs 9 (Amb S W) fun _ K18=>?_
   refine .fz rfl 1 0 E1_0 ?_
   refine .lc rfl 0 B16 ?_ (V:=pt b1)
   refine .cK rfl Tryz.func114 (fun H=>⟨_,ar1 (H.g 10 1),xFrac _ (VP.any _ (H.was _ [] (VP.at F1 L1))) (by omega)⟩) ?_
   refine .mv rfl 2 ?_
   refine .e rfl (V:=rfV (fcut x.re)) (fun H=>x_ex (H.g 8 3)) ?_
   refine .e rfl (V:=.int .i64 (ferr x.re)) (fun H=>x_ex (H.g 8 3)) ?_
   refine .al rfl zF ?_
   refine .so rfl 6 (fun H=>⟨H.r 4 6,H.g 12 4⟩) ?_
   refine .mv rfl 5 ?_
   refine .dk (fun u=>.agg #[pt b1,pt b2]::sq u1 0 3 (u 6::u 8::U::U::u 3::sq u 0 3 (u 4::u 5::us 16))) K18 bel fun u2 w2 D bel=>?_
   obtain ⟨b19,E2_6,A19,B19⟩:=D.st 7
   have E2_8:=D.q 8
   have N17_19:=D.n1 6 (lt_of B17) E2_6
   replace B16:=D.k B16
   replace B17:=D.k B17
   replace F1:=D.o L1 F1
   replace F2:=D.o L2 F2
   clear D
   refine gs 9 (Amb S W) fun _ K20=>?_
   refine .fz rfl 1 1 E1_0 ?_
   refine .lc rfl 0 B16 ?_ (V:=pt b2)
   refine .cK rfl Tryz.func114 (fun H=>⟨_,ar1 (H.g 16 1),xFrac _ (VP.any _ (H.was _ [] (VP.at F2 L2))) (by omega)⟩) ?_
   refine .mv rfl 2 ?_
   refine .e rfl (V:=rfV (fcut x.im)) (fun H=>x_ex (H.g 14 3)) ?_
   refine .e rfl (V:=.int .i64 (ferr x.im)) (fun H=>x_ex (H.g 14 3)) ?_
   refine .al rfl zF ?_
   refine .so rfl 6 (fun H=>⟨H.r 6 6,H.g 18 4⟩) ?_
   refine .mv rfl 5 ?_
   refine .dk (fun u=>.agg #[pt b1,pt b2]::sq u1 0 3 (u2 6::u2 8::u 6::u 8::u2 3::sq u2 0 3 (u2 4::u2 5::u 3::sq u 0 3 (u 4::u 5::us 10)))) K20 bel fun u3 w3 D bel=>?_
   obtain ⟨b21,E3_6,A21,B21⟩:=D.st 7
   have E3_8:=D.q 8
   have N17_21:=D.n1 6 (lt_of B17) E3_6
   replace B17:=D.k B17
   replace B19:=D.k B19
   clear D
   refine wp_seq_k fun _ K22=>?_
   refine gs 6 (Amb S W) fun _ K23=>?_
   refine .mz rfl 5 E2_8 ?_
   refine .e rfl (V:=.bool true) (fun H=>x_cm (H.g 20 0) (H.c _) c3) ?_
   refine .mv rfl 1 ?_
   refine .sk rfl 2 ?_
   refine .sk rfl 2 ?_
   refine .e rfl (fun H=>x_pkT (H.g 22 2) (H.c _)) ?_
   refine .dk (fun u=>.agg #[pt b1,pt b2]::sq u1 0 3 (u2 6::u2 8::u3 6::u3 8::u2 3::sq u2 0 3 (u2 4::u2 5::u3 3::sq u3 0 3 (u3 4::u3 5::sq u 0 6 (us 4))))) K23 bel fun u4 w4 D bel=>?_
   have E4_5:=D.q 5
   replace B17:=D.k B17
   replace B19:=D.k B19
   replace B21:=D.k B21
   clear D
   refine wp_cond_true (by exact E4_5) ?_
   refine gs1 3 (Amb S W) 1 B17 fun _ K24=>?_
   refine .e rfl (V:=.agg zG) (fun H=>by clear H; go_simp) ?_
   refine .s1 rfl B17 (fun H=>⟨H.z 2 E1_1,H.g 26 0⟩) ?_
   refine .mc rfl ?_
   refine .d1 (fun u=>.agg #[pt b1,pt b2]::u1 0::u1 1::u 2::u2 6::u2 8::u3 6::u3 8::u2 3::sq u2 0 3 (u2 4::u2 5::u3 3::sq u3 0 3 (u3 4::u3 5::sq u4 0 6 (u 0::us 3)))) K24 bel A17 fun u5 w5 D bel=>?_
   have E5_2:=D.q 2
   replace B17:=D.ol 1
   clear D
   refine wp_ret ?_
   refine ret_ok rfl (by exact results_mix rfl (by exact E1_1) B17 Tryz.underlying30 rfl (by kernel_rfl) (by exact E5_2)) (RetV.mk ?_ bel)
   exact congrArg Ending.returned (gcut_no (.inl c3))
 ·
  rcases Bool.eq_false_or_eq_true ((ferr x.im) != 0) with c25 | c25
  ·
   refine gs 3 (Amb S W) fun _ K26=>?_
   refine .bx rfl (fun H=>H.v 0 (.agg #[pt b1,pt b2])) ?_
   refine .al rfl zG ?_
   refine .mc rfl ?_
   refine .dk (fun u=>.agg #[pt b1,pt b2]::sq u 0 3 (us 26)) K26 bel fun u1 w1 D bel=>?_
   obtain ⟨b27,E1_0,A27,B27⟩:=D.nw 0
   obtain ⟨b28,E1_1,A28,B28⟩:=D.nw 1
   have E1_2:=D.q 2
   have N1_28:=D.n1 1 (RatP.lt F1) E1_1
   have N2_28:=D.n1 1 (RatP.lt F2) E1_1
   have N27_28:=D.n2 0 1 E1_0 E1_1
   replace F1:=D.o L1 F1
   replace F2:=D.o L2 F2
   clear D
   refine gs 9 (Amb S W) fun _ K29=>?_
   refine .fz rfl 1 0 E1_0 ?_
   refine .lc rfl 0 B27 ?_ (V:=pt b1)
   refine .cK rfl Tryz.func114 (fun H=>⟨_,ar1 (H.g 10 1),xFrac _ (VP.any _ (H.was _ [] (VP.at F1 L1))) (by omega)⟩) ?_
   refine .mv rfl 2 ?_
   refine .e rfl (V:=rfV (fcut x.re)) (fun H=>x_ex (H.g 8 3)) ?_
   refine .e rfl (V:=.int .i64 (ferr x.re)) (fun H=>x_ex (H.g 8 3)) ?_
   refine .al rfl zF ?_
   refine .so rfl 6 (fun H=>⟨H.r 4 6,H.g 12 4⟩) ?_
   refine .mv rfl 5 ?_
   refine .dk (fun u=>.agg #[pt b1,pt b2]::sq u1 0 3 (u 6::u 8::U::U::u 3::sq u 0 3 (u 4::u 5::us 16))) K29 bel fun u2 w2 D bel=>?_
   obtain ⟨b30,E2_6,A30,B30⟩:=D.st 7
   have E2_8:=D.q 8
   have N28_30:=D.n1 6 (lt_of B28) E2_6
   replace B27:=D.k B27
   replace B28:=D.k B28
   replace F1:=D.o L1 F1
   replace F2:=D.o L2 F2
   clear D
   refine gs 9 (Amb S W) fun _ K31=>?_
   refine .fz rfl 1 1 E1_0 ?_
   refine .lc rfl 0 B27 ?_ (V:=pt b2)
   refine .cK rfl Tryz.func114 (fun H=>⟨_,ar1 (H.g 16 1),xFrac _ (VP.any _ (H.was _ [] (VP.at F2 L2))) (by omega)⟩) ?_
   refine .mv rfl 2 ?_
   refine .e rfl (V:=rfV (fcut x.im)) (fun H=>x_ex (H.g 14 3)) ?_
   refine .e rfl (V:=.int .i64 (ferr x.im)) (fun H=>x_ex (H.g 14 3)) ?_
   refine .al rfl zF ?_
   refine .so rfl 6 (fun H=>⟨H.r 6 6,H.g 18 4⟩) ?_
   refine .mv rfl 5 ?_
   refine .dk (fun u=>.agg #[pt b1,pt b2]::sq u1 0 3 (u2 6::u2 8::u 6::u 8::u2 3::sq u2 0 3 (u2 4::u2 5::u 3::sq u 0 3 (u 4::u 5::us 10)))) K31 bel fun u3 w3 D bel=>?_
   obtain ⟨b32,E3_6,A32,B32⟩:=D.st 7
   have E3_8:=D.q 8
   have N28_32:=D.n1 6 (lt_of B28) E3_6
   replace B28:=D.k B28
   replace B30:=D.k B30
   clear D
   refine wp_seq_k fun _ K33=>?_
   refine gs 6 (Amb S W) fun _ K34=>?_
   refine .mz rfl 5 E2_8 ?_
   refine .e rfl (V:=.bool false) (fun H=>x_cm (H.g 20 0) (H.c _) c3) ?_
   refine .mv rfl 1 ?_
   refine .mz rfl 7 E3_8 ?_ (hg:=gq 2 rfl)
   refine .e rfl (V:=.bool true) (fun H=>x_cm (H.g 23 3) (H.c _) c25) ?_ (hg:=gq 2 rfl)
   refine .e rfl (fun H=>x_pkF (H.g 22 2) (H.g 24 4)) ?_
   refine .dk (fun u=>.agg #[pt b1,pt b2]::sq u1 0 3 (u2 6::u2 8::u3 6::u3 8::u2 3::sq u2 0 3 (u2 4::u2 5::u3 3::sq u3 0 3 (u3 4::u3 5::sq u 0 6 (us 4))))) K34 bel fun u4 w4 D bel=>?_
   have E4_5:=D.q 5
   replace B28:=D.k B28
   replace B30:=D.k B30
   replace B32:=D.k B32
   clear D
   refine wp_cond_true (by exact E4_5) ?_
   refine gs1 3 (Amb S W) 1 B28 fun _ K35=>?_
   refine .e rfl (V:=.agg zG) (fun H=>by clear H; go_simp) ?_
   refine .s1 rfl B28 (fun H=>⟨H.z 2 E1_1,H.g 26 0⟩) ?_
   refine .mc rfl ?_
   refine .d1 (fun u=>.agg #[pt b1,pt b2]::u1 0::u1 1::u 2::u2 6::u2 8::u3 6::u3 8::u2 3::sq u2 0 3 (u2 4::u2 5::u3 3::sq u3 0 3 (u3 4::u3 5::sq u4 0 6 (u 0::us 3)))) K35 bel A28 fun u5 w5 D bel=>?_
   have E5_2:=D.q 2
   replace B28:=D.ol 1
   clear D
   refine wp_ret ?_
   refine ret_ok rfl (by exact results_mix rfl (by exact E1_1) B28 Tryz.underlying30 rfl (by kernel_rfl) (by exact E5_2)) (RetV.mk ?_ bel)
   exact congrArg Ending.returned (gcut_no (.inr c25))
  ·
   refine gs 3 (Amb S W) fun _ K36=>?_
   refine .bx rfl (fun H=>H.v 0 (.agg #[pt b1,pt b2])) ?_
   refine .al rfl zG ?_
   refine .mc rfl ?_
   refine .dk (fun u=>.agg #[pt b1,pt b2]::sq u 0 3 (us 26)) K36 bel fun u1 w1 D bel=>?_
   obtain ⟨b37,E1_0,A37,B37⟩:=D.nw 0
   obtain ⟨b38,E1_1,A38,B38⟩:=D.nw 1
   have E1_2:=D.q 2
   have N1_38:=D.n1 1 (RatP.lt F1) E1_1
   have N2_38:=D.n1 1 (RatP.lt F2) E1_1
   have N37_38:=D.n2 0 1 E1_0 E1_1
   replace F1:=D.o L1 F1
   replace F2:=D.o L2 F2
   clear D
   refine gs 9 (Amb S W) fun _ K39=>?_
   refine .fz rfl 1 0 E1_0 ?_
   refine .lc rfl 0 B37 ?_ (V:=pt b1)
   refine .cK rfl Tryz.func114 (fun H=>⟨_,ar1 (H.g 10 1),xFrac _ (VP.any _ (H.was _ [] (VP.at F1 L1))) (by omega)⟩) ?_
   refine .mv rfl 2 ?_
   refine .e rfl (V:=rfV (fcut x.re)) (fun H=>x_ex (H.g 8 3)) ?_
   refine .e rfl (V:=.int .i64 (ferr x.re)) (fun H=>x_ex (H.g 8 3)) ?_
   refine .al rfl zF ?_
   refine .so rfl 6 (fun H=>⟨H.r 4 6,H.g 12 4⟩) ?_
   refine .mv rfl 5 ?_
   refine .dk (fun u=>.agg #[pt b1,pt b2]::sq u1 0 3 (u 6::u 8::U::U::u 3::sq u 0 3 (u 4::u 5::us 16))) K39 bel fun u2 w2 D bel=>?_
   obtain ⟨b40,E2_6,A40,B40⟩:=D.st 7
   have E2_8:=D.q 8
   have N38_40:=D.n1 6 (lt_of B38) E2_6
   replace B37:=D.k B37
   replace B38:=D.k B38
   replace F1:=D.o L1 F1
   replace F2:=D.o L2 F2
   clear D
   refine gs 9 (Amb S W) fun _ K41=>?_
   refine .fz rfl 1 1 E1_0 ?_
   refine .lc rfl 0 B37 ?_ (V:=pt b2)
   refine .cK rfl Tryz.func114 (fun H=>⟨_,ar1 (H.g 16 1),xFrac _ (VP.any _ (H.was _ [] (VP.at F2 L2))) (by omega)⟩) ?_
   refine .mv rfl 2 ?_
   refine .e rfl (V:=rfV (fcut x.im)) (fun H=>x_ex (H.g 14 3)) ?_
   refine .e rfl (V:=.int .i64 (ferr x.im)) (fun H=>x_ex (H.g 14 3)) ?_
   refine .al rfl zF ?_
   refine .so rfl 6 (fun H=>⟨H.r 6 6,H.g 18 4⟩) ?_
   refine .mv rfl 5 ?_
   refine .dk (fun u=>.agg #[pt b1,pt b2]::sq u1 0 3 (u2 6::u2 8::u 6::u 8::u2 3::sq u2 0 3 (u2 4::u2 5::u 3::sq u 0 3 (u 4::u 5::us 10)))) K41 bel fun u3 w3 D bel=>?_
   obtain ⟨b42,E3_6,A42,B42⟩:=D.st 7
   have E3_8:=D.q 8
   have N38_42:=D.n1 6 (lt_of B38) E3_6
   replace B38:=D.k B38
   replace B40:=D.k B40
   clear D
   refine wp_seq_k fun _ K43=>?_
   refine gs 6 (Amb S W) fun _ K44=>?_
   refine .mz rfl 5 E2_8 ?_
   refine .e rfl (V:=.bool false) (fun H=>x_cm (H.g 20 0) (H.c _) c3) ?_
   refine .mv rfl 1 ?_
   refine .mz rfl 7 E3_8 ?_ (hg:=gq 2 rfl)
   refine .e rfl (V:=.bool false) (fun H=>x_cm (H.g 23 3) (H.c _) c25) ?_ (hg:=gq 2 rfl)
   refine .e rfl (fun H=>x_pkF (H.g 22 2) (H.g 24 4)) ?_
   refine .dk (fun u=>.agg #[pt b1,pt b2]::sq u1 0 3 (u2 6::u2 8::u3 6::u3 8::u2 3::sq u2 0 3 (u2 4::u2 5::u3 3::sq u3 0 3 (u3 4::u3 5::sq u 0 6 (us 4))))) K44 bel fun u4 w4 D bel=>?_
   have E4_5:=D.q 5
   replace B38:=D.k B38
   replace B40:=D.k B40
   replace B42:=D.k B42
   clear D
   refine wp_cond_false (by exact E4_5) ?_
   refine wp_skip ?_
   refine K43 _ _ ?_
   refine gs1 5 (Amb S W) 3 B38 fun _ K45=>?_
   refine .e rfl (fun H=>x_ldr (H.z 4 E2_6) (H.b1 B40 N38_40)) ?_
   refine .e rfl (fun H=>x_ldr (H.z 6 E3_6) (H.b1 B42 N38_42)) ?_
   refine .e rfl (V:=.agg #[.bool (fcut x.re).a.n,.string (fcut x.re).a.s,.bool (fcut x.re).b.n,.string (fcut x.re).b.s,.bool (fcut x.im).a.n,.string (fcut x.im).a.s,.bool (fcut x.im).b.n,.string (fcut x.im).b.s]) (fun H=>by have e27:=H.g 27 0; have e28:=H.g 28 1; clear H; go_simp) ?_
   refine .s1 rfl B38 (fun H=>⟨H.z 2 E1_1,H.g 29 2⟩) ?_
   refine .mc rfl ?_
   refine .d1 (fun u=>.agg #[pt b1,pt b2]::u1 0::u1 1::u 4::u2 6::u2 8::u3 6::u3 8::u2 3::sq u2 0 3 (u2 4::u2 5::u3 3::sq u3 0 3 (u3 4::u3 5::sq u4 0 6 (U::sq u 0 3 [])))) K45 bel A38 fun u5 w5 D bel=>?_
   have E5_4:=D.q 4
   replace B38:=D.ol 3
   clear D
   refine wp_ret ?_
   refine ret_ok rfl (by exact results_mix rfl (by exact E1_1) B38 Tryz.underlying30 rfl (by kernel_rfl) (by exact E5_4)) (RetV.mk ?_ bel)
   exact congrArg Ending.returned (gcut_yes c3 c25)
end Go.Proofs.YtllohoibifcmdaaGreat
namespace Go.Proofs.YtllohoibifcmdaaGreat
open Go.RowKit Rgn
def rnd (x:Rat):Int :=
 if (icmp ((x + Rat.divInt (1:Int) (2:Int)).den:Int) (1:Int) == 0 && ((((x + Rat.divInt (1:Int) (2:Int)).num / ((x + Rat.divInt (1:Int) (2:Int)).den:Int)).natAbs % 2:Nat):Int) == 1) = true then (x + Rat.divInt (1:Int) (2:Int)).num / ((x + Rat.divInt (1:Int) (2:Int)).den:Int) - 1
 else (x + Rat.divInt (1:Int) (2:Int)).num / ((x + Rat.divInt (1:Int) (2:Int)).den:Int)
theorem rnd_1 {x:Rat} (h:(icmp ((x + (Rat.divInt (1:Int) (2:Int))).den:Int) (1:Int) == 0) = true) (h' : (((((x + Rat.divInt (1:Int) (2:Int)).num / ((x + Rat.divInt (1:Int) (2:Int)).den:Int)).natAbs % 2:Nat):Int) == 1) = true) :
  (((x + Rat.divInt (1:Int) (2:Int)).num / ((x + Rat.divInt (1:Int) (2:Int)).den:Int) - 1:Int):Rat) = ((rnd x:Int):Rat):=by
 unfold rnd; rw [if_pos (by rw [h,h']; rfl)]
theorem rnd_2 {x:Rat} (h:(icmp ((x + (Rat.divInt (1:Int) (2:Int))).den:Int) (1:Int) == 0) = true) (h' : (((((x + Rat.divInt (1:Int) (2:Int)).num / ((x + Rat.divInt (1:Int) (2:Int)).den:Int)).natAbs % 2:Nat):Int) == 1) = false) :
  (((x + Rat.divInt (1:Int) (2:Int)).num / ((x + Rat.divInt (1:Int) (2:Int)).den:Int):Int):Rat) = ((rnd x:Int):Rat):=by
 unfold rnd; rw [if_neg (by rw [h,h']; decide)]
theorem rnd_3 {x:Rat} (h:(icmp ((x + (Rat.divInt (1:Int) (2:Int))).den:Int) (1:Int) == 0) = false) :
  (((x + Rat.divInt (1:Int) (2:Int)).num / ((x + Rat.divInt (1:Int) (2:Int)).den:Int):Int):Rat) = ((rnd x:Int):Rat):=by
 unfold rnd; rw [if_neg (by rw [h,Bool.false_and]; decide)]
theorem hi_fdiv (q:Rat):hi (q.num / (q.den:Int)) ≤ hi q.num:=by
 have hd:=q.den_pos
 have h:(q.num / (q.den:Int)).natAbs ≤ q.num.natAbs:=by
  rcases Int.lt_or_le q.num 0 with h0 | h0
  ·have h1:q.num / (q.den:Int) < 0:=Int.ediv_neg_of_neg_of_pos h0 (by omega)
   have h2:q.num ≤ q.num / (q.den:Int):=by
    rw [Int.le_ediv_iff_mul_le (by omega)]
    have:q.num * (q.den:Int) ≤ q.num * 1:=Int.mul_le_mul_of_nonpos_left (by omega) (by omega)
    omega
   omega
  ·have h1:0 ≤ q.num / (q.den:Int):=Int.ediv_nonneg h0 (by omega)
   have h2:q.num / (q.den:Int) ≤ q.num:=Int.ediv_le_self _ h0
   omega
 unfold hi
 have:=bl_mono h
 omega
@[reducible] def Cx.near (z:Cx):Cx:=⟨((rnd z.re:Int):Rat),((rnd z.im:Int):Rat)⟩
end Go.Proofs.YtllohoibifcmdaaGreat
namespace Go.Proofs.YtllohoibifcmdaaGreat
open Go.RowKit Rgn
set_option maxHeartbeats 4000000
set_option maxRecDepth 100000
variable {S:Nat → Prop} {W:World}
theorem hRound {v0:Value} (x:Rat) (t0:(RatP x).p S v0 W) (p0:ht x ≤ 8589934592) :
  Calls Tryz.prog 145 #[v0] W (Ret (RatP ((rnd x:Int):Rat)) S W):=by
 obtain ⟨b1,rfl,L1,F1⟩:=RatP.elim t0
 replace L1:Amb S W b1:=.inl L1
 have h1:=ht_add x (Rat.divInt (1:Int) (2:Int))
 have h2:ht (Rat.divInt (1:Int) (2:Int)) = 3:=by decide
 have h3:=hi_num (x + (Rat.divInt (1:Int) (2:Int)))
 have h4:=hi_den (x + (Rat.divInt (1:Int) (2:Int)))
 have h5:=hi_fdiv (x + (Rat.divInt (1:Int) (2:Int)))
 have h6:hi 1 = 2:=by decide
 have h7:=hi_sub ((x + (Rat.divInt (1:Int) (2:Int))).num / ((x + (Rat.divInt (1:Int) (2:Int))).den:Int)) 1
 have bel:=b0 W
 go_enter Tryz.func145,Tryz.ntmps145
 rcases Bool.eq_false_or_eq_true (icmp ((x + (Rat.divInt (1:Int) (2:Int))).den:Int) (1:Int) == 0) with c2 | c2
 ·
  refine gs 1 (Amb S W) fun _ K3=>?_
  refine .mc rfl ?_
  refine .dk (fun u=>pt b1::U::u 0::us 28) K3 bel fun u1 w1 D bel=>?_
  have E1_0:=D.q 0
  replace F1:=D.o L1 F1
  clear D
  refine gs 2 (Amb S W) fun _ K4=>?_
  refine .cR rfl [] Tryz.func136 (fun H=>⟨_,ar2 (H.c (.int .i64 1)) (H.c (.int .i64 2)),qNewRat _ _ (by first | omega | exact den_ne _ | decide) (by first | omega | exact den_ne _ | decide) (by first | omega | exact den_ne _ | decide) (by first | omega | exact den_ne _ | decide) (by first | omega | exact den_ne _ | decide)⟩) ?_
  refine .mn rfl 0 [0] ?_
  refine .dk (fun u=>pt b1::U::u1 0::u 1::U::U::u 0::us 24) K4 bel fun u2 w2 D bel=>?_
  obtain ⟨b5,E2_1,L5,F5⟩:=RatP.elim (D.rr 1)
  replace F1:=D.o L1 F1
  clear D
  refine gs 5 (Amb S W) fun _ K6=>?_
  refine .al rfl zQ ?_
  refine .mz rfl 0 (V:=pt b1) rfl ?_
  refine .mz rfl 3 E2_1 ?_
  refine .cO rfl 0 Tryz.func94 (fun H h0 hz=>⟨_,ar3 (H.p 7 0 h0) (H.g 8 1) (H.g 9 2),qAdd _ _ (RatBlk.of hz) (VP.any _ (H.was _ [] (VP.at F1 L1))) (VP.any _ (H.was _ [] (VP.at F5 L5))) (by first | omega | exact den_ne _ | decide)⟩) ?_
  refine .mo rfl 3 ?_
  refine .dk (fun u=>pt b1::U::u1 0::u2 1::u 4::U::u2 0::sq u 0 4 (us 20)) K6 bel fun u3 w3 D bel=>?_
  obtain ⟨b7,E3_4,A7,F7⟩:=D.ow 4
  have L7:Amb S W b7:=.inr A7
  clear D
  refine gs 7 (Amb S W) fun _ K8=>?_
  refine .al rfl zI ?_
  refine .mz rfl 4 E3_4 ?_
  refine .cR rfl [] Tryz.func164 (fun H=>⟨_,ar1 (H.g 12 1),qNum _ (H.was _ [] (VP.at F7 L7)) (by first | omega | exact den_ne _ | decide)⟩) ?_
  refine .mz rfl 4 E3_4 ?_
  refine .cR rfl [] Tryz.func69 (fun H=>⟨_,ar1 (H.g 14 3),qDenom _ (H.was _ [] (VP.at F7 L7)) (by first | omega | exact den_ne _ | decide)⟩) ?_
  refine .cO rfl 0 Tryz.func181 (fun H h0 hz=>⟨_,ar3 (H.p 11 0 h0) (H.r 13 2) (H.r 15 4),bDiv _ _ (IntBlk.of hz) (IntO.p (SV.any (H.a 2 rfl))) (IntO.p (SV.any (H.a 4 rfl))) (by first | omega | exact den_ne _ | decide) (by first | omega | exact den_ne _ | decide)⟩) ?_
  refine .mo rfl 5 ?_
  refine .dk (fun u=>pt b1::U::u1 0::u2 1::u3 4::u 6::u2 0::sq u3 0 4 (sq u 0 6 (us 14))) K8 bel fun u4 w4 D bel=>?_
  obtain ⟨b9,E4_6,A9,F9⟩:=D.ow 6
  have N7_9:=D.n1 0 (RatP.lt F7) ((D.a 6 rfl).1.symm.trans E4_6)
  replace F7:=D.o L7 F7
  have L9:Amb S W b9:=.inr A9
  clear D
  refine wp_seq_k fun _ K10=>?_
  refine gs 7 (Amb S W) fun _ K11=>?_
  refine .mz rfl 4 E3_4 ?_
  refine .cK rfl (V:=.bool true) Tryz.func131 (fun H=>⟨_,ar1 (H.g 17 0),reV (congrArg Value.bool c2) (qIsInt _ (VP.any _ (H.was _ [] (VP.at F7 L7))) (by first | omega | exact den_ne _ | decide))⟩) ?_
  refine .mv rfl 1 ?_
  refine .mz rfl 5 E4_6 ?_ (hg:=gq 2 rfl)
  refine .cK rfl Tryz.func139 (fun H=>⟨_,ar2 (H.g 20 3) (H.c (.int .i64 0)),bBit _ _ (IntO.p (VP.any _ (H.was _ [] (VP.at F9 L9)))) (by first | omega | exact den_ne _ | decide) (by first | omega | exact den_ne _ | decide)⟩) ?_ (hg:=gq 2 rfl)
  refine .e rfl (V:=.bool ((((((x + (Rat.divInt (1:Int) (2:Int))).num) / ((x + (Rat.divInt (1:Int) (2:Int))).den:Int)).natAbs % 2:Nat):Int) == 1)) (fun H=>x_cmp (H.g 21 4) (H.c _)) ?_ (hg:=gq 2 rfl)
  refine .e rfl (fun H=>x_pkT (H.g 19 2) (H.g 22 5)) ?_
  refine .dk (fun u=>pt b1::U::u1 0::u2 1::u3 4::u4 6::u2 0::sq u3 0 4 (sq u4 0 6 (sq u 0 7 (us 7)))) K11 bel fun u5 w5 D bel=>?_
  have E5_6:=D.q 6
  replace F9:=D.o L9 F9
  clear D
  rcases Bool.eq_false_or_eq_true ((((((x + (Rat.divInt (1:Int) (2:Int))).num) / ((x + (Rat.divInt (1:Int) (2:Int))).den:Int)).natAbs % 2:Nat):Int) == 1) with c12 | c12
  ·
   refine wp_cond_true ((E5_6).trans (congrArg Value.bool c12)) ?_
   refine go2_seqT 3 1 rfl (Amb S W) [] [] (Olds.nil _) (by kernel_rfl) ?_
   refine .mz rfl 5 E4_6 ?_
   refine .mz rfl 5 E4_6 ?_
   refine .cR rfl [] Tryz.func130 (fun H=>⟨_,ar1 (H.c (.int .i64 1)),bNewInt _ (by first | omega | exact den_ne _ | decide) (by first | omega | exact den_ne _ | decide)⟩) ?_
   refine .dT (fun u=>pt b1::U::u1 0::u2 1::u3 4::u4 6::u2 0::sq u3 0 4 (sq u4 0 6 (sq u5 0 7 (sq u 0 4 (us 3))))) bel.size _ rfl fun u6 w6 D=>?_
   obtain ⟨b13,E6_2,L13,F13⟩:=IntO.elim (D.rr 2)
   have E6_0:=D.q 0
   have E6_1:=D.q 1
   replace F9:=D.o L9 F9
   replace bel:=D.d.base.bel0 bel bel.size
   clear D
   refine wpT_callO (args:=#[pt b9,pt b9,pt b13]) rfl (ex_call rfl rfl Tryz.func140 (by kernel_rfl) (by kernel_rfl) (by simp only [List.map_toArray,List.map_cons,List.map_nil]; show #[(u6 0).v,(u6 1).v,(u6 2).v] = #[pt b9,pt b9,pt b13]; rw [E6_0,E6_1,E6_2])) (bSub (z:=b9) (x:=((x + (Rat.divInt (1:Int) (2:Int))).num) / ((x + (Rat.divInt (1:Int) (2:Int))).den:Int)) (y:=(1:Int)) (IntO.blk F9) (IntO.p (VP.any _ F9)) (IntO.p (VP.any _ F13)) (by first | omega | exact den_ne _ | decide)) fun w14 fw14 ow14=>?_
   have sw14:Soft w6 b9 ∨ Local w6 b9:=.inl (IntO.soft F9)
   have F9:=fw14
   have L9:Amb S W b9:=.inr A9
   replace bel:=bel.trans (only_below' ow14 A9 bel.size)
   refine wpList_nil ?_
   show _
   refine K10 _ _ ?_
   refine gs 4 (Amb S W) fun _ K15=>?_
   refine .al rfl zQ ?_
   refine .mz rfl 5 E4_6 ?_
   refine .cO rfl 0 Tryz.func70 (fun H h0 hz=>⟨_,ar2 (H.p 28 0 h0) (H.g 29 1),qSetInt _ (RatBlk.of hz) (IntO.p (VP.any _ (H.was _ [] (VP.at F9 L9)))) (by first | omega | exact den_ne _ | decide)⟩) ?_
   refine .mo rfl 2 ?_
   refine .dk (fun u=>pt b1::U::u 3::u2 1::u3 4::u4 6::u2 0::sq u3 0 4 (sq u4 0 6 (sq u5 0 7 (sq u6 0 3 (.pointer (some ⟨b9,0,none⟩)::sq u 0 3 []))))) K15 bel fun u7 w7 D bel=>?_
   obtain ⟨b16,E7_3,A16,F16⟩:=D.ow 3
   have N9_16:=D.n1 0 (IntO.lt F9) ((D.a 3 rfl).1.symm.trans E7_3)
   have L16:Amb S W b16:=.inr A16
   clear D
   refine wp_ret ?_
   refine ret_ok rfl (by exact results_tmp' rfl (by exact E7_3)) ⟨_,rfl,?_,bel⟩
   exact rat_eq (rnd_1 c2 c12) (VP.at F16 L16)
  ·
   refine wp_cond_false ((E5_6).trans (congrArg Value.bool c12)) ?_
   refine wp_skip ?_
   refine K10 _ _ ?_
   refine gs 4 (Amb S W) fun _ K17=>?_
   refine .al rfl zQ ?_
   refine .mz rfl 5 E4_6 ?_
   refine .cO rfl 0 Tryz.func70 (fun H h0 hz=>⟨_,ar2 (H.p 28 0 h0) (H.g 29 1),qSetInt _ (RatBlk.of hz) (IntO.p (VP.any _ (H.was _ [] (VP.at F9 L9)))) (by first | omega | exact den_ne _ | decide)⟩) ?_
   refine .mo rfl 2 ?_
   refine .dk (fun u=>pt b1::U::u 3::u2 1::u3 4::u4 6::u2 0::sq u3 0 4 (sq u4 0 6 (sq u5 0 7 (U::U::U::U::sq u 0 3 [])))) K17 bel fun u8 w8 D bel=>?_
   obtain ⟨b18,E8_3,A18,F18⟩:=D.ow 3
   have N9_18:=D.n1 0 (IntO.lt F9) ((D.a 3 rfl).1.symm.trans E8_3)
   have L18:Amb S W b18:=.inr A18
   clear D
   refine wp_ret ?_
   refine ret_ok rfl (by exact results_tmp' rfl (by exact E8_3)) ⟨_,rfl,?_,bel⟩
   exact rat_eq (rnd_2 c2 c12) (VP.at F18 L18)
 ·
  refine gs 1 (Amb S W) fun _ K19=>?_
  refine .mc rfl ?_
  refine .dk (fun u=>pt b1::U::u 0::us 28) K19 bel fun u1 w1 D bel=>?_
  have E1_0:=D.q 0
  replace F1:=D.o L1 F1
  clear D
  refine gs 2 (Amb S W) fun _ K20=>?_
  refine .cR rfl [] Tryz.func136 (fun H=>⟨_,ar2 (H.c (.int .i64 1)) (H.c (.int .i64 2)),qNewRat _ _ (by first | omega | exact den_ne _ | decide) (by first | omega | exact den_ne _ | decide) (by first | omega | exact den_ne _ | decide) (by first | omega | exact den_ne _ | decide) (by first | omega | exact den_ne _ | decide)⟩) ?_
  refine .mn rfl 0 [0] ?_
  refine .dk (fun u=>pt b1::U::u1 0::u 1::U::U::u 0::us 24) K20 bel fun u2 w2 D bel=>?_
  obtain ⟨b21,E2_1,L21,F21⟩:=RatP.elim (D.rr 1)
  replace F1:=D.o L1 F1
  clear D
  refine gs 5 (Amb S W) fun _ K22=>?_
  refine .al rfl zQ ?_
  refine .mz rfl 0 (V:=pt b1) rfl ?_
  refine .mz rfl 3 E2_1 ?_
  refine .cO rfl 0 Tryz.func94 (fun H h0 hz=>⟨_,ar3 (H.p 7 0 h0) (H.g 8 1) (H.g 9 2),qAdd _ _ (RatBlk.of hz) (VP.any _ (H.was _ [] (VP.at F1 L1))) (VP.any _ (H.was _ [] (VP.at F21 L21))) (by first | omega | exact den_ne _ | decide)⟩) ?_
  refine .mo rfl 3 ?_
  refine .dk (fun u=>pt b1::U::u1 0::u2 1::u 4::U::u2 0::sq u 0 4 (us 20)) K22 bel fun u3 w3 D bel=>?_
  obtain ⟨b23,E3_4,A23,F23⟩:=D.ow 4
  have L23:Amb S W b23:=.inr A23
  clear D
  refine gs 7 (Amb S W) fun _ K24=>?_
  refine .al rfl zI ?_
  refine .mz rfl 4 E3_4 ?_
  refine .cR rfl [] Tryz.func164 (fun H=>⟨_,ar1 (H.g 12 1),qNum _ (H.was _ [] (VP.at F23 L23)) (by first | omega | exact den_ne _ | decide)⟩) ?_
  refine .mz rfl 4 E3_4 ?_
  refine .cR rfl [] Tryz.func69 (fun H=>⟨_,ar1 (H.g 14 3),qDenom _ (H.was _ [] (VP.at F23 L23)) (by first | omega | exact den_ne _ | decide)⟩) ?_
  refine .cO rfl 0 Tryz.func181 (fun H h0 hz=>⟨_,ar3 (H.p 11 0 h0) (H.r 13 2) (H.r 15 4),bDiv _ _ (IntBlk.of hz) (IntO.p (SV.any (H.a 2 rfl))) (IntO.p (SV.any (H.a 4 rfl))) (by first | omega | exact den_ne _ | decide) (by first | omega | exact den_ne _ | decide)⟩) ?_
  refine .mo rfl 5 ?_
  refine .dk (fun u=>pt b1::U::u1 0::u2 1::u3 4::u 6::u2 0::sq u3 0 4 (sq u 0 6 (us 14))) K24 bel fun u4 w4 D bel=>?_
  obtain ⟨b25,E4_6,A25,F25⟩:=D.ow 6
  have N23_25:=D.n1 0 (RatP.lt F23) ((D.a 6 rfl).1.symm.trans E4_6)
  replace F23:=D.o L23 F23
  have L25:Amb S W b25:=.inr A25
  clear D
  refine wp_seq_k fun _ K26=>?_
  refine gs 7 (Amb S W) fun _ K27=>?_
  refine .mz rfl 4 E3_4 ?_
  refine .cK rfl (V:=.bool false) Tryz.func131 (fun H=>⟨_,ar1 (H.g 17 0),reV (congrArg Value.bool c2) (qIsInt _ (VP.any _ (H.was _ [] (VP.at F23 L23))) (by first | omega | exact den_ne _ | decide))⟩) ?_
  refine .mv rfl 1 ?_
  refine .sk rfl 2 ?_
  refine .sk rfl 2 ?_
  refine .sk rfl 2 ?_
  refine .e rfl (fun H=>x_pkF (H.g 19 2) (H.c _)) ?_
  refine .dk (fun u=>pt b1::U::u1 0::u2 1::u3 4::u4 6::u2 0::sq u3 0 4 (sq u4 0 6 (sq u 0 7 (us 7)))) K27 bel fun u5 w5 D bel=>?_
  have E5_6:=D.q 6
  replace F25:=D.o L25 F25
  clear D
  refine wp_cond_false (by exact E5_6) ?_
  refine wp_skip ?_
  refine K26 _ _ ?_
  refine gs 4 (Amb S W) fun _ K28=>?_
  refine .al rfl zQ ?_
  refine .mz rfl 5 E4_6 ?_
  refine .cO rfl 0 Tryz.func70 (fun H h0 hz=>⟨_,ar2 (H.p 28 0 h0) (H.g 29 1),qSetInt _ (RatBlk.of hz) (IntO.p (VP.any _ (H.was _ [] (VP.at F25 L25)))) (by first | omega | exact den_ne _ | decide)⟩) ?_
  refine .mo rfl 2 ?_
  refine .dk (fun u=>pt b1::U::u 3::u2 1::u3 4::u4 6::u2 0::sq u3 0 4 (sq u4 0 6 (sq u5 0 7 (U::U::U::U::sq u 0 3 [])))) K28 bel fun u6 w6 D bel=>?_
  obtain ⟨b29,E6_3,A29,F29⟩:=D.ow 3
  have N25_29:=D.n1 0 (IntO.lt F25) ((D.a 3 rfl).1.symm.trans E6_3)
  have L29:Amb S W b29:=.inr A29
  clear D
  refine wp_ret ?_
  refine ret_ok rfl (by exact results_tmp' rfl (by exact E6_3)) ⟨_,rfl,?_,bel⟩
  exact rat_eq (rnd_3 c2) (VP.at F29 L29)
theorem hNearest {v0:Value} (x:Cx) (t0:(CxP x).p S v0 W) (p0:ht x.re + ht x.im ≤ 8589934592) :
  Calls Tryz.prog 81 #[v0] W (Ret (CxP x.near) S W):=by
 obtain ⟨b1,b2,rfl,L1,L2,F1,F2⟩:=CxP.elim t0
 replace L1:Amb S W b1:=.inl L1
 replace L2:Amb S W b2:=.inl L2
 have bel:=b0 W
 go_enter Tryz.func81,Tryz.ntmps81
 refine gs 2 (Amb S W) fun _ K3=>?_
 refine .bx rfl (fun H=>H.v 0 (.agg #[pt b1,pt b2])) ?_
 refine .al rfl (#[.pointer none,.pointer none]) ?_
 refine .dk (fun u=>.agg #[pt b1,pt b2]::u 0::u 1::us 7) K3 bel fun u1 w1 D bel=>?_
 obtain ⟨b4,E1_0,A4,B4⟩:=D.nw 0
 obtain ⟨b5,E1_1,A5,B5⟩:=D.nw 1
 have N1_5:=D.n1 1 (RatP.lt F1) E1_1
 have N2_5:=D.n1 1 (RatP.lt F2) E1_1
 have N4_5:=D.n2 0 1 E1_0 E1_1
 replace F1:=D.o L1 F1
 replace F2:=D.o L2 F2
 clear D
 refine gd1 8 (Amb S W) 7 B5 fun _ K6=>?_
 refine .fz rfl 1 0 E1_0 ?_
 refine .e rfl (V:=pt b1) (fun H=>x_ldc (H.g 3 0) (H.b1 B4 (Ne.symm N4_5))) ?_
 refine .cR rfl [] Tryz.func145 (fun H=>⟨_,ar1 (H.g 4 1),hRound _ (H.was _ [] (VP.at F1 L1)) (by omega)⟩) ?_
 refine .fz rfl 1 1 E1_0 ?_
 refine .e rfl (V:=pt b2) (fun H=>x_ldc (H.g 6 3) (H.b1 B4 (Ne.symm N4_5))) ?_
 refine .cR rfl [] Tryz.func145 (fun H=>⟨_,ar1 (H.g 7 4),hRound _ (H.was _ [] (VP.at F2 L2)) (by omega)⟩) ?_
 refine Go2.fn (i:=6) rfl (G0 rfl) (SP.fnL 6 [2,5] (fun u=>.agg #[(u 2).v,(u 5).v]) (by intro u u' h; simp [h 2 (by simp),h 5 (by simp)])) (fun u μ ρ H=>⟨_,by have e5:=H.r 5 2; have e8:=H.r 8 5; obtain ⟨x2,h2⟩:=RatP.isPtr (H.a 2 rfl); obtain ⟨x5,h5⟩:=RatP.isPtr (H.a 5 rfl); clear H; go_simp,SP.fnL_upd (by decide)⟩) ?_
 refine Go2.storeOld (i:=7) 0 b5 rfl rfl rfl ⟨_,_,_,B5,rfl⟩ (SP.old 0 b5 [2,5] (fun u=>#[(u 2).v,(u 5).v]) 81 (by intro u u' h; simp [h 2 (by simp),h 5 (by simp)]) (lt_of B5) (by intro y k hy; match y,hy with | 0,hy=>rfl)) (fun u μ ρ H=>?_) ?_
 · have e2:=H.z 2 E1_1; have e9:=H.e 9 6 (by kernel_rfl) (H.a 6 rfl); have o2:=VP1.rat (H.a 2 rfl); have o5:=VP1.rat (H.a 5 rfl); have hb:=H.blkOld B5 0 7 rfl (.inl rfl)
   refine ⟨μ.setRow b5 #[(u 2).v,(u 5).v],ex_store_row 81 _ _ rfl e2 e9 hb (by kernel_rfl) rfl (by simp [o2,o5] <;> rfl),fun g=>?_,setRow_only _ _ _⟩
   show (World.setRow _ _ _).heap[b5]? = _
   rw [setRow_at hb]; try simp [upd]
 refine .d1 (fun u=>.agg #[pt b1,pt b2]::u1 0::u1 1::sq u 0 7 []) K6 bel A5 fun u2 w2 D bel=>?_
 obtain ⟨b7,E2_2,L7,F7⟩:=RatP.elim (D.rr 2)
 obtain ⟨b8,E2_5,L8,F8⟩:=RatP.elim (D.rr 5)
 replace B5:w2.heap[b5]? = _:=(D.a 7 rfl)
 simp only [Value.cells,E2_2,E2_5] at B5
 clear D
 refine wp_ret ?_
 refine ret_ok rfl (by exact results_row rfl (by exact E1_1) B5 Tryz.underlying81 rfl (by kernel_rfl)) ⟨_,rfl,?_,bel⟩
 exact (CxP.mk (VP.at F7 L7) (VP.at F8 L8))
end Go.Proofs.YtllohoibifcmdaaGreat
namespace Go.Proofs.YtllohoibifcmdaaGreat
open Go.RowKit Rgn
@[reducible] def unitC (k:Nat):Cx:=match k with
 | 0=>Cx.ofInt (1:Int) (0:Int)
 | 1=>Cx.ofInt (0:Int) (1:Int)
 | 2=>Cx.ofInt (-1:Int) (0:Int)
 | _=>Cx.ofInt (0:Int) (-1:Int)
def UnitsP:VP :=
  ⟨fun S v w=>∃ a0 b0 a1 b1 a2 b2 a3 b3,v = .agg #[a0,b0,a1,b1,a2,b2,a3,b3] ∧ (CxP (unitC 0)).p S (.agg #[a0,b0]) w ∧ (CxP (unitC 1)).p S (.agg #[a1,b1]) w ∧ (CxP (unitC 2)).p S (.agg #[a2,b2]) w ∧ (CxP (unitC 3)).p S (.agg #[a3,b3]) w,
   fun hS ⟨a0,b0,a1,b1,a2,b2,a3,b3,h,h0,h1,h2,h3⟩=>⟨a0,b0,a1,b1,a2,b2,a3,b3,h,(CxP _).mono hS h0,(CxP _).mono hS h1,(CxP _).mono hS h2,(CxP _).mono hS h3⟩,
   fun hg ⟨a0,b0,a1,b1,a2,b2,a3,b3,h,h0,h1,h2,h3⟩=>⟨a0,b0,a1,b1,a2,b2,a3,b3,h,(CxP _).grow hg h0,(CxP _).grow hg h1,(CxP _).grow hg h2,(CxP _).grow hg h3⟩⟩
theorem CxP.pair {z:Cx} {S:Nat → Prop} {a b:Value} {w:World} (h:(CxP z).p S (.agg #[a,b]) w):∃ c d,a = .pointer (some ⟨c,0,none⟩) ∧ b = .pointer (some ⟨d,0,none⟩) ∧ S c ∧ S d ∧ (RatP z.re).p (· = c) (.pointer (some ⟨c,0,none⟩)) w ∧ (RatP z.im).p (· = d) (.pointer (some ⟨d,0,none⟩)) w:=by
 obtain ⟨c,d,e,h1,h2,h3,h4⟩:=CxP.elim h
 injection e with e
 have e1:a = _:=congrArg (fun x:Array Value=>x.getD 0 undef) e
 have e2:b = _:=congrArg (fun x:Array Value=>x.getD 1 undef) e
 exact ⟨c,d,e1,e2,h1,h2,h3,h4⟩
theorem UnitsP.elim {S v w} (h:UnitsP.p S v w):∃ a0 b0 a1 b1 a2 b2 a3 b3:Nat,v = .agg #[.pointer (some ⟨a0,0,none⟩),.pointer (some ⟨b0,0,none⟩),.pointer (some ⟨a1,0,none⟩),.pointer (some ⟨b1,0,none⟩),.pointer (some ⟨a2,0,none⟩),.pointer (some ⟨b2,0,none⟩),.pointer (some ⟨a3,0,none⟩),.pointer (some ⟨b3,0,none⟩)] ∧
  S a0 ∧ S b0 ∧ S a1 ∧ S b1 ∧ S a2 ∧ S b2 ∧ S a3 ∧ S b3 ∧
  (RatP (unitC 0).re).p (· = a0) (.pointer (some ⟨a0,0,none⟩)) w ∧ (RatP (unitC 0).im).p (· = b0) (.pointer (some ⟨b0,0,none⟩)) w ∧ (RatP (unitC 1).re).p (· = a1) (.pointer (some ⟨a1,0,none⟩)) w ∧ (RatP (unitC 1).im).p (· = b1) (.pointer (some ⟨b1,0,none⟩)) w ∧
  (RatP (unitC 2).re).p (· = a2) (.pointer (some ⟨a2,0,none⟩)) w ∧ (RatP (unitC 2).im).p (· = b2) (.pointer (some ⟨b2,0,none⟩)) w ∧ (RatP (unitC 3).re).p (· = a3) (.pointer (some ⟨a3,0,none⟩)) w ∧ (RatP (unitC 3).im).p (· = b3) (.pointer (some ⟨b3,0,none⟩)) w:=by
 obtain ⟨a0,b0,a1,b1,a2,b2,a3,b3,h,h0,h1,h2,h3⟩:=h
 obtain ⟨c0,d0,rfl,rfl,k1,k2,k3,k4⟩:=CxP.pair h0
 obtain ⟨c1,d1,rfl,rfl,l1,l2,l3,l4⟩:=CxP.pair h1
 obtain ⟨c2,d2,rfl,rfl,m1,m2,m3,m4⟩:=CxP.pair h2
 obtain ⟨c3,d3,rfl,rfl,n1,n2,n3,n4⟩:=CxP.pair h3
 exact ⟨c0,d0,c1,d1,c2,d2,c3,d3,h,k1,k2,l1,l2,m1,m2,n1,n2,k3,k4,l3,l4,m3,m4,n3,n4⟩
theorem Rgn.Below.growS {n:Nat} {w w' : World} (h:RowKit.Below n w w') (hn:w.heap.size ≤ n) (S:Nat → Prop):GrowS S w w' :=
 ⟨h.os,h.tape,h.output,h.size,fun k hk=>.inl (h.block k (by omega))⟩
theorem wpT_callR {P:Program} {ops:Array Oper} {Q:Exit → Act → World → Prop} {o:Oper} {rest:List Oper} {a:Act} {w:World} {f:FuncId} {args:Array Value} {φ:VP} {S:Nat → Prop} (hg:o.guard = none) (hr:(execOp a.eval o).run P w = .ok (.enter f args) w) (hc:Calls P f args w (Ret φ S w))
  (h:∀ v w', φ.p (fun k=>S k ∨ w.heap.size ≤ k) v w' → RowKit.Below w.heap.size w w' → wpList P ops Q rest (a.put o.dst v) w'):wpList P ops Q (o :: rest) a w:=by
 refine wpList_plain hg fun K hK=>?_
 simp only [Oper.wp,hr,Oper.upon]
 refine hc.mono fun e w' ⟨v,he,h1,h2⟩=>?_
 subst he
 exact hK _ _ (h v w' h1 h2)
def Rgn.VP.tup3 (φ ψ χ:VP):VP :=
  ⟨fun S v w=>∃ a b c,v = .tuple #[a,b,c] ∧ φ.p S a w ∧ ψ.p S b w ∧ χ.p S c w,
   fun hS ⟨a,b,c,h1,h2,h3,h4⟩=>⟨a,b,c,h1,φ.mono hS h2,ψ.mono hS h3,χ.mono hS h4⟩,
   fun h ⟨a,b,c,h1,h2,h3,h4⟩=>⟨a,b,c,h1,φ.grow h h2,ψ.grow h h3,χ.grow h h4⟩⟩
theorem rounds_k {P:Program} {c:Code} {Q:Exit → Act → World → Prop} {n:Nat} {a:Act} {w:World} (h:∀ K:Act → World → Prop,(∀ a w,Code.rounds P c Q n a w → K a w) → c.wp P (Exit.then K Q) a w):Code.rounds P c Q (n + 1) a w:=h _ (fun _ _ q=>q)
section
variable {P:Program} {fn:Func} {p q r ty ty' ty'' : Nat} {tmps:Array Value} {w:World} {g g' g'' : Nat}
theorem results_rows3 (hf:fn.results = #[.cell p ty,.cell q ty', .cell r ty'']) (hp:tmps.getD p undef = .pointer (some ⟨g,0,none⟩)) {t:TypeId} {cs:Array Value} {fr:Nat × Nat} (hg:w.heap[g]? = some (.cells cs t fr))
  {d:TypeDesc} (hu:P.underlying ty = some d) (hd:(match d with | .struct _ | .array _ _=>true | _=>false) = true) (hi:(P.info? ty).map (·.size) = some cs.size)
  (hp' : tmps.getD q undef = .pointer (some ⟨g', 0,none⟩)) {t' : TypeId} {cs' : Array Value} {fr' : Nat × Nat} (hg' : w.heap[g']? = some (.cells cs' t' fr'))
  {d' : TypeDesc} (hu' : P.underlying ty' = some d') (hd' : (match d' with | .struct _ | .array _ _=>true | _=>false) = true) (hi' : (P.info? ty').map (·.size) = some cs'.size)
  (hp'' : tmps.getD r undef = .pointer (some ⟨g'', 0,none⟩)) {t'' : TypeId} {cs'' : Array Value} {fr'' : Nat × Nat} (hg'' : w.heap[g'']? = some (.cells cs'' t'' fr''))
  {d'' : TypeDesc} (hu'' : P.underlying ty'' = some d'') (hd'' : (match d'' with | .struct _ | .array _ _=>true | _=>false) = true) (hi'' : (P.info? ty'').map (·.size) = some cs''.size):(results fn tmps).run P w = .ok (.tuple #[.agg cs,.agg cs', .agg cs'']) w:=by
 have hp:tmps[p]?.getD undef = .pointer (some ⟨g,0,none⟩):=by simpa using hp
 have hp' : tmps[q]?.getD undef = .pointer (some ⟨g', 0,none⟩):=by simpa using hp'
 have hp'' : tmps[r]?.getD undef = .pointer (some ⟨g'', 0,none⟩):=by simpa using hp''
 have hl:=run_loadVar_row (P:=P) w g t ty cs fr d hg hu hd hi
 have hl' := run_loadVar_row (P:=P) w g' t' ty' cs' fr' d' hg' hu' hd' hi'
 have hl'' := run_loadVar_row (P:=P) w g'' t'' ty'' cs'' fr'' d'' hg'' hu'' hd'' hi''
 simp only [results,hf]
 simp [hp,hl,hp', hl', hp'', hl'', asAddr]
theorem results_mix3 (hf:fn.results = #[.cell p ty,.cell q ty', .tmp r]) (hp:tmps.getD p undef = .pointer (some ⟨g,0,none⟩)) {t:TypeId} {cs:Array Value} {fr:Nat × Nat} (hg:w.heap[g]? = some (.cells cs t fr))
  {d:TypeDesc} (hu:P.underlying ty = some d) (hd:(match d with | .struct _ | .array _ _=>true | _=>false) = true) (hi:(P.info? ty).map (·.size) = some cs.size)
  (hp' : tmps.getD q undef = .pointer (some ⟨g', 0,none⟩)) {t' : TypeId} {cs' : Array Value} {fr' : Nat × Nat} (hg' : w.heap[g']? = some (.cells cs' t' fr'))
  {d' : TypeDesc} (hu' : P.underlying ty' = some d') (hd' : (match d' with | .struct _ | .array _ _=>true | _=>false) = true) (hi' : (P.info? ty').map (·.size) = some cs'.size) {v:Value}
  (h:tmps.getD r undef = v):(results fn tmps).run P w = .ok (.tuple #[.agg cs,.agg cs', v]) w:=by
 have hp:tmps[p]?.getD undef = .pointer (some ⟨g,0,none⟩):=by simpa using hp
 have hp' : tmps[q]?.getD undef = .pointer (some ⟨g', 0,none⟩):=by simpa using hp'
 have h:tmps[r]?.getD undef = v:=by simpa using h
 have hl:=run_loadVar_row (P:=P) w g t ty cs fr d hg hu hd hi
 have hl' := run_loadVar_row (P:=P) w g' t' ty' cs' fr' d' hg' hu' hd' hi'
 simp only [results,hf]
 simp [hp,hl,hp', hl', h,asAddr]
end
theorem soft_ne {w:World} {a b:Nat} {c:Array Value} {T:TypeId} {fr:Nat × Nat} (hs:Soft w a) (hB:w.heap[b]? = some (.cells c T fr)) (hT:(T == 102 || T == 98) = false):b ≠ a:=fun e=>by
 subst e
 obtain ⟨c', T', h1,h2⟩:=hs
 rw [hB] at h1
 cases h1
 rw [hT] at h2; cases h2
section
variable {P:Program} {ρ:Operand → Value} {o:Oper} {w:World} {x y:Operand}
theorem x_pnE {t r:TypeId} {b:Nat} (hx:ρ x = pt b) (hy:ρ y = .pointer none) (ho:o.op = .binOp .eql t x y r:=by rfl) (he:(Op.equal t (pt b) (.pointer none)).run P w = .ok false w:=by kernel_rfl):(execOp ρ o).run P w = .ok (.value (.bool false)) w:=by
 unfold execOp; simp [ho,hx,hy,eqGuard,binOp,he,Result.andThen]
theorem x_pnN {t r:TypeId} {b:Nat} (hx:ρ x = pt b) (hy:ρ y = .pointer none) (ho:o.op = .binOp .neq t x y r:=by rfl) (he:(Op.equal t (pt b) (.pointer none)).run P w = .ok false w:=by kernel_rfl):(execOp ρ o).run P w = .ok (.value (.bool true)) w:=by
 unfold execOp; simp [ho,hx,hy,eqGuard,binOp,he,Result.andThen]
end
theorem eFormed {W:World} (r:RW):Calls Tryz.prog 216 #[.agg #[.bool r.n,.string r.s]] W (RetV (.bool (wformed r)) W):=by
 obtain ⟨n,⟨⟨l⟩⟩⟩:=r
 have hb:Below W.heap.size W (W.alloc (.cells #[.bool n,.string ⟨⟨l⟩⟩] 26)):=Below.alloc (Below.refl _ _) (Nat.le_refl _) _
 cases l with
 | nil =>
  go_enter Tryz.func216,Tryz.ntmps216
  go_wp2_with fail
  refine ret_ok rfl (by exact results_tmp' rfl rfl) (RetV.mk ?_ hb)
  rfl
 | cons c t =>
  go_enter Tryz.func216,Tryz.ntmps216
  go_wp2_with fail
  refine ret_ok rfl (by exact results_tmp' rfl rfl) (RetV.mk ?_ hb)
  refine congrArg (fun b=>Ending.returned (.bool b)) ?_
  show ((c.toNat:Int) != 0) = (c != 0)
  by_cases h:c = 0
  ·subst h; rfl
  ·have h2:c.toNat ≠ 0:=fun e=>h (UInt8.toNat_inj.1 e)
   rw [bne_iff_ne.2 h,bne_iff_ne]; omega
theorem eRatN {S:Nat → Prop} {W:World}:Calls Tryz.prog 158 #[.pointer none] W (Ret (RatP 0) S W):=by
 go_enter Tryz.func158,Tryz.ntmps158
 go_wp2_with fail
 refine ret_ok rfl (by exact results_tmp' rfl rfl) ⟨_,rfl,⟨_,rfl,.inr (Nat.le_refl _),.inr ⟨rfl,heap_alloc_new W _⟩⟩,Below.alloc (Below.refl _ _) (Nat.le_refl _) _⟩
theorem ecut_yes {q:Rat} (h:fits (rf q) = true):Value.tuple #[.agg #[.bool (decide (q.num.sign < 0)),.string (bS q.num.natAbs),.bool false,.string (bS (q.den:Int).natAbs)],.int .i64 0] = .tuple #[rfV (fcut q),.int .i64 (ferr q)]:=by
 rw [sign_lt]
 refine Eq.trans ?_ (fcut_yes h)
 rw [decide_eq_false (show ¬ (q.den:Int) < 0 by omega)]
theorem den_nn (x:Rat):decide ((x.den:Int) < 0) = false:=decide_eq_false (by omega)
theorem den_na (x:Rat):decide ((x.den:Int).natAbs = 0) = false:=decide_eq_false (by have:=x.den_pos; omega)
theorem fits_two {x:Rat} (h:fits (rf x) = true):(bS x.num.natAbs).size ≤ 1024 ∧ (bS (x.den:Int).natAbs).size ≤ 1024:=by
 unfold fits at h
 rw [Bool.and_eq_true,decide_eq_true_eq,decide_eq_true_eq] at h
 exact h
theorem fits_num {x:Rat} (h:fits (rf x) = true):decide (1024 < (((bS x.num.natAbs).size:Nat):Int)) = false:=decide_eq_false (by have:=(fits_two h).1; omega)
theorem fits_den {x:Rat} (h:fits (rf x) = true):decide (1024 < (((bS (x.den:Int).natAbs).size:Nat):Int)) = false:=decide_eq_false (by have:=(fits_two h).2; omega)
theorem icmp_self (x:Int):icmp x x = 0:=by unfold icmp; simp
theorem back_num (x:Rat):((icmp ((Rat.divInt x.num (x.den:Int)).num) x.num) != 0) = false:=by rw [Rat.num_divInt_den,icmp_self]; rfl
theorem back_den (x:Rat):((icmp ((Rat.divInt x.num (x.den:Int)).den:Int) (x.den:Int)) != 0) = false:=by rw [Rat.num_divInt_den,icmp_self]; rfl
theorem bS_len (n:Nat):(bS n).size = (bytesOf n).length:=by show (bytesOf n).toArray.size = _; simp
theorem efits_le {q:Rat} (h:fits (rf q) = true):ht q ≤ 8200:=by
 have h0:=fits_two h
 have h1:=hi_bytes q.num
 have h2:=hi_bytes (q.den:Int)
 have h3:(rw q.num).s.size ≤ 1024:=h0.1
 have h4:(rw (q.den:Int)).s.size ≤ 1024:=h0.2
 have h5:hi (q.den:Int) = bl q.den + 1:=by unfold hi; rw [Int.natAbs_natCast]
 have h6:hi q.num = bl q.num.natAbs + 1:=rfl
 have h7:ht q = max (bl q.num.natAbs) (bl q.den) + 1:=rfl
 omega
theorem num_eq {a b:Cx} (h:a = b) {S:Nat → Prop} {v:Value} {w:World} (F:(NumP a).p S v w):(NumP b).p S v w:=h ▸ F
theorem divInt_one (x:Int):Rat.divInt x 1 = (x:Rat):=by
 have h:=Rat.num_divInt_den (x:Rat)
 rw [Rat.num_intCast,Rat.den_intCast] at h
 exact h
theorem num_int (m n:Int):(⟨Rat.divInt m 1,Rat.divInt n 1⟩:Cx) = Cx.ofInt m n:=Cx.ext' (divInt_one m) (divInt_one n)
end Go.Proofs.YtllohoibifcmdaaGreat
namespace Go.Proofs.YtllohoibifcmdaaGreat
open Go.RowKit Rgn
set_option maxHeartbeats 4000000
set_option maxRecDepth 100000
variable {S:Nat → Prop} {W:World}
theorem eRatR {v0:Value} (x:Rat) (t0:(RatP x).p S v0 W) :
  Calls Tryz.prog 158 #[v0] W (Ret (RatP x) S W):=by
 obtain ⟨b1,rfl,L1,F1⟩:=RatP.elim t0
 replace L1:Amb S W b1:=.inl L1
 have bel:=b0 W
 go_enter Tryz.func158,Tryz.ntmps158
 refine gs 1 (Amb S W) fun _ K2=>?_
 refine .mc rfl ?_
 refine .dk (fun u=>pt b1::U::u 0::us 4) K2 bel fun u1 w1 D bel=>?_
 have E1_0:=D.q 0
 replace F1:=D.o L1 F1
 clear D
 refine wp_seq_k fun _ K3=>?_
 refine gs 2 (Amb S W) fun _ K4=>?_
 refine .mz rfl 0 (V:=pt b1) rfl ?_
 refine .e rfl (V:=.bool false) (fun H=>x_pnE (H.g 3 0) (H.c _)) ?_
 refine .dk (fun u=>pt b1::U::u1 0::u 0::u 1::U::U::[]) K4 bel fun u2 w2 D bel=>?_
 have E2_1:=D.q 1
 replace F1:=D.o L1 F1
 clear D
 refine wp_cond_false (by exact E2_1) ?_
 refine wp_skip ?_
 refine K3 _ _ ?_
 refine gs 2 (Amb S W) fun _ K5=>?_
 refine .mz rfl 0 (V:=pt b1) rfl ?_
 refine .mv rfl 0 ?_
 refine .dk (fun u=>pt b1::U::u 1::u2 0::u2 1::U::u 0::[]) K5 bel fun u3 w3 D bel=>?_
 have E3_1:=D.q 1
 replace F1:=D.o L1 F1
 clear D
 refine wp_ret ?_
 refine ret_ok rfl (by exact results_tmp' rfl (by exact E3_1)) ⟨_,rfl,?_,bel⟩
 exact (VP.at F1 L1)
end Go.Proofs.YtllohoibifcmdaaGreat
namespace Go.Proofs.YtllohoibifcmdaaGreat
open Go.RowKit Rgn
theorem eRat {S:Nat → Prop} {W:World} {v0:Value} (x:Rat) (t0:(RatN x).p S v0 W):Calls Tryz.prog 158 #[v0] W (Ret (RatP x) S W):=by
 rcases t0 with ⟨rfl,rfl⟩ | t0
 ·exact eRatN
 ·exact eRatR x t0
end Go.Proofs.YtllohoibifcmdaaGreat
namespace Go.Proofs.YtllohoibifcmdaaGreat
open Go.RowKit Rgn
set_option maxHeartbeats 4000000
set_option maxRecDepth 100000
variable {S:Nat → Prop} {W:World}
theorem eMul {v0:Value} {v1:Value} (x:Rat) (y:Rat) (t0:(RatN x).p S v0 W) (t1:(RatN y).p S v1 W) (p0:ht x + ht y ≤ 68719476736) :
  Calls Tryz.prog 157 #[v0,v1] W (Ret (RatP (x * y)) S W):=by
 have F_v0:(RatN x).p (Amb S W) v0 W:=(RatN x).mono (fun _ _ h=>.inl h) t0
 have F_v1:(RatN y).p (Amb S W) v1 W:=(RatN y).mono (fun _ _ h=>.inl h) t1
 have bel:=b0 W
 go_enter Tryz.func157,Tryz.ntmps157
 refine gs 1 (Amb S W) fun _ K1=>?_
 refine .mc rfl ?_
 refine .dk (fun u=>v0::v1::U::U::u 0::us 6) K1 bel fun u1 w1 D bel=>?_
 have E1_0:=D.q 0
 replace F_v0:=D.gr (RatN x) F_v0
 replace F_v1:=D.gr (RatN y) F_v1
 clear D
 refine gs 7 (Amb S W) fun _ K2=>?_
 refine .al rfl zQ ?_
 refine .mz rfl 0 (V:=v0) rfl ?_
 refine .cR rfl [] Tryz.func158 (fun H=>⟨_,ar1 (H.g 6 1),eRat _ (H.was _ [] F_v0)⟩) ?_
 refine .mz rfl 1 (V:=v1) rfl ?_
 refine .cR rfl [] Tryz.func158 (fun H=>⟨_,ar1 (H.g 8 3),eRat _ (H.was _ [] F_v1)⟩) ?_
 refine .cO rfl 0 Tryz.func124 (fun H h0 hz=>⟨_,ar3 (H.p 5 0 h0) (H.r 7 2) (H.r 9 4),qMul _ _ (RatBlk.of hz) (SV.any (H.a 2 rfl)) (SV.any (H.a 4 rfl)) (by omega)⟩) ?_
 refine .mo rfl 5 ?_
 refine .dk (fun u=>v0::v1::U::U::u 6::sq u 0 6 []) K2 bel fun u2 w2 D bel=>?_
 obtain ⟨b3,E2_6,A3,F3⟩:=D.ow 6
 have L3:Amb S W b3:=.inr A3
 clear D
 refine wp_ret ?_
 refine ret_ok rfl (by exact results_tmp' rfl (by exact E2_6)) ⟨_,rfl,?_,bel⟩
 exact (VP.at F3 L3)
theorem eParts {v0:Value} (x:Cx) (t0:(NumP x).p S v0 W) :
  Calls Tryz.prog 214 #[v0] W (Ret (VP.tup (RatP x.re) (RatP x.im)) S W):=by
 obtain ⟨x1,x2,rfl,F_x1,F_x2⟩:=t0
 replace F_x1:(RatN x.re).p (Amb S W) x1 W:=(RatN x.re).mono (fun _ _ h=>.inl h) F_x1
 replace F_x2:(RatN x.im).p (Amb S W) x2 W:=(RatN x.im).mono (fun _ _ h=>.inl h) F_x2
 have bel:=b0 W
 go_enter Tryz.func214,Tryz.ntmps214
 refine gs 3 (Amb S W) fun _ K3=>?_
 refine .bx rfl (fun H=>H.v 0 (.agg #[x1,x2])) ?_
 refine .mc rfl ?_
 refine .mc rfl ?_
 refine .dk (fun u=>.agg #[x1,x2]::sq u 0 3 (us 6)) K3 bel fun u1 w1 D bel=>?_
 obtain ⟨b4,E1_0,A4,B4⟩:=D.nw 0
 have E1_1:=D.q 1
 have E1_2:=D.q 2
 replace F_x1:=D.gr (RatN x.re) F_x1
 replace F_x2:=D.gr (RatN x.im) F_x2
 clear D
 refine gd 8 (Amb S W) fun _ K5=>?_
 refine .fz rfl 1 0 E1_0 ?_
 refine .lc rfl 0 B4 ?_ (V:=x1)
 refine .cR rfl [] Tryz.func158 (fun H=>⟨_,ar1 (H.g 5 1),eRat _ (H.was _ [] F_x1)⟩) ?_
 refine .fz rfl 1 1 E1_0 ?_
 refine .lc rfl 3 B4 ?_ (V:=x2)
 refine .cR rfl [] Tryz.func158 (fun H=>⟨_,ar1 (H.g 8 4),eRat _ (H.was _ [] F_x2)⟩) ?_
 refine .mn rfl 2 [2] ?_
 refine .mn rfl 5 [5] ?_
 refine .dk (fun u=>.agg #[x1,x2]::u1 0::u 6::u 7::sq u 0 6 []) K5 bel fun u2 w2 D bel=>?_
 obtain ⟨b6,E2_6,L6,F6⟩:=RatP.elim (D.rr 6)
 obtain ⟨b7,E2_7,L7,F7⟩:=RatP.elim (D.rr 7)
 clear D
 refine wp_ret ?_
 refine ret_ok rfl (by exact results_two rfl (by exact E2_6) (by exact E2_7)) ⟨_,rfl,?_,bel⟩
 exact ⟨_,_,rfl,(VP.at F6 L6),(VP.at F7 L7)⟩
theorem eZero {v0:Value} (x:Cx) (t0:(NumP x).p S v0 W) :
  Calls Tryz.prog 106 #[v0] W (RetV (.bool x.zero) W):=by
 obtain ⟨x1,x2,rfl,F_x1,F_x2⟩:=t0
 replace F_x1:(RatN x.re).p (Amb S W) x1 W:=(RatN x.re).mono (fun _ _ h=>.inl h) F_x1
 replace F_x2:(RatN x.im).p (Amb S W) x2 W:=(RatN x.im).mono (fun _ _ h=>.inl h) F_x2
 have bel:=b0 W
 go_enter Tryz.func106,Tryz.ntmps106
 rcases Bool.eq_false_or_eq_true (x.re.num.sign == 0) with c3 | c3
 ·
  rcases Bool.eq_false_or_eq_true (x.im.num.sign == 0) with c4 | c4
  ·
   refine gs 2 (Amb S W) fun _ K5=>?_
   refine .bx rfl (fun H=>H.v 0 (.agg #[x1,x2])) ?_
   refine .mc rfl ?_
   refine .dk (fun u=>.agg #[x1,x2]::u 0::u 1::us 12) K5 bel fun u1 w1 D bel=>?_
   obtain ⟨b6,E1_0,A6,B6⟩:=D.nw 0
   have E1_1:=D.q 1
   replace F_x1:=D.gr (RatN x.re) F_x1
   replace F_x2:=D.gr (RatN x.im) F_x2
   clear D
   refine gs 13 (Amb S W) fun _ K7=>?_
   refine .fz rfl 1 0 E1_0 ?_
   refine .lc rfl 0 B6 ?_ (V:=x1)
   refine .cR rfl [] Tryz.func158 (fun H=>⟨_,ar1 (H.g 4 1),eRat _ (H.was _ [] F_x1)⟩) ?_
   refine .cK rfl Tryz.func109 (fun H=>⟨_,ar1 (H.r 5 2),qSign _ (SV.any (H.a 2 rfl))⟩) ?_
   refine .e rfl (V:=.bool true) (fun H=>x_cm (H.g 6 3) (H.c _) c3) ?_
   refine .mv rfl 4 ?_
   refine .fz rfl 1 1 E1_0 ?_ (hg:=gq 5 rfl)
   refine .lc rfl 6 B6 ?_ (V:=x2) (hg:=gq 5 rfl)
   refine .cR rfl [] Tryz.func158 (fun H=>⟨_,ar1 (H.g 10 7),eRat _ (H.was _ [] F_x2)⟩) ?_ (hg:=gq 5 rfl)
   refine .cK rfl Tryz.func109 (fun H=>⟨_,ar1 (H.r 11 8),qSign _ (SV.any (H.a 8 rfl))⟩) ?_ (hg:=gq 5 rfl)
   refine .e rfl (V:=.bool true) (fun H=>x_cm (H.g 12 9) (H.c _) c4) ?_ (hg:=gq 5 rfl)
   refine .e rfl (fun H=>x_pkT (H.g 8 5) (H.g 13 10)) ?_
   refine .mv rfl 11 ?_
   refine .dk (fun u=>.agg #[x1,x2]::u1 0::u 12::sq u 0 12 []) K7 bel fun u2 w2 D bel=>?_
   have E2_12:=D.q 12
   clear D
   exact wp_ret (rt rfl E2_12 (zero_b c3 c4) bel)
  ·
   refine gs 2 (Amb S W) fun _ K8=>?_
   refine .bx rfl (fun H=>H.v 0 (.agg #[x1,x2])) ?_
   refine .mc rfl ?_
   refine .dk (fun u=>.agg #[x1,x2]::u 0::u 1::us 12) K8 bel fun u1 w1 D bel=>?_
   obtain ⟨b9,E1_0,A9,B9⟩:=D.nw 0
   have E1_1:=D.q 1
   replace F_x1:=D.gr (RatN x.re) F_x1
   replace F_x2:=D.gr (RatN x.im) F_x2
   clear D
   refine gs 13 (Amb S W) fun _ K10=>?_
   refine .fz rfl 1 0 E1_0 ?_
   refine .lc rfl 0 B9 ?_ (V:=x1)
   refine .cR rfl [] Tryz.func158 (fun H=>⟨_,ar1 (H.g 4 1),eRat _ (H.was _ [] F_x1)⟩) ?_
   refine .cK rfl Tryz.func109 (fun H=>⟨_,ar1 (H.r 5 2),qSign _ (SV.any (H.a 2 rfl))⟩) ?_
   refine .e rfl (V:=.bool true) (fun H=>x_cm (H.g 6 3) (H.c _) c3) ?_
   refine .mv rfl 4 ?_
   refine .fz rfl 1 1 E1_0 ?_ (hg:=gq 5 rfl)
   refine .lc rfl 6 B9 ?_ (V:=x2) (hg:=gq 5 rfl)
   refine .cR rfl [] Tryz.func158 (fun H=>⟨_,ar1 (H.g 10 7),eRat _ (H.was _ [] F_x2)⟩) ?_ (hg:=gq 5 rfl)
   refine .cK rfl Tryz.func109 (fun H=>⟨_,ar1 (H.r 11 8),qSign _ (SV.any (H.a 8 rfl))⟩) ?_ (hg:=gq 5 rfl)
   refine .e rfl (V:=.bool false) (fun H=>x_cm (H.g 12 9) (H.c _) c4) ?_ (hg:=gq 5 rfl)
   refine .e rfl (fun H=>x_pkT (H.g 8 5) (H.g 13 10)) ?_
   refine .mv rfl 11 ?_
   refine .dk (fun u=>.agg #[x1,x2]::u1 0::u 12::sq u 0 12 []) K10 bel fun u2 w2 D bel=>?_
   have E2_12:=D.q 12
   clear D
   exact wp_ret (rt rfl E2_12 (zero_b c3 c4) bel)
 ·
  rcases Bool.eq_false_or_eq_true (x.im.num.sign == 0) with c11 | c11
  ·
   refine gs 2 (Amb S W) fun _ K12=>?_
   refine .bx rfl (fun H=>H.v 0 (.agg #[x1,x2])) ?_
   refine .mc rfl ?_
   refine .dk (fun u=>.agg #[x1,x2]::u 0::u 1::us 12) K12 bel fun u1 w1 D bel=>?_
   obtain ⟨b13,E1_0,A13,B13⟩:=D.nw 0
   have E1_1:=D.q 1
   replace F_x1:=D.gr (RatN x.re) F_x1
   replace F_x2:=D.gr (RatN x.im) F_x2
   clear D
   refine gs 13 (Amb S W) fun _ K14=>?_
   refine .fz rfl 1 0 E1_0 ?_
   refine .lc rfl 0 B13 ?_ (V:=x1)
   refine .cR rfl [] Tryz.func158 (fun H=>⟨_,ar1 (H.g 4 1),eRat _ (H.was _ [] F_x1)⟩) ?_
   refine .cK rfl Tryz.func109 (fun H=>⟨_,ar1 (H.r 5 2),qSign _ (SV.any (H.a 2 rfl))⟩) ?_
   refine .e rfl (V:=.bool false) (fun H=>x_cm (H.g 6 3) (H.c _) c3) ?_
   refine .mv rfl 4 ?_
   refine .sk rfl 5 ?_
   refine .sk rfl 5 ?_
   refine .sk rfl 5 ?_
   refine .sk rfl 5 ?_
   refine .sk rfl 5 ?_
   refine .e rfl (fun H=>x_pkF (H.g 8 5) (H.c _)) ?_
   refine .mv rfl 11 ?_
   refine .dk (fun u=>.agg #[x1,x2]::u1 0::u 12::sq u 0 12 []) K14 bel fun u2 w2 D bel=>?_
   have E2_12:=D.q 12
   clear D
   exact wp_ret (rt rfl E2_12 (zero_b c3 c11) bel)
  ·
   refine gs 2 (Amb S W) fun _ K15=>?_
   refine .bx rfl (fun H=>H.v 0 (.agg #[x1,x2])) ?_
   refine .mc rfl ?_
   refine .dk (fun u=>.agg #[x1,x2]::u 0::u 1::us 12) K15 bel fun u1 w1 D bel=>?_
   obtain ⟨b16,E1_0,A16,B16⟩:=D.nw 0
   have E1_1:=D.q 1
   replace F_x1:=D.gr (RatN x.re) F_x1
   replace F_x2:=D.gr (RatN x.im) F_x2
   clear D
   refine gs 13 (Amb S W) fun _ K17=>?_
   refine .fz rfl 1 0 E1_0 ?_
   refine .lc rfl 0 B16 ?_ (V:=x1)
   refine .cR rfl [] Tryz.func158 (fun H=>⟨_,ar1 (H.g 4 1),eRat _ (H.was _ [] F_x1)⟩) ?_
   refine .cK rfl Tryz.func109 (fun H=>⟨_,ar1 (H.r 5 2),qSign _ (SV.any (H.a 2 rfl))⟩) ?_
   refine .e rfl (V:=.bool false) (fun H=>x_cm (H.g 6 3) (H.c _) c3) ?_
   refine .mv rfl 4 ?_
   refine .sk rfl 5 ?_
   refine .sk rfl 5 ?_
   refine .sk rfl 5 ?_
   refine .sk rfl 5 ?_
   refine .sk rfl 5 ?_
   refine .e rfl (fun H=>x_pkF (H.g 8 5) (H.c _)) ?_
   refine .mv rfl 11 ?_
   refine .dk (fun u=>.agg #[x1,x2]::u1 0::u 12::sq u 0 12 []) K17 bel fun u2 w2 D bel=>?_
   have E2_12:=D.q 12
   clear D
   exact wp_ret (rt rfl E2_12 (zero_b c3 c11) bel)
theorem eAdd {v0:Value} {v1:Value} (x:Cx) (y:Cx) (t0:(NumP x).p S v0 W) (t1:(NumP y).p S v1 W) (p0:ht x.re + ht x.im + ht y.re + ht y.im ≤ 17179869184) :
  Calls Tryz.prog 92 #[v0,v1] W (Ret (NumP (x.add y)) S W):=by
 obtain ⟨x1,x2,rfl,F_x1,F_x2⟩:=t0
 replace F_x1:(RatN x.re).p (Amb S W) x1 W:=(RatN x.re).mono (fun _ _ h=>.inl h) F_x1
 replace F_x2:(RatN x.im).p (Amb S W) x2 W:=(RatN x.im).mono (fun _ _ h=>.inl h) F_x2
 obtain ⟨x3,x4,rfl,F_x3,F_x4⟩:=t1
 replace F_x3:(RatN y.re).p (Amb S W) x3 W:=(RatN y.re).mono (fun _ _ h=>.inl h) F_x3
 replace F_x4:(RatN y.im).p (Amb S W) x4 W:=(RatN y.im).mono (fun _ _ h=>.inl h) F_x4
 have bel:=b0 W
 go_enter Tryz.func92,Tryz.ntmps92
 refine gs 3 (Amb S W) fun _ K5=>?_
 refine .bx rfl (fun H=>H.v 0 (.agg #[x1,x2])) ?_
 refine .bx rfl (fun H=>H.v 1 (.agg #[x3,x4])) ?_
 refine .al rfl (#[.pointer none,.pointer none]) ?_
 refine .dk (fun u=>.agg #[x1,x2]::.agg #[x3,x4]::sq u 0 3 (us 17)) K5 bel fun u1 w1 D bel=>?_
 obtain ⟨b6,E1_0,A6,B6⟩:=D.nw 0
 obtain ⟨b7,E1_1,A7,B7⟩:=D.nw 1
 obtain ⟨b8,E1_2,A8,B8⟩:=D.nw 2
 have N6_8:=D.n2 0 2 E1_0 E1_2
 have N7_8:=D.n2 1 2 E1_1 E1_2
 replace F_x1:=D.gr (RatN x.re) F_x1
 replace F_x2:=D.gr (RatN x.im) F_x2
 replace F_x3:=D.gr (RatN y.re) F_x3
 replace F_x4:=D.gr (RatN y.im) F_x4
 clear D
 refine gd1 18 (Amb S W) 17 B8 fun _ K9=>?_
 refine .al rfl zQ ?_
 refine .fz rfl 2 0 E1_0 ?_
 refine .e rfl (V:=x1) (fun H=>x_ldc (H.g 6 1) (H.b1 B6 (Ne.symm N6_8))) ?_
 refine .cR rfl [] Tryz.func158 (fun H=>⟨_,ar1 (H.g 7 2),eRat _ (H.was _ [] F_x1)⟩) ?_
 refine .fz rfl 3 0 E1_1 ?_
 refine .e rfl (V:=x3) (fun H=>x_ldc (H.g 9 4) (H.b1 B7 (Ne.symm N7_8))) ?_
 refine .cR rfl [] Tryz.func158 (fun H=>⟨_,ar1 (H.g 10 5),eRat _ (H.was _ [] F_x3)⟩) ?_
 refine .cO rfl 0 Tryz.func94 (fun H h0 hz=>⟨_,ar3 (H.p 5 0 h0) (H.r 8 3) (H.r 11 6),qAdd _ _ (RatBlk.of hz) (SV.any (H.a 3 rfl)) (SV.any (H.a 6 rfl)) (by omega)⟩) ?_
 refine .al rfl zQ ?_
 refine .fz rfl 2 1 E1_0 ?_
 refine .e rfl (V:=x2) (fun H=>x_ldc (H.g 14 9) (H.b1 B6 (Ne.symm N6_8))) ?_
 refine .cR rfl [] Tryz.func158 (fun H=>⟨_,ar1 (H.g 15 10),eRat _ (H.was _ [] F_x2)⟩) ?_
 refine .fz rfl 3 1 E1_1 ?_
 refine .e rfl (V:=x4) (fun H=>x_ldc (H.g 17 12) (H.b1 B7 (Ne.symm N7_8))) ?_
 refine .cR rfl [] Tryz.func158 (fun H=>⟨_,ar1 (H.g 18 13),eRat _ (H.was _ [] F_x4)⟩) ?_
 refine .cO rfl 8 Tryz.func94 (fun H h0 hz=>⟨_,ar3 (H.p 13 8 h0) (H.r 16 11) (H.r 19 14),qAdd _ _ (RatBlk.of hz) (SV.any (H.a 11 rfl)) (SV.any (H.a 14 rfl)) (by omega)⟩) ?_
 refine Go2.fn (i:=16) rfl (G0 rfl) (SP.fnL 16 [7,15] (fun u=>.agg #[(u 7).v,(u 15).v]) (by intro u u' h; simp [h 7 (by simp),h 15 (by simp)])) (fun u μ ρ H=>⟨_,by have e12:=H.r 12 7; have e20:=H.r 20 15; obtain ⟨x7,h7⟩:=RatP.isPtr (Own.any (H.a 7 rfl)); obtain ⟨x15,h15⟩:=RatP.isPtr (Own.any (H.a 15 rfl)); clear H; go_simp,SP.fnL_upd (by decide)⟩) ?_
 refine Go2.storeOld (i:=17) 0 b8 rfl rfl rfl ⟨_,_,_,B8,rfl⟩ (SP.old 0 b8 [7,15] (fun u=>#[(u 7).v,(u 15).v]) 125 (by intro u u' h; simp [h 7 (by simp),h 15 (by simp)]) (lt_of B8) (by intro y k hy; match y,hy with | 0,hy=>rfl)) (fun u μ ρ H=>?_) ?_
 · have e4:=H.z 4 E1_2; have e21:=H.e 21 16 (by kernel_rfl) (H.a 16 rfl); have o7:=VP1.rat (Own.any (H.a 7 rfl)); have o15:=VP1.rat (Own.any (H.a 15 rfl)); have hb:=H.blkOld B8 0 17 rfl (.inl rfl)
   refine ⟨μ.setRow b8 #[(u 7).v,(u 15).v],ex_store_row 125 _ _ rfl e4 e21 hb (by kernel_rfl) rfl (by simp [o7,o15] <;> rfl),fun g=>?_,setRow_only _ _ _⟩
   show (World.setRow _ _ _).heap[b8]? = _
   rw [setRow_at hb]; try simp [upd]
 refine .d1 (fun u=>.agg #[x1,x2]::.agg #[x3,x4]::sq u1 0 3 (sq u 0 17 [])) K9 bel A8 fun u2 w2 D bel=>?_
 obtain ⟨b10,E2_7,A10,F10⟩:=D.ow 7
 obtain ⟨b11,E2_15,A11,F11⟩:=D.ow 15
 have N8_10:=D.n1 0 (lt_of B8) ((D.a 7 rfl).1.symm.trans E2_7)
 have N8_11:=D.n1 8 (lt_of B8) ((D.a 15 rfl).1.symm.trans E2_15)
 replace B8:w2.heap[b8]? = _:=(D.a 17 rfl)
 simp only [Value.cells,E2_7,E2_15] at B8
 have L10:Amb S W b10:=.inr A10
 have L11:Amb S W b11:=.inr A11
 clear D
 refine wp_ret ?_
 refine ret_ok rfl (by exact results_row rfl (by exact E1_2) B8 Tryz.underlying125 rfl (by kernel_rfl)) ⟨_,rfl,?_,bel⟩
 exact (NumP.mk (RatP.n (VP.at F10 L10)) (RatP.n (VP.at F11 L11)))
theorem eNMul {v0:Value} {v1:Value} (x:Cx) (y:Cx) (t0:(NumP x).p S v0 W) (t1:(NumP y).p S v1 W) (p0:ht x.re + ht x.im + ht y.re + ht y.im ≤ 17179869184) :
  Calls Tryz.prog 91 #[v0,v1] W (Ret (NumP (x.mul y)) S W):=by
 obtain ⟨x1,x2,rfl,F_x1,F_x2⟩:=t0
 replace F_x1:(RatN x.re).p (Amb S W) x1 W:=(RatN x.re).mono (fun _ _ h=>.inl h) F_x1
 replace F_x2:(RatN x.im).p (Amb S W) x2 W:=(RatN x.im).mono (fun _ _ h=>.inl h) F_x2
 obtain ⟨x3,x4,rfl,F_x3,F_x4⟩:=t1
 replace F_x3:(RatN y.re).p (Amb S W) x3 W:=(RatN y.re).mono (fun _ _ h=>.inl h) F_x3
 replace F_x4:(RatN y.im).p (Amb S W) x4 W:=(RatN y.im).mono (fun _ _ h=>.inl h) F_x4
 have h1:=ht_mul x.re y.re
 have h2:=ht_mul x.im y.im
 have h3:=ht_mul x.re y.im
 have h4:=ht_mul x.im y.re
 have bel:=b0 W
 go_enter Tryz.func91,Tryz.ntmps91
 refine gs 3 (Amb S W) fun _ K5=>?_
 refine .bx rfl (fun H=>H.v 0 (.agg #[x1,x2])) ?_
 refine .bx rfl (fun H=>H.v 1 (.agg #[x3,x4])) ?_
 refine .al rfl (#[.pointer none,.pointer none]) ?_
 refine .dk (fun u=>.agg #[x1,x2]::.agg #[x3,x4]::sq u 0 3 (us 25)) K5 bel fun u1 w1 D bel=>?_
 obtain ⟨b6,E1_0,A6,B6⟩:=D.nw 0
 obtain ⟨b7,E1_1,A7,B7⟩:=D.nw 1
 obtain ⟨b8,E1_2,A8,B8⟩:=D.nw 2
 have N6_8:=D.n2 0 2 E1_0 E1_2
 have N7_8:=D.n2 1 2 E1_1 E1_2
 replace F_x1:=D.gr (RatN x.re) F_x1
 replace F_x2:=D.gr (RatN x.im) F_x2
 replace F_x3:=D.gr (RatN y.re) F_x3
 replace F_x4:=D.gr (RatN y.im) F_x4
 clear D
 refine gd1 26 (Amb S W) 25 B8 fun _ K9=>?_
 refine .al rfl zQ ?_
 refine .fz rfl 2 0 E1_0 ?_
 refine .e rfl (V:=x1) (fun H=>x_ldc (H.g 6 1) (H.b1 B6 (Ne.symm N6_8))) ?_
 refine .fz rfl 3 0 E1_1 ?_
 refine .e rfl (V:=x3) (fun H=>x_ldc (H.g 8 3) (H.b1 B7 (Ne.symm N7_8))) ?_
 refine .cR rfl [] Tryz.func157 (fun H=>⟨_,ar2 (H.g 7 2) (H.g 9 4),eMul _ _ (H.was _ [] F_x1) (H.was _ [] F_x3) (by omega)⟩) ?_
 refine .fz rfl 2 1 E1_0 ?_
 refine .e rfl (V:=x2) (fun H=>x_ldc (H.g 11 6) (H.b1 B6 (Ne.symm N6_8))) ?_
 refine .fz rfl 3 1 E1_1 ?_
 refine .e rfl (V:=x4) (fun H=>x_ldc (H.g 13 8) (H.b1 B7 (Ne.symm N7_8))) ?_
 refine .cR rfl [] Tryz.func157 (fun H=>⟨_,ar2 (H.g 12 7) (H.g 14 9),eMul _ _ (H.was _ [] F_x2) (H.was _ [] F_x4) (by omega)⟩) ?_
 refine .cO rfl 0 Tryz.func125 (fun H h0 hz=>⟨_,ar3 (H.p 5 0 h0) (H.r 10 5) (H.r 15 10),qSub _ _ (RatBlk.of hz) (SV.any (H.a 5 rfl)) (SV.any (H.a 10 rfl)) (by omega)⟩) ?_
 refine .al rfl zQ ?_
 refine .fz rfl 2 0 E1_0 ?_
 refine .e rfl (V:=x1) (fun H=>x_ldc (H.g 18 13) (H.b1 B6 (Ne.symm N6_8))) ?_
 refine .fz rfl 3 1 E1_1 ?_
 refine .e rfl (V:=x4) (fun H=>x_ldc (H.g 20 15) (H.b1 B7 (Ne.symm N7_8))) ?_
 refine .cR rfl [] Tryz.func157 (fun H=>⟨_,ar2 (H.g 19 14) (H.g 21 16),eMul _ _ (H.was _ [] F_x1) (H.was _ [] F_x4) (by omega)⟩) ?_
 refine .fz rfl 2 1 E1_0 ?_
 refine .e rfl (V:=x2) (fun H=>x_ldc (H.g 23 18) (H.b1 B6 (Ne.symm N6_8))) ?_
 refine .fz rfl 3 0 E1_1 ?_
 refine .e rfl (V:=x3) (fun H=>x_ldc (H.g 25 20) (H.b1 B7 (Ne.symm N7_8))) ?_
 refine .cR rfl [] Tryz.func157 (fun H=>⟨_,ar2 (H.g 24 19) (H.g 26 21),eMul _ _ (H.was _ [] F_x2) (H.was _ [] F_x3) (by omega)⟩) ?_
 refine .cO rfl 12 Tryz.func94 (fun H h0 hz=>⟨_,ar3 (H.p 17 12 h0) (H.r 22 17) (H.r 27 22),qAdd _ _ (RatBlk.of hz) (SV.any (H.a 17 rfl)) (SV.any (H.a 22 rfl)) (by omega)⟩) ?_
 refine Go2.fn (i:=24) rfl (G0 rfl) (SP.fnL 24 [11,23] (fun u=>.agg #[(u 11).v,(u 23).v]) (by intro u u' h; simp [h 11 (by simp),h 23 (by simp)])) (fun u μ ρ H=>⟨_,by have e16:=H.r 16 11; have e28:=H.r 28 23; obtain ⟨x11,h11⟩:=RatP.isPtr (Own.any (H.a 11 rfl)); obtain ⟨x23,h23⟩:=RatP.isPtr (Own.any (H.a 23 rfl)); clear H; go_simp,SP.fnL_upd (by decide)⟩) ?_
 refine Go2.storeOld (i:=25) 0 b8 rfl rfl rfl ⟨_,_,_,B8,rfl⟩ (SP.old 0 b8 [11,23] (fun u=>#[(u 11).v,(u 23).v]) 125 (by intro u u' h; simp [h 11 (by simp),h 23 (by simp)]) (lt_of B8) (by intro y k hy; match y,hy with | 0,hy=>rfl)) (fun u μ ρ H=>?_) ?_
 · have e4:=H.z 4 E1_2; have e29:=H.e 29 24 (by kernel_rfl) (H.a 24 rfl); have o11:=VP1.rat (Own.any (H.a 11 rfl)); have o23:=VP1.rat (Own.any (H.a 23 rfl)); have hb:=H.blkOld B8 0 25 rfl (.inl rfl)
   refine ⟨μ.setRow b8 #[(u 11).v,(u 23).v],ex_store_row 125 _ _ rfl e4 e29 hb (by kernel_rfl) rfl (by simp [o11,o23] <;> rfl),fun g=>?_,setRow_only _ _ _⟩
   show (World.setRow _ _ _).heap[b8]? = _
   rw [setRow_at hb]; try simp [upd]
 refine .d1 (fun u=>.agg #[x1,x2]::.agg #[x3,x4]::sq u1 0 3 (sq u 0 25 [])) K9 bel A8 fun u2 w2 D bel=>?_
 obtain ⟨b10,E2_11,A10,F10⟩:=D.ow 11
 obtain ⟨b11,E2_23,A11,F11⟩:=D.ow 23
 have N8_10:=D.n1 0 (lt_of B8) ((D.a 11 rfl).1.symm.trans E2_11)
 have N8_11:=D.n1 12 (lt_of B8) ((D.a 23 rfl).1.symm.trans E2_23)
 replace B8:w2.heap[b8]? = _:=(D.a 25 rfl)
 simp only [Value.cells,E2_11,E2_23] at B8
 have L10:Amb S W b10:=.inr A10
 have L11:Amb S W b11:=.inr A11
 clear D
 refine wp_ret ?_
 refine ret_ok rfl (by exact results_row rfl (by exact E1_2) B8 Tryz.underlying125 rfl (by kernel_rfl)) ⟨_,rfl,?_,bel⟩
 exact (NumP.mk (RatP.n (VP.at F10 L10)) (RatP.n (VP.at F11 L11)))
theorem eScale {v0:Value} {v1:Value} (x:Cx) (r:Rat) (t0:(NumP x).p S v0 W) (t1:(RatN r).p S v1 W) (p0:ht x.re + ht x.im + ht r ≤ 34359738368) :
  Calls Tryz.prog 166 #[v0,v1] W (Ret (NumP (x.scale r)) S W):=by
 obtain ⟨x1,x2,rfl,F_x1,F_x2⟩:=t0
 replace F_x1:(RatN x.re).p (Amb S W) x1 W:=(RatN x.re).mono (fun _ _ h=>.inl h) F_x1
 replace F_x2:(RatN x.im).p (Amb S W) x2 W:=(RatN x.im).mono (fun _ _ h=>.inl h) F_x2
 have F_v1:(RatN r).p (Amb S W) v1 W:=(RatN r).mono (fun _ _ h=>.inl h) t1
 have bel:=b0 W
 go_enter Tryz.func166,Tryz.ntmps166
 refine gs 2 (Amb S W) fun _ K3=>?_
 refine .bx rfl (fun H=>H.v 0 (.agg #[x1,x2])) ?_
 refine .al rfl (#[.pointer none,.pointer none]) ?_
 refine .dk (fun u=>.agg #[x1,x2]::v1::u 0::U::u 1::us 9) K3 bel fun u1 w1 D bel=>?_
 obtain ⟨b4,E1_0,A4,B4⟩:=D.nw 0
 obtain ⟨b5,E1_1,A5,B5⟩:=D.nw 1
 have N4_5:=D.n2 0 1 E1_0 E1_1
 replace F_x1:=D.gr (RatN x.re) F_x1
 replace F_x2:=D.gr (RatN x.im) F_x2
 replace F_v1:=D.gr (RatN r) F_v1
 clear D
 refine gd1 10 (Amb S W) 9 B5 fun _ K6=>?_
 refine .fz rfl 2 0 E1_0 ?_
 refine .e rfl (V:=x1) (fun H=>x_ldc (H.g 5 0) (H.b1 B4 (Ne.symm N4_5))) ?_
 refine .mz rfl 1 (V:=v1) rfl ?_
 refine .cR rfl [] Tryz.func157 (fun H=>⟨_,ar2 (H.g 6 1) (H.g 7 2),eMul _ _ (H.was _ [] F_x1) (H.was _ [] F_v1) (by omega)⟩) ?_
 refine .fz rfl 2 1 E1_0 ?_
 refine .e rfl (V:=x2) (fun H=>x_ldc (H.g 9 4) (H.b1 B4 (Ne.symm N4_5))) ?_
 refine .mz rfl 1 (V:=v1) rfl ?_
 refine .cR rfl [] Tryz.func157 (fun H=>⟨_,ar2 (H.g 10 5) (H.g 11 6),eMul _ _ (H.was _ [] F_x2) (H.was _ [] F_v1) (by omega)⟩) ?_
 refine Go2.fn (i:=8) rfl (G0 rfl) (SP.fnL 8 [3,7] (fun u=>.agg #[(u 3).v,(u 7).v]) (by intro u u' h; simp [h 3 (by simp),h 7 (by simp)])) (fun u μ ρ H=>⟨_,by have e8:=H.r 8 3; have e12:=H.r 12 7; obtain ⟨x3,h3⟩:=RatP.isPtr (H.a 3 rfl); obtain ⟨x7,h7⟩:=RatP.isPtr (H.a 7 rfl); clear H; go_simp,SP.fnL_upd (by decide)⟩) ?_
 refine Go2.storeOld (i:=9) 0 b5 rfl rfl rfl ⟨_,_,_,B5,rfl⟩ (SP.old 0 b5 [3,7] (fun u=>#[(u 3).v,(u 7).v]) 125 (by intro u u' h; simp [h 3 (by simp),h 7 (by simp)]) (lt_of B5) (by intro y k hy; match y,hy with | 0,hy=>rfl)) (fun u μ ρ H=>?_) ?_
 · have e4:=H.z 4 E1_1; have e13:=H.e 13 8 (by kernel_rfl) (H.a 8 rfl); have o3:=VP1.rat (H.a 3 rfl); have o7:=VP1.rat (H.a 7 rfl); have hb:=H.blkOld B5 0 9 rfl (.inl rfl)
   refine ⟨μ.setRow b5 #[(u 3).v,(u 7).v],ex_store_row 125 _ _ rfl e4 e13 hb (by kernel_rfl) rfl (by simp [o3,o7] <;> rfl),fun g=>?_,setRow_only _ _ _⟩
   show (World.setRow _ _ _).heap[b5]? = _
   rw [setRow_at hb]; try simp [upd]
 refine .d1 (fun u=>.agg #[x1,x2]::v1::u1 0::U::u1 1::sq u 0 9 []) K6 bel A5 fun u2 w2 D bel=>?_
 obtain ⟨b7,E2_3,L7,F7⟩:=RatP.elim (D.rr 3)
 obtain ⟨b8,E2_7,L8,F8⟩:=RatP.elim (D.rr 7)
 replace B5:w2.heap[b5]? = _:=(D.a 9 rfl)
 simp only [Value.cells,E2_3,E2_7] at B5
 clear D
 refine wp_ret ?_
 refine ret_ok rfl (by exact results_row rfl (by exact E1_1) B5 Tryz.underlying125 rfl (by kernel_rfl)) ⟨_,rfl,?_,bel⟩
 exact (NumP.mk (RatP.n (VP.at F7 L7)) (RatP.n (VP.at F8 L8)))
theorem eNorm {v0:Value} (x:Cx) (t0:(NumP x).p S v0 W) (p0:ht x.re + ht x.im ≤ 8589934592) :
  Calls Tryz.prog 167 #[v0] W (Ret (RatP x.norm) S W):=by
 obtain ⟨x1,x2,rfl,F_x1,F_x2⟩:=t0
 replace F_x1:(RatN x.re).p (Amb S W) x1 W:=(RatN x.re).mono (fun _ _ h=>.inl h) F_x1
 replace F_x2:(RatN x.im).p (Amb S W) x2 W:=(RatN x.im).mono (fun _ _ h=>.inl h) F_x2
 have h1:=ht_mul x.re x.re
 have h2:=ht_mul x.im x.im
 have bel:=b0 W
 go_enter Tryz.func167,Tryz.ntmps167
 refine gs 2 (Amb S W) fun _ K3=>?_
 refine .bx rfl (fun H=>H.v 0 (.agg #[x1,x2])) ?_
 refine .mc rfl ?_
 refine .dk (fun u=>.agg #[x1,x2]::u 0::u 1::us 12) K3 bel fun u1 w1 D bel=>?_
 obtain ⟨b4,E1_0,A4,B4⟩:=D.nw 0
 have E1_1:=D.q 1
 replace F_x1:=D.gr (RatN x.re) F_x1
 replace F_x2:=D.gr (RatN x.im) F_x2
 clear D
 refine gd 13 (Amb S W) fun _ K5=>?_
 refine .al rfl zQ ?_
 refine .fz rfl 1 0 E1_0 ?_
 refine .lc rfl 1 B4 ?_ (V:=x1)
 refine .fz rfl 1 0 E1_0 ?_
 refine .lc rfl 3 B4 ?_ (V:=x1)
 refine .cR rfl [] Tryz.func157 (fun H=>⟨_,ar2 (H.g 5 2) (H.g 7 4),eMul _ _ (H.was _ [] F_x1) (H.was _ [] F_x1) (by omega)⟩) ?_
 refine .fz rfl 1 1 E1_0 ?_
 refine .lc rfl 6 B4 ?_ (V:=x2)
 refine .fz rfl 1 1 E1_0 ?_
 refine .lc rfl 8 B4 ?_ (V:=x2)
 refine .cR rfl [] Tryz.func157 (fun H=>⟨_,ar2 (H.g 10 7) (H.g 12 9),eMul _ _ (H.was _ [] F_x2) (H.was _ [] F_x2) (by omega)⟩) ?_
 refine .cO rfl 0 Tryz.func94 (fun H h0 hz=>⟨_,ar3 (H.p 3 0 h0) (H.r 8 5) (H.r 13 10),qAdd _ _ (RatBlk.of hz) (SV.any (H.a 5 rfl)) (SV.any (H.a 10 rfl)) (by omega)⟩) ?_
 refine .mo rfl 11 ?_
 refine .dk (fun u=>.agg #[x1,x2]::u1 0::u 12::sq u 0 12 []) K5 bel fun u2 w2 D bel=>?_
 obtain ⟨b6,E2_12,A6,F6⟩:=D.ow 12
 have L6:Amb S W b6:=.inr A6
 clear D
 refine wp_ret ?_
 refine ret_ok rfl (by exact results_tmp' rfl (by exact E2_12)) ⟨_,rfl,?_,bel⟩
 exact (VP.at F6 L6)
theorem eConj {v0:Value} (x:Cx) (t0:(NumP x).p S v0 W) (p0:ht x.re + ht x.im ≤ 8589934592) :
  Calls Tryz.prog 165 #[v0] W (Ret (NumP x.conj) S W):=by
 obtain ⟨x1,x2,rfl,F_x1,F_x2⟩:=t0
 replace F_x1:(RatN x.re).p (Amb S W) x1 W:=(RatN x.re).mono (fun _ _ h=>.inl h) F_x1
 replace F_x2:(RatN x.im).p (Amb S W) x2 W:=(RatN x.im).mono (fun _ _ h=>.inl h) F_x2
 have bel:=b0 W
 go_enter Tryz.func165,Tryz.ntmps165
 refine gs 2 (Amb S W) fun _ K3=>?_
 refine .bx rfl (fun H=>H.v 0 (.agg #[x1,x2])) ?_
 refine .al rfl (#[.pointer none,.pointer none]) ?_
 refine .dk (fun u=>.agg #[x1,x2]::u 0::u 1::us 9) K3 bel fun u1 w1 D bel=>?_
 obtain ⟨b4,E1_0,A4,B4⟩:=D.nw 0
 obtain ⟨b5,E1_1,A5,B5⟩:=D.nw 1
 have N4_5:=D.n2 0 1 E1_0 E1_1
 replace F_x1:=D.gr (RatN x.re) F_x1
 replace F_x2:=D.gr (RatN x.im) F_x2
 clear D
 refine gd1 10 (Amb S W) 9 B5 fun _ K6=>?_
 refine .fz rfl 1 0 E1_0 ?_
 refine .e rfl (V:=x1) (fun H=>x_ldc (H.g 3 0) (H.b1 B4 (Ne.symm N4_5))) ?_
 refine .cR rfl [] Tryz.func158 (fun H=>⟨_,ar1 (H.g 4 1),eRat _ (H.was _ [] F_x1)⟩) ?_
 refine .al rfl zQ ?_
 refine .fz rfl 1 1 E1_0 ?_
 refine .e rfl (V:=x2) (fun H=>x_ldc (H.g 7 4) (H.b1 B4 (Ne.symm N4_5))) ?_
 refine .cR rfl [] Tryz.func158 (fun H=>⟨_,ar1 (H.g 8 5),eRat _ (H.was _ [] F_x2)⟩) ?_
 refine .cO rfl 3 Tryz.func169 (fun H h0 hz=>⟨_,ar2 (H.p 6 3 h0) (H.r 9 6),qNeg (x:=_) (RatBlk.of hz) (SV.any (H.a 6 rfl)) (by omega)⟩) ?_
 refine Go2.fn (i:=8) rfl (G0 rfl) (SP.fnL 8 [2,7] (fun u=>.agg #[(u 2).v,(u 7).v]) (by intro u u' h; simp [h 2 (by simp),h 7 (by simp)])) (fun u μ ρ H=>⟨_,by have e5:=H.r 5 2; have e10:=H.r 10 7; obtain ⟨x2,h2⟩:=RatP.isPtr (H.a 2 rfl); obtain ⟨x7,h7⟩:=RatP.isPtr (Own.any (H.a 7 rfl)); clear H; go_simp,SP.fnL_upd (by decide)⟩) ?_
 refine Go2.storeOld (i:=9) 0 b5 rfl rfl rfl ⟨_,_,_,B5,rfl⟩ (SP.old 0 b5 [2,7] (fun u=>#[(u 2).v,(u 7).v]) 125 (by intro u u' h; simp [h 2 (by simp),h 7 (by simp)]) (lt_of B5) (by intro y k hy; match y,hy with | 0,hy=>rfl)) (fun u μ ρ H=>?_) ?_
 · have e2:=H.z 2 E1_1; have e11:=H.e 11 8 (by kernel_rfl) (H.a 8 rfl); have o2:=VP1.rat (H.a 2 rfl); have o7:=VP1.rat (Own.any (H.a 7 rfl)); have hb:=H.blkOld B5 0 9 rfl (.inl rfl)
   refine ⟨μ.setRow b5 #[(u 2).v,(u 7).v],ex_store_row 125 _ _ rfl e2 e11 hb (by kernel_rfl) rfl (by simp [o2,o7] <;> rfl),fun g=>?_,setRow_only _ _ _⟩
   show (World.setRow _ _ _).heap[b5]? = _
   rw [setRow_at hb]; try simp [upd]
 refine .d1 (fun u=>.agg #[x1,x2]::u1 0::u1 1::sq u 0 9 []) K6 bel A5 fun u2 w2 D bel=>?_
 obtain ⟨b7,E2_2,L7,F7⟩:=RatP.elim (D.rr 2)
 obtain ⟨b8,E2_7,A8,F8⟩:=D.ow 7
 have N5_8:=D.n1 3 (lt_of B5) ((D.a 7 rfl).1.symm.trans E2_7)
 replace B5:w2.heap[b5]? = _:=(D.a 9 rfl)
 simp only [Value.cells,E2_2,E2_7] at B5
 have L8:Amb S W b8:=.inr A8
 clear D
 refine wp_ret ?_
 refine ret_ok rfl (by exact results_row rfl (by exact E1_1) B5 Tryz.underlying125 rfl (by kernel_rfl)) ⟨_,rfl,?_,bel⟩
 exact (NumP.mk (RatP.n (VP.at F7 L7)) (RatP.n (VP.at F8 L8)))
theorem eFrac {v0:Value} (x:Rat) (t0:(RatN x).p S v0 W) (p0:ht x ≤ 68719476736) :
  Calls Tryz.prog 193 #[v0] W (RetV (.tuple #[.agg #[.bool (fcut x).a.n,.string (fcut x).a.s,.bool (fcut x).b.n,.string (fcut x).b.s],.int .i64 (ferr x)]) W):=by
 have F_v0:(RatN x).p (Amb S W) v0 W:=(RatN x).mono (fun _ _ h=>.inl h) t0
 have n0:=hi_num x
 have n2:=hi_den x
 have bel:=b0 W
 go_enter Tryz.func193,Tryz.ntmps193
 refine gs 2 (Amb S W) fun _ K1=>?_
 refine .al rfl zF ?_
 refine .mc rfl ?_
 refine .dk (fun u=>v0::U::u 0::u 1::us 29) K1 bel fun u1 w1 D bel=>?_
 obtain ⟨b2,E1_0,A2,B2⟩:=D.nw 0
 have E1_1:=D.q 1
 replace F_v0:=D.gr (RatN x) F_v0
 clear D
 refine wp_seq_k fun _ K3=>?_
 refine wp_region_list ?_
 refine wpT_val rfl (ex_move rfl) ?_
 refine wpT_callR (args:=#[v0]) (φ:=(RatP x)) (S:=Amb S W) rfl (ex_call rfl rfl Tryz.func158 (by kernel_rfl) (by kernel_rfl) (by simp only [List.map_toArray,List.map_cons,List.map_nil]; rfl)) (eRat (x:=x) F_v0 ) fun vw4 w4 fw4 ow4=>?_
 obtain ⟨b5,rfl,L5,F5⟩:=RatP.elim fw4
 replace L5:Amb S W b5:=L5.elim id (fun h=>.inr (Nat.le_trans bel.size h))
 replace B2:=(ow4.block b2 (lt_of B2)).trans B2
 replace F_v0:=(RatN x).grow (Rgn.Below.growS ow4 (Nat.le_refl _) _) F_v0
 replace bel:=bel.trans (ow4.mono bel.size)
 refine wpT_val rfl (ex_assign rfl) ?_
 refine wpList_nil ?_
 show _
 refine K3 _ _ ?_
 refine gs 8 (Amb S W) fun _ K6=>?_
 refine .mz rfl 0 (V:=pt b5) rfl ?_
 refine .cR rfl [] Tryz.func164 (fun H=>⟨_,ar1 (H.g 8 0),qNum _ (H.was _ [] (VP.at F5 L5)) (by omega)⟩) ?_
 refine .cR rfl [1] Tryz.func171 (fun H=>⟨_,ar1 (H.r 9 1),bBytes _ (IntO.p (SV.sub [1] (H.a 1 rfl) rfl)) (by omega)⟩) ?_
 refine .mz rfl 0 (V:=pt b5) rfl ?_
 refine .cR rfl [] Tryz.func69 (fun H=>⟨_,ar1 (H.g 11 3),qDenom _ (H.was _ [] (VP.at F5 L5)) (by omega)⟩) ?_
 refine .cR rfl [4] Tryz.func171 (fun H=>⟨_,ar1 (H.r 12 4),bBytes _ (IntO.p (SV.sub [4] (H.a 4 rfl) rfl)) (by omega)⟩) ?_
 refine .mn rfl 2 [1,2] ?_
 refine .mn rfl 5 [4,5] ?_
 refine .dk (fun u=>pt b5::U::u1 0::u1 1::u 6::u 7::v0::pt b5::sq u 0 6 (us 19)) K6 bel fun u3 w3 D bel=>?_
 obtain ⟨x7,E3_6,F_x7⟩:∃ x_,(u3 6).v = x_ ∧ (BytP x.num.natAbs).p (Amb S W) x_ w3:=⟨_,rfl,D.rr 6⟩
 obtain ⟨x8,E3_7,F_x8⟩:∃ x_,(u3 7).v = x_ ∧ (BytP ((x.den:Int).natAbs)).p (Amb S W) x_ w3:=⟨_,rfl,D.rr 7⟩
 replace B2:=D.k B2
 replace F5:=D.o L5 F5
 clear D
 refine wp_seq_k fun _ K9=>?_
 rcases Bool.eq_false_or_eq_true (decide (1024 < (((bS x.num.natAbs).size:Nat):Int))) with c11 | c11
 ·
  have dc11:=of_decide_eq_true c11
  refine gs 8 (Amb S W) fun _ K10=>?_
  refine .mz rfl 4 E3_6 ?_
  refine .e rfl (V:=.int .i64 (((bS x.num.natAbs).size:Nat):Int)) (fun H=>by have e_:=(H.g 14 0); obtain ⟨_,_,_,_,_,hv_,_⟩:=(show Byts _ _ _ from (VP.any _ (H.was _ [] F_x7))); rw [hv_] at e_; rw [bS_len]; clear H; go_simp) ?_
  refine .e rfl (V:=.bool true) (fun H=>x_cm (H.g 15 1) (H.c _) c11) ?_
  refine .mv rfl 2 ?_
  refine .sk rfl 3 ?_
  refine .sk rfl 3 ?_
  refine .sk rfl 3 ?_
  refine .e rfl (fun H=>x_pkT (H.g 17 3) (H.c _)) ?_
  refine .dk (fun u=>pt b5::U::u1 0::u1 1::u3 6::u3 7::v0::pt b5::sq u3 0 6 (sq u 0 8 (us 11))) K10 bel fun u4 w4 D bel=>?_
  have E4_7:=D.q 7
  replace B2:=D.k B2
  replace F5:=D.o L5 F5
  replace F_x7:=D.gr (BytP x.num.natAbs) F_x7
  replace F_x8:=D.gr (BytP ((x.den:Int).natAbs)) F_x8
  clear D
  refine wp_cond_true (by exact E4_7) ?_
  refine gs1 3 (Amb S W) 1 B2 fun _ K12=>?_
  refine .e rfl (V:=.agg zF) (fun H=>by clear H; go_simp) ?_
  refine .s1 rfl B2 (fun H=>⟨H.z 2 E1_0,H.g 22 0⟩) ?_
  refine .mc rfl ?_
  refine .d1 (fun u=>pt b5::U::u1 0::u 2::u3 6::u3 7::v0::pt b5::sq u3 0 6 (sq u4 0 8 (u 0::us 10))) K12 bel A2 fun u5 w5 D bel=>?_
  have E5_2:=D.q 2
  replace B2:=D.ol 1
  clear D
  refine wp_ret ?_
  refine ret_ok rfl (by exact results_mix rfl (by exact E1_0) B2 Tryz.underlying28 rfl (by kernel_rfl) (by exact E5_2)) (RetV.mk ?_ bel)
  exact congrArg Ending.returned (fcut_no (fcut_2 c11))
 ·
  have dc11:=of_decide_eq_false c11
  refine gs 8 (Amb S W) fun _ K10=>?_
  refine .mz rfl 4 E3_6 ?_
  refine .e rfl (V:=.int .i64 (((bS x.num.natAbs).size:Nat):Int)) (fun H=>by have e_:=(H.g 14 0); obtain ⟨_,_,_,_,_,hv_,_⟩:=(show Byts _ _ _ from (VP.any _ (H.was _ [] F_x7))); rw [hv_] at e_; rw [bS_len]; clear H; go_simp) ?_
  refine .e rfl (V:=.bool false) (fun H=>x_cm (H.g 15 1) (H.c _) c11) ?_
  refine .mv rfl 2 ?_
  refine .mz rfl 5 E3_7 ?_ (hg:=gq 3 rfl)
  refine .e rfl (V:=.int .i64 (((bS ((x.den:Int).natAbs)).size:Nat):Int)) (fun H=>by have e_:=(H.g 18 4); obtain ⟨_,_,_,_,_,hv_,_⟩:=(show Byts _ _ _ from (VP.any _ (H.was _ [] F_x8))); rw [hv_] at e_; rw [bS_len]; clear H; go_simp) ?_ (hg:=gq 3 rfl)
  refine .e rfl (V:=.bool (decide (1024 < (((bS ((x.den:Int).natAbs)).size:Nat):Int)))) (fun H=>x_cmp (H.g 19 5) (H.c _)) ?_ (hg:=gq 3 rfl)
  refine .e rfl (fun H=>x_pkF (H.g 17 3) (H.g 20 6)) ?_
  refine .dk (fun u=>pt b5::U::u1 0::u1 1::u3 6::u3 7::v0::pt b5::sq u3 0 6 (sq u 0 8 (us 11))) K10 bel fun u4 w4 D bel=>?_
  have E4_7:=D.q 7
  replace B2:=D.k B2
  replace F5:=D.o L5 F5
  replace F_x7:=D.gr (BytP x.num.natAbs) F_x7
  replace F_x8:=D.gr (BytP ((x.den:Int).natAbs)) F_x8
  clear D
  rcases Bool.eq_false_or_eq_true (decide (1024 < (((bS ((x.den:Int).natAbs)).size:Nat):Int))) with c13 | c13
  ·
   refine wp_cond_true ((E4_7).trans (congrArg Value.bool c13)) ?_
   have dc13:=of_decide_eq_true c13
   refine gs1 3 (Amb S W) 1 B2 fun _ K14=>?_
   refine .e rfl (V:=.agg zF) (fun H=>by clear H; go_simp) ?_
   refine .s1 rfl B2 (fun H=>⟨H.z 2 E1_0,H.g 22 0⟩) ?_
   refine .mc rfl ?_
   refine .d1 (fun u=>pt b5::U::u1 0::u 2::u3 6::u3 7::v0::pt b5::sq u3 0 6 (sq u4 0 8 (u 0::us 10))) K14 bel A2 fun u5 w5 D bel=>?_
   have E5_2:=D.q 2
   replace B2:=D.ol 1
   clear D
   refine wp_ret ?_
   refine ret_ok rfl (by exact results_mix rfl (by exact E1_0) B2 Tryz.underlying28 rfl (by kernel_rfl) (by exact E5_2)) (RetV.mk ?_ bel)
   exact congrArg Ending.returned (fcut_no (fcut_3 c13))
  ·
   refine wp_cond_false ((E4_7).trans (congrArg Value.bool c13)) ?_
   have dc13:=of_decide_eq_false c13
   refine wp_skip ?_
   refine K9 _ _ ?_
   refine gd1 12 (Amb S W) 10 B2 fun _ K15=>?_
   refine .mz rfl 0 (V:=pt b5) rfl ?_
   refine .cK rfl Tryz.func109 (fun H=>⟨_,ar1 (H.g 23 0),qSign _ (VP.any _ (H.was _ [] (VP.at F5 L5)))⟩) ?_
   refine .e rfl (V:=.bool (decide (x.num.sign < 0))) (fun H=>x_cmp (H.g 24 1) (H.c _)) ?_
   refine .mz rfl 4 E3_6 ?_
   refine Go2.eq (i:=4) rfl (G0 rfl) (V:=.string (bS x.num.natAbs)) (by intro u μ ρ H; exact ex_conv rfl (H.g 26 3) (Byts.str (VP.any _ (H.was _ [] F_x7)))) ?_
   refine .e rfl (V:=.agg #[.bool (decide (x.num.sign < 0)),.string (bS x.num.natAbs)]) (fun H=>by have e25:=H.g 25 2; have e27:=H.g 27 4; clear H; go_simp) ?_
   refine .mz rfl 5 E3_7 ?_
   refine Go2.eq (i:=7) rfl (G0 rfl) (V:=.string (bS ((x.den:Int).natAbs))) (by intro u μ ρ H; exact ex_conv rfl (H.g 29 6) (Byts.str (VP.any _ (H.was _ [] F_x8)))) ?_
   refine .e rfl (V:=.agg #[.bool false,.string (bS ((x.den:Int).natAbs))]) (fun H=>by have e30:=H.g 30 7; clear H; go_simp) ?_
   refine .e rfl (V:=.agg #[.bool (decide (x.num.sign < 0)),.string (bS x.num.natAbs),.bool false,.string (bS ((x.den:Int).natAbs))]) (fun H=>by have e28:=H.g 28 5; have e31:=H.g 31 8; clear H; go_simp) ?_
   refine .s1 rfl B2 (fun H=>⟨H.z 2 E1_0,H.g 32 9⟩) ?_
   refine .mc rfl ?_
   refine .d1 (fun u=>pt b5::U::u1 0::u 11::u3 6::u3 7::v0::pt b5::sq u3 0 6 (sq u4 0 8 (U::sq u 0 10 []))) K15 bel A2 fun u6 w6 D bel=>?_
   have E6_11:=D.q 11
   replace B2:=D.ol 10
   clear D
   refine wp_ret ?_
   refine ret_ok rfl (by exact results_mix rfl (by exact E1_0) B2 Tryz.underlying28 rfl (by kernel_rfl) (by exact E6_11)) (RetV.mk ?_ bel)
   exact congrArg Ending.returned (ecut_yes (fcut_1 c11 c13))
theorem eInt (m:Int) (n:Int) (p0:-9223372036854775808 ≤ m) (p1:m ≤ 9223372036854775807) (p2:-9223372036854775808 ≤ n) (p3:n ≤ 9223372036854775807) :
  Calls Tryz.prog 99 #[.int .i64 m,.int .i64 n] W (Ret (NumP (Cx.ofInt m n)) S W):=by
 have bel:=b0 W
 go_enter Tryz.func99,Tryz.ntmps99
 refine gs 1 (Amb S W) fun _ K1=>?_
 refine .al rfl (#[.pointer none,.pointer none]) ?_
 refine .dk (fun u=>.int .i64 m::.int .i64 n::U::U::u 0::us 5) K1 bel fun u1 w1 D bel=>?_
 obtain ⟨b2,E1_0,A2,B2⟩:=D.nw 0
 clear D
 refine gs1 6 (Amb S W) 5 B2 fun _ K3=>?_
 refine .mz rfl 0 (V:=.int .i64 m) rfl ?_
 refine .cR rfl [] Tryz.func136 (fun H=>⟨_,ar2 (H.g 5 0) (H.c (.int .i64 1)),qNewRat _ _ (by omega) (by omega) (by omega) (by omega) (by omega)⟩) ?_
 refine .mz rfl 1 (V:=.int .i64 n) rfl ?_
 refine .cR rfl [] Tryz.func136 (fun H=>⟨_,ar2 (H.g 7 2) (H.c (.int .i64 1)),qNewRat _ _ (by omega) (by omega) (by omega) (by omega) (by omega)⟩) ?_
 refine Go2.fn (i:=4) rfl (G0 rfl) (SP.fnL 4 [1,3] (fun u=>.agg #[(u 1).v,(u 3).v]) (by intro u u' h; simp [h 1 (by simp),h 3 (by simp)])) (fun u μ ρ H=>⟨_,by have e6:=H.r 6 1; have e8:=H.r 8 3; obtain ⟨x1,h1⟩:=RatP.isPtr (H.a 1 rfl); obtain ⟨x3,h3⟩:=RatP.isPtr (H.a 3 rfl); clear H; go_simp,SP.fnL_upd (by decide)⟩) ?_
 refine Go2.storeOld (i:=5) 0 b2 rfl rfl rfl ⟨_,_,_,B2,rfl⟩ (SP.old 0 b2 [1,3] (fun u=>#[(u 1).v,(u 3).v]) 125 (by intro u u' h; simp [h 1 (by simp),h 3 (by simp)]) (lt_of B2) (by intro y k hy; match y,hy with | 0,hy=>rfl)) (fun u μ ρ H=>?_) ?_
 · have e4:=H.z 4 E1_0; have e9:=H.e 9 4 (by kernel_rfl) (H.a 4 rfl); have o1:=VP1.rat (H.a 1 rfl); have o3:=VP1.rat (H.a 3 rfl); have hb:=H.blkOld B2 0 5 rfl (.inl rfl)
   refine ⟨μ.setRow b2 #[(u 1).v,(u 3).v],ex_store_row 125 _ _ rfl e4 e9 hb (by kernel_rfl) rfl (by simp [o1,o3] <;> rfl),fun g=>?_,setRow_only _ _ _⟩
   show (World.setRow _ _ _).heap[b2]? = _
   rw [setRow_at hb]; try simp [upd]
 refine .d1 (fun u=>.int .i64 m::.int .i64 n::U::U::u1 0::sq u 0 5 []) K3 bel A2 fun u2 w2 D bel=>?_
 obtain ⟨b4,E2_1,L4,F4⟩:=RatP.elim (D.rr 1)
 obtain ⟨b5,E2_3,L5,F5⟩:=RatP.elim (D.rr 3)
 replace B2:w2.heap[b2]? = _:=(D.a 5 rfl)
 simp only [Value.cells,E2_1,E2_3] at B2
 clear D
 refine wp_ret ?_
 refine ret_ok rfl (by exact results_row rfl (by exact E1_0) B2 Tryz.underlying125 rfl (by kernel_rfl)) ⟨_,rfl,?_,bel⟩
 exact num_eq (num_int m n) (NumP.mk (RatP.n (VP.at F4 L4)) (RatP.n (VP.at F5 L5)))
theorem eWhole (x:Int) (p0:hi x ≤ 1099511627000) :
  Calls Tryz.prog 217 #[wV x] W (Ret (IntO x) S W):=by
 have q0:=hi_bl x
 have q1:=hi_nat x.natAbs
 have bel:=b0 W
 go_enter Tryz.func217,Tryz.ntmps217
 refine gs 2 (Amb S W) fun _ K1=>?_
 refine .bx rfl (fun H=>H.v 0 (wV x)) ?_
 refine .mc rfl ?_
 refine .dk (fun u=>wV x::u 0::u 1::us 12) K1 bel fun u1 w1 D bel=>?_
 obtain ⟨b2,E1_0,A2,B2⟩:=D.nw 0
 have E1_1:=D.q 1
 clear D
 refine gs 6 (Amb S W) fun _ K3=>?_
 refine .al rfl zI ?_
 refine .fz rfl 1 1 E1_0 ?_
 refine .lc rfl 1 B2 ?_ (V:=.string (bS x.natAbs))
 refine Go2.grow (i:=3) rfl (G0 rfl) (.val 3 [] (BytP x.natAbs)) (fun u μ ρ H=>by have e6:=H.g 6 2; obtain ⟨v_,w_,hr_,hm_,hb_⟩:=conv_byt x.natAbs μ (by omega); exact ⟨v_,w_,ex_conv rfl e6 hr_,SP.bytVal hm_,hb_⟩) ?_
 refine .cO rfl 0 Tryz.func199 (fun H h0 hz=>⟨_,ar2 (H.p 4 0 h0) (H.r 7 3),bSetBytes (n:=_) (IntBlk.of hz) (SV.any (H.a 3 rfl)) (by omega)⟩) ?_
 refine .mo rfl 4 ?_
 refine .dk (fun u=>wV x::u1 0::u1 1::u 5::sq u 0 5 (us 6)) K3 bel fun u2 w2 D bel=>?_
 obtain ⟨b4,E2_5,A4,F4⟩:=D.ow 5
 have N2_4:=D.n1 0 (lt_of B2) ((D.a 5 rfl).1.symm.trans E2_5)
 replace B2:=D.k B2
 have L4:Amb S W b4:=.inr A4
 clear D
 refine wp_seq_k fun _ K5=>?_
 refine gs 2 (Amb S W) fun _ K6=>?_
 refine .fz rfl 1 0 E1_0 ?_
 refine .lc rfl 0 B2 ?_ (V:=.bool (decide (x < 0)))
 refine .dk (fun u=>wV x::u1 0::u1 1::u2 5::sq u2 0 5 (u 0::u 1::us 4)) K6 bel fun u3 w3 D bel=>?_
 have E3_1:=D.q 1
 replace F4:=D.o L4 F4
 clear D
 rcases Bool.eq_false_or_eq_true (decide (x < 0)) with c7 | c7
 ·
  refine wp_cond_true ((E3_1).trans (congrArg Value.bool c7)) ?_
  have dc7:=of_decide_eq_true c7
  refine go2_seqT 2 1 rfl (Amb S W) [] [] (Olds.nil _) (by kernel_rfl) ?_
  refine .mz rfl 3 E2_5 ?_
  refine .mz rfl 3 E2_5 ?_
  refine .dT (fun u=>wV x::u1 0::u1 1::u2 5::sq u2 0 5 (u3 0::u3 1::sq u 0 3 (U::[]))) bel.size _ rfl fun u4 w4 D=>?_
  have E4_0:=D.q 0
  have E4_1:=D.q 1
  replace F4:=D.o L4 F4
  replace bel:=D.d.base.bel0 bel bel.size
  clear D
  refine wpT_callO (args:=#[pt b4,pt b4]) rfl (ex_call rfl rfl Tryz.func195 (by kernel_rfl) (by kernel_rfl) (by simp only [List.map_toArray,List.map_cons,List.map_nil]; show #[(u4 0).v,(u4 1).v] = #[pt b4,pt b4]; rw [E4_0,E4_1])) (bNeg (z:=b4) (x:=(x.natAbs:Int)) (IntO.blk F4) (IntO.p (VP.any _ F4)) (by omega)) fun w8 fw8 ow8=>?_
  have sw8:Soft w4 b4 ∨ Local w4 b4:=.inl (IntO.soft F4)
  have F4:=fw8
  have L4:Amb S W b4:=.inr A4
  replace bel:=bel.trans (only_below' ow8 A4 bel.size)
  refine wpList_nil ?_
  show _
  refine K5 _ _ ?_
  refine gs 2 (Amb S W) fun _ K9=>?_
  refine .mz rfl 3 E2_5 ?_
  refine .mv rfl 0 ?_
  refine .dk (fun u=>wV x::u1 0::u 1::u2 5::sq u2 0 5 (u3 0::u3 1::u4 0::u4 1::.pointer (some ⟨b4,0,none⟩)::u 0::[])) K9 bel fun u5 w5 D bel=>?_
  have E5_1:=D.q 1
  replace F4:=D.o L4 F4
  clear D
  refine wp_ret ?_
  refine ret_ok rfl (by exact results_tmp' rfl (by exact E5_1)) ⟨_,rfl,?_,bel⟩
  exact into_eq (num_n dc7) (VP.at F4 L4)
 ·
  refine wp_cond_false ((E3_1).trans (congrArg Value.bool c7)) ?_
  have dc7:=of_decide_eq_false c7
  refine wp_skip ?_
  refine K5 _ _ ?_
  refine gs 2 (Amb S W) fun _ K10=>?_
  refine .mz rfl 3 E2_5 ?_
  refine .mv rfl 0 ?_
  refine .dk (fun u=>wV x::u1 0::u 1::u2 5::sq u2 0 5 (u3 0::u3 1::U::U::U::u 0::[])) K10 bel fun u6 w6 D bel=>?_
  have E6_1:=D.q 1
  replace F4:=D.o L4 F4
  clear D
  refine wp_ret ?_
  refine ret_ok rfl (by exact results_tmp' rfl (by exact E6_1)) ⟨_,rfl,?_,bel⟩
  exact into_eq (num_p dc7) (VP.at F4 L4)
theorem eDiv {v0:Value} {v1:Value} (x:Cx) (y:Cx) (t0:(NumP x).p S v0 W) (t1:(NumP y).p S v1 W) (p0:ht x.re + ht x.im + ht y.re + ht y.im ≤ 1073741824) (p1:y.norm ≠ 0) :
  Calls Tryz.prog 107 #[v0,v1] W (Ret (NumP (x.div y)) S W):=by
 obtain ⟨x1,x2,rfl,F_x1,F_x2⟩:=t0
 replace F_x1:(RatN x.re).p (Amb S W) x1 W:=(RatN x.re).mono (fun _ _ h=>.inl h) F_x1
 replace F_x2:(RatN x.im).p (Amb S W) x2 W:=(RatN x.im).mono (fun _ _ h=>.inl h) F_x2
 obtain ⟨x3,x4,rfl,F_x3,F_x4⟩:=t1
 replace F_x3:(RatN y.re).p (Amb S W) x3 W:=(RatN y.re).mono (fun _ _ h=>.inl h) F_x3
 replace F_x4:(RatN y.im).p (Amb S W) x4 W:=(RatN y.im).mono (fun _ _ h=>.inl h) F_x4
 have h1:=hc_conj y
 have h2:=hc_mul x y.conj
 have h3:=hc_norm y
 have h4:=ht_inv y.norm
 have bel:=b0 W
 go_enter Tryz.func107,Tryz.ntmps107
 refine gs 3 (Amb S W) fun _ K5=>?_
 refine .bx rfl (fun H=>H.v 0 (.agg #[x1,x2])) ?_
 refine .bx rfl (fun H=>H.v 1 (.agg #[x3,x4])) ?_
 refine .al rfl (#[.pointer none,.pointer none]) ?_
 refine .dk (fun u=>.agg #[x1,x2]::.agg #[x3,x4]::sq u 0 3 (us 9)) K5 bel fun u1 w1 D bel=>?_
 obtain ⟨b6,E1_0,A6,B6⟩:=D.nw 0
 obtain ⟨b7,E1_1,A7,B7⟩:=D.nw 1
 obtain ⟨b8,E1_2,A8,B8⟩:=D.nw 2
 have N6_8:=D.n2 0 2 E1_0 E1_2
 have N7_8:=D.n2 1 2 E1_1 E1_2
 replace F_x1:=D.gr (RatN x.re) F_x1
 replace F_x2:=D.gr (RatN x.im) F_x2
 replace F_x3:=D.gr (RatN y.re) F_x3
 replace F_x4:=D.gr (RatN y.im) F_x4
 clear D
 refine gd1 10 (Amb S W) 9 B8 fun _ K9=>?_
 refine .e rfl (fun H=>x_ldr (H.z 2 E1_0) (H.b1 B6 (Ne.symm N6_8))) ?_
 refine .e rfl (fun H=>x_ldr (H.z 3 E1_1) (H.b1 B7 (Ne.symm N7_8))) ?_
 refine .cR rfl [] Tryz.func165 (fun H=>⟨_,ar1 (H.g 6 1),eConj _ (NumP.mk (H.was _ [] F_x3) (H.was _ [] F_x4)) (by first | omega | exact p1)⟩) ?_
 refine .cR rfl [2] Tryz.func91 (fun H=>⟨_,ar2 (H.g 5 0) (H.r 7 2),eNMul _ _ (NumP.mk (H.was _ [2] F_x1) (H.was _ [2] F_x2)) (SV.sub [2] (H.a 2 rfl) rfl) (by first | omega | exact p1)⟩) ?_
 refine .al rfl zQ ?_
 refine .e rfl (fun H=>x_ldr (H.z 3 E1_1) (H.b1 B7 (Ne.symm N7_8))) ?_
 refine .cR rfl [] Tryz.func167 (fun H=>⟨_,ar1 (H.g 10 5),eNorm _ (NumP.mk (H.was _ [] F_x3) (H.was _ [] F_x4)) (by first | omega | exact p1)⟩) ?_
 refine .cO rfl 4 Tryz.func112 (fun H h0 hz=>⟨_,ar2 (H.p 9 4 h0) (H.r 11 6),qInv _ (RatBlk.of hz) (SV.any (H.a 6 rfl)) (by first | omega | exact p1) (by first | omega | exact p1)⟩) ?_
 refine .cR rfl [2,3,4,7] Tryz.func166 (fun H=>⟨_,ar2 (H.r 8 3) (H.r 12 7),eScale _ _ (SV.sub [2,3,4,7] (H.a 3 rfl) rfl) (RatP.n (Own.use (H.a 7 rfl) (H.a 4 rfl) [2,3,4,7] rfl)) (by first | omega | exact p1)⟩) ?_
 refine Go2.storeOld (i:=9) 0 b8 rfl rfl rfl ⟨_,_,_,B8,rfl⟩ (SP.old 0 b8 [8] (fun u=>#[((u 8).v.cells.getD 0 undef),((u 8).v.cells.getD 1 undef)]) 125 (by intro u u' h; simp [h 8 (by simp)]) (lt_of B8) (by intro y k hy; match y,hy with | 0,hy=>rfl)) (fun u μ ρ H=>?_) ?_
 · have e4:=H.z 4 E1_2; have e13:=H.r 13 8; have hb:=H.blkOld B8 0 9 rfl (.inl rfl)
   obtain ⟨x1,x2,h1,h2,h3⟩:=(H.a 8 rfl)
   have o1:=VP1.ratn h2
   have o2:=VP1.ratn h3
   rw [h1] at e13
   refine ⟨μ.setRow b8 #[x1,x2],ex_store_row 125 _ _ rfl e4 e13 hb (by kernel_rfl) rfl (by simp [o1,o2]),fun g=>?_,setRow_only _ _ _⟩
   show (World.setRow _ _ _).heap[b8]? = _
   rw [setRow_at hb]; try simp [upd,h1,Value.cells]
 refine .d1 (fun u=>.agg #[x1,x2]::.agg #[x3,x4]::sq u1 0 3 (sq u 0 9 [])) K9 bel A8 fun u2 w2 D bel=>?_
 obtain ⟨x10,x11,E2_8,F_x10,F_x11⟩:=(D.rr 8)
 replace B8:w2.heap[b8]? = _:=(D.a 9 rfl)
 simp only [Value.cells,E2_8] at B8
 clear D
 refine wp_ret ?_
 refine ret_ok rfl (by exact results_row rfl (by exact E1_2) B8 Tryz.underlying125 rfl (by kernel_rfl)) ⟨_,rfl,?_,bel⟩
 exact num_eq (cx_over x y) (NumP.mk F_x10 F_x11)
theorem eTold {v0:Value} (x:Cx) (t0:(NumP x).p S v0 W) (p0:ht x.re + ht x.im ≤ 68719476736) :
  Calls Tryz.prog 155 #[v0] W (RetV (.tuple #[.agg #[.bool (gcut x).re.a.n,.string (gcut x).re.a.s,.bool (gcut x).re.b.n,.string (gcut x).re.b.s,.bool (gcut x).im.a.n,.string (gcut x).im.a.s,.bool (gcut x).im.b.n,.string (gcut x).im.b.s],.int .i64 (gerr x)]) W):=by
 obtain ⟨x1,x2,rfl,F_x1,F_x2⟩:=t0
 replace F_x1:(RatN x.re).p (Amb S W) x1 W:=(RatN x.re).mono (fun _ _ h=>.inl h) F_x1
 replace F_x2:(RatN x.im).p (Amb S W) x2 W:=(RatN x.im).mono (fun _ _ h=>.inl h) F_x2
 have bel:=b0 W
 go_enter Tryz.func155,Tryz.ntmps155
 refine gs 3 (Amb S W) fun _ K3=>?_
 refine .bx rfl (fun H=>H.v 0 (.agg #[x1,x2])) ?_
 refine .al rfl zG ?_
 refine .mc rfl ?_
 refine .dk (fun u=>.agg #[x1,x2]::sq u 0 3 (us 26)) K3 bel fun u1 w1 D bel=>?_
 obtain ⟨b4,E1_0,A4,B4⟩:=D.nw 0
 obtain ⟨b5,E1_1,A5,B5⟩:=D.nw 1
 have E1_2:=D.q 2
 have N4_5:=D.n2 0 1 E1_0 E1_1
 replace F_x1:=D.gr (RatN x.re) F_x1
 replace F_x2:=D.gr (RatN x.im) F_x2
 clear D
 refine gs 9 (Amb S W) fun _ K6=>?_
 refine .fz rfl 1 0 E1_0 ?_
 refine .lc rfl 0 B4 ?_ (V:=x1)
 refine .cK rfl Tryz.func193 (fun H=>⟨_,ar1 (H.g 10 1),eFrac _ (VP.any _ (H.was _ [] F_x1)) (by omega)⟩) ?_
 refine .mv rfl 2 ?_
 refine .e rfl (V:=rfV (fcut x.re)) (fun H=>x_ex (H.g 8 3)) ?_
 refine .e rfl (V:=.int .i64 (ferr x.re)) (fun H=>x_ex (H.g 8 3)) ?_
 refine .al rfl zF ?_
 refine .so rfl 6 (fun H=>⟨H.r 4 6,H.g 12 4⟩) ?_
 refine .mv rfl 5 ?_
 refine .dk (fun u=>.agg #[x1,x2]::sq u1 0 3 (u 6::u 8::U::U::u 3::sq u 0 3 (u 4::u 5::us 16))) K6 bel fun u2 w2 D bel=>?_
 obtain ⟨b7,E2_6,A7,B7⟩:=D.st 7
 have E2_8:=D.q 8
 have N5_7:=D.n1 6 (lt_of B5) E2_6
 replace B4:=D.k B4
 replace B5:=D.k B5
 replace F_x1:=D.gr (RatN x.re) F_x1
 replace F_x2:=D.gr (RatN x.im) F_x2
 clear D
 refine gs 9 (Amb S W) fun _ K8=>?_
 refine .fz rfl 1 1 E1_0 ?_
 refine .lc rfl 0 B4 ?_ (V:=x2)
 refine .cK rfl Tryz.func193 (fun H=>⟨_,ar1 (H.g 16 1),eFrac _ (VP.any _ (H.was _ [] F_x2)) (by omega)⟩) ?_
 refine .mv rfl 2 ?_
 refine .e rfl (V:=rfV (fcut x.im)) (fun H=>x_ex (H.g 14 3)) ?_
 refine .e rfl (V:=.int .i64 (ferr x.im)) (fun H=>x_ex (H.g 14 3)) ?_
 refine .al rfl zF ?_
 refine .so rfl 6 (fun H=>⟨H.r 6 6,H.g 18 4⟩) ?_
 refine .mv rfl 5 ?_
 refine .dk (fun u=>.agg #[x1,x2]::sq u1 0 3 (u2 6::u2 8::u 6::u 8::u2 3::sq u2 0 3 (u2 4::u2 5::u 3::sq u 0 3 (u 4::u 5::us 10)))) K8 bel fun u3 w3 D bel=>?_
 obtain ⟨b9,E3_6,A9,B9⟩:=D.st 7
 have E3_8:=D.q 8
 have N5_9:=D.n1 6 (lt_of B5) E3_6
 replace B5:=D.k B5
 replace B7:=D.k B7
 clear D
 refine wp_seq_k fun _ K10=>?_
 rcases Bool.eq_false_or_eq_true ((ferr x.re) != 0) with c12 | c12
 ·
  refine gs 6 (Amb S W) fun _ K11=>?_
  refine .mz rfl 5 E2_8 ?_
  refine .e rfl (V:=.bool true) (fun H=>x_cm (H.g 20 0) (H.c _) c12) ?_
  refine .mv rfl 1 ?_
  refine .sk rfl 2 ?_
  refine .sk rfl 2 ?_
  refine .e rfl (fun H=>x_pkT (H.g 22 2) (H.c _)) ?_
  refine .dk (fun u=>.agg #[x1,x2]::sq u1 0 3 (u2 6::u2 8::u3 6::u3 8::u2 3::sq u2 0 3 (u2 4::u2 5::u3 3::sq u3 0 3 (u3 4::u3 5::sq u 0 6 (us 4))))) K11 bel fun u4 w4 D bel=>?_
  have E4_5:=D.q 5
  replace B5:=D.k B5
  replace B7:=D.k B7
  replace B9:=D.k B9
  clear D
  refine wp_cond_true (by exact E4_5) ?_
  refine gs1 3 (Amb S W) 1 B5 fun _ K13=>?_
  refine .e rfl (V:=.agg zG) (fun H=>by clear H; go_simp) ?_
  refine .s1 rfl B5 (fun H=>⟨H.z 2 E1_1,H.g 26 0⟩) ?_
  refine .mc rfl ?_
  refine .d1 (fun u=>.agg #[x1,x2]::u1 0::u1 1::u 2::u2 6::u2 8::u3 6::u3 8::u2 3::sq u2 0 3 (u2 4::u2 5::u3 3::sq u3 0 3 (u3 4::u3 5::sq u4 0 6 (u 0::us 3)))) K13 bel A5 fun u5 w5 D bel=>?_
  have E5_2:=D.q 2
  replace B5:=D.ol 1
  clear D
  refine wp_ret ?_
  refine ret_ok rfl (by exact results_mix rfl (by exact E1_1) B5 Tryz.underlying30 rfl (by kernel_rfl) (by exact E5_2)) (RetV.mk ?_ bel)
  exact congrArg Ending.returned (gcut_no (.inl c12))
 ·
  refine gs 6 (Amb S W) fun _ K11=>?_
  refine .mz rfl 5 E2_8 ?_
  refine .e rfl (V:=.bool false) (fun H=>x_cm (H.g 20 0) (H.c _) c12) ?_
  refine .mv rfl 1 ?_
  refine .mz rfl 7 E3_8 ?_ (hg:=gq 2 rfl)
  refine .e rfl (V:=.bool ((ferr x.im) != 0)) (fun H=>x_cmp (H.g 23 3) (H.c _)) ?_ (hg:=gq 2 rfl)
  refine .e rfl (fun H=>x_pkF (H.g 22 2) (H.g 24 4)) ?_
  refine .dk (fun u=>.agg #[x1,x2]::sq u1 0 3 (u2 6::u2 8::u3 6::u3 8::u2 3::sq u2 0 3 (u2 4::u2 5::u3 3::sq u3 0 3 (u3 4::u3 5::sq u 0 6 (us 4))))) K11 bel fun u4 w4 D bel=>?_
  have E4_5:=D.q 5
  replace B5:=D.k B5
  replace B7:=D.k B7
  replace B9:=D.k B9
  clear D
  rcases Bool.eq_false_or_eq_true ((ferr x.im) != 0) with c14 | c14
  ·
   refine wp_cond_true ((E4_5).trans (congrArg Value.bool c14)) ?_
   refine gs1 3 (Amb S W) 1 B5 fun _ K15=>?_
   refine .e rfl (V:=.agg zG) (fun H=>by clear H; go_simp) ?_
   refine .s1 rfl B5 (fun H=>⟨H.z 2 E1_1,H.g 26 0⟩) ?_
   refine .mc rfl ?_
   refine .d1 (fun u=>.agg #[x1,x2]::u1 0::u1 1::u 2::u2 6::u2 8::u3 6::u3 8::u2 3::sq u2 0 3 (u2 4::u2 5::u3 3::sq u3 0 3 (u3 4::u3 5::sq u4 0 6 (u 0::us 3)))) K15 bel A5 fun u5 w5 D bel=>?_
   have E5_2:=D.q 2
   replace B5:=D.ol 1
   clear D
   refine wp_ret ?_
   refine ret_ok rfl (by exact results_mix rfl (by exact E1_1) B5 Tryz.underlying30 rfl (by kernel_rfl) (by exact E5_2)) (RetV.mk ?_ bel)
   exact congrArg Ending.returned (gcut_no (.inr c14))
  ·
   refine wp_cond_false ((E4_5).trans (congrArg Value.bool c14)) ?_
   refine wp_skip ?_
   refine K10 _ _ ?_
   refine gs1 5 (Amb S W) 3 B5 fun _ K16=>?_
   refine .e rfl (fun H=>x_ldr (H.z 4 E2_6) (H.b1 B7 N5_7)) ?_
   refine .e rfl (fun H=>x_ldr (H.z 6 E3_6) (H.b1 B9 N5_9)) ?_
   refine .e rfl (V:=.agg #[.bool (fcut x.re).a.n,.string (fcut x.re).a.s,.bool (fcut x.re).b.n,.string (fcut x.re).b.s,.bool (fcut x.im).a.n,.string (fcut x.im).a.s,.bool (fcut x.im).b.n,.string (fcut x.im).b.s]) (fun H=>by have e27:=H.g 27 0; have e28:=H.g 28 1; clear H; go_simp) ?_
   refine .s1 rfl B5 (fun H=>⟨H.z 2 E1_1,H.g 29 2⟩) ?_
   refine .mc rfl ?_
   refine .d1 (fun u=>.agg #[x1,x2]::u1 0::u1 1::u 4::u2 6::u2 8::u3 6::u3 8::u2 3::sq u2 0 3 (u2 4::u2 5::u3 3::sq u3 0 3 (u3 4::u3 5::sq u4 0 6 (U::sq u 0 3 [])))) K16 bel A5 fun u6 w6 D bel=>?_
   have E6_4:=D.q 4
   replace B5:=D.ol 3
   clear D
   refine wp_ret ?_
   refine ret_ok rfl (by exact results_mix rfl (by exact E1_1) B5 Tryz.underlying30 rfl (by kernel_rfl) (by exact E6_4)) (RetV.mk ?_ bel)
   exact congrArg Ending.returned (gcut_yes c12 c14)
theorem eRatOk (x:Rat) (p0:fits (rf x) = true) :
  Calls Tryz.prog 211 #[fV x] W (Ret (RatP x) S W):=by
 have n0:=hi_num x
 have n2:=hi_den x
 have f0:=efits_le p0
 have f1:ht (Rat.divInt x.num (x.den:Int)) ≤ 8200:=by rw [fr_self]; exact f0
 have f2:=hi_num (Rat.divInt x.num (x.den:Int))
 have f3:=hi_den (Rat.divInt x.num (x.den:Int))
 have bel:=b0 W
 go_enter Tryz.func211,Tryz.ntmps211
 refine gs 2 (Amb S W) fun _ K1=>?_
 refine .bx rfl (fun H=>H.v 0 (fV x)) ?_
 refine .mc rfl ?_
 refine .dk (fun u=>fV x::u 0::u 1::us 61) K1 bel fun u1 w1 D bel=>?_
 obtain ⟨b2,E1_0,A2,B2⟩:=D.nw 0
 have E1_1:=D.q 1
 clear D
 refine wp_seq_k fun _ K3=>?_
 refine gs 35 (Amb S W) fun _ K4=>?_
 refine .fz rfl 1 0 E1_0 ?_
 refine .lp rfl 0 (wC x.num) B2 ?_
 refine .cK rfl (V:=.bool true) Tryz.func216 (fun H=>⟨_,ar1 (H.g 7 1),reV (congrArg Value.bool (wformed_rw _)) (eFormed (rw x.num))⟩) ?_
 refine .e rfl (V:=.bool false) (fun H=>x_not (H.g 8 2)) ?_
 refine .mv rfl 3 ?_
 refine .fz rfl 1 2 E1_0 ?_ (hg:=gq 4 rfl)
 refine .lp rfl 5 (wC (x.den:Int)) B2 ?_ (hg:=gq 4 rfl)
 refine .cK rfl (V:=.bool true) Tryz.func216 (fun H=>⟨_,ar1 (H.g 12 6),reV (congrArg Value.bool (wformed_rw _)) (eFormed (rw (x.den:Int)))⟩) ?_ (hg:=gq 4 rfl)
 refine .e rfl (V:=.bool false) (fun H=>x_not (H.g 13 7)) ?_ (hg:=gq 4 rfl)
 refine .e rfl (fun H=>x_pkF (H.g 10 4) (H.g 14 8)) ?_
 refine .mv rfl 9 ?_
 refine .fz rfl 1 2 E1_0 ?_ (hg:=gq 10 rfl)
 refine .fj rfl 11 2 ?_ (hg:=gq 10 rfl)
 refine .e rfl (V:=.bool false) (fun H=>by have e18:=H.g 18 12; have c1:=cell_of (off:=2) (H.b B2) rfl; have k_:=(den_nn x); clear H; go_simp <;> first | (simp_all; done) | omega | exact len_gt z0_) ?_ (hg:=gq 10 rfl)
 refine .e rfl (fun H=>x_pkF (H.g 16 10) (H.g 19 13)) ?_
 refine .mv rfl 14 ?_
 refine .fz rfl 1 2 E1_0 ?_ (hg:=gq 15 rfl)
 refine .fj rfl 16 3 ?_ (hg:=gq 15 rfl)
 refine .lc rfl 17 B2 ?_ (V:=.string (bS (x.den:Int).natAbs)) (hg:=gq 15 rfl)
 refine .e rfl (V:=.bool false) (fun H=>by have e24:=H.g 24 18; have k1:=H.c (.string (ByteArray.mk #[])); have s_:=bS_empty ((x.den:Int).natAbs); have k_:=(den_na x); clear H; go_simp <;> first | (simp_all; done) | omega | exact len_gt z0_) ?_ (hg:=gq 15 rfl)
 refine .e rfl (fun H=>x_pkF (H.g 21 15) (H.g 25 19)) ?_
 refine .mv rfl 20 ?_
 refine .fz rfl 1 0 E1_0 ?_ (hg:=gq 21 rfl)
 refine .fj rfl 22 1 ?_ (hg:=gq 21 rfl)
 refine .lc rfl 23 B2 ?_ (V:=.string (bS x.num.natAbs)) (hg:=gq 21 rfl)
 refine .e rfl (V:=.int .i64 (((bS x.num.natAbs).size:Nat):Int)) (fun H=>by have e30:=H.g 30 24; clear H; go_simp) ?_ (hg:=gq 21 rfl)
 refine .e rfl (V:=.bool false) (fun H=>x_cm (H.g 31 25) (H.c _) (fits_num p0)) ?_ (hg:=gq 21 rfl)
 refine .e rfl (fun H=>x_pkF (H.g 27 21) (H.g 32 26)) ?_
 refine .mv rfl 27 ?_
 refine .fz rfl 1 2 E1_0 ?_ (hg:=gq 28 rfl)
 refine .fj rfl 29 3 ?_ (hg:=gq 28 rfl)
 refine .lc rfl 30 B2 ?_ (V:=.string (bS (x.den:Int).natAbs)) (hg:=gq 28 rfl)
 refine .e rfl (V:=.int .i64 (((bS (x.den:Int).natAbs).size:Nat):Int)) (fun H=>by have e37:=H.g 37 31; clear H; go_simp) ?_ (hg:=gq 28 rfl)
 refine .e rfl (V:=.bool false) (fun H=>x_cm (H.g 38 32) (H.c _) (fits_den p0)) ?_ (hg:=gq 28 rfl)
 refine .e rfl (fun H=>x_pkF (H.g 34 28) (H.g 39 33)) ?_
 refine .dk (fun u=>fV x::u1 0::u1 1::U::U::U::sq u 0 35 (us 23)) K4 bel fun u2 w2 D bel=>?_
 have E2_34:=D.q 34
 replace B2:=D.k B2
 clear D
 refine wp_cond_false (by exact E2_34) ?_
 refine wp_skip ?_
 refine K3 _ _ ?_
 refine gd 8 (Amb S W) fun _ K5=>?_
 refine .fz rfl 1 0 E1_0 ?_
 refine .lp rfl 0 (wC x.num) B2 ?_
 refine .cR rfl [] Tryz.func217 (fun H=>⟨_,ar1 (H.g 42 1),eWhole _ (by first | omega | exact den_ne x)⟩) ?_
 refine .fz rfl 1 2 E1_0 ?_
 refine .lp rfl 3 (wC (x.den:Int)) B2 ?_
 refine .cR rfl [] Tryz.func217 (fun H=>⟨_,ar1 (H.g 45 4),eWhole _ (by first | omega | exact den_ne x)⟩) ?_
 refine .mn rfl 2 [2] ?_
 refine .mn rfl 5 [5] ?_
 refine .dk (fun u=>fV x::u1 0::u1 1::u 6::u 7::U::sq u2 0 35 (sq u 0 6 (us 17))) K5 bel fun u3 w3 D bel=>?_
 obtain ⟨b6,E3_6,L6,F6⟩:=IntO.elim (D.rr 6)
 obtain ⟨b7,E3_7,L7,F7⟩:=IntO.elim (D.rr 7)
 clear D
 refine gs 5 (Amb S W) fun _ K8=>?_
 refine .al rfl zQ ?_
 refine .mz rfl 3 E3_6 ?_
 refine .mz rfl 4 E3_7 ?_
 refine .cO rfl 0 Tryz.func160 (fun H h0 hz=>⟨_,ar3 (H.p 47 0 h0) (H.g 48 1) (H.g 49 2),qSetFrac _ _ (RatBlk.of hz) (IntO.p (VP.any _ (H.was _ [] (VP.at F6 L6)))) (IntO.p (VP.any _ (H.was _ [] (VP.at F7 L7)))) (by first | omega | exact den_ne x) (by first | omega | exact den_ne x)⟩) ?_
 refine .mo rfl 3 ?_
 refine .dk (fun u=>fV x::u1 0::u1 1::u3 6::u3 7::u 4::sq u2 0 35 (sq u3 0 6 (sq u 0 4 (us 13)))) K8 bel fun u4 w4 D bel=>?_
 obtain ⟨b9,E4_4,A9,F9⟩:=D.ow 4
 replace F6:=D.o L6 F6
 replace F7:=D.o L7 F7
 have L9:Amb S W b9:=.inr A9
 clear D
 refine wp_seq_k fun _ K10=>?_
 refine gs 12 (Amb S W) fun _ K11=>?_
 refine .mz rfl 5 E4_4 ?_
 refine .cR rfl [] Tryz.func164 (fun H=>⟨_,ar1 (H.g 51 0),qNum _ (H.was _ [] (VP.at F9 L9)) (by first | omega | exact den_ne x)⟩) ?_
 refine .mz rfl 3 E3_6 ?_
 refine .cK rfl Tryz.func177 (fun H=>⟨_,ar2 (H.r 52 1) (H.g 53 2),bCmp _ _ (IntO.p (SV.any (H.a 1 rfl))) (IntO.p (VP.any _ (H.was _ [] (VP.at F6 L6)))) (by first | omega | exact den_ne x)⟩) ?_
 refine .e rfl (V:=.bool false) (fun H=>x_cm (H.g 54 3) (H.c _) (back_num x)) ?_
 refine .mv rfl 4 ?_
 refine .mz rfl 5 E4_4 ?_ (hg:=gq 5 rfl)
 refine .cR rfl [] Tryz.func69 (fun H=>⟨_,ar1 (H.g 57 6),qDenom _ (H.was _ [] (VP.at F9 L9)) (by first | omega | exact den_ne x)⟩) ?_ (hg:=gq 5 rfl)
 refine .mz rfl 4 E3_7 ?_ (hg:=gq 5 rfl)
 refine .cK rfl Tryz.func177 (fun H=>⟨_,ar2 (H.r 58 7) (H.g 59 8),bCmp _ _ (IntO.p (SV.any (H.a 7 rfl))) (IntO.p (VP.any _ (H.was _ [] (VP.at F7 L7)))) (by first | omega | exact den_ne x)⟩) ?_ (hg:=gq 5 rfl)
 refine .e rfl (V:=.bool false) (fun H=>x_cm (H.g 60 9) (H.c _) (back_den x)) ?_ (hg:=gq 5 rfl)
 refine .e rfl (fun H=>x_pkF (H.g 56 5) (H.g 61 10)) ?_
 refine .dk (fun u=>fV x::u1 0::u1 1::u3 6::u3 7::u4 4::sq u2 0 35 (sq u3 0 6 (sq u4 0 4 (sq u 0 12 (U::[]))))) K11 bel fun u5 w5 D bel=>?_
 have E5_11:=D.q 11
 replace F9:=D.o L9 F9
 clear D
 refine wp_cond_false (by exact E5_11) ?_
 refine wp_skip ?_
 refine K10 _ _ ?_
 refine gs 2 (Amb S W) fun _ K12=>?_
 refine .mz rfl 5 E4_4 ?_
 refine .mv rfl 0 ?_
 refine .dk (fun u=>fV x::u1 0::u 1::u3 6::u3 7::u4 4::sq u2 0 35 (sq u3 0 6 (sq u4 0 4 (sq u5 0 12 (u 0::[]))))) K12 bel fun u6 w6 D bel=>?_
 have E6_1:=D.q 1
 replace F9:=D.o L9 F9
 clear D
 refine wp_ret ?_
 refine ret_ok rfl (by exact results_tmp' rfl (by exact E6_1)) ⟨_,rfl,?_,bel⟩
 exact rat_eq (fr_self x) (VP.at F9 L9)
theorem eOf (x:Cx) (p0:gfits (rg x) = true) :
  Calls Tryz.prog 192 #[gV x] W (Ret (VP.tup (NumP x) (VP.is (.bool true))) S W):=by
 have bel:=b0 W
 go_enter Tryz.func192,Tryz.ntmps192
 refine gs 3 (Amb S W) fun _ K1=>?_
 refine .bx rfl (fun H=>H.v 0 (gV x)) ?_
 refine .al rfl (#[.pointer none,.pointer none]) ?_
 refine .mc rfl ?_
 refine .dk (fun u=>gV x::sq u 0 3 (us 17)) K1 bel fun u1 w1 D bel=>?_
 obtain ⟨b2,E1_0,A2,B2⟩:=D.nw 0
 obtain ⟨b3,E1_1,A3,B3⟩:=D.nw 1
 have E1_2:=D.q 2
 have N2_3:=D.n2 0 1 E1_0 E1_1
 clear D
 refine gd 8 (Amb S W) fun _ K4=>?_
 refine .fz rfl 1 0 E1_0 ?_
 refine .lp rfl 0 (fC x.re) B2 ?_
 refine .cR rfl [] Tryz.func211 (fun H=>⟨_,ar1 (H.g 7 1),eRatOk _ (by first | exact (and_tt p0).1 | exact (and_tt p0).2)⟩) ?_
 refine .fz rfl 1 4 E1_0 ?_
 refine .lp rfl 3 (fC x.im) B2 ?_
 refine .cR rfl [] Tryz.func211 (fun H=>⟨_,ar1 (H.g 10 4),eRatOk _ (by first | exact (and_tt p0).1 | exact (and_tt p0).2)⟩) ?_
 refine .mn rfl 2 [2] ?_
 refine .mn rfl 5 [5] ?_
 refine .dk (fun u=>gV x::sq u1 0 3 (u 6::u 7::sq u 0 6 (us 9))) K4 bel fun u2 w2 D bel=>?_
 obtain ⟨b5,E2_6,L5,F5⟩:=RatP.elim (D.rr 6)
 obtain ⟨b6,E2_7,L6,F6⟩:=RatP.elim (D.rr 7)
 replace B3:=D.k B3
 clear D
 refine gs1 11 (Amb S W) 9 B3 fun _ K7=>?_
 refine .mz rfl 4 E2_6 ?_
 refine .mz rfl 5 E2_7 ?_
 refine .e rfl (V:=.agg #[pt b5,pt b6]) (fun H=>by have e12:=H.g 12 0; have e13:=H.g 13 1; clear H; go_simp) ?_
 refine .mz rfl 4 E2_6 ?_
 refine .e rfl (V:=.bool true) (fun H=>x_pnN (H.g 15 3) (H.c _)) ?_
 refine .mv rfl 4 ?_
 refine .mz rfl 5 E2_7 ?_ (hg:=gq 5 rfl)
 refine .e rfl (V:=.bool true) (fun H=>x_pnN (H.g 18 6) (H.c _)) ?_ (hg:=gq 5 rfl)
 refine .e rfl (fun H=>x_pkT (H.g 17 5) (H.g 19 7)) ?_
 refine .s1 rfl B3 (fun H=>⟨H.z 2 E1_1,H.g 14 2⟩) ?_
 refine .mv rfl 8 ?_
 refine .d1 (fun u=>gV x::u1 0::u1 1::u 10::u2 6::u2 7::sq u2 0 6 (sq u 0 9 [])) K7 bel A3 fun u3 w3 D bel=>?_
 have E3_10:=D.q 10
 replace B3:=D.ol 9
 replace F5:=D.o L5 F5
 replace F6:=D.o L6 F6
 clear D
 refine wp_ret ?_
 refine ret_ok rfl (by exact results_mix rfl (by exact E1_1) B3 Tryz.underlying125 rfl (by kernel_rfl) (by exact E3_10)) ⟨_,rfl,?_,bel⟩
 exact ⟨_,_,rfl,(NumP.mk (RatP.n (VP.at F5 L5)) (RatP.n (VP.at F6 L6))),rfl⟩
theorem hUnits :
  Calls Tryz.prog 72 #[] W (Ret UnitsP S W):=by
 have bel:=b0 W
 go_enter Tryz.func72,Tryz.ntmps72
 refine gs 1 (Amb S W) fun _ K1=>?_
 refine .al rfl (#[.pointer none,.pointer none,.pointer none,.pointer none,.pointer none,.pointer none,.pointer none,.pointer none]) ?_
 refine .dk (fun u=>u 0::us 5) K1 bel fun u1 w1 D bel=>?_
 obtain ⟨b2,E1_0,A2,B2⟩:=D.nw 0
 clear D
 refine wp_seq_k fun _ K3=>?_
 refine wp_region_list ?_
 refine wpT_callR (args:=#[.int .i64 1,.int .i64 0]) (φ:=(CxP (Cx.ofInt (1:Int) (0:Int)))) (S:=Amb S W) rfl (ex_call rfl rfl Tryz.func51 (by kernel_rfl) (by kernel_rfl) (by simp only [List.map_toArray,List.map_cons,List.map_nil]; rfl)) (xInt (m:=(1:Int)) (n:=(0:Int))  (by omega) (by omega) (by omega) (by omega)) fun vw4 w4 fw4 ow4=>?_
 obtain ⟨b5,b6,rfl,L5,L6,F5,F6⟩:=CxP.elim fw4
 replace L5:Amb S W b5:=L5.elim id (fun h=>.inr (Nat.le_trans bel.size h))
 replace L6:Amb S W b6:=L6.elim id (fun h=>.inr (Nat.le_trans bel.size h))
 replace B2:=(ow4.block b2 (lt_of B2)).trans B2
 replace bel:=bel.trans (ow4.mono bel.size)
 refine wpList_as (fr (u1 0::.agg #[pt b5,pt b6]::us 4)) (by kernel_rfl) ?_
 refine wpT_callR (args:=#[.int .i64 0,.int .i64 1]) (φ:=(CxP (Cx.ofInt (0:Int) (1:Int)))) (S:=Amb S W) rfl (ex_call rfl rfl Tryz.func51 (by kernel_rfl) (by kernel_rfl) (by simp only [List.map_toArray,List.map_cons,List.map_nil]; rfl)) (xInt (m:=(0:Int)) (n:=(1:Int))  (by omega) (by omega) (by omega) (by omega)) fun vw7 w7 fw7 ow7=>?_
 obtain ⟨b8,b9,rfl,L8,L9,F8,F9⟩:=CxP.elim fw7
 replace L8:Amb S W b8:=L8.elim id (fun h=>.inr (Nat.le_trans bel.size h))
 replace L9:Amb S W b9:=L9.elim id (fun h=>.inr (Nat.le_trans bel.size h))
 replace B2:=(ow7.block b2 (lt_of B2)).trans B2
 replace F5:=(RatP ((Cx.ofInt (1:Int) (0:Int)).re)).grow (Rgn.Below.growS ow7 (Nat.le_refl _) _) F5
 replace F6:=(RatP ((Cx.ofInt (1:Int) (0:Int)).im)).grow (Rgn.Below.growS ow7 (Nat.le_refl _) _) F6
 replace bel:=bel.trans (ow7.mono bel.size)
 refine wpList_as (fr (u1 0::.agg #[pt b5,pt b6]::.agg #[pt b8,pt b9]::us 3)) (by kernel_rfl) ?_
 refine wpT_callR (args:=#[.int .i64 (-1),.int .i64 0]) (φ:=(CxP (Cx.ofInt (-1:Int) (0:Int)))) (S:=Amb S W) rfl (ex_call rfl rfl Tryz.func51 (by kernel_rfl) (by kernel_rfl) (by simp only [List.map_toArray,List.map_cons,List.map_nil]; rfl)) (xInt (m:=(-1:Int)) (n:=(0:Int))  (by omega) (by omega) (by omega) (by omega)) fun vw10 w10 fw10 ow10=>?_
 obtain ⟨b11,b12,rfl,L11,L12,F11,F12⟩:=CxP.elim fw10
 replace L11:Amb S W b11:=L11.elim id (fun h=>.inr (Nat.le_trans bel.size h))
 replace L12:Amb S W b12:=L12.elim id (fun h=>.inr (Nat.le_trans bel.size h))
 replace B2:=(ow10.block b2 (lt_of B2)).trans B2
 replace F5:=(RatP ((Cx.ofInt (1:Int) (0:Int)).re)).grow (Rgn.Below.growS ow10 (Nat.le_refl _) _) F5
 replace F6:=(RatP ((Cx.ofInt (1:Int) (0:Int)).im)).grow (Rgn.Below.growS ow10 (Nat.le_refl _) _) F6
 replace F8:=(RatP ((Cx.ofInt (0:Int) (1:Int)).re)).grow (Rgn.Below.growS ow10 (Nat.le_refl _) _) F8
 replace F9:=(RatP ((Cx.ofInt (0:Int) (1:Int)).im)).grow (Rgn.Below.growS ow10 (Nat.le_refl _) _) F9
 replace bel:=bel.trans (ow10.mono bel.size)
 refine wpList_as (fr (u1 0::.agg #[pt b5,pt b6]::.agg #[pt b8,pt b9]::.agg #[pt b11,pt b12]::U::U::[])) (by kernel_rfl) ?_
 refine wpT_callR (args:=#[.int .i64 0,.int .i64 (-1)]) (φ:=(CxP (Cx.ofInt (0:Int) (-1:Int)))) (S:=Amb S W) rfl (ex_call rfl rfl Tryz.func51 (by kernel_rfl) (by kernel_rfl) (by simp only [List.map_toArray,List.map_cons,List.map_nil]; rfl)) (xInt (m:=(0:Int)) (n:=(-1:Int))  (by omega) (by omega) (by omega) (by omega)) fun vw13 w13 fw13 ow13=>?_
 obtain ⟨b14,b15,rfl,L14,L15,F14,F15⟩:=CxP.elim fw13
 replace L14:Amb S W b14:=L14.elim id (fun h=>.inr (Nat.le_trans bel.size h))
 replace L15:Amb S W b15:=L15.elim id (fun h=>.inr (Nat.le_trans bel.size h))
 replace B2:=(ow13.block b2 (lt_of B2)).trans B2
 replace F5:=(RatP ((Cx.ofInt (1:Int) (0:Int)).re)).grow (Rgn.Below.growS ow13 (Nat.le_refl _) _) F5
 replace F6:=(RatP ((Cx.ofInt (1:Int) (0:Int)).im)).grow (Rgn.Below.growS ow13 (Nat.le_refl _) _) F6
 replace F8:=(RatP ((Cx.ofInt (0:Int) (1:Int)).re)).grow (Rgn.Below.growS ow13 (Nat.le_refl _) _) F8
 replace F9:=(RatP ((Cx.ofInt (0:Int) (1:Int)).im)).grow (Rgn.Below.growS ow13 (Nat.le_refl _) _) F9
 replace F11:=(RatP ((Cx.ofInt (-1:Int) (0:Int)).re)).grow (Rgn.Below.growS ow13 (Nat.le_refl _) _) F11
 replace F12:=(RatP ((Cx.ofInt (-1:Int) (0:Int)).im)).grow (Rgn.Below.growS ow13 (Nat.le_refl _) _) F12
 replace bel:=bel.trans (ow13.mono bel.size)
 refine wpList_as (fr (u1 0::.agg #[pt b5,pt b6]::.agg #[pt b8,pt b9]::.agg #[pt b11,pt b12]::.agg #[pt b14,pt b15]::U::[])) (by kernel_rfl) ?_
 refine wpT_val (v:=(.agg #[pt b5,pt b6,pt b8,pt b9,pt b11,pt b12,pt b14,pt b15])) rfl (by go_simp) ?_
 refine wpList_as (fr (u1 0::.agg #[pt b5,pt b6]::.agg #[pt b8,pt b9]::.agg #[pt b11,pt b12]::.agg #[pt b14,pt b15]::.agg #[pt b5,pt b6,pt b8,pt b9,pt b11,pt b12,pt b14,pt b15]::[])) (by kernel_rfl) ?_
 refine wpT_skip rfl (ex_store_row (cells:=#[pt b5,pt b6,pt b8,pt b9,pt b11,pt b12,pt b14,pt b15]) 106 _ _ rfl (by exact E1_0) rfl B2 (by kernel_rfl) rfl (by first | rfl | simp [Value.oneCell'])) ?_
 have ow16:=setRow_only w13 b2 #[pt b5,pt b6,pt b8,pt b9,pt b11,pt b12,pt b14,pt b15]
 have N2_5:b2 ≠ b5:=soft_ne (RatP.soft F5) B2 (by decide)
 have N2_6:b2 ≠ b6:=soft_ne (RatP.soft F6) B2 (by decide)
 have N2_8:b2 ≠ b8:=soft_ne (RatP.soft F8) B2 (by decide)
 have N2_9:b2 ≠ b9:=soft_ne (RatP.soft F9) B2 (by decide)
 have N2_11:b2 ≠ b11:=soft_ne (RatP.soft F11) B2 (by decide)
 have N2_12:b2 ≠ b12:=soft_ne (RatP.soft F12) B2 (by decide)
 have N2_14:b2 ≠ b14:=soft_ne (RatP.soft F14) B2 (by decide)
 have N2_15:b2 ≠ b15:=soft_ne (RatP.soft F15) B2 (by decide)
 have B0_w16:=B2
 replace B2:=setRow_at (c' := #[pt b5,pt b6,pt b8,pt b9,pt b11,pt b12,pt b14,pt b15]) B2
 replace F5:=ow16.one (.inr ⟨_,_,_,B0_w16,rfl⟩) _ (Ne.symm N2_5) F5
 replace F6:=ow16.one (.inr ⟨_,_,_,B0_w16,rfl⟩) _ (Ne.symm N2_6) F6
 replace F8:=ow16.one (.inr ⟨_,_,_,B0_w16,rfl⟩) _ (Ne.symm N2_8) F8
 replace F9:=ow16.one (.inr ⟨_,_,_,B0_w16,rfl⟩) _ (Ne.symm N2_9) F9
 replace F11:=ow16.one (.inr ⟨_,_,_,B0_w16,rfl⟩) _ (Ne.symm N2_11) F11
 replace F12:=ow16.one (.inr ⟨_,_,_,B0_w16,rfl⟩) _ (Ne.symm N2_12) F12
 replace F14:=ow16.one (.inr ⟨_,_,_,B0_w16,rfl⟩) _ (Ne.symm N2_14) F14
 replace F15:=ow16.one (.inr ⟨_,_,_,B0_w16,rfl⟩) _ (Ne.symm N2_15) F15
 replace bel:=bel.trans (only_below' ow16 A2 bel.size)
 obtain ⟨w16,hw16⟩:∃ x_,x_ = w13.setRow b2 #[pt b5,pt b6,pt b8,pt b9,pt b11,pt b12,pt b14,pt b15]:=⟨_,rfl⟩
 rw [← hw16] at B2
 rw [← hw16] at F5
 rw [← hw16] at F6
 rw [← hw16] at F8
 rw [← hw16] at F9
 rw [← hw16] at F11
 rw [← hw16] at F12
 rw [← hw16] at F14
 rw [← hw16] at F15
 rw [← hw16] at bel
 rw [← hw16]
 clear hw16
 refine wpList_as (fr (u1 0::.agg #[pt b5,pt b6]::.agg #[pt b8,pt b9]::.agg #[pt b11,pt b12]::.agg #[pt b14,pt b15]::.agg #[pt b5,pt b6,pt b8,pt b9,pt b11,pt b12,pt b14,pt b15]::[])) (by kernel_rfl) ?_
 refine wpList_nil ?_
 show _
 refine K3 _ _ ?_
 refine wp_ret ?_
 refine ret_ok rfl (by exact results_row rfl (by exact E1_0) B2 Tryz.underlying106 rfl (by kernel_rfl)) ⟨_,rfl,?_,bel⟩
 exact ⟨_,_,_,_,_,_,_,_,rfl,CxP.mk (VP.at F5 L5) (VP.at F6 L6),CxP.mk (VP.at F8 L8) (VP.at F9 L9),CxP.mk (VP.at F11 L11) (VP.at F12 L12),CxP.mk (VP.at F14 L14) (VP.at F15 L15)⟩
end Go.Proofs.YtllohoibifcmdaaGreat
namespace Go.Proofs.YtllohoibifcmdaaGreat
open Go.RowKit Rgn
theorem ht_unit (k:Nat):ht (unitC k).re ≤ 2 ∧ ht (unitC k).im ≤ 2:=by
 unfold unitC
 split <;> decide
def good (x:Cx) (k:Nat):Bool:=decide (0 < ((x.mul (unitC k)).re).num.sign) && decide (0 ≤ ((x.mul (unitC k)).im).num.sign)
def firstC (x:Cx):Int:=if good x 0 = true then 0 else if good x 1 = true then 1 else if good x 2 = true then 2 else if good x 3 = true then 3 else 0
theorem Rgn.SP.cxVal {B0:Nat} {R0:Nat → Prop} {olds:List (Nat × Nat)} {i:Nat} {z:Cx} {u:Nat → Got} {w:World} {v:Value} {a b:Nat} (h:(CxP z).p (Settled R0 B0 [] u) v w) :
  (SP.val (B0:=B0) (R0:=R0) (olds:=olds) i [] (CxP z)).p (upd u i ⟨v,a,b⟩) w:=by
 show (CxP z).p _ (upd u i _ i).v w
 rw [upd_same]
 refine (CxP z).mono (fun k hk hl=>?_) h
 rcases hl with hl | ⟨h0,x,hx,hl⟩
 ·exact .inl hl
 ·simp at hx
theorem first_step {x:Cx} {k:Int} (h0:0 ≤ k) (h:∀ j:Nat,(j:Int) < k → good x j = false) (h1:good x k.toNat = false):∀ j:Nat,(j:Int) < k + 1 → good x j = false:=fun j hj=>by
 by_cases e:(j:Int) < k
 ·exact h j e
 ·have:j = k.toNat:=by omega
  rw [this]; exact h1
theorem first_at {x:Cx} {k:Int} (h0:0 ≤ k) (h:∀ j:Nat,(j:Int) < k → good x j = false) (hk:k < 4) (h1:decide (0 < ((x.mul (unitC k.toNat)).re).num.sign) = true) (h2:decide (0 ≤ ((x.mul (unitC k.toNat)).im).num.sign) = true):Value.int .i64 k = .int .i64 (firstC x):=by
 have hg:good x k.toNat = true:=by unfold good; rw [h1,h2]; rfl
 congr 1
 unfold firstC
 rcases (by omega:k = 0 ∨ k = 1 ∨ k = 2 ∨ k = 3) with e | e | e | e <;> subst e
 ·rw [if_pos (show good x 0 = true from hg)]
 ·rw [if_neg (by rw [h 0 (by omega)]; decide),if_pos (show good x 1 = true from hg)]
 ·rw [if_neg (by rw [h 0 (by omega)]; decide),if_neg (by rw [h 1 (by omega)]; decide),if_pos (show good x 2 = true from hg)]
 ·rw [if_neg (by rw [h 0 (by omega)]; decide),if_neg (by rw [h 1 (by omega)]; decide),if_neg (by rw [h 2 (by omega)]; decide),if_pos (show good x 3 = true from hg)]
theorem first_end {x:Cx} {k:Int} (h1:k ≤ 4) (h:∀ j:Nat,(j:Int) < k → good x j = false) (hk:¬ k < 4):Value.int .i64 0 = .int .i64 (firstC x):=by
 have e:k = 4:=by omega
 subst e
 unfold firstC
 rw [if_neg (by rw [h 0 (by omega)]; decide),if_neg (by rw [h 1 (by omega)]; decide),if_neg (by rw [h 2 (by omega)]; decide),if_neg (by rw [h 3 (by omega)]; decide)]
theorem info_cx:(Tryz.prog.info? 81).map (·.size) = some 2:=by kernel_rfl
theorem index_four {w:World} (a0 b0 a1 b1 a2 b2 a3 b3:Value) (k:Int) (c d:Value) (h:(k = 0 ∧ c = a0 ∧ d = b0) ∨ (k = 1 ∧ c = a1 ∧ d = b1) ∨ (k = 2 ∧ c = a2 ∧ d = b2) ∨ (k = 3 ∧ c = a3 ∧ d = b3)) :
  (Instr.index 106 (.agg #[a0,b0,a1,b1,a2,b2,a3,b3]) (.int .i64 k)).run Tryz.prog w = .ok (.agg #[c,d]) w:=by
 obtain ⟨i,hi,hz⟩:∃ i,Tryz.prog.info? 81 = some i ∧ i.size = 2:=by
  have:=info_cx
  cases h:Tryz.prog.info? 81 with
  | none=>rw [h] at this; cases this
  | some i=>rw [h] at this; exact ⟨i,rfl,Option.some.inj this⟩
 rcases h with ⟨rfl,rfl,rfl⟩ | ⟨rfl,rfl,rfl⟩ | ⟨rfl,rfl,rfl⟩ | ⟨rfl,rfl,rfl⟩ <;>
  simp [Instr.index,run_underlying Tryz.underlying106,asIntOf,sizeOf,typeInfo,hi,hz,go_sem]
theorem good_no1 {x:Cx} {k:Nat} (h:decide (0 < ((x.mul (unitC k)).re).num.sign) = false):good x k = false:=by unfold good; rw [h]; rfl
theorem good_no2 {x:Cx} {k:Nat} (h:decide (0 ≤ ((x.mul (unitC k)).im).num.sign) = false):good x k = false:=by unfold good; rw [h,Bool.and_false]
def slB (p:Option Addr):Nat:=match p with | some a=>a.block | none=>0
def slO (p:Option Addr):Nat:=match p with | some a=>a.off | none=>0
def rg0:RG:=⟨⟨⟨false,⟨#[]⟩⟩,⟨false,⟨#[]⟩⟩⟩,⟨⟨false,⟨#[]⟩⟩,⟨false,⟨#[]⟩⟩⟩⟩
@[reducible] def rgc (r:RG):List Value:=[.bool r.re.a.n,.string r.re.a.s,.bool r.re.b.n,.string r.re.b.s,.bool r.im.a.n,.string r.im.a.s,.bool r.im.b.n,.string r.im.b.s]
def GRow (cur:Array Value) (off:Nat) (l:List RG):Prop:=∀ i r,l[i]? = some r → ∀ k v,(rgc r)[k]? = some v → cur[off + 8 * i + k]? = some v
def GSl (w:World) (v:Value) (l:List RG):Prop :=
 ∃ p c,v = .slice p l.length c ∧ l.length ≤ c ∧ c ≤ 9223372036854775807 ∧ (l.length ≠ 0 → ∃ b off cur T fr,p = some ⟨b,off,none⟩ ∧ w.heap[b]? = some (.cells cur T fr) ∧ GRow cur off l)
theorem GRow.nil (cur:Array Value) (off:Nat):GRow cur off []:=fun i r h=>by simp at h
theorem GSl.open {w:World} {v:Value} {l:List RG} (h:GSl w v l):∃ p c cur T fr,v = .slice p l.length c ∧ l.length ≤ c ∧ c ≤ 9223372036854775807 ∧ (l.length ≠ 0 → p = some ⟨slB p,slO p,none⟩) ∧
  (l.length ≠ 0 → w.heap[slB p]? = some (.cells cur T fr)) ∧ GRow cur (slO p) l:=by
 obtain ⟨p,c,h1,h2,h3,h4⟩:=h
 by_cases hl:l.length = 0
 ·have:l = []:=List.length_eq_zero_iff.1 hl
  subst this
  exact ⟨p,c,#[],30,(0,0),h1,h2,h3,fun h=>absurd rfl h,fun h=>absurd rfl h,GRow.nil _ _⟩
 ·obtain ⟨b,off,cur,T,fr,rfl,h5,h6⟩:=h4 hl
  exact ⟨_,c,cur,T,fr,h1,h2,h3,fun _=>rfl,fun _=>h5,h6⟩
theorem GSl.lt {w:World} {p:Option Addr} {cur:Array Value} {fr:Nat × Nat} {T:TypeId} {n:Nat} (h:n ≠ 0 → w.heap[slB p]? = some (.cells cur T fr)):n ≠ 0 → slB p < w.heap.size:=fun hn=>lt_of (h hn)
theorem GRow.ext {cur:Array Value} {off:Nat} {l:List RG} (h:GRow cur off l) {i:Nat} (hi:i < l.length):off + 8 * i + 8 ≤ cur.size ∧ cur.extract (off + 8 * i) (off + 8 * i + 8) = (rgc (l.getD i rg0)).toArray:=by
 have hr:l[i]? = some (l.getD i rg0):=by
  rw [List.getD_eq_getElem?_getD,List.getElem?_eq_getElem hi]; rfl
 have hc:=h i _ hr
 generalize l.getD i rg0 = r at *
 have hlen:(rgc r).length = 8:=rfl
 have h7:=hc 7 _ rfl
 have hsz:off + 8 * i + 8 ≤ cur.size:=by
  have:=(Array.getElem?_eq_some_iff.1 h7).1
  omega
 refine ⟨hsz,?_⟩
 apply Array.ext
 ·simp; omega
 ·intro k hk1 hk2
  have hk:k < 8:=by simpa using hk2
  have h1:=hc k _ (List.getElem?_eq_getElem (by rw [hlen]; exact hk))
  rw [Array.getElem_extract]
  have h2:=(Array.getElem?_eq_some_iff.1 h1).2
  simpa using h2
theorem info_gauss8:(Tryz.prog.info? 30).map (·.size) = some 8:=by kernel_rfl
theorem ex_load_gl {ρ:Operand → Value} {o:Oper} {w:World} {x:Operand} {b off i:Nat} {l:List RG} {cur:Array Value} {T:TypeId} {fr:Nat × Nat} (ho:o.op = .load 30 x) (hx:ρ x = .pointer (some ⟨b,off + 8 * i,none⟩)) (hB:w.heap[b]? = some (.cells cur T fr)) (hR:GRow cur off l) (hi:i < l.length) :
  (execOp ρ o).run Tryz.prog w = .ok (.value (.agg #[.bool (l.getD i rg0).re.a.n,.string (l.getD i rg0).re.a.s,.bool (l.getD i rg0).re.b.n,.string (l.getD i rg0).re.b.s,.bool (l.getD i rg0).im.a.n,.string (l.getD i rg0).im.a.s,.bool (l.getD i rg0).im.b.n,.string (l.getD i rg0).im.b.s])) w:=by
 obtain ⟨h1,h2⟩:=hR.ext hi
 exact ex_load_part 30 x ho hx hB Tryz.underlying30 rfl 8 info_gauss8 h1 h2
theorem ex_index_gl {ρ:Operand → Value} {o:Oper} {w:World} {x y:Operand} (ho:o.op = .indexAddr 22 x y) {p:Option Addr} {n c:Nat} {i:Int} (hx:ρ x = .slice p n c) (hy:ρ y = .int .i64 i) (h0:0 ≤ i) (h1:i < n) (hp:n ≠ 0 → p = some ⟨slB p,slO p,none⟩) :
  (execOp ρ o).run Tryz.prog w = .ok (.value (.pointer (some ⟨slB p,slO p + 8 * i.toNat,none⟩))) w:=by
 have hp:=hp (by omega)
 generalize slB p = b at *
 generalize slO p = f at *
 subst hp
 obtain ⟨q,hq,hz⟩:∃ q,Tryz.prog.info? 30 = some q ∧ q.size = 8:=by
  have:=info_gauss8
  cases h:Tryz.prog.info? 30 with
  | none=>rw [h] at this; cases this
  | some i=>rw [h] at this; exact ⟨i,rfl,Option.some.inj this⟩
 unfold execOp
 simp only [ho,hx,hy]
 have he:Tryz.prog.elem 22 = 30:=by kernel_rfl
 have e:=run_indexAt_slice (P:=Tryz.prog) (w:=w) 22 ⟨b,f,none⟩ n c .i64 i (by rw [he]; exact Tryz.underlying22)
 rw [if_pos ⟨h0,h1⟩,he] at e
 simp [e,sizeOf,typeInfo,hq,hz,Result.andThen,Addr.add_lit,Nat.mul_comm]
def wide1 (most:Int) (r:RG):Bool:=decide (most < (r.re.a.s.size:Int)) || decide (most < (r.re.b.s.size:Int)) || decide (most < (r.im.a.s.size:Int)) || decide (most < (r.im.b.s.size:Int))
def wideU (most:Int) (l:List RG):Bool:=l.any (wide1 most)
theorem wideU_succ {most:Int} {l:List RG} {k:Nat} (h:k < l.length):wideU most (l.take (k + 1)) = (wideU most (l.take k) || wide1 most (l.getD k rg0)):=by
 unfold wideU
 rw [List.take_succ_eq_append_getElem h,List.any_append,List.getD_eq_getElem?_getD,List.getElem?_eq_getElem h]
 simp
theorem wideU_true {most:Int} {l:List RG} {k:Nat} (h:k < l.length) (hw:wide1 most (l.getD k rg0) = true):wideU most l = true:=by
 unfold wideU
 rw [List.any_eq_true]
 rw [List.getD_eq_getElem?_getD,List.getElem?_eq_getElem h] at hw
 exact ⟨l[k],List.getElem_mem h,hw⟩
theorem GRow.cell {w:World} {b off i:Nat} {l:List RG} {cur:Array Value} {T:TypeId} {fr:Nat × Nat} (hB:w.heap[b]? = some (.cells cur T fr)) (hR:GRow cur off l) (hi:i < l.length) (c:Nat) (v:Value) (h:(rgc (l.getD i rg0))[c]? = some v):w.cell? ⟨b,off + i * 8 + c,none⟩ = some v:=by
 have hr:l[i]? = some (l.getD i rg0):=by rw [List.getD_eq_getElem?_getD,List.getElem?_eq_getElem hi]; rfl
 have:=hR i _ hr c v h
 rw [Nat.mul_comm i 8]
 simp [World.cell?,hB,this]
set_option maxRecDepth 100000 in
set_option maxHeartbeats 2000000 in
theorem lWide {W:World} {v1:Value} (most:Int) (l:List RG) (t1:GSl W v1 l) (p0:l.length ≤ 1099511627776):Calls Tryz.prog 8 #[.int .i64 most,v1] W (RetV (.bool (wideU most l)) W):=by
 obtain ⟨p,c,cur,T,fr,rfl,hc1,hc2,hP,hB,hQ⟩:=GSl.open t1
 have HP:=Lib.hid hP
 have HB:=Lib.hid hB
 clear hP hB t1
 go_enter Tryz.func8,Tryz.ntmps8
 go_wp2_with fail
 go_loop [5] (fun v5=>∃ k:Nat,v5 = .int .i64 k ∧ k ≤ l.length ∧ Hid (wideU most (l.take k) = false)) (fun v5=>l.length - (intOf v5).toNat)
 case atStart=>exact ⟨0,rfl,by omega,rfl⟩
 case round =>
  obtain ⟨k,rfl,hk,HU⟩:=hrel
  by_cases hkl:k < l.length
  ·have hkl' : (k:Int) < (l.length:Int):=by omega
   have hb:=HB.out (by omega)
   have hc:=GRow.cell hb hQ hkl
   have h1:=hc 1 _ rfl
   have h3:=hc 3 _ rfl
   have h5:=hc 5 _ rfl
   have h7:=hc 7 _ rfl
   have hp:=HP.out (by omega)
   have hT:=wideU_true (most:=most) hkl
   have hS:=wideU_succ (most:=most) hkl
   rw [HU.out,Bool.false_or] at hS
   have hw2:IntKind.i64.wrap ((k:Int) + 1) = (k:Int) + 1:=IntWalk.i64_in _ (by omega)
   unfold wide1 at hT hS
   have HT:=Lib.hid hT
   have HS:=Lib.hid hS
   clear hc hT hS hb HB HP
   generalize l.getD k rg0 = r at *
   generalize slB p = pb at *
   generalize slO p = po at *
   subst hp
   generalize r.re.a.s = s1 at *
   generalize r.re.b.s = s2 at *
   generalize r.im.a.s = s3 at *
   generalize r.im.b.s = s4 at *
   by_cases g1:most < (s1.size:Int)
   ·have hr:=HT.out (by rw [decide_eq_true g1]; simp)
    go_wp2_with fail
    exact ret_ok rfl (by exact results_tmp' rfl rfl) (RetV.mk rfl (Below.refl _ _))
   by_cases g2:most < (s2.size:Int)
   ·have hr:=HT.out (by rw [decide_eq_true g2]; simp)
    go_wp2_with fail
    exact ret_ok rfl (by exact results_tmp' rfl rfl) (RetV.mk rfl (Below.refl _ _))
   by_cases g3:most < (s3.size:Int)
   ·have hr:=HT.out (by rw [decide_eq_true g3]; simp)
    go_wp2_with fail
    exact ret_ok rfl (by exact results_tmp' rfl rfl) (RetV.mk rfl (Below.refl _ _))
   by_cases g4:most < (s4.size:Int)
   ·have hr:=HT.out (by rw [decide_eq_true g4]; simp)
    go_wp2_with fail
    exact ret_ok rfl (by exact results_tmp' rfl rfl) (RetV.mk rfl (Below.refl _ _))
   ·have hr:Hid (wideU most (l.take (k + 1)) = false):=Lib.hid (HS.out.trans (by rw [decide_eq_false g1,decide_eq_false g2,decide_eq_false g3,decide_eq_false g4]; rfl))
    go_wp2_with fail
    exact ⟨⟨k + 1,by go_num,by omega,hr⟩,by simp [intOf]; omega⟩
  ·have hkl' : ¬ (k:Int) < (l.length:Int):=by omega
   have e:k = l.length:=by omega
   subst e
   have hu:=HU.out
   rw [List.take_of_length_le (Nat.le_refl _)] at hu
   rw [hu]
   go_wp2_with fail
   exact ret_ok rfl (by exact results_tmp' rfl rfl) (RetV.mk rfl (Below.refl _ _))
end Go.Proofs.YtllohoibifcmdaaGreat
namespace Go.Proofs.YtllohoibifcmdaaGreat
open Go.RowKit Rgn
set_option maxHeartbeats 4000000
set_option maxRecDepth 100000
variable {S:Nat → Prop} {W:World}
theorem hFirst {v0:Value} (x:Cx) (t0:(CxP x).p S v0 W) (p0:ht x.re + ht x.im ≤ 8589934592) :
  Calls Tryz.prog 73 #[v0] W (RetV (.int .i64 (firstC x)) W):=by
 obtain ⟨b1,b2,rfl,L1,L2,F1,F2⟩:=CxP.elim t0
 replace L1:Amb S W b1:=.inl L1
 replace L2:Amb S W b2:=.inl L2
 have u0:=ht_unit
 have bel:=b0 W
 go_enter Tryz.func73,Tryz.ntmps73
 refine gs 2 (Amb S W) fun _ K3=>?_
 refine .bx rfl (fun H=>H.v 0 (.agg #[pt b1,pt b2])) ?_
 refine .mc rfl ?_
 refine .dk (fun u=>.agg #[pt b1,pt b2]::u 0::u 1::us 23) K3 bel fun u1 w1 D bel=>?_
 obtain ⟨b4,E1_0,A4,B4⟩:=D.nw 0
 have E1_1:=D.q 1
 replace F1:=D.o L1 F1
 replace F2:=D.o L2 F2
 clear D
 refine wp_seq_k fun _ K5=>?_
 refine gs 2 (Amb S W) fun _ K6=>?_
 refine .cR rfl [] Tryz.func72 (fun H=>⟨_,ar0,hUnits⟩) ?_
 refine .mc rfl ?_
 refine .dk (fun u=>.agg #[pt b1,pt b2]::u1 0::u1 1::U::U::U::u 0::u 1::us 18) K6 bel fun u2 w2 D bel=>?_
 obtain ⟨b7,b8,b9,b10,b11,b12,b13,b14,E2_0,L7,L8,L9,L10,L11,L12,L13,L14,F7,F8,F9,F10,F11,F12,F13,F14⟩:=UnitsP.elim (D.rr 0)
 have E2_1:=D.q 1
 replace B4:=D.k B4
 replace F1:=D.o L1 F1
 replace F2:=D.o L2 F2
 clear D
 refine wp_block ?_
 refine wp_loop_ghost_k (fun n_ a_ w_=>∃ d2:Value,∃ d3:Value,∃ d4:Value,∃ d5:Value,∃ s7:Value,∃ d8:Value,∃ d9:Value,∃ d10:Value,∃ d11:Value,∃ d12:Value,∃ d13:Value,∃ d14:Value,∃ d15:Value,∃ d16:Value,∃ d17:Value,∃ d18:Value,∃ d19:Value,∃ d20:Value,∃ d21:Value,∃ d22:Value,∃ d23:Value,∃ d24:Value,∃ d25:Value,∃ k:Int,a_ = fr (.agg #[pt b1,pt b2]::u1 0::d2::d3::d4::d5::u2 0::s7::d8::d9::d10::d11::d12::d13::d14::d15::d16::d17::d18::d19::d20::d21::d22::d23::d24::d25::[]) ∧ n_ = ((4:Int) - k).toNat ∧ 0 ≤ k ∧ k ≤ 4 ∧ (∀ j:Nat,(j:Int) < k → good x j = false) ∧ s7 = .int .i64 k ∧ w_.heap[b4]? = some (.cells #[pt b1,pt b2] 81 (0,0)) ∧ (RatP x.re).p (· = b1) (.pointer (some ⟨b1,0,none⟩)) w_ ∧ (RatP ((unitC 1).im)).p (· = b10) (.pointer (some ⟨b10,0,none⟩)) w_ ∧ (RatP ((unitC 2).re)).p (· = b11) (.pointer (some ⟨b11,0,none⟩)) w_ ∧ (RatP ((unitC 2).im)).p (· = b12) (.pointer (some ⟨b12,0,none⟩)) w_ ∧ (RatP ((unitC 3).re)).p (· = b13) (.pointer (some ⟨b13,0,none⟩)) w_ ∧ (RatP ((unitC 3).im)).p (· = b14) (.pointer (some ⟨b14,0,none⟩)) w_ ∧ (RatP x.im).p (· = b2) (.pointer (some ⟨b2,0,none⟩)) w_ ∧ (RatP ((unitC 0).re)).p (· = b7) (.pointer (some ⟨b7,0,none⟩)) w_ ∧ (RatP ((unitC 0).im)).p (· = b8) (.pointer (some ⟨b8,0,none⟩)) w_ ∧ (RatP ((unitC 1).re)).p (· = b9) (.pointer (some ⟨b9,0,none⟩)) w_ ∧ RowKit.Below W.heap.size W w_) (((4:Int) - 0).toNat) ⟨_,_,_,_,_,_,_,_,_,_,_,_,_,_,_,_,_,_,_,_,_,_,_,0,rfl,rfl,by first | omega | (intro j hj; omega),by first | omega | (intro j hj; omega),by first | omega | (intro j hj; omega),(by exact E2_1),B4,F1,F10,F11,F12,F13,F14,F2,F7,F8,F9,bel⟩ ?_
 clear B4 F1 F10 F11 F12 F13 F14 F2 F7 F8 F9 bel
 rintro n_ _ w15 ⟨d2,d3,d4,d5,s7,d8,d9,d10,d11,d12,d13,d14,d15,d16,d17,d18,d19,d20,d21,d22,d23,d24,d25,k,rfl,hn18,i0,i1,i2,rfl,B4,F1,F10,F11,F12,F13,F14,F2,F7,F8,F9,bel⟩ J16 K17 hJ16 hK17
 refine gs 1 (Amb S W) fun _ K19=>?_
 refine .e rfl (V:=.bool (decide (k < 4))) (fun H=>x_cmp (H.v 7 (.int .i64 k)) (H.c _)) ?_
 refine .dk (fun u=>.agg #[pt b1,pt b2]::u1 0::d2::d3::d4::d5::u2 0::.int .i64 k::u 0::d9::d10::d11::d12::d13::d14::d15::d16::d17::d18::d19::d20::d21::d22::d23::d24::d25::[]) K19 bel fun u3 w3 D bel=>?_
 have E3_0:=D.q 0
 replace B4:=D.k B4
 replace F1:=D.o L1 F1
 replace F2:=D.o L2 F2
 replace F7:=D.o L7 F7
 replace F8:=D.o L8 F8
 replace F9:=D.o L9 F9
 replace F10:=D.o L10 F10
 replace F11:=D.o L11 F11
 replace F12:=D.o L12 F12
 replace F13:=D.o L13 F13
 replace F14:=D.o L14 F14
 clear D
 refine wp_seq_k fun _ K20=>?_
 rcases Bool.eq_false_or_eq_true (decide (k < 4)) with c21 | c21
 ·
  refine wp_cond_true ((E3_0).trans (congrArg Value.bool c21)) ?_
  have dc21:=of_decide_eq_true c21
  refine wp_skip ?_
  refine K20 _ _ ?_
  refine wp_seq_k fun _ K22=>?_
  refine wp_block ?_
  refine gs 5 (Amb S W) fun _ K23=>?_
  refine .mz rfl 7 (V:=.int .i64 k) rfl ?_
  refine Go2.fn (i:=1) rfl (G0 rfl) (.val 1 [] (CxP (unitC k.toNat))) (fun u μ ρ H=>by have e6:=H.z 6 E2_0; have e7:=H.y 7; rcases (by omega:k = 0 ∨ k = 1 ∨ k = 2 ∨ k = 3) with h_ | h_ | h_ | h_; (subst h_; have i_:=index_four (w:=μ) (pt b7) (pt b8) (pt b9) (pt b10) (pt b11) (pt b12) (pt b13) (pt b14) 0 (pt b7) (pt b8) (.inl ⟨rfl,rfl,rfl⟩); exact ⟨.agg #[pt b7,pt b8],by clear H; go_simp,SP.cxVal (z:=unitC 0) (CxP.mk (H.was _ [] (VP.at F7 L7)) (H.was _ [] (VP.at F8 L8)))⟩); (subst h_; have i_:=index_four (w:=μ) (pt b7) (pt b8) (pt b9) (pt b10) (pt b11) (pt b12) (pt b13) (pt b14) 1 (pt b9) (pt b10) (.inr (.inl ⟨rfl,rfl,rfl⟩)); exact ⟨.agg #[pt b9,pt b10],by clear H; go_simp,SP.cxVal (z:=unitC 1) (CxP.mk (H.was _ [] (VP.at F9 L9)) (H.was _ [] (VP.at F10 L10)))⟩); (subst h_; have i_:=index_four (w:=μ) (pt b7) (pt b8) (pt b9) (pt b10) (pt b11) (pt b12) (pt b13) (pt b14) 2 (pt b11) (pt b12) (.inr (.inr (.inl ⟨rfl,rfl,rfl⟩))); exact ⟨.agg #[pt b11,pt b12],by clear H; go_simp,SP.cxVal (z:=unitC 2) (CxP.mk (H.was _ [] (VP.at F11 L11)) (H.was _ [] (VP.at F12 L12)))⟩); (subst h_; have i_:=index_four (w:=μ) (pt b7) (pt b8) (pt b9) (pt b10) (pt b11) (pt b12) (pt b13) (pt b14) 3 (pt b13) (pt b14) (.inr (.inr (.inr ⟨rfl,rfl,rfl⟩))); exact ⟨.agg #[pt b13,pt b14],by clear H; go_simp,SP.cxVal (z:=unitC 3) (CxP.mk (H.was _ [] (VP.at F13 L13)) (H.was _ [] (VP.at F14 L14)))⟩)) ?_
  refine .al rfl (#[.pointer none,.pointer none]) ?_
  refine .mv rfl 0 ?_
  refine Go2.storeOwn (i:=4) (m:=2) rfl rfl (.tail _ (.head _)) (SP.cells 2 [1] (fun u=>#[((u 1).v.cells.getD 0 undef),((u 1).v.cells.getD 1 undef)]) 81 (by intro u u' h; simp [h 1 (by simp)])) (fun u μ ρ b H h0 hB hb=>?_) ?_
  · have e4:=H.r 4 2; have e10:=H.r 10 1
    rw [h0] at e4
    obtain ⟨x1,x2,h1,h2,h3⟩:=(H.a 1 rfl)
    have o1:=VP1.rat h2
    have o2:=VP1.rat h3
    rw [h1] at e10
    refine ⟨μ.setRow b #[x1,x2],ex_store_row 81 _ _ rfl e4 e10 hb (by kernel_rfl) rfl (by simp [o1,o2]),fun g=>⟨b,?_,hB,?_⟩,setRow_only _ _ _⟩
    · rw [upd_other _ _ (by decide)]; exact h0
    · rw [setRow_at hb]; try simp [upd,h1,Value.cells]
  refine .dk (fun u=>.agg #[pt b1,pt b2]::u1 0::d2::u 3::u 2::d5::u2 0::.int .i64 k::u3 0::u 0::u 1::d11::d12::d13::d14::d15::d16::d17::d18::d19::d20::d21::d22::d23::d24::d25::[]) K23 bel fun u4 w4 D bel=>?_
  obtain ⟨b24,b25,E4_1,L24,L25,F24,F25⟩:=CxP.elim (D.rr 1)
  obtain ⟨b26,E4_2,A26,B26⟩:=(D.a 4 rfl)
  replace A26:=le2 D.le A26
  have E4_0:=D.q 0
  have E4_3:=D.q 3
  replace B4:=D.k B4
  simp only [Value.cells,E4_1,E4_2] at B26
  replace B26:w4.heap[b26]? = some (.cells #[pt b24,pt b25] 81 (0,0)):=B26
  replace F1:=D.o L1 F1
  replace F2:=D.o L2 F2
  replace F7:=D.o L7 F7
  replace F8:=D.o L8 F8
  replace F9:=D.o L9 F9
  replace F10:=D.o L10 F10
  replace F11:=D.o L11 F11
  replace F12:=D.o L12 F12
  replace F13:=D.o L13 F13
  replace F14:=D.o L14 F14
  clear D
  refine gs 5 (Amb S W) fun _ K27=>?_
  refine .lr rfl 1 E1_0 B4 ?_
  refine .lr rfl 4 E4_2 B26 ?_
  refine .cR rfl [] Tryz.func67 (fun H=>⟨_,ar2 (H.g 11 0) (H.g 12 1),xMul _ _ (CxP.mk (H.was _ [] (VP.at F1 L1)) (H.was _ [] (VP.at F2 L2))) (CxP.mk (H.was _ [] (VP.at F24 L24)) (H.was _ [] (VP.at F25 L25))) (by first | omega | (have u1:=u0 k.toNat; omega))⟩) ?_
  refine .al rfl (#[.pointer none,.pointer none]) ?_
  refine Go2.storeOwn (i:=4) (m:=3) rfl rfl (.head _) (SP.cells 3 [2] (fun u=>#[((u 2).v.cells.getD 0 undef),((u 2).v.cells.getD 1 undef)]) 81 (by intro u u' h; simp [h 2 (by simp)])) (fun u μ ρ b H h0 hB hb=>?_) ?_
  · have e5:=H.r 5 3; have e13:=H.r 13 2
    rw [h0] at e5
    obtain ⟨x1,x2,h1,h2,h3⟩:=(H.a 2 rfl)
    have o1:=VP1.rat h2
    have o2:=VP1.rat h3
    rw [h1] at e13
    refine ⟨μ.setRow b #[x1,x2],ex_store_row 81 _ _ rfl e5 e13 hb (by kernel_rfl) rfl (by simp [o1,o2]),fun g=>⟨b,?_,hB,?_⟩,setRow_only _ _ _⟩
    · rw [upd_other _ _ (by decide)]; exact h0
    · rw [setRow_at hb]; try simp [upd,h1,Value.cells]
  refine .dk (fun u=>.agg #[pt b1,pt b2]::u1 0::d2::u4 3::u4 2::u 3::u2 0::.int .i64 k::u3 0::u4 0::u4 1::sq u 0 3 (d14::d15::d16::d17::d18::d19::d20::d21::d22::d23::d24::d25::[])) K27 bel fun u5 w5 D bel=>?_
  obtain ⟨b28,b29,E5_2,L28,L29,F28,F29⟩:=CxP.elim (D.rr 2)
  obtain ⟨b30,E5_3,A30,B30⟩:=(D.a 4 rfl)
  replace A30:=le2 D.le A30
  have E5_0:=D.q 0
  have E5_1:=D.q 1
  replace B4:=D.k B4
  replace B26:=D.k B26
  simp only [Value.cells,E5_2,E5_3] at B30
  replace B30:w5.heap[b30]? = some (.cells #[pt b28,pt b29] 81 (0,0)):=B30
  replace F1:=D.o L1 F1
  replace F2:=D.o L2 F2
  replace F7:=D.o L7 F7
  replace F8:=D.o L8 F8
  replace F9:=D.o L9 F9
  replace F10:=D.o L10 F10
  replace F11:=D.o L11 F11
  replace F12:=D.o L12 F12
  replace F13:=D.o L13 F13
  replace F14:=D.o L14 F14
  replace F24:=D.o L24 F24
  replace F25:=D.o L25 F25
  clear D
  rcases Bool.eq_false_or_eq_true (decide (0 < (((x.mul (unitC k.toNat)).re).num.sign))) with c32 | c32
  ·
   have dc32:=of_decide_eq_true c32
   refine gs 10 (Amb S W) fun _ K31=>?_
   refine .fz rfl 5 0 E5_3 ?_
   refine .lc rfl 0 B30 ?_ (V:=pt b28)
   refine .cK rfl Tryz.func109 (fun H=>⟨_,ar1 (H.g 15 1),qSign _ (VP.any _ (H.was _ [] (VP.at F28 L28)))⟩) ?_
   refine .e rfl (V:=.bool true) (fun H=>x_cm (H.g 16 2) (H.c _) c32) ?_
   refine .mv rfl 3 ?_
   refine .fz rfl 5 1 E5_3 ?_ (hg:=gq 4 rfl)
   refine .lc rfl 5 B30 ?_ (V:=pt b29) (hg:=gq 4 rfl)
   refine .cK rfl Tryz.func109 (fun H=>⟨_,ar1 (H.g 20 6),qSign _ (VP.any _ (H.was _ [] (VP.at F29 L29)))⟩) ?_ (hg:=gq 4 rfl)
   refine .e rfl (V:=.bool (decide (0 ≤ (((x.mul (unitC k.toNat)).im).num.sign)))) (fun H=>x_cmp (H.g 21 7) (H.c _)) ?_ (hg:=gq 4 rfl)
   refine .e rfl (fun H=>x_pkT (H.g 18 4) (H.g 22 8)) ?_
   refine .dk (fun u=>.agg #[pt b1,pt b2]::u1 0::d2::u4 3::u4 2::u5 3::u2 0::.int .i64 k::u3 0::u4 0::u4 1::sq u5 0 3 (sq u 0 10 (d24::d25::[]))) K31 bel fun u6 w6 D bel=>?_
   have E6_0:=D.q 0
   have E6_1:=D.q 1
   have E6_2:=D.q 2
   have E6_3:=D.q 3
   have E6_4:=D.q 4
   have E6_5:=D.q 5
   have E6_6:=D.q 6
   have E6_7:=D.q 7
   have E6_8:=D.q 8
   have E6_9:=D.q 9
   replace B4:=D.k B4
   replace B26:=D.k B26
   replace B30:=D.k B30
   replace F1:=D.o L1 F1
   replace F2:=D.o L2 F2
   replace F7:=D.o L7 F7
   replace F8:=D.o L8 F8
   replace F9:=D.o L9 F9
   replace F10:=D.o L10 F10
   replace F11:=D.o L11 F11
   replace F12:=D.o L12 F12
   replace F13:=D.o L13 F13
   replace F14:=D.o L14 F14
   replace F24:=D.o L24 F24
   replace F25:=D.o L25 F25
   replace F28:=D.o L28 F28
   replace F29:=D.o L29 F29
   clear D
   rcases Bool.eq_false_or_eq_true (decide (0 ≤ (((x.mul (unitC k.toNat)).im).num.sign))) with c33 | c33
   ·
    refine wp_cond_true ((E6_9).trans (congrArg Value.bool c33)) ?_
    have dc33:=of_decide_eq_true c33
    refine gs 2 (Amb S W) fun _ K34=>?_
    refine .mz rfl 3 E4_3 ?_
    refine .mv rfl 0 ?_
    refine .dk (fun u=>.agg #[pt b1,pt b2]::u1 0::u 1::u4 3::u4 2::u5 3::u2 0::.int .i64 k::u3 0::u4 0::u4 1::sq u5 0 3 (sq u6 0 10 (u 0::d25::[]))) K34 bel fun u7 w7 D bel=>?_
    have E7_1:=D.q 1
    clear D
    exact wp_ret (rt rfl E7_1 (first_at i0 i2 dc21 c32 c33) bel)
   ·
    refine wp_cond_false ((E6_9).trans (congrArg Value.bool c33)) ?_
    have dc33:=of_decide_eq_false c33
    refine wp_skip ?_
    refine inBlock_normal ?_
    refine K22 _ _ ?_
    refine wp_region_list ?_
    refine wpT_val (v:=.int .i64 (k + 1)) rfl (by have aw_:IntKind.wrap .i64 (k + 1) = k + 1:=IntWalk.i64_in _ (by omega); go_simp) ?_
    refine wpT_val rfl (ex_move rfl) ?_
    refine wpList_nil ?_
    show _
    refine hK17 _ _ (Handed.intro (((4:Int) - (k + 1)).toNat) (by rw [hn18]; omega) (hJ16 _ _ _ ⟨_,_,_,_,_,_,_,_,_,_,_,_,_,_,_,_,_,_,_,_,_,_,_,k + 1,rfl,rfl,by first | omega | exact first_step i0 i2 (good_no1 c32) | exact first_step i0 i2 (good_no2 c33),by first | omega | exact first_step i0 i2 (good_no1 c32) | exact first_step i0 i2 (good_no2 c33),by first | omega | exact first_step i0 i2 (good_no1 c32) | exact first_step i0 i2 (good_no2 c33),rfl,B4,F1,F10,F11,F12,F13,F14,F2,F7,F8,F9,bel⟩))
  ·
   have dc32:=of_decide_eq_false c32
   refine gs 10 (Amb S W) fun _ K31=>?_
   refine .fz rfl 5 0 E5_3 ?_
   refine .lc rfl 0 B30 ?_ (V:=pt b28)
   refine .cK rfl Tryz.func109 (fun H=>⟨_,ar1 (H.g 15 1),qSign _ (VP.any _ (H.was _ [] (VP.at F28 L28)))⟩) ?_
   refine .e rfl (V:=.bool false) (fun H=>x_cm (H.g 16 2) (H.c _) c32) ?_
   refine .mv rfl 3 ?_
   refine .sk rfl 4 ?_
   refine .sk rfl 4 ?_
   refine .sk rfl 4 ?_
   refine .sk rfl 4 ?_
   refine .e rfl (fun H=>x_pkF (H.g 18 4) (H.c _)) ?_
   refine .dk (fun u=>.agg #[pt b1,pt b2]::u1 0::d2::u4 3::u4 2::u5 3::u2 0::.int .i64 k::u3 0::u4 0::u4 1::sq u5 0 3 (sq u 0 10 (d24::d25::[]))) K31 bel fun u6 w6 D bel=>?_
   have E6_0:=D.q 0
   have E6_1:=D.q 1
   have E6_2:=D.q 2
   have E6_3:=D.q 3
   have E6_4:=D.q 4
   have E6_9:=D.q 9
   replace B4:=D.k B4
   replace B26:=D.k B26
   replace B30:=D.k B30
   replace F1:=D.o L1 F1
   replace F2:=D.o L2 F2
   replace F7:=D.o L7 F7
   replace F8:=D.o L8 F8
   replace F9:=D.o L9 F9
   replace F10:=D.o L10 F10
   replace F11:=D.o L11 F11
   replace F12:=D.o L12 F12
   replace F13:=D.o L13 F13
   replace F14:=D.o L14 F14
   replace F24:=D.o L24 F24
   replace F25:=D.o L25 F25
   replace F28:=D.o L28 F28
   replace F29:=D.o L29 F29
   clear D
   refine wp_cond_false (by exact E6_9) ?_
   refine wp_skip ?_
   refine inBlock_normal ?_
   refine K22 _ _ ?_
   refine wp_region_list ?_
   refine wpT_val (v:=.int .i64 (k + 1)) rfl (by have aw_:IntKind.wrap .i64 (k + 1) = k + 1:=IntWalk.i64_in _ (by omega); go_simp) ?_
   refine wpT_val rfl (ex_move rfl) ?_
   refine wpList_nil ?_
   show _
   refine hK17 _ _ (Handed.intro (((4:Int) - (k + 1)).toNat) (by rw [hn18]; omega) (hJ16 _ _ _ ⟨_,_,_,_,_,_,_,_,_,_,_,_,_,_,_,_,_,_,_,_,_,_,_,k + 1,rfl,rfl,by first | omega | exact first_step i0 i2 (good_no1 c32) | exact first_step i0 i2 (good_no2 x_x),by first | omega | exact first_step i0 i2 (good_no1 c32) | exact first_step i0 i2 (good_no2 x_x),by first | omega | exact first_step i0 i2 (good_no1 c32) | exact first_step i0 i2 (good_no2 x_x),rfl,B4,F1,F10,F11,F12,F13,F14,F2,F7,F8,F9,bel⟩))
 ·
  refine wp_cond_false ((E3_0).trans (congrArg Value.bool c21)) ?_
  have dc21:=of_decide_eq_false c21
  refine wp_exit ?_
  refine then_exit ?_
  refine then_exit ?_
  refine inBlock_here ?_
  refine K5 _ _ ?_
  refine gs 1 (Amb S W) fun _ K35=>?_
  refine .mc rfl ?_
  refine .dk (fun u=>.agg #[pt b1,pt b2]::u1 0::u 0::d3::d4::d5::u2 0::.int .i64 k::u3 0::d9::d10::d11::d12::d13::d14::d15::d16::d17::d18::d19::d20::d21::d22::d23::d24::d25::[]) K35 bel fun u8 w8 D bel=>?_
  have E8_0:=D.q 0
  clear D
  exact wp_ret (rt rfl E8_0 (first_end i1 i2 dc21) bel)
end Go.Proofs.YtllohoibifcmdaaGreat
namespace Go.Proofs.YtllohoibifcmdaaGreat
open Go.RowKit Rgn
theorem firstC_cases (x:Cx):firstC x = 0 ∨ firstC x = 1 ∨ firstC x = 2 ∨ firstC x = 3:=by
 unfold firstC
 repeat' split
 all_goals simp
theorem ht_rnd (x:Rat):ht ((rnd x:Int):Rat) ≤ ht x + 12:=by
 have h1:=ht_add x (Rat.divInt (1:Int) (2:Int))
 have h2:ht (Rat.divInt (1:Int) (2:Int)) = 3:=by decide
 have h3:=hi_num (x + Rat.divInt (1:Int) (2:Int))
 have h5:=hi_fdiv (x + Rat.divInt (1:Int) (2:Int))
 have h6:hi 1 = 2:=by decide
 have h7:=hi_sub ((x + Rat.divInt (1:Int) (2:Int)).num / ((x + Rat.divInt (1:Int) (2:Int)).den:Int)) 1
 have h8:=ht_int_le (rnd x)
 have h9:hi (rnd x) ≤ hi ((x + Rat.divInt (1:Int) (2:Int)).num / ((x + Rat.divInt (1:Int) (2:Int)).den:Int)) + 4:=by
  unfold rnd; split
  ·omega
  ·omega
 omega
theorem hc_div (x y:Cx):ht (x.div y).re ≤ 3 * (ht x.re + ht x.im + ht y.re + ht y.im) ∧ ht (x.div y).im ≤ 3 * (ht x.re + ht x.im + ht y.re + ht y.im):=by
 have h1:=hc_conj y
 have h2:=hc_mul x y.conj
 have h3:=hc_norm y
 have h4:=ht_inv y.norm
 have h5:=hc_scale (x.mul y.conj) (y.norm)⁻¹
 show ht ((x.mul y.conj).scale (y.norm)⁻¹).re ≤ _ ∧ ht ((x.mul y.conj).scale (y.norm)⁻¹).im ≤ _
 omega
theorem ptr1 (a:Option Addr):(Value.pointer a).oneCell' = true:=rfl
theorem sq_nonneg (x:Rat):0 ≤ x * x:=by
 rcases (by grind:0 ≤ x ∨ x ≤ 0) with h | h
 ·exact Rat.mul_nonneg h h
 ·have h2:0 ≤ -x:=by grind
  have h3:=Rat.mul_nonneg h2 h2
  have h4:x * x = (-x) * (-x):=by grind
  rw [h4]; exact h3
theorem sq_zero {x y:Rat} (h:x * x + y * y = 0):x = 0:=by
 have h1:=sq_nonneg x
 have h2:=sq_nonneg y
 have h3:x * x = 0:=by grind
 rcases Rat.mul_eq_zero.1 h3 with h | h <;> exact h
theorem norm_zero2 {y:Cx} (h:y.norm = 0):y.re = 0 ∧ y.im = 0 :=
 ⟨sq_zero h,sq_zero (y:=y.re) (by rw [Rat.add_comm]; exact h)⟩
theorem zero_norm {y:Cx} (h:y.zero = false):y.norm ≠ 0:=fun e=>by
 obtain ⟨h1,h2⟩:=norm_zero2 e
 unfold Cx.zero at h
 rw [decide_eq_true h1,decide_eq_true h2] at h
 cases h
def combC:Nat → Cx → Cx → Cx → Cx → Cx → Cx → Option (Cx × Cx × Cx)
 | 0,_,_,_,_,_,_=>none
 | n + 1,x0,x1,x2,y0,y1,y2 =>
  if ht x0.re + ht x0.im + (ht x1.re + ht x1.im) + (ht x2.re + ht x2.im) + (ht y0.re + ht y0.im) + (ht y1.re + ht y1.im) + (ht y2.re + ht y2.im) ≤ 16777216 then
   if y0.zero = true then some (x0,x1,x2)
   else combC n y0 y1 y2 (x0.sub ((x0.div y0).near.mul y0)) (x1.sub ((x0.div y0).near.mul y1)) (x2.sub ((x0.div y0).near.mul y2))
  else none
section
variable {n:Nat} {x0 x1 x2 y0 y1 y2:Cx} {r:Cx × Cx × Cx}
theorem comb_dec (h:combC n x0 x1 x2 y0 y1 y2 = some r):n - 1 < n:=by
 cases n with
 | zero=>cases h
 | succ n=>omega
theorem comb_sml (h:combC n x0 x1 x2 y0 y1 y2 = some r):ht x0.re + ht x0.im + (ht x1.re + ht x1.im) + (ht x2.re + ht x2.im) + (ht y0.re + ht y0.im) + (ht y1.re + ht y1.im) + (ht y2.re + ht y2.im) ≤ 16777216:=by
 cases n with
 | zero=>cases h
 | succ n =>
  unfold combC at h
  split at h
  ·assumption
  ·cases h
theorem comb_end (h:combC n x0 x1 x2 y0 y1 y2 = some r) (hz:y0.zero = true):r = (x0,x1,x2):=by
 have hs:=comb_sml h
 cases n with
 | zero=>cases h
 | succ n =>
  unfold combC at h
  rw [if_pos hs,if_pos hz] at h
  exact (Option.some.inj h).symm
theorem comb_step (h:combC n x0 x1 x2 y0 y1 y2 = some r) (hz:y0.zero = false):combC (n - 1) y0 y1 y2 (x0.sub ((x0.div y0).near.mul y0)) (x1.sub ((x0.div y0).near.mul y1)) (x2.sub ((x0.div y0).near.mul y2)) = some r:=by
 have hs:=comb_sml h
 cases n with
 | zero=>cases h
 | succ n =>
  unfold combC at h
  rw [if_pos hs,if_neg (by rw [hz]; decide)] at h
  exact h
theorem comb_bd (h:combC n x0 x1 x2 y0 y1 y2 = some r):ht x0.re + ht x0.im + (ht x1.re + ht x1.im) + (ht x2.re + ht x2.im) + (ht y0.re + ht y0.im) + (ht y1.re + ht y1.im) + (ht y2.re + ht y2.im) ≤ 16777216 ∧
  ht (x0.div y0).re + ht (x0.div y0).im ≤ 200000000 ∧ ht (x0.div y0).near.re + ht (x0.div y0).near.im ≤ 200000100:=by
 have hs:=comb_sml h
 have h1:=hc_div x0 y0
 have h2:=ht_rnd (x0.div y0).re
 have h3:=ht_rnd (x0.div y0).im
 refine ⟨hs,by omega,?_⟩
 show ht ((rnd (x0.div y0).re:Int):Rat) + ht ((rnd (x0.div y0).im:Int):Rat) ≤ _
 omega
end
end Go.Proofs.YtllohoibifcmdaaGreat
namespace Go.Proofs.YtllohoibifcmdaaGreat
open Go.RowKit Rgn
set_option maxHeartbeats 4000000
set_option maxRecDepth 100000
variable {S:Nat → Prop} {W:World}
theorem hCombine {v0:Value} {v1:Value} {N:Nat} {r:Cx × Cx × Cx} (x:Cx) (y:Cx) (t0:(CxP x).p S v0 W) (t1:(CxP y).p S v1 W) (p0:combC N x (Cx.ofInt (1:Int) (0:Int)) (Cx.ofInt (0:Int) (0:Int)) y (Cx.ofInt (0:Int) (0:Int)) (Cx.ofInt (1:Int) (0:Int)) = some r) :
  Calls Tryz.prog 71 #[v0,v1] W (Ret (VP.tup3 (CxP (r.1.mul (unitC (firstC r.1).toNat))) (CxP (r.2.1.mul (unitC (firstC r.1).toNat))) (CxP (r.2.2.mul (unitC (firstC r.1).toNat)))) S W):=by
 obtain ⟨b1,b2,rfl,L1,L2,F1,F2⟩:=CxP.elim t0
 replace L1:Amb S W b1:=.inl L1
 replace L2:Amb S W b2:=.inl L2
 obtain ⟨b3,b4,rfl,L3,L4,F3,F4⟩:=CxP.elim t1
 replace L3:Amb S W b3:=.inl L3
 replace L4:Amb S W b4:=.inl L4
 have u0:=ht_unit
 have bel:=b0 W
 go_enter Tryz.func71,Tryz.ntmps71
 refine gs 5 (Amb S W) fun _ K5=>?_
 refine .bx rfl (fun H=>H.v 0 (.agg #[pt b1,pt b2])) ?_
 refine .bx rfl (fun H=>H.v 1 (.agg #[pt b3,pt b4])) ?_
 refine .al rfl (#[.pointer none,.pointer none]) ?_
 refine .al rfl (#[.pointer none,.pointer none]) ?_
 refine .al rfl (#[.pointer none,.pointer none]) ?_
 refine .dk (fun u=>.agg #[pt b1,pt b2]::.agg #[pt b3,pt b4]::sq u 0 5 (us 57)) K5 bel fun u1 w1 D bel=>?_
 obtain ⟨b6,E1_0,A6,B6⟩:=D.nw 0
 obtain ⟨b7,E1_1,A7,B7⟩:=D.nw 1
 obtain ⟨b8,E1_2,A8,B8⟩:=D.nw 2
 obtain ⟨b9,E1_3,A9,B9⟩:=D.nw 3
 obtain ⟨b10,E1_4,A10,B10⟩:=D.nw 4
 have N1_8:=D.n1 2 (RatP.lt F1) E1_2
 have N2_8:=D.n1 2 (RatP.lt F2) E1_2
 have N3_8:=D.n1 2 (RatP.lt F3) E1_2
 have N4_8:=D.n1 2 (RatP.lt F4) E1_2
 have N1_9:=D.n1 3 (RatP.lt F1) E1_3
 have N2_9:=D.n1 3 (RatP.lt F2) E1_3
 have N3_9:=D.n1 3 (RatP.lt F3) E1_3
 have N4_9:=D.n1 3 (RatP.lt F4) E1_3
 have N1_10:=D.n1 4 (RatP.lt F1) E1_4
 have N2_10:=D.n1 4 (RatP.lt F2) E1_4
 have N3_10:=D.n1 4 (RatP.lt F3) E1_4
 have N4_10:=D.n1 4 (RatP.lt F4) E1_4
 have N6_8:=D.n2 0 2 E1_0 E1_2
 have N7_8:=D.n2 1 2 E1_1 E1_2
 have N6_9:=D.n2 0 3 E1_0 E1_3
 have N7_9:=D.n2 1 3 E1_1 E1_3
 have N8_9:=D.n2 2 3 E1_2 E1_3
 have N6_10:=D.n2 0 4 E1_0 E1_4
 have N7_10:=D.n2 1 4 E1_1 E1_4
 have N8_10:=D.n2 2 4 E1_2 E1_4
 have N9_10:=D.n2 3 4 E1_3 E1_4
 replace F1:=D.o L1 F1
 replace F2:=D.o L2 F2
 replace F3:=D.o L3 F3
 replace F4:=D.o L4 F4
 clear D
 refine wp_scope_straight ?_
 refine gd 12 (Amb S W) fun _ K11=>?_
 refine .lr rfl 2 E1_0 B6 ?_
 refine .cR rfl [] Tryz.func51 (fun H=>⟨_,ar2 (H.c (.int .i64 1)) (H.c (.int .i64 0)),xInt _ _ (by first | omega | (have k0:=comb_bd i0; have k1:=hc_mul (x0.div y0).near y0; have k2:=hc_mul (x0.div y0).near y1; have k3:=hc_mul (x0.div y0).near y2; have k4:=u0 (firstC x0).toNat; omega) | exact zero_norm x_x) (by first | omega | (have k0:=comb_bd i0; have k1:=hc_mul (x0.div y0).near y0; have k2:=hc_mul (x0.div y0).near y1; have k3:=hc_mul (x0.div y0).near y2; have k4:=u0 (firstC x0).toNat; omega) | exact zero_norm x_x) (by first | omega | (have k0:=comb_bd i0; have k1:=hc_mul (x0.div y0).near y0; have k2:=hc_mul (x0.div y0).near y1; have k3:=hc_mul (x0.div y0).near y2; have k4:=u0 (firstC x0).toNat; omega) | exact zero_norm x_x) (by first | omega | (have k0:=comb_bd i0; have k1:=hc_mul (x0.div y0).near y0; have k2:=hc_mul (x0.div y0).near y1; have k3:=hc_mul (x0.div y0).near y2; have k4:=u0 (firstC x0).toNat; omega) | exact zero_norm x_x)⟩) ?_
 refine .cR rfl [] Tryz.func51 (fun H=>⟨_,ar2 (H.c (.int .i64 0)) (H.c (.int .i64 0)),xInt _ _ (by first | omega | (have k0:=comb_bd i0; have k1:=hc_mul (x0.div y0).near y0; have k2:=hc_mul (x0.div y0).near y1; have k3:=hc_mul (x0.div y0).near y2; have k4:=u0 (firstC x0).toNat; omega) | exact zero_norm x_x) (by first | omega | (have k0:=comb_bd i0; have k1:=hc_mul (x0.div y0).near y0; have k2:=hc_mul (x0.div y0).near y1; have k3:=hc_mul (x0.div y0).near y2; have k4:=u0 (firstC x0).toNat; omega) | exact zero_norm x_x) (by first | omega | (have k0:=comb_bd i0; have k1:=hc_mul (x0.div y0).near y0; have k2:=hc_mul (x0.div y0).near y1; have k3:=hc_mul (x0.div y0).near y2; have k4:=u0 (firstC x0).toNat; omega) | exact zero_norm x_x) (by first | omega | (have k0:=comb_bd i0; have k1:=hc_mul (x0.div y0).near y0; have k2:=hc_mul (x0.div y0).near y1; have k3:=hc_mul (x0.div y0).near y2; have k4:=u0 (firstC x0).toNat; omega) | exact zero_norm x_x)⟩) ?_
 refine Go2.fn (i:=3) rfl (G0 rfl) (SP.fnL 3 [1,2] (fun u=>.agg #[pt b1,pt b2,(u 1).v.cells.getD 0 undef,(u 1).v.cells.getD 1 undef,(u 2).v.cells.getD 0 undef,(u 2).v.cells.getD 1 undef]) (by intro u u' h; simp [h 1 (by simp),h 2 (by simp)])) (fun u μ ρ H=>⟨_,by have e13:=H.g 13 0; have e14:=H.r 14 1; have e15:=H.r 15 2; obtain ⟨x1_1,x2_1,h1_1,h2_1,h3_1⟩:=(H.a 1 rfl); obtain ⟨x1_2,x2_2,h1_2,h2_2,h3_2⟩:=(H.a 2 rfl); clear H; go_simp,SP.fnL_upd (by decide)⟩) ?_
 refine .lr rfl 3 E1_1 B7 ?_
 refine .cR rfl [] Tryz.func51 (fun H=>⟨_,ar2 (H.c (.int .i64 0)) (H.c (.int .i64 0)),xInt _ _ (by first | omega | (have k0:=comb_bd i0; have k1:=hc_mul (x0.div y0).near y0; have k2:=hc_mul (x0.div y0).near y1; have k3:=hc_mul (x0.div y0).near y2; have k4:=u0 (firstC x0).toNat; omega) | exact zero_norm x_x) (by first | omega | (have k0:=comb_bd i0; have k1:=hc_mul (x0.div y0).near y0; have k2:=hc_mul (x0.div y0).near y1; have k3:=hc_mul (x0.div y0).near y2; have k4:=u0 (firstC x0).toNat; omega) | exact zero_norm x_x) (by first | omega | (have k0:=comb_bd i0; have k1:=hc_mul (x0.div y0).near y0; have k2:=hc_mul (x0.div y0).near y1; have k3:=hc_mul (x0.div y0).near y2; have k4:=u0 (firstC x0).toNat; omega) | exact zero_norm x_x) (by first | omega | (have k0:=comb_bd i0; have k1:=hc_mul (x0.div y0).near y0; have k2:=hc_mul (x0.div y0).near y1; have k3:=hc_mul (x0.div y0).near y2; have k4:=u0 (firstC x0).toNat; omega) | exact zero_norm x_x)⟩) ?_
 refine .cR rfl [] Tryz.func51 (fun H=>⟨_,ar2 (H.c (.int .i64 1)) (H.c (.int .i64 0)),xInt _ _ (by first | omega | (have k0:=comb_bd i0; have k1:=hc_mul (x0.div y0).near y0; have k2:=hc_mul (x0.div y0).near y1; have k3:=hc_mul (x0.div y0).near y2; have k4:=u0 (firstC x0).toNat; omega) | exact zero_norm x_x) (by first | omega | (have k0:=comb_bd i0; have k1:=hc_mul (x0.div y0).near y0; have k2:=hc_mul (x0.div y0).near y1; have k3:=hc_mul (x0.div y0).near y2; have k4:=u0 (firstC x0).toNat; omega) | exact zero_norm x_x) (by first | omega | (have k0:=comb_bd i0; have k1:=hc_mul (x0.div y0).near y0; have k2:=hc_mul (x0.div y0).near y1; have k3:=hc_mul (x0.div y0).near y2; have k4:=u0 (firstC x0).toNat; omega) | exact zero_norm x_x) (by first | omega | (have k0:=comb_bd i0; have k1:=hc_mul (x0.div y0).near y0; have k2:=hc_mul (x0.div y0).near y1; have k3:=hc_mul (x0.div y0).near y2; have k4:=u0 (firstC x0).toNat; omega) | exact zero_norm x_x)⟩) ?_
 refine Go2.fn (i:=7) rfl (G0 rfl) (SP.fnL 7 [5,6] (fun u=>.agg #[pt b3,pt b4,(u 5).v.cells.getD 0 undef,(u 5).v.cells.getD 1 undef,(u 6).v.cells.getD 0 undef,(u 6).v.cells.getD 1 undef]) (by intro u u' h; simp [h 5 (by simp),h 6 (by simp)])) (fun u μ ρ H=>⟨_,by have e17:=H.g 17 4; have e18:=H.r 18 5; have e19:=H.r 19 6; obtain ⟨x1_5,x2_5,h1_5,h2_5,h3_5⟩:=(H.a 5 rfl); obtain ⟨x1_6,x2_6,h1_6,h2_6,h3_6⟩:=(H.a 6 rfl); clear H; go_simp,SP.fnL_upd (by decide)⟩) ?_
 refine .al rfl (#[.pointer none,.pointer none,.pointer none,.pointer none,.pointer none,.pointer none]) ?_
 refine .al rfl (#[.pointer none,.pointer none,.pointer none,.pointer none,.pointer none,.pointer none]) ?_
 refine Go2.storeOwn (i:=10) (m:=8) rfl rfl (.tail _ (.head _)) (SP.cells 8 [1,2] (fun u=>#[pt b1,pt b2,((u 1).v.cells.getD 0 undef),((u 1).v.cells.getD 1 undef),((u 2).v.cells.getD 0 undef),((u 2).v.cells.getD 1 undef)]) 154 (by intro u u' h; simp [h 1 (by simp),h 2 (by simp)])) (fun u μ ρ b H h0 hB hb=>?_) ?_
 · have e7:=H.r 7 8; have e16:=H.e 16 3 (by kernel_rfl) (H.a 3 rfl); have op1_0:((u 1).v.cells[0]?.getD undef).oneCell' = true:=(by obtain ⟨x1,x2,h1,h2,h3⟩:=(H.a 1 rfl); rw [h1]; exact VP1.rat h2); have op1_1:((u 1).v.cells[1]?.getD undef).oneCell' = true:=(by obtain ⟨x1,x2,h1,h2,h3⟩:=(H.a 1 rfl); rw [h1]; exact VP1.rat h3); have op2_0:((u 2).v.cells[0]?.getD undef).oneCell' = true:=(by obtain ⟨x1,x2,h1,h2,h3⟩:=(H.a 2 rfl); rw [h1]; exact VP1.rat h2); have op2_1:((u 2).v.cells[1]?.getD undef).oneCell' = true:=(by obtain ⟨x1,x2,h1,h2,h3⟩:=(H.a 2 rfl); rw [h1]; exact VP1.rat h3)
   rw [h0] at e7
   refine ⟨μ.setRow b #[pt b1,pt b2,((u 1).v.cells.getD 0 undef),((u 1).v.cells.getD 1 undef),((u 2).v.cells.getD 0 undef),((u 2).v.cells.getD 1 undef)],ex_store_row 154 _ _ rfl e7 e16 hb (by kernel_rfl) rfl (by simp [op1_0,ptr1,op1_1,op2_0,op2_1] <;> rfl),fun g=>⟨b,?_,hB,?_⟩,setRow_only _ _ _⟩
   · rw [upd_other _ _ (by decide)]; exact h0
   · rw [setRow_at hb]; try simp [upd]
 refine Go2.storeOwn (i:=11) (m:=9) rfl rfl (.tail _ (.head _)) (SP.cells 9 [5,6] (fun u=>#[pt b3,pt b4,((u 5).v.cells.getD 0 undef),((u 5).v.cells.getD 1 undef),((u 6).v.cells.getD 0 undef),((u 6).v.cells.getD 1 undef)]) 154 (by intro u u' h; simp [h 5 (by simp),h 6 (by simp)])) (fun u μ ρ b H h0 hB hb=>?_) ?_
 · have e8:=H.r 8 9; have e20:=H.e 20 7 (by kernel_rfl) (H.a 7 rfl); have op5_0:((u 5).v.cells[0]?.getD undef).oneCell' = true:=(by obtain ⟨x1,x2,h1,h2,h3⟩:=(H.a 5 rfl); rw [h1]; exact VP1.rat h2); have op5_1:((u 5).v.cells[1]?.getD undef).oneCell' = true:=(by obtain ⟨x1,x2,h1,h2,h3⟩:=(H.a 5 rfl); rw [h1]; exact VP1.rat h3); have op6_0:((u 6).v.cells[0]?.getD undef).oneCell' = true:=(by obtain ⟨x1,x2,h1,h2,h3⟩:=(H.a 6 rfl); rw [h1]; exact VP1.rat h2); have op6_1:((u 6).v.cells[1]?.getD undef).oneCell' = true:=(by obtain ⟨x1,x2,h1,h2,h3⟩:=(H.a 6 rfl); rw [h1]; exact VP1.rat h3)
   rw [h0] at e8
   refine ⟨μ.setRow b #[pt b3,pt b4,((u 5).v.cells.getD 0 undef),((u 5).v.cells.getD 1 undef),((u 6).v.cells.getD 0 undef),((u 6).v.cells.getD 1 undef)],ex_store_row 154 _ _ rfl e8 e20 hb (by kernel_rfl) rfl (by simp [op5_0,ptr1,op5_1,op6_0,op6_1] <;> rfl),fun g=>⟨b,?_,hB,?_⟩,setRow_only _ _ _⟩
   · rw [upd_other _ _ (by decide)]; exact h0
   · rw [setRow_at hb]; try simp [upd]
 refine .dk (fun u=>.agg #[pt b1,pt b2]::.agg #[pt b3,pt b4]::sq u1 0 5 (u 8::u 9::U::U::U::U::sq u 0 8 (us 43))) K11 bel fun u2 w2 D bel=>?_
 obtain ⟨b12,b13,E2_1,L12,L13,F12,F13⟩:=CxP.elim (D.rr 1)
 obtain ⟨b14,b15,E2_2,L14,L15,F14,F15⟩:=CxP.elim (D.rr 2)
 obtain ⟨b16,b17,E2_5,L16,L17,F16,F17⟩:=CxP.elim (D.rr 5)
 obtain ⟨b18,b19,E2_6,L18,L19,F18,F19⟩:=CxP.elim (D.rr 6)
 obtain ⟨b20,E2_8,A20,B20⟩:=(D.a 10 rfl)
 replace A20:=le2 D.le A20
 obtain ⟨b21,E2_9,A21,B21⟩:=(D.a 11 rfl)
 replace A21:=le2 D.le A21
 have N6_20:=D.n1 8 (lt_of B6) E2_8
 have N7_20:=D.n1 8 (lt_of B7) E2_8
 have N8_20:=D.n1 8 (lt_of B8) E2_8
 have N9_20:=D.n1 8 (lt_of B9) E2_8
 have N10_20:=D.n1 8 (lt_of B10) E2_8
 have N1_20:=D.n1 8 (RatP.lt F1) E2_8
 have N2_20:=D.n1 8 (RatP.lt F2) E2_8
 have N3_20:=D.n1 8 (RatP.lt F3) E2_8
 have N4_20:=D.n1 8 (RatP.lt F4) E2_8
 have N6_21:=D.n1 9 (lt_of B6) E2_9
 have N7_21:=D.n1 9 (lt_of B7) E2_9
 have N8_21:=D.n1 9 (lt_of B8) E2_9
 have N9_21:=D.n1 9 (lt_of B9) E2_9
 have N10_21:=D.n1 9 (lt_of B10) E2_9
 have N1_21:=D.n1 9 (RatP.lt F1) E2_9
 have N2_21:=D.n1 9 (RatP.lt F2) E2_9
 have N3_21:=D.n1 9 (RatP.lt F3) E2_9
 have N4_21:=D.n1 9 (RatP.lt F4) E2_9
 have N20_21:=D.n2 8 9 E2_8 E2_9
 replace B8:=D.k B8
 replace B9:=D.k B9
 replace B10:=D.k B10
 simp only [Value.cells,E2_1,E2_2,E2_5,E2_6,E2_8,E2_9] at B20
 replace B20:w2.heap[b20]? = some (.cells #[pt b1,pt b2,pt b12,pt b13,pt b14,pt b15] 154 (0,0)):=B20
 simp only [Value.cells,E2_1,E2_2,E2_5,E2_6,E2_8,E2_9] at B21
 replace B21:w2.heap[b21]? = some (.cells #[pt b3,pt b4,pt b16,pt b17,pt b18,pt b19] 154 (0,0)):=B21
 replace F1:=D.o L1 F1
 replace F2:=D.o L2 F2
 replace F3:=D.o L3 F3
 replace F4:=D.o L4 F4
 clear D
 refine wp_seq_k fun _ K22=>?_
 refine wp_label ?_
 refine K22 _ _ ?_
 refine wp_seq_k fun _ K23=>?_
 refine wp_block ?_
 refine wp_loop_ghost_k (fun n_ a_ w_=>∃ d9:Value,∃ d10:Value,∃ d11:Value,∃ d21:Value,∃ d22:Value,∃ d23:Value,∃ d24:Value,∃ d25:Value,∃ d26:Value,∃ d27:Value,∃ d28:Value,∃ d29:Value,∃ d30:Value,∃ d31:Value,∃ d32:Value,∃ d33:Value,∃ d34:Value,∃ d35:Value,∃ d36:Value,∃ d37:Value,∃ d38:Value,∃ d39:Value,∃ d40:Value,∃ d41:Value,∃ d42:Value,∃ d43:Value,∃ d44:Value,∃ d45:Value,∃ d46:Value,∃ b20_c0:Nat,∃ b20_c1:Nat,∃ b20_c2:Nat,∃ b20_c3:Nat,∃ b20_c4:Nat,∃ b20_c5:Nat,∃ b21_c0:Nat,∃ b21_c1:Nat,∃ b21_c2:Nat,∃ b21_c3:Nat,∃ b21_c4:Nat,∃ b21_c5:Nat,∃ n:Nat,∃ x0:Cx,∃ x1:Cx,∃ x2:Cx,∃ y0:Cx,∃ y1:Cx,∃ y2:Cx,a_ = fr (.agg #[pt b1,pt b2]::.agg #[pt b3,pt b4]::sq u1 0 5 (u2 8::u2 9::d9::d10::d11::U::sq u2 0 8 (d21::d22::d23::d24::d25::d26::d27::d28::d29::d30::d31::d32::d33::d34::d35::d36::d37::d38::d39::d40::d41::d42::d43::d44::d45::d46::us 17))) ∧ n_ = n ∧ combC n x0 x1 x2 y0 y1 y2 = some r ∧ w_.heap[b20]? = some (.cells #[.pointer (some ⟨b20_c0,0,none⟩),.pointer (some ⟨b20_c1,0,none⟩),.pointer (some ⟨b20_c2,0,none⟩),.pointer (some ⟨b20_c3,0,none⟩),.pointer (some ⟨b20_c4,0,none⟩),.pointer (some ⟨b20_c5,0,none⟩)] 154 (0,0)) ∧ (RatP x0.re).p (Amb S W) (.pointer (some ⟨b20_c0,0,none⟩)) w_ ∧ (RatP x0.im).p (Amb S W) (.pointer (some ⟨b20_c1,0,none⟩)) w_ ∧ (RatP x1.re).p (Amb S W) (.pointer (some ⟨b20_c2,0,none⟩)) w_ ∧ (RatP x1.im).p (Amb S W) (.pointer (some ⟨b20_c3,0,none⟩)) w_ ∧ (RatP x2.re).p (Amb S W) (.pointer (some ⟨b20_c4,0,none⟩)) w_ ∧ (RatP x2.im).p (Amb S W) (.pointer (some ⟨b20_c5,0,none⟩)) w_ ∧ w_.heap[b21]? = some (.cells #[.pointer (some ⟨b21_c0,0,none⟩),.pointer (some ⟨b21_c1,0,none⟩),.pointer (some ⟨b21_c2,0,none⟩),.pointer (some ⟨b21_c3,0,none⟩),.pointer (some ⟨b21_c4,0,none⟩),.pointer (some ⟨b21_c5,0,none⟩)] 154 (0,0)) ∧ (RatP y0.re).p (Amb S W) (.pointer (some ⟨b21_c0,0,none⟩)) w_ ∧ (RatP y0.im).p (Amb S W) (.pointer (some ⟨b21_c1,0,none⟩)) w_ ∧ (RatP y1.re).p (Amb S W) (.pointer (some ⟨b21_c2,0,none⟩)) w_ ∧ (RatP y1.im).p (Amb S W) (.pointer (some ⟨b21_c3,0,none⟩)) w_ ∧ (RatP y2.re).p (Amb S W) (.pointer (some ⟨b21_c4,0,none⟩)) w_ ∧ (RatP y2.im).p (Amb S W) (.pointer (some ⟨b21_c5,0,none⟩)) w_ ∧ w_.heap[b10]? = some (.cells #[.pointer none,.pointer none] 81 (0,0)) ∧ w_.heap[b8]? = some (.cells #[.pointer none,.pointer none] 81 (0,0)) ∧ w_.heap[b9]? = some (.cells #[.pointer none,.pointer none] 81 (0,0)) ∧ RowKit.Below W.heap.size W w_) N ⟨_,_,_,_,_,_,_,_,_,_,_,_,_,_,_,_,_,_,_,_,_,_,_,_,_,_,_,_,_,_,_,_,_,_,_,_,_,_,_,_,_,N,x,Cx.ofInt (1:Int) (0:Int),Cx.ofInt (0:Int) (0:Int),y,Cx.ofInt (0:Int) (0:Int),Cx.ofInt (1:Int) (0:Int),rfl,rfl,by exact p0,B20,(VP.at F1 L1),(VP.at F2 L2),(VP.at F12 L12),(VP.at F13 L13),(VP.at F14 L14),(VP.at F15 L15),B21,(VP.at F3 L3),(VP.at F4 L4),(VP.at F16 L16),(VP.at F17 L17),(VP.at F18 L18),(VP.at F19 L19),B10,B8,B9,bel⟩ ?_
 clear B10 B20 B21 B8 B9 F1 F12 F13 F14 F15 F16 F17 F18 F19 F2 F3 F4 bel
 rintro n_ _ w24 ⟨d9,d10,d11,d21,d22,d23,d24,d25,d26,d27,d28,d29,d30,d31,d32,d33,d34,d35,d36,d37,d38,d39,d40,d41,d42,d43,d44,d45,d46,b20_c0,b20_c1,b20_c2,b20_c3,b20_c4,b20_c5,b21_c0,b21_c1,b21_c2,b21_c3,b21_c4,b21_c5,n,x0,x1,x2,y0,y1,y2,rfl,hn27,i0,B20,f_b20_c0,f_b20_c1,f_b20_c2,f_b20_c3,f_b20_c4,f_b20_c5,B21,f_b21_c0,f_b21_c1,f_b21_c2,f_b21_c3,f_b21_c4,f_b21_c5,B10,B8,B9,bel⟩ J25 K26 hJ25 hK26
 obtain ⟨q_,e_,L_b20_c0,F_b20_c0⟩:=RatP.elim f_b20_c0; cases e_; clear f_b20_c0
 obtain ⟨q_,e_,L_b20_c1,F_b20_c1⟩:=RatP.elim f_b20_c1; cases e_; clear f_b20_c1
 obtain ⟨q_,e_,L_b20_c2,F_b20_c2⟩:=RatP.elim f_b20_c2; cases e_; clear f_b20_c2
 obtain ⟨q_,e_,L_b20_c3,F_b20_c3⟩:=RatP.elim f_b20_c3; cases e_; clear f_b20_c3
 obtain ⟨q_,e_,L_b20_c4,F_b20_c4⟩:=RatP.elim f_b20_c4; cases e_; clear f_b20_c4
 obtain ⟨q_,e_,L_b20_c5,F_b20_c5⟩:=RatP.elim f_b20_c5; cases e_; clear f_b20_c5
 obtain ⟨q_,e_,L_b21_c0,F_b21_c0⟩:=RatP.elim f_b21_c0; cases e_; clear f_b21_c0
 obtain ⟨q_,e_,L_b21_c1,F_b21_c1⟩:=RatP.elim f_b21_c1; cases e_; clear f_b21_c1
 obtain ⟨q_,e_,L_b21_c2,F_b21_c2⟩:=RatP.elim f_b21_c2; cases e_; clear f_b21_c2
 obtain ⟨q_,e_,L_b21_c3,F_b21_c3⟩:=RatP.elim f_b21_c3; cases e_; clear f_b21_c3
 obtain ⟨q_,e_,L_b21_c4,F_b21_c4⟩:=RatP.elim f_b21_c4; cases e_; clear f_b21_c4
 obtain ⟨q_,e_,L_b21_c5,F_b21_c5⟩:=RatP.elim f_b21_c5; cases e_; clear f_b21_c5
 refine wp_block ?_
 refine wp_seq_k fun _ K28=>?_
 refine gs 3 (Amb S W) fun _ K29=>?_
 refine .e rfl (V:=pt b21) (fun H=>by have e8:=H.z 8 E2_9; have k1:=H.c (.int .i64 0); clear H; go_simp) ?_
 refine .lp rfl 0 (#[pt b21_c0,pt b21_c1]) B21 ?_
 refine .cK rfl Tryz.func53 (fun H=>⟨_,ar1 (H.g 22 1),xZero _ (CxP.mk (VP.any _ (H.was _ [] (VP.at F_b21_c0 L_b21_c0))) (VP.any _ (H.was _ [] (VP.at F_b21_c1 L_b21_c1))))⟩) ?_
 refine .dk (fun u=>.agg #[pt b1,pt b2]::.agg #[pt b3,pt b4]::sq u1 0 5 (u2 8::u2 9::d9::d10::d11::U::sq u2 0 8 (sq u 0 3 (d24::d25::d26::d27::d28::d29::d30::d31::d32::d33::d34::d35::d36::d37::d38::d39::d40::d41::d42::d43::d44::d45::d46::us 17)))) K29 bel fun u3 w3 D bel=>?_
 have E3_0:=D.q 0
 have E3_1:=D.q 1
 have E3_2:=D.q 2
 replace B8:=D.k B8
 replace B9:=D.k B9
 replace B10:=D.k B10
 replace B20:=D.k B20
 replace B21:=D.k B21
 replace F_b20_c0:=D.o L_b20_c0 F_b20_c0
 replace F_b20_c1:=D.o L_b20_c1 F_b20_c1
 replace F_b20_c2:=D.o L_b20_c2 F_b20_c2
 replace F_b20_c3:=D.o L_b20_c3 F_b20_c3
 replace F_b20_c4:=D.o L_b20_c4 F_b20_c4
 replace F_b20_c5:=D.o L_b20_c5 F_b20_c5
 replace F_b21_c0:=D.o L_b21_c0 F_b21_c0
 replace F_b21_c1:=D.o L_b21_c1 F_b21_c1
 replace F_b21_c2:=D.o L_b21_c2 F_b21_c2
 replace F_b21_c3:=D.o L_b21_c3 F_b21_c3
 replace F_b21_c4:=D.o L_b21_c4 F_b21_c4
 replace F_b21_c5:=D.o L_b21_c5 F_b21_c5
 clear D
 rcases Bool.eq_false_or_eq_true y0.zero with c30 | c30
 ·
  refine wp_cond_true ((E3_2).trans (congrArg Value.bool c30)) ?_
  refine wp_exit ?_
  refine then_exit ?_
  refine inBlock_other (by decide) ?_
  refine then_exit ?_
  refine inBlock_here ?_
  refine K23 _ _ ?_
  refine gd 7 (Amb S W) fun _ K31=>?_
  refine .cR rfl [] Tryz.func72 (fun H=>⟨_,ar0,hUnits⟩) ?_
  refine .e rfl (V:=pt b20) (fun H=>by have e7:=H.z 7 E2_8; have k1:=H.c (.int .i64 0); clear H; go_simp) ?_
  refine .lp rfl 1 (#[pt b20_c0,pt b20_c1]) B20 ?_
  refine .cK rfl Tryz.func73 (fun H=>⟨_,ar1 (H.g 49 2),hFirst _ (CxP.mk (VP.any _ (H.was _ [] (VP.at F_b20_c0 L_b20_c0))) (VP.any _ (H.was _ [] (VP.at F_b20_c1 L_b20_c1)))) (by first | omega | (have k0:=comb_bd i0; have k1:=hc_mul (x0.div y0).near y0; have k2:=hc_mul (x0.div y0).near y1; have k3:=hc_mul (x0.div y0).near y2; have k4:=u0 (firstC x0).toNat; omega) | exact zero_norm c30)⟩) ?_
  refine Go2.fn (i:=4) rfl (G0 rfl) (.val 4 [0] (CxP (unitC (firstC x0).toNat))) (fun u μ ρ H=>by have e47:=H.r 47 0; have e50:=H.g 50 3; obtain ⟨a0,b0,a1,b1,a2,b2,a3,b3,h9_,g0,g1,g2,g3⟩:=(H.a 0 rfl); rw [h9_] at e47; rcases firstC_cases x0 with h_ | h_ | h_ | h_; (rw [h_] at e50; rw [show (firstC x0).toNat = 0 from by rw [h_]; rfl]; have i_:=index_four (w:=μ) a0 b0 a1 b1 a2 b2 a3 b3 0 a0 b0 (.inl ⟨rfl,rfl,rfl⟩); exact ⟨.agg #[a0,b0],by clear H; go_simp,SP.tupKeep (by decide) (by decide) g0⟩); (rw [h_] at e50; rw [show (firstC x0).toNat = 1 from by rw [h_]; rfl]; have i_:=index_four (w:=μ) a0 b0 a1 b1 a2 b2 a3 b3 1 a1 b1 (.inr (.inl ⟨rfl,rfl,rfl⟩)); exact ⟨.agg #[a1,b1],by clear H; go_simp,SP.tupKeep (by decide) (by decide) g1⟩); (rw [h_] at e50; rw [show (firstC x0).toNat = 2 from by rw [h_]; rfl]; have i_:=index_four (w:=μ) a0 b0 a1 b1 a2 b2 a3 b3 2 a2 b2 (.inr (.inr (.inl ⟨rfl,rfl,rfl⟩))); exact ⟨.agg #[a2,b2],by clear H; go_simp,SP.tupKeep (by decide) (by decide) g2⟩); (rw [h_] at e50; rw [show (firstC x0).toNat = 3 from by rw [h_]; rfl]; have i_:=index_four (w:=μ) a0 b0 a1 b1 a2 b2 a3 b3 3 a3 b3 (.inr (.inr (.inr ⟨rfl,rfl,rfl⟩))); exact ⟨.agg #[a3,b3],by clear H; go_simp,SP.tupKeep (by decide) (by decide) g3⟩)) ?_
  refine .al rfl (#[.pointer none,.pointer none]) ?_
  refine Go2.storeOwn (i:=6) (m:=5) rfl rfl (.head _) (SP.cells 5 [4] (fun u=>#[((u 4).v.cells.getD 0 undef),((u 4).v.cells.getD 1 undef)]) 81 (by intro u u' h; simp [h 4 (by simp)])) (fun u μ ρ b H h0 hB hb=>?_) ?_
  · have e12:=H.r 12 5; have e51:=H.r 51 4
    rw [h0] at e12
    obtain ⟨x1,x2,h1,h2,h3⟩:=(H.a 4 rfl)
    have o1:=VP1.rat h2
    have o2:=VP1.rat h3
    rw [h1] at e51
    refine ⟨μ.setRow b #[x1,x2],ex_store_row 81 _ _ rfl e12 e51 hb (by kernel_rfl) rfl (by simp [o1,o2]),fun g=>⟨b,?_,hB,?_⟩,setRow_only _ _ _⟩
    · rw [upd_other _ _ (by decide)]; exact h0
    · rw [setRow_at hb]; try simp [upd,h1,Value.cells]
  refine .dk (fun u=>.agg #[pt b1,pt b2]::.agg #[pt b3,pt b4]::sq u1 0 5 (u2 8::u2 9::d9::d10::d11::u 5::sq u2 0 8 (sq u3 0 3 (d24::d25::d26::d27::d28::d29::d30::d31::d32::d33::d34::d35::d36::d37::d38::d39::d40::d41::d42::d43::d44::d45::d46::sq u 0 5 (us 12))))) K31 bel fun u4 w4 D bel=>?_
  obtain ⟨b32,b33,E4_4,L32,L33,F32,F33⟩:=CxP.elim (D.rr 4)
  obtain ⟨b34,E4_5,A34,B34⟩:=(D.a 6 rfl)
  replace A34:=le2 D.le A34
  have N8_34:=D.n1 5 (lt_of B8) E4_5
  have N9_34:=D.n1 5 (lt_of B9) E4_5
  have N10_34:=D.n1 5 (lt_of B10) E4_5
  have N20_34:=D.n1 5 (lt_of B20) E4_5
  have N21_34:=D.n1 5 (lt_of B21) E4_5
  replace B8:=D.k B8
  replace B9:=D.k B9
  replace B10:=D.k B10
  replace B20:=D.k B20
  simp only [Value.cells,E4_4,E4_5] at B34
  replace B34:w4.heap[b34]? = some (.cells #[pt b32,pt b33] 81 (0,0)):=B34
  replace F_b20_c0:=D.o L_b20_c0 F_b20_c0
  replace F_b20_c1:=D.o L_b20_c1 F_b20_c1
  replace F_b20_c2:=D.o L_b20_c2 F_b20_c2
  replace F_b20_c3:=D.o L_b20_c3 F_b20_c3
  replace F_b20_c4:=D.o L_b20_c4 F_b20_c4
  replace F_b20_c5:=D.o L_b20_c5 F_b20_c5
  clear D
  refine wp_seq_k fun _ K35=>?_
  refine go2_drawn (by kernel_rfl) 15 rfl (Amb S W) [(b8,12),(b9,13),(b10,14)] [12,13,14] (Olds.cons (R0:=fun _=>True) (lt_of B8) (by simp [(Ne.symm N8_9),(Ne.symm N8_10)]) (Olds.cons (R0:=fun _=>True) (lt_of B9) (by simp [(Ne.symm N9_10)]) (Olds.one (lt_of B10)))) (by kernel_rfl) ?_
  refine .e rfl (V:=pt b20) (fun H=>by have e7:=H.z 7 E2_8; have k1:=H.c (.int .i64 0); clear H; go_simp) ?_
  refine .e rfl (V:=.agg #[pt b20_c0,pt b20_c1]) (fun H=>x_ldp (H.g 52 0) (H.bn B20 (no_cons N8_20 (no_cons N9_20 (no_cons N10_20 (no_nil _)))))) ?_
  refine .e rfl (fun H=>x_ldr (H.z 12 E4_5) (H.bn B34 (no_cons N8_34 (no_cons N9_34 (no_cons N10_34 (no_nil _)))))) ?_
  refine .cR rfl [] Tryz.func67 (fun H=>⟨_,ar2 (H.g 53 1) (H.g 54 2),xMul _ _ (CxP.mk (H.was _ [] (VP.at F_b20_c0 L_b20_c0)) (H.was _ [] (VP.at F_b20_c1 L_b20_c1))) (CxP.mk (H.was _ [] (VP.at F32 L32)) (H.was _ [] (VP.at F33 L33))) (by first | omega | (have k0:=comb_bd i0; have k1:=hc_mul (x0.div y0).near y0; have k2:=hc_mul (x0.div y0).near y1; have k3:=hc_mul (x0.div y0).near y2; have k4:=u0 (firstC x0).toNat; omega) | exact zero_norm c30)⟩) ?_
  refine .e rfl (V:=.pointer (some ⟨b20,2,none⟩)) (fun H=>by have e7:=H.z 7 E2_8; have k1:=H.c (.int .i64 1); clear H; go_simp) ?_
  refine .e rfl (V:=.agg #[pt b20_c2,pt b20_c3]) (fun H=>x_ldp (H.g 56 4) (H.bn B20 (no_cons N8_20 (no_cons N9_20 (no_cons N10_20 (no_nil _)))))) ?_
  refine .e rfl (fun H=>x_ldr (H.z 12 E4_5) (H.bn B34 (no_cons N8_34 (no_cons N9_34 (no_cons N10_34 (no_nil _)))))) ?_
  refine .cR rfl [] Tryz.func67 (fun H=>⟨_,ar2 (H.g 57 5) (H.g 58 6),xMul _ _ (CxP.mk (H.was _ [] (VP.at F_b20_c2 L_b20_c2)) (H.was _ [] (VP.at F_b20_c3 L_b20_c3))) (CxP.mk (H.was _ [] (VP.at F32 L32)) (H.was _ [] (VP.at F33 L33))) (by first | omega | (have k0:=comb_bd i0; have k1:=hc_mul (x0.div y0).near y0; have k2:=hc_mul (x0.div y0).near y1; have k3:=hc_mul (x0.div y0).near y2; have k4:=u0 (firstC x0).toNat; omega) | exact zero_norm c30)⟩) ?_
  refine .e rfl (V:=.pointer (some ⟨b20,4,none⟩)) (fun H=>by have e7:=H.z 7 E2_8; have k1:=H.c (.int .i64 2); clear H; go_simp) ?_
  refine .e rfl (V:=.agg #[pt b20_c4,pt b20_c5]) (fun H=>x_ldp (H.g 60 8) (H.bn B20 (no_cons N8_20 (no_cons N9_20 (no_cons N10_20 (no_nil _)))))) ?_
  refine .e rfl (fun H=>x_ldr (H.z 12 E4_5) (H.bn B34 (no_cons N8_34 (no_cons N9_34 (no_cons N10_34 (no_nil _)))))) ?_
  refine .cR rfl [] Tryz.func67 (fun H=>⟨_,ar2 (H.g 61 9) (H.g 62 10),xMul _ _ (CxP.mk (H.was _ [] (VP.at F_b20_c4 L_b20_c4)) (H.was _ [] (VP.at F_b20_c5 L_b20_c5))) (CxP.mk (H.was _ [] (VP.at F32 L32)) (H.was _ [] (VP.at F33 L33))) (by first | omega | (have k0:=comb_bd i0; have k1:=hc_mul (x0.div y0).near y0; have k2:=hc_mul (x0.div y0).near y1; have k3:=hc_mul (x0.div y0).near y2; have k4:=u0 (firstC x0).toNat; omega) | exact zero_norm c30)⟩) ?_
  refine Go2.storeOld (i:=12) 0 b8 rfl rfl rfl ⟨_,_,_,B8,rfl⟩ (SP.old 0 b8 [3] (fun u=>#[((u 3).v.cells.getD 0 undef),((u 3).v.cells.getD 1 undef)]) 81 (by intro u u' h; simp [h 3 (by simp)]) (lt_of B8) (by intro y k hy; match y,hy with | 0,hy=>rfl | 1,hy=>simp at hy; exact absurd hy.1 (Ne.symm N8_9) | 2,hy=>simp at hy; exact absurd hy.1 (Ne.symm N8_10))) (fun u μ ρ H=>?_) ?_
  · have e4:=H.z 4 E1_2; have e55:=H.r 55 3; have hb:=H.blkOld B8 0 12 rfl (.inl rfl)
    obtain ⟨x1,x2,h1,h2,h3⟩:=(H.a 3 rfl)
    have o1:=VP1.rat h2
    have o2:=VP1.rat h3
    rw [h1] at e55
    refine ⟨μ.setRow b8 #[x1,x2],ex_store_row 81 _ _ rfl e4 e55 hb (by kernel_rfl) rfl (by simp [o1,o2]),fun g=>?_,setRow_only _ _ _⟩
    show (World.setRow _ _ _).heap[b8]? = _
    rw [setRow_at hb]; try simp [upd,h1,Value.cells]
  refine Go2.storeOld (i:=13) 1 b9 rfl rfl rfl ⟨_,_,_,B9,rfl⟩ (SP.old 1 b9 [7] (fun u=>#[((u 7).v.cells.getD 0 undef),((u 7).v.cells.getD 1 undef)]) 81 (by intro u u' h; simp [h 7 (by simp)]) (lt_of B9) (by intro y k hy; match y,hy with | 0,hy=>simp at hy; exact absurd hy.1 N8_9 | 1,hy=>rfl | 2,hy=>simp at hy; exact absurd hy.1 (Ne.symm N9_10))) (fun u μ ρ H=>?_) ?_
  · have e5:=H.z 5 E1_3; have e59:=H.r 59 7; have hb:=H.blkOld B9 1 13 rfl (.inl rfl)
    obtain ⟨x1,x2,h1,h2,h3⟩:=(H.a 7 rfl)
    have o1:=VP1.rat h2
    have o2:=VP1.rat h3
    rw [h1] at e59
    refine ⟨μ.setRow b9 #[x1,x2],ex_store_row 81 _ _ rfl e5 e59 hb (by kernel_rfl) rfl (by simp [o1,o2]),fun g=>?_,setRow_only _ _ _⟩
    show (World.setRow _ _ _).heap[b9]? = _
    rw [setRow_at hb]; try simp [upd,h1,Value.cells]
  refine Go2.storeOld (i:=14) 2 b10 rfl rfl rfl ⟨_,_,_,B10,rfl⟩ (SP.old 2 b10 [11] (fun u=>#[((u 11).v.cells.getD 0 undef),((u 11).v.cells.getD 1 undef)]) 81 (by intro u u' h; simp [h 11 (by simp)]) (lt_of B10) (by intro y k hy; match y,hy with | 0,hy=>simp at hy; exact absurd hy.1 N8_10 | 1,hy=>simp at hy; exact absurd hy.1 N9_10 | 2,hy=>rfl)) (fun u μ ρ H=>?_) ?_
  · have e6:=H.z 6 E1_4; have e63:=H.r 63 11; have hb:=H.blkOld B10 2 14 rfl (.inl rfl)
    obtain ⟨x1,x2,h1,h2,h3⟩:=(H.a 11 rfl)
    have o1:=VP1.rat h2
    have o2:=VP1.rat h3
    rw [h1] at e63
    refine ⟨μ.setRow b10 #[x1,x2],ex_store_row 81 _ _ rfl e6 e63 hb (by kernel_rfl) rfl (by simp [o1,o2]),fun g=>?_,setRow_only _ _ _⟩
    show (World.setRow _ _ _).heap[b10]? = _
    rw [setRow_at hb]; try simp [upd,h1,Value.cells]
  refine .dd (fun u=>⟨List.toArray (.agg #[pt b1,pt b2]::.agg #[pt b3,pt b4]::sq u1 0 5 (u2 8::u2 9::d9::d10::d11::u4 5::sq u2 0 8 (sq u3 0 3 (d24::d25::d26::d27::d28::d29::d30::d31::d32::d33::d34::d35::d36::d37::d38::d39::d40::d41::d42::d43::d44::d45::d46::sq u4 0 5 (sq u 0 12 []))))),[]⟩) bel.size fun u5 w5 D=>?_
  obtain ⟨b36,b37,E5_3,L36,L37,F36,F37⟩:=CxP.elim (D.rr 3)
  obtain ⟨b38,b39,E5_7,L38,L39,F38,F39⟩:=CxP.elim (D.rr 7)
  obtain ⟨b40,b41,E5_11,L40,L41,F40,F41⟩:=CxP.elim (D.rr 11)
  replace B8:w5.heap[b8]? = _:=(D.a 12 rfl)
  simp only [Value.cells,E5_3,E5_7,E5_11] at B8
  replace B9:w5.heap[b9]? = _:=(D.a 13 rfl)
  simp only [Value.cells,E5_3,E5_7,E5_11] at B9
  replace B10:w5.heap[b10]? = _:=(D.a 14 rfl)
  simp only [Value.cells,E5_3,E5_7,E5_11] at B10
  replace bel:=D.d.base.bel bel bel.size (by simp; omega)
  clear D
  refine K35 _ _ ?_
  obtain rfl:=comb_end i0 c30
  refine wp_ret ?_
  refine ret_ok rfl (by exact results_rows3 rfl (by exact E1_2) B8 Tryz.underlying81 rfl (by kernel_rfl) (by exact E1_3) B9 Tryz.underlying81 rfl (by kernel_rfl) (by exact E1_4) B10 Tryz.underlying81 rfl (by kernel_rfl)) ⟨_,rfl,?_,bel⟩
  exact ⟨_,_,_,rfl,(CxP.mk (VP.at F36 L36) (VP.at F37 L37)),(CxP.mk (VP.at F38 L38) (VP.at F39 L39)),(CxP.mk (VP.at F40 L40) (VP.at F41 L41))⟩
 ·
  refine wp_cond_false ((E3_2).trans (congrArg Value.bool c30)) ?_
  refine wp_skip ?_
  refine K28 _ _ ?_
  refine gs 8 (Amb S W) fun _ K42=>?_
  refine .e rfl (V:=pt b20) (fun H=>by have e7:=H.z 7 E2_8; have k1:=H.c (.int .i64 0); clear H; go_simp) ?_
  refine .lp rfl 0 (#[pt b20_c0,pt b20_c1]) B20 ?_
  refine .e rfl (V:=pt b21) (fun H=>by have e8:=H.z 8 E2_9; have k1:=H.c (.int .i64 0); clear H; go_simp) ?_
  refine .lp rfl 2 (#[pt b21_c0,pt b21_c1]) B21 ?_
  refine .cR rfl [] Tryz.func54 (fun H=>⟨_,ar2 (H.g 25 1) (H.g 27 3),xDiv _ _ (CxP.mk (H.was _ [] (VP.at F_b20_c0 L_b20_c0)) (H.was _ [] (VP.at F_b20_c1 L_b20_c1))) (CxP.mk (H.was _ [] (VP.at F_b21_c0 L_b21_c0)) (H.was _ [] (VP.at F_b21_c1 L_b21_c1))) (by first | omega | (have k0:=comb_bd i0; have k1:=hc_mul (x0.div y0).near y0; have k2:=hc_mul (x0.div y0).near y1; have k3:=hc_mul (x0.div y0).near y2; have k4:=u0 (firstC x0).toNat; omega) | exact zero_norm c30) (by first | omega | (have k0:=comb_bd i0; have k1:=hc_mul (x0.div y0).near y0; have k2:=hc_mul (x0.div y0).near y1; have k3:=hc_mul (x0.div y0).near y2; have k4:=u0 (firstC x0).toNat; omega) | exact zero_norm c30)⟩) ?_
  refine .cR rfl [4] Tryz.func81 (fun H=>⟨_,ar1 (H.r 28 4),hNearest _ (SV.sub [4] (H.a 4 rfl) rfl) (by first | omega | (have k0:=comb_bd i0; have k1:=hc_mul (x0.div y0).near y0; have k2:=hc_mul (x0.div y0).near y1; have k3:=hc_mul (x0.div y0).near y2; have k4:=u0 (firstC x0).toNat; omega) | exact zero_norm c30)⟩) ?_
  refine .al rfl (#[.pointer none,.pointer none]) ?_
  refine Go2.storeOwn (i:=7) (m:=6) rfl rfl (.head _) (SP.cells 6 [5] (fun u=>#[((u 5).v.cells.getD 0 undef),((u 5).v.cells.getD 1 undef)]) 81 (by intro u u' h; simp [h 5 (by simp)])) (fun u μ ρ b H h0 hB hb=>?_) ?_
  · have e9:=H.r 9 6; have e29:=H.r 29 5
    rw [h0] at e9
    obtain ⟨x1,x2,h1,h2,h3⟩:=(H.a 5 rfl)
    have o1:=VP1.rat h2
    have o2:=VP1.rat h3
    rw [h1] at e29
    refine ⟨μ.setRow b #[x1,x2],ex_store_row 81 _ _ rfl e9 e29 hb (by kernel_rfl) rfl (by simp [o1,o2]),fun g=>⟨b,?_,hB,?_⟩,setRow_only _ _ _⟩
    · rw [upd_other _ _ (by decide)]; exact h0
    · rw [setRow_at hb]; try simp [upd,h1,Value.cells]
  refine .dk (fun u=>.agg #[pt b1,pt b2]::.agg #[pt b3,pt b4]::sq u1 0 5 (u2 8::u2 9::u 6::d10::d11::U::sq u2 0 8 (sq u3 0 3 (sq u 0 6 (d30::d31::d32::d33::d34::d35::d36::d37::d38::d39::d40::d41::d42::d43::d44::d45::d46::us 17))))) K42 bel fun u6 w6 D bel=>?_
  obtain ⟨b43,b44,E6_4,L43,L44,F43,F44⟩:=CxP.elim (D.rr 4)
  obtain ⟨b45,b46,E6_5,L45,L46,F45,F46⟩:=CxP.elim (D.rr 5)
  obtain ⟨b47,E6_6,A47,B47⟩:=(D.a 7 rfl)
  replace A47:=le2 D.le A47
  have E6_0:=D.q 0
  have E6_1:=D.q 1
  have E6_2:=D.q 2
  have E6_3:=D.q 3
  have N8_47:=D.n1 6 (lt_of B8) E6_6
  have N9_47:=D.n1 6 (lt_of B9) E6_6
  have N10_47:=D.n1 6 (lt_of B10) E6_6
  have N20_47:=D.n1 6 (lt_of B20) E6_6
  have N21_47:=D.n1 6 (lt_of B21) E6_6
  replace B8:=D.k B8
  replace B9:=D.k B9
  replace B10:=D.k B10
  replace B20:=D.k B20
  replace B21:=D.k B21
  simp only [Value.cells,E6_4,E6_5,E6_6] at B47
  replace B47:w6.heap[b47]? = some (.cells #[pt b45,pt b46] 81 (0,0)):=B47
  replace F_b20_c0:=D.o L_b20_c0 F_b20_c0
  replace F_b20_c1:=D.o L_b20_c1 F_b20_c1
  replace F_b20_c2:=D.o L_b20_c2 F_b20_c2
  replace F_b20_c3:=D.o L_b20_c3 F_b20_c3
  replace F_b20_c4:=D.o L_b20_c4 F_b20_c4
  replace F_b20_c5:=D.o L_b20_c5 F_b20_c5
  replace F_b21_c0:=D.o L_b21_c0 F_b21_c0
  replace F_b21_c1:=D.o L_b21_c1 F_b21_c1
  replace F_b21_c2:=D.o L_b21_c2 F_b21_c2
  replace F_b21_c3:=D.o L_b21_c3 F_b21_c3
  replace F_b21_c4:=D.o L_b21_c4 F_b21_c4
  replace F_b21_c5:=D.o L_b21_c5 F_b21_c5
  clear D
  refine gs 1 (Amb S W) fun _ K48=>?_
  refine .al rfl (#[.pointer none,.pointer none,.pointer none,.pointer none,.pointer none,.pointer none]) ?_
  refine .dk (fun u=>.agg #[pt b1,pt b2]::.agg #[pt b3,pt b4]::sq u1 0 5 (u2 8::u2 9::u6 6::u 0::d11::U::sq u2 0 8 (sq u3 0 3 (sq u6 0 6 (d30::d31::d32::d33::d34::d35::d36::d37::d38::d39::d40::d41::d42::d43::d44::d45::d46::us 17))))) K48 bel fun u7 w7 D bel=>?_
  obtain ⟨b49,E7_0,A49,B49⟩:=D.nw 0
  have N8_49:=D.n1 0 (lt_of B8) E7_0
  have N9_49:=D.n1 0 (lt_of B9) E7_0
  have N10_49:=D.n1 0 (lt_of B10) E7_0
  have N20_49:=D.n1 0 (lt_of B20) E7_0
  have N21_49:=D.n1 0 (lt_of B21) E7_0
  have N47_49:=D.n1 0 (lt_of B47) E7_0
  have N_b20_c0_b49:=D.n1 0 (RatP.lt F_b20_c0) E7_0
  have N_b20_c1_b49:=D.n1 0 (RatP.lt F_b20_c1) E7_0
  have N_b20_c2_b49:=D.n1 0 (RatP.lt F_b20_c2) E7_0
  have N_b20_c3_b49:=D.n1 0 (RatP.lt F_b20_c3) E7_0
  have N_b20_c4_b49:=D.n1 0 (RatP.lt F_b20_c4) E7_0
  have N_b20_c5_b49:=D.n1 0 (RatP.lt F_b20_c5) E7_0
  have N_b21_c0_b49:=D.n1 0 (RatP.lt F_b21_c0) E7_0
  have N_b21_c1_b49:=D.n1 0 (RatP.lt F_b21_c1) E7_0
  have N_b21_c2_b49:=D.n1 0 (RatP.lt F_b21_c2) E7_0
  have N_b21_c3_b49:=D.n1 0 (RatP.lt F_b21_c3) E7_0
  have N_b21_c4_b49:=D.n1 0 (RatP.lt F_b21_c4) E7_0
  have N_b21_c5_b49:=D.n1 0 (RatP.lt F_b21_c5) E7_0
  have N43_49:=D.n1 0 (RatP.lt F43) E7_0
  have N44_49:=D.n1 0 (RatP.lt F44) E7_0
  have N45_49:=D.n1 0 (RatP.lt F45) E7_0
  have N46_49:=D.n1 0 (RatP.lt F46) E7_0
  replace B8:=D.k B8
  replace B9:=D.k B9
  replace B10:=D.k B10
  replace B20:=D.k B20
  replace B21:=D.k B21
  replace B47:=D.k B47
  replace F_b20_c0:=D.o L_b20_c0 F_b20_c0
  replace F_b20_c1:=D.o L_b20_c1 F_b20_c1
  replace F_b20_c2:=D.o L_b20_c2 F_b20_c2
  replace F_b20_c3:=D.o L_b20_c3 F_b20_c3
  replace F_b20_c4:=D.o L_b20_c4 F_b20_c4
  replace F_b20_c5:=D.o L_b20_c5 F_b20_c5
  replace F_b21_c0:=D.o L_b21_c0 F_b21_c0
  replace F_b21_c1:=D.o L_b21_c1 F_b21_c1
  replace F_b21_c2:=D.o L_b21_c2 F_b21_c2
  replace F_b21_c3:=D.o L_b21_c3 F_b21_c3
  replace F_b21_c4:=D.o L_b21_c4 F_b21_c4
  replace F_b21_c5:=D.o L_b21_c5 F_b21_c5
  replace F43:=D.o L43 F43
  replace F44:=D.o L44 F44
  replace F45:=D.o L45 F45
  replace F46:=D.o L46 F46
  clear D
  refine wp_seq_k fun _ K50=>?_
  refine gs 1 (Amb S W) fun _ K51=>?_
  refine .mc rfl ?_
  refine .dk (fun u=>.agg #[pt b1,pt b2]::.agg #[pt b3,pt b4]::sq u1 0 5 (u2 8::u2 9::u6 6::u7 0::d11::U::sq u2 0 8 (sq u3 0 3 (sq u6 0 6 (u 0::d31::d32::d33::d34::d35::d36::d37::d38::d39::d40::d41::d42::d43::d44::d45::d46::us 17))))) K51 bel fun u8 w8 D bel=>?_
  have E8_0:=D.q 0
  replace B8:=D.k B8
  replace B9:=D.k B9
  replace B10:=D.k B10
  replace B20:=D.k B20
  replace B21:=D.k B21
  replace B47:=D.k B47
  replace B49:=D.k B49
  replace F_b20_c0:=D.o L_b20_c0 F_b20_c0
  replace F_b20_c1:=D.o L_b20_c1 F_b20_c1
  replace F_b20_c2:=D.o L_b20_c2 F_b20_c2
  replace F_b20_c3:=D.o L_b20_c3 F_b20_c3
  replace F_b20_c4:=D.o L_b20_c4 F_b20_c4
  replace F_b20_c5:=D.o L_b20_c5 F_b20_c5
  replace F_b21_c0:=D.o L_b21_c0 F_b21_c0
  replace F_b21_c1:=D.o L_b21_c1 F_b21_c1
  replace F_b21_c2:=D.o L_b21_c2 F_b21_c2
  replace F_b21_c3:=D.o L_b21_c3 F_b21_c3
  replace F_b21_c4:=D.o L_b21_c4 F_b21_c4
  replace F_b21_c5:=D.o L_b21_c5 F_b21_c5
  replace F43:=D.o L43 F43
  replace F44:=D.o L44 F44
  replace F45:=D.o L45 F45
  replace F46:=D.o L46 F46
  clear D
  refine wp_block ?_
  refine wp_loop_rounds 4 ?_
  refine rounds_k fun K52 hK52=>?_
  refine gs 1 (Amb S W) fun _ K53=>?_
  refine .e rfl (V:=.bool true) (fun H=>x_cmp (H.z 30 E8_0) (H.c _)) ?_
  refine .dk (fun u=>.agg #[pt b1,pt b2]::.agg #[pt b3,pt b4]::sq u1 0 5 (u2 8::u2 9::u6 6::u7 0::d11::U::sq u2 0 8 (sq u3 0 3 (sq u6 0 6 (u8 0::u 0::d32::d33::d34::d35::d36::d37::d38::d39::d40::d41::d42::d43::d44::d45::d46::us 17))))) K53 bel fun u9 w9 D bel=>?_
  have E9_0:=D.q 0
  replace B8:=D.k B8
  replace B9:=D.k B9
  replace B10:=D.k B10
  replace B20:=D.k B20
  replace B21:=D.k B21
  replace B47:=D.k B47
  replace B49:=D.k B49
  replace F_b20_c0:=D.o L_b20_c0 F_b20_c0
  replace F_b20_c1:=D.o L_b20_c1 F_b20_c1
  replace F_b20_c2:=D.o L_b20_c2 F_b20_c2
  replace F_b20_c3:=D.o L_b20_c3 F_b20_c3
  replace F_b20_c4:=D.o L_b20_c4 F_b20_c4
  replace F_b20_c5:=D.o L_b20_c5 F_b20_c5
  replace F_b21_c0:=D.o L_b21_c0 F_b21_c0
  replace F_b21_c1:=D.o L_b21_c1 F_b21_c1
  replace F_b21_c2:=D.o L_b21_c2 F_b21_c2
  replace F_b21_c3:=D.o L_b21_c3 F_b21_c3
  replace F_b21_c4:=D.o L_b21_c4 F_b21_c4
  replace F_b21_c5:=D.o L_b21_c5 F_b21_c5
  replace F43:=D.o L43 F43
  replace F44:=D.o L44 F44
  replace F45:=D.o L45 F45
  replace F46:=D.o L46 F46
  clear D
  refine wp_seq_k fun _ K54=>?_
  refine wp_cond_true (by exact E9_0) ?_
  refine wp_skip ?_
  refine K54 _ _ ?_
  refine wp_seq_k fun _ K55=>?_
  refine wp_block ?_
  refine gs 2 (Amb S W) fun _ K56=>?_
  refine .mz rfl 30 E8_0 ?_
  refine .mv rfl 0 ?_
  refine .dk (fun u=>.agg #[pt b1,pt b2]::.agg #[pt b3,pt b4]::sq u1 0 5 (u2 8::u2 9::u6 6::u7 0::u 1::U::sq u2 0 8 (sq u3 0 3 (sq u6 0 6 (u8 0::u9 0::u 0::d33::d34::d35::d36::d37::d38::d39::d40::d41::d42::d43::d44::d45::d46::us 17))))) K56 bel fun u10 w10 D bel=>?_
  have E10_0:=D.q 0
  have E10_1:=D.q 1
  replace B8:=D.k B8
  replace B9:=D.k B9
  replace B10:=D.k B10
  replace B20:=D.k B20
  replace B21:=D.k B21
  replace B47:=D.k B47
  replace B49:=D.k B49
  replace F_b20_c0:=D.o L_b20_c0 F_b20_c0
  replace F_b20_c1:=D.o L_b20_c1 F_b20_c1
  replace F_b20_c2:=D.o L_b20_c2 F_b20_c2
  replace F_b20_c3:=D.o L_b20_c3 F_b20_c3
  replace F_b20_c4:=D.o L_b20_c4 F_b20_c4
  replace F_b20_c5:=D.o L_b20_c5 F_b20_c5
  replace F_b21_c0:=D.o L_b21_c0 F_b21_c0
  replace F_b21_c1:=D.o L_b21_c1 F_b21_c1
  replace F_b21_c2:=D.o L_b21_c2 F_b21_c2
  replace F_b21_c3:=D.o L_b21_c3 F_b21_c3
  replace F_b21_c4:=D.o L_b21_c4 F_b21_c4
  replace F_b21_c5:=D.o L_b21_c5 F_b21_c5
  replace F43:=D.o L43 F43
  replace F44:=D.o L44 F44
  replace F45:=D.o L45 F45
  replace F46:=D.o L46 F46
  clear D
  refine go2_drawn (by kernel_rfl) 12 rfl (Amb S W) [(b49,11)] [11] (Olds.one (lt_of B49)) (by kernel_rfl) ?_
  refine .mz rfl 11 E10_1 ?_
  refine .mz rfl 11 E10_1 ?_
  refine .e rfl (V:=pt b20) (fun H=>by have e7:=H.z 7 E2_8; have e34:=H.g 34 1; clear H; go_simp) ?_
  refine .e rfl (V:=.agg #[pt b20_c0,pt b20_c1]) (fun H=>x_ldp (H.g 35 2) (H.b1 B20 (Ne.symm N20_49))) ?_
  refine .e rfl (fun H=>x_ldr (H.z 9 E6_6) (H.b1 B47 (Ne.symm N47_49))) ?_
  refine .mz rfl 11 E10_1 ?_
  refine .e rfl (V:=pt b21) (fun H=>by have e8:=H.z 8 E2_9; have e38:=H.g 38 5; clear H; go_simp) ?_
  refine .e rfl (V:=.agg #[pt b21_c0,pt b21_c1]) (fun H=>x_ldp (H.g 39 6) (H.b1 B21 (Ne.symm N21_49))) ?_
  refine .cR rfl [] Tryz.func67 (fun H=>⟨_,ar2 (H.g 37 4) (H.g 40 7),xMul _ _ (CxP.mk (H.was _ [] (VP.at F45 L45)) (H.was _ [] (VP.at F46 L46))) (CxP.mk (H.was _ [] (VP.at F_b21_c0 L_b21_c0)) (H.was _ [] (VP.at F_b21_c1 L_b21_c1))) (by first | omega | (have k0:=comb_bd i0; have k1:=hc_mul (x0.div y0).near y0; have k2:=hc_mul (x0.div y0).near y1; have k3:=hc_mul (x0.div y0).near y2; have k4:=u0 (firstC x0).toNat; omega) | exact zero_norm c30)⟩) ?_
  refine .cR rfl [8] Tryz.func82 (fun H=>⟨_,ar2 (H.g 36 3) (H.r 41 8),xSub _ _ (CxP.mk (H.was _ [8] (VP.at F_b20_c0 L_b20_c0)) (H.was _ [8] (VP.at F_b20_c1 L_b20_c1))) (SV.sub [8] (H.a 8 rfl) rfl) (by first | omega | (have k0:=comb_bd i0; have k1:=hc_mul (x0.div y0).near y0; have k2:=hc_mul (x0.div y0).near y1; have k3:=hc_mul (x0.div y0).near y2; have k4:=u0 (firstC x0).toNat; omega) | exact zero_norm c30)⟩) ?_
  refine .e rfl (V:=pt b49) (fun H=>by have e10:=H.z 10 E7_0; have e33:=H.g 33 0; clear H; go_simp) ?_
  refine Go2.storeOld (i:=11) 0 b49 rfl rfl rfl ⟨_,_,_,B49,rfl⟩ (SP.old 0 b49 [9] (fun u=>#[((u 9).v.cells.getD 0 undef),((u 9).v.cells.getD 1 undef),.pointer none,.pointer none,.pointer none,.pointer none]) 154 (by intro u u' h; simp [h 9 (by simp)]) (lt_of B49) (by intro y k hy; match y,hy with | 0,hy=>rfl)) (fun u μ ρ H=>?_) ?_
  · have e43:=H.g 43 10; have e42:=H.r 42 9; have hb:=H.blkOld B49 0 11 rfl (.inl rfl)
    obtain ⟨x1,x2,h1,h2,h3⟩:=(H.a 9 rfl)
    have o1:=VP1.rat h2
    have o2:=VP1.rat h3
    rw [h1] at e42
    refine ⟨μ.setRow b49 #[x1,x2,.pointer none,.pointer none,.pointer none,.pointer none],ex_store_part 81 _ _ rfl e43 e42 hb (by kernel_rfl) (by simp) (by simp [o1,o2]) (by simp),fun g=>?_,setRow_only _ _ _⟩
    show (World.setRow _ _ _).heap[b49]? = _
    rw [setRow_at hb]; try simp [upd,h1,Value.cells]
  refine .dd (fun u=>⟨List.toArray (.agg #[pt b1,pt b2]::.agg #[pt b3,pt b4]::sq u1 0 5 (u2 8::u2 9::u6 6::u7 0::u10 1::U::sq u2 0 8 (sq u3 0 3 (sq u6 0 6 (u8 0::u9 0::u10 0::sq u 0 11 (d44::d45::d46::us 17)))))),[]⟩) bel.size fun u11 w11 D=>?_
  obtain ⟨b57,b58,E11_8,L57,L58,F57,F58⟩:=CxP.elim (D.rr 8)
  obtain ⟨b59,b60,E11_9,L59,L60,F59,F60⟩:=CxP.elim (D.rr 9)
  have E11_0:=D.q 0
  have E11_1:=D.q 1
  have E11_2:=D.q 2
  have E11_3:=D.q 3
  have E11_4:=D.q 4
  have E11_5:=D.q 5
  have E11_6:=D.q 6
  have E11_7:=D.q 7
  have E11_10:=D.q 10
  replace B8:=D.k1 B8 (Ne.symm N8_49)
  replace B9:=D.k1 B9 (Ne.symm N9_49)
  replace B10:=D.k1 B10 (Ne.symm N10_49)
  replace B20:=D.k1 B20 (Ne.symm N20_49)
  replace B21:=D.k1 B21 (Ne.symm N21_49)
  replace B47:=D.k1 B47 (Ne.symm N47_49)
  replace B49:w11.heap[b49]? = _:=(D.a 11 rfl)
  simp only [Value.cells,E11_8,E11_9] at B49
  replace F_b20_c0:=D.o L_b20_c0 F_b20_c0
  replace F_b20_c1:=D.o L_b20_c1 F_b20_c1
  replace F_b20_c2:=D.o L_b20_c2 F_b20_c2
  replace F_b20_c3:=D.o L_b20_c3 F_b20_c3
  replace F_b20_c4:=D.o L_b20_c4 F_b20_c4
  replace F_b20_c5:=D.o L_b20_c5 F_b20_c5
  replace F_b21_c0:=D.o L_b21_c0 F_b21_c0
  replace F_b21_c1:=D.o L_b21_c1 F_b21_c1
  replace F_b21_c2:=D.o L_b21_c2 F_b21_c2
  replace F_b21_c3:=D.o L_b21_c3 F_b21_c3
  replace F_b21_c4:=D.o L_b21_c4 F_b21_c4
  replace F_b21_c5:=D.o L_b21_c5 F_b21_c5
  replace F43:=D.o L43 F43
  replace F44:=D.o L44 F44
  replace F45:=D.o L45 F45
  replace F46:=D.o L46 F46
  replace bel:=D.d.base.bel bel bel.size (by simp; omega)
  clear D
  refine inBlock_normal ?_
  refine K55 _ _ ?_
  refine wp_region_list ?_
  refine wpT_val (v:=.int .i64 1) rfl (by have aw_:IntKind.wrap .i64 1 = 1:=(by decide); have:=E8_0; go_simp) ?_
  refine wpT_val rfl (ex_move rfl) ?_
  refine wpList_nil ?_
  show _
  refine hK52 _ _ ?_
  refine rounds_k fun K61 hK61=>?_
  refine gs 1 (Amb S W) fun _ K62=>?_
  refine .e rfl (V:=.bool true) (fun H=>x_cmp (H.v 30 (.int .i64 1)) (H.c _)) ?_
  refine .dk (fun u=>.agg #[pt b1,pt b2]::.agg #[pt b3,pt b4]::sq u1 0 5 (u2 8::u2 9::u6 6::u7 0::u10 1::U::sq u2 0 8 (sq u3 0 3 (sq u6 0 6 (.int .i64 1::u 0::u10 0::sq u11 0 11 (.int .i64 1::d45::d46::us 17)))))) K62 bel fun u13 w13 D bel=>?_
  have E13_0:=D.q 0
  replace B8:=D.k B8
  replace B9:=D.k B9
  replace B10:=D.k B10
  replace B20:=D.k B20
  replace B21:=D.k B21
  replace B47:=D.k B47
  replace B49:=D.k B49
  replace F_b20_c0:=D.o L_b20_c0 F_b20_c0
  replace F_b20_c1:=D.o L_b20_c1 F_b20_c1
  replace F_b20_c2:=D.o L_b20_c2 F_b20_c2
  replace F_b20_c3:=D.o L_b20_c3 F_b20_c3
  replace F_b20_c4:=D.o L_b20_c4 F_b20_c4
  replace F_b20_c5:=D.o L_b20_c5 F_b20_c5
  replace F_b21_c0:=D.o L_b21_c0 F_b21_c0
  replace F_b21_c1:=D.o L_b21_c1 F_b21_c1
  replace F_b21_c2:=D.o L_b21_c2 F_b21_c2
  replace F_b21_c3:=D.o L_b21_c3 F_b21_c3
  replace F_b21_c4:=D.o L_b21_c4 F_b21_c4
  replace F_b21_c5:=D.o L_b21_c5 F_b21_c5
  replace F43:=D.o L43 F43
  replace F44:=D.o L44 F44
  replace F45:=D.o L45 F45
  replace F46:=D.o L46 F46
  replace F57:=D.o L57 F57
  replace F58:=D.o L58 F58
  replace F59:=D.o L59 F59
  replace F60:=D.o L60 F60
  clear D
  refine wp_seq_k fun _ K63=>?_
  refine wp_cond_true (by exact E13_0) ?_
  refine wp_skip ?_
  refine K63 _ _ ?_
  refine wp_seq_k fun _ K64=>?_
  refine wp_block ?_
  refine gs 2 (Amb S W) fun _ K65=>?_
  refine .mz rfl 30 (V:=.int .i64 1) rfl ?_
  refine .mv rfl 0 ?_
  refine .dk (fun u=>.agg #[pt b1,pt b2]::.agg #[pt b3,pt b4]::sq u1 0 5 (u2 8::u2 9::u6 6::u7 0::u 1::U::sq u2 0 8 (sq u3 0 3 (sq u6 0 6 (.int .i64 1::u13 0::u 0::sq u11 0 11 (.int .i64 1::d45::d46::us 17)))))) K65 bel fun u14 w14 D bel=>?_
  have E14_0:=D.q 0
  have E14_1:=D.q 1
  replace B8:=D.k B8
  replace B9:=D.k B9
  replace B10:=D.k B10
  replace B20:=D.k B20
  replace B21:=D.k B21
  replace B47:=D.k B47
  replace B49:=D.k B49
  replace F_b20_c0:=D.o L_b20_c0 F_b20_c0
  replace F_b20_c1:=D.o L_b20_c1 F_b20_c1
  replace F_b20_c2:=D.o L_b20_c2 F_b20_c2
  replace F_b20_c3:=D.o L_b20_c3 F_b20_c3
  replace F_b20_c4:=D.o L_b20_c4 F_b20_c4
  replace F_b20_c5:=D.o L_b20_c5 F_b20_c5
  replace F_b21_c0:=D.o L_b21_c0 F_b21_c0
  replace F_b21_c1:=D.o L_b21_c1 F_b21_c1
  replace F_b21_c2:=D.o L_b21_c2 F_b21_c2
  replace F_b21_c3:=D.o L_b21_c3 F_b21_c3
  replace F_b21_c4:=D.o L_b21_c4 F_b21_c4
  replace F_b21_c5:=D.o L_b21_c5 F_b21_c5
  replace F43:=D.o L43 F43
  replace F44:=D.o L44 F44
  replace F45:=D.o L45 F45
  replace F46:=D.o L46 F46
  replace F57:=D.o L57 F57
  replace F58:=D.o L58 F58
  replace F59:=D.o L59 F59
  replace F60:=D.o L60 F60
  clear D
  refine go2_drawn (by kernel_rfl) 12 rfl (Amb S W) [(b49,11)] [11] (Olds.one (lt_of B49)) (by kernel_rfl) ?_
  refine .mz rfl 11 E14_1 ?_
  refine .mz rfl 11 E14_1 ?_
  refine .e rfl (V:=.pointer (some ⟨b20,2,none⟩)) (fun H=>by have e7:=H.z 7 E2_8; have e34:=H.g 34 1; clear H; go_simp) ?_
  refine .e rfl (V:=.agg #[pt b20_c2,pt b20_c3]) (fun H=>x_ldp (H.g 35 2) (H.b1 B20 (Ne.symm N20_49))) ?_
  refine .e rfl (fun H=>x_ldr (H.z 9 E6_6) (H.b1 B47 (Ne.symm N47_49))) ?_
  refine .mz rfl 11 E14_1 ?_
  refine .e rfl (V:=.pointer (some ⟨b21,2,none⟩)) (fun H=>by have e8:=H.z 8 E2_9; have e38:=H.g 38 5; clear H; go_simp) ?_
  refine .e rfl (V:=.agg #[pt b21_c2,pt b21_c3]) (fun H=>x_ldp (H.g 39 6) (H.b1 B21 (Ne.symm N21_49))) ?_
  refine .cR rfl [] Tryz.func67 (fun H=>⟨_,ar2 (H.g 37 4) (H.g 40 7),xMul _ _ (CxP.mk (H.was _ [] (VP.at F45 L45)) (H.was _ [] (VP.at F46 L46))) (CxP.mk (H.was _ [] (VP.at F_b21_c2 L_b21_c2)) (H.was _ [] (VP.at F_b21_c3 L_b21_c3))) (by first | omega | (have k0:=comb_bd i0; have k1:=hc_mul (x0.div y0).near y0; have k2:=hc_mul (x0.div y0).near y1; have k3:=hc_mul (x0.div y0).near y2; have k4:=u0 (firstC x0).toNat; omega) | exact zero_norm c30)⟩) ?_
  refine .cR rfl [8] Tryz.func82 (fun H=>⟨_,ar2 (H.g 36 3) (H.r 41 8),xSub _ _ (CxP.mk (H.was _ [8] (VP.at F_b20_c2 L_b20_c2)) (H.was _ [8] (VP.at F_b20_c3 L_b20_c3))) (SV.sub [8] (H.a 8 rfl) rfl) (by first | omega | (have k0:=comb_bd i0; have k1:=hc_mul (x0.div y0).near y0; have k2:=hc_mul (x0.div y0).near y1; have k3:=hc_mul (x0.div y0).near y2; have k4:=u0 (firstC x0).toNat; omega) | exact zero_norm c30)⟩) ?_
  refine .e rfl (V:=.pointer (some ⟨b49,2,none⟩)) (fun H=>by have e10:=H.z 10 E7_0; have e33:=H.g 33 0; clear H; go_simp) ?_
  refine Go2.storeOld (i:=11) 0 b49 rfl rfl rfl ⟨_,_,_,B49,rfl⟩ (SP.old 0 b49 [9] (fun u=>#[pt b59,pt b60,((u 9).v.cells.getD 0 undef),((u 9).v.cells.getD 1 undef),.pointer none,.pointer none]) 154 (by intro u u' h; simp [h 9 (by simp)]) (lt_of B49) (by intro y k hy; match y,hy with | 0,hy=>rfl)) (fun u μ ρ H=>?_) ?_
  · have e43:=H.g 43 10; have e42:=H.r 42 9; have hb:=H.blkOld B49 0 11 rfl (.inl rfl)
    obtain ⟨x1,x2,h1,h2,h3⟩:=(H.a 9 rfl)
    have o1:=VP1.rat h2
    have o2:=VP1.rat h3
    rw [h1] at e42
    refine ⟨μ.setRow b49 #[pt b59,pt b60,x1,x2,.pointer none,.pointer none],ex_store_part 81 _ _ rfl e43 e42 hb (by kernel_rfl) (by simp) (by simp [o1,o2]) (by simp),fun g=>?_,setRow_only _ _ _⟩
    show (World.setRow _ _ _).heap[b49]? = _
    rw [setRow_at hb]; try simp [upd,h1,Value.cells]
  refine .dd (fun u=>⟨List.toArray (.agg #[pt b1,pt b2]::.agg #[pt b3,pt b4]::sq u1 0 5 (u2 8::u2 9::u6 6::u7 0::u14 1::U::sq u2 0 8 (sq u3 0 3 (sq u6 0 6 (.int .i64 1::u13 0::u14 0::sq u 0 11 (.int .i64 1::d45::d46::us 17)))))),[]⟩) bel.size fun u15 w15 D=>?_
  obtain ⟨b66,b67,E15_8,L66,L67,F66,F67⟩:=CxP.elim (D.rr 8)
  obtain ⟨b68,b69,E15_9,L68,L69,F68,F69⟩:=CxP.elim (D.rr 9)
  have E15_0:=D.q 0
  have E15_1:=D.q 1
  have E15_2:=D.q 2
  have E15_3:=D.q 3
  have E15_4:=D.q 4
  have E15_5:=D.q 5
  have E15_6:=D.q 6
  have E15_7:=D.q 7
  have E15_10:=D.q 10
  replace B8:=D.k1 B8 (Ne.symm N8_49)
  replace B9:=D.k1 B9 (Ne.symm N9_49)
  replace B10:=D.k1 B10 (Ne.symm N10_49)
  replace B20:=D.k1 B20 (Ne.symm N20_49)
  replace B21:=D.k1 B21 (Ne.symm N21_49)
  replace B47:=D.k1 B47 (Ne.symm N47_49)
  replace B49:w15.heap[b49]? = _:=(D.a 11 rfl)
  simp only [Value.cells,E15_8,E15_9] at B49
  replace F_b20_c0:=D.o L_b20_c0 F_b20_c0
  replace F_b20_c1:=D.o L_b20_c1 F_b20_c1
  replace F_b20_c2:=D.o L_b20_c2 F_b20_c2
  replace F_b20_c3:=D.o L_b20_c3 F_b20_c3
  replace F_b20_c4:=D.o L_b20_c4 F_b20_c4
  replace F_b20_c5:=D.o L_b20_c5 F_b20_c5
  replace F_b21_c0:=D.o L_b21_c0 F_b21_c0
  replace F_b21_c1:=D.o L_b21_c1 F_b21_c1
  replace F_b21_c2:=D.o L_b21_c2 F_b21_c2
  replace F_b21_c3:=D.o L_b21_c3 F_b21_c3
  replace F_b21_c4:=D.o L_b21_c4 F_b21_c4
  replace F_b21_c5:=D.o L_b21_c5 F_b21_c5
  replace F43:=D.o L43 F43
  replace F44:=D.o L44 F44
  replace F45:=D.o L45 F45
  replace F46:=D.o L46 F46
  replace F59:=D.o L59 F59
  replace F60:=D.o L60 F60
  replace bel:=D.d.base.bel bel bel.size (by simp; omega)
  clear D
  refine inBlock_normal ?_
  refine K64 _ _ ?_
  refine wp_region_list ?_
  refine wpT_val (v:=.int .i64 2) rfl (by have aw_:IntKind.wrap .i64 2 = 2:=(by decide); go_simp) ?_
  refine wpT_val rfl (ex_move rfl) ?_
  refine wpList_nil ?_
  show _
  refine hK61 _ _ ?_
  refine rounds_k fun K70 hK70=>?_
  refine gs 1 (Amb S W) fun _ K71=>?_
  refine .e rfl (V:=.bool true) (fun H=>x_cmp (H.v 30 (.int .i64 2)) (H.c _)) ?_
  refine .dk (fun u=>.agg #[pt b1,pt b2]::.agg #[pt b3,pt b4]::sq u1 0 5 (u2 8::u2 9::u6 6::u7 0::u14 1::U::sq u2 0 8 (sq u3 0 3 (sq u6 0 6 (.int .i64 2::u 0::u14 0::sq u15 0 11 (.int .i64 2::d45::d46::us 17)))))) K71 bel fun u17 w17 D bel=>?_
  have E17_0:=D.q 0
  replace B8:=D.k B8
  replace B9:=D.k B9
  replace B10:=D.k B10
  replace B20:=D.k B20
  replace B21:=D.k B21
  replace B47:=D.k B47
  replace B49:=D.k B49
  replace F_b20_c0:=D.o L_b20_c0 F_b20_c0
  replace F_b20_c1:=D.o L_b20_c1 F_b20_c1
  replace F_b20_c2:=D.o L_b20_c2 F_b20_c2
  replace F_b20_c3:=D.o L_b20_c3 F_b20_c3
  replace F_b20_c4:=D.o L_b20_c4 F_b20_c4
  replace F_b20_c5:=D.o L_b20_c5 F_b20_c5
  replace F_b21_c0:=D.o L_b21_c0 F_b21_c0
  replace F_b21_c1:=D.o L_b21_c1 F_b21_c1
  replace F_b21_c2:=D.o L_b21_c2 F_b21_c2
  replace F_b21_c3:=D.o L_b21_c3 F_b21_c3
  replace F_b21_c4:=D.o L_b21_c4 F_b21_c4
  replace F_b21_c5:=D.o L_b21_c5 F_b21_c5
  replace F43:=D.o L43 F43
  replace F44:=D.o L44 F44
  replace F45:=D.o L45 F45
  replace F46:=D.o L46 F46
  replace F59:=D.o L59 F59
  replace F60:=D.o L60 F60
  replace F66:=D.o L66 F66
  replace F67:=D.o L67 F67
  replace F68:=D.o L68 F68
  replace F69:=D.o L69 F69
  clear D
  refine wp_seq_k fun _ K72=>?_
  refine wp_cond_true (by exact E17_0) ?_
  refine wp_skip ?_
  refine K72 _ _ ?_
  refine wp_seq_k fun _ K73=>?_
  refine wp_block ?_
  refine gs 2 (Amb S W) fun _ K74=>?_
  refine .mz rfl 30 (V:=.int .i64 2) rfl ?_
  refine .mv rfl 0 ?_
  refine .dk (fun u=>.agg #[pt b1,pt b2]::.agg #[pt b3,pt b4]::sq u1 0 5 (u2 8::u2 9::u6 6::u7 0::u 1::U::sq u2 0 8 (sq u3 0 3 (sq u6 0 6 (.int .i64 2::u17 0::u 0::sq u15 0 11 (.int .i64 2::d45::d46::us 17)))))) K74 bel fun u18 w18 D bel=>?_
  have E18_0:=D.q 0
  have E18_1:=D.q 1
  replace B8:=D.k B8
  replace B9:=D.k B9
  replace B10:=D.k B10
  replace B20:=D.k B20
  replace B21:=D.k B21
  replace B47:=D.k B47
  replace B49:=D.k B49
  replace F_b20_c0:=D.o L_b20_c0 F_b20_c0
  replace F_b20_c1:=D.o L_b20_c1 F_b20_c1
  replace F_b20_c2:=D.o L_b20_c2 F_b20_c2
  replace F_b20_c3:=D.o L_b20_c3 F_b20_c3
  replace F_b20_c4:=D.o L_b20_c4 F_b20_c4
  replace F_b20_c5:=D.o L_b20_c5 F_b20_c5
  replace F_b21_c0:=D.o L_b21_c0 F_b21_c0
  replace F_b21_c1:=D.o L_b21_c1 F_b21_c1
  replace F_b21_c2:=D.o L_b21_c2 F_b21_c2
  replace F_b21_c3:=D.o L_b21_c3 F_b21_c3
  replace F_b21_c4:=D.o L_b21_c4 F_b21_c4
  replace F_b21_c5:=D.o L_b21_c5 F_b21_c5
  replace F43:=D.o L43 F43
  replace F44:=D.o L44 F44
  replace F45:=D.o L45 F45
  replace F46:=D.o L46 F46
  replace F59:=D.o L59 F59
  replace F60:=D.o L60 F60
  replace F66:=D.o L66 F66
  replace F67:=D.o L67 F67
  replace F68:=D.o L68 F68
  replace F69:=D.o L69 F69
  clear D
  refine go2_drawn (by kernel_rfl) 12 rfl (Amb S W) [(b49,11)] [11] (Olds.one (lt_of B49)) (by kernel_rfl) ?_
  refine .mz rfl 11 E18_1 ?_
  refine .mz rfl 11 E18_1 ?_
  refine .e rfl (V:=.pointer (some ⟨b20,4,none⟩)) (fun H=>by have e7:=H.z 7 E2_8; have e34:=H.g 34 1; clear H; go_simp) ?_
  refine .e rfl (V:=.agg #[pt b20_c4,pt b20_c5]) (fun H=>x_ldp (H.g 35 2) (H.b1 B20 (Ne.symm N20_49))) ?_
  refine .e rfl (fun H=>x_ldr (H.z 9 E6_6) (H.b1 B47 (Ne.symm N47_49))) ?_
  refine .mz rfl 11 E18_1 ?_
  refine .e rfl (V:=.pointer (some ⟨b21,4,none⟩)) (fun H=>by have e8:=H.z 8 E2_9; have e38:=H.g 38 5; clear H; go_simp) ?_
  refine .e rfl (V:=.agg #[pt b21_c4,pt b21_c5]) (fun H=>x_ldp (H.g 39 6) (H.b1 B21 (Ne.symm N21_49))) ?_
  refine .cR rfl [] Tryz.func67 (fun H=>⟨_,ar2 (H.g 37 4) (H.g 40 7),xMul _ _ (CxP.mk (H.was _ [] (VP.at F45 L45)) (H.was _ [] (VP.at F46 L46))) (CxP.mk (H.was _ [] (VP.at F_b21_c4 L_b21_c4)) (H.was _ [] (VP.at F_b21_c5 L_b21_c5))) (by first | omega | (have k0:=comb_bd i0; have k1:=hc_mul (x0.div y0).near y0; have k2:=hc_mul (x0.div y0).near y1; have k3:=hc_mul (x0.div y0).near y2; have k4:=u0 (firstC x0).toNat; omega) | exact zero_norm c30)⟩) ?_
  refine .cR rfl [8] Tryz.func82 (fun H=>⟨_,ar2 (H.g 36 3) (H.r 41 8),xSub _ _ (CxP.mk (H.was _ [8] (VP.at F_b20_c4 L_b20_c4)) (H.was _ [8] (VP.at F_b20_c5 L_b20_c5))) (SV.sub [8] (H.a 8 rfl) rfl) (by first | omega | (have k0:=comb_bd i0; have k1:=hc_mul (x0.div y0).near y0; have k2:=hc_mul (x0.div y0).near y1; have k3:=hc_mul (x0.div y0).near y2; have k4:=u0 (firstC x0).toNat; omega) | exact zero_norm c30)⟩) ?_
  refine .e rfl (V:=.pointer (some ⟨b49,4,none⟩)) (fun H=>by have e10:=H.z 10 E7_0; have e33:=H.g 33 0; clear H; go_simp) ?_
  refine Go2.storeOld (i:=11) 0 b49 rfl rfl rfl ⟨_,_,_,B49,rfl⟩ (SP.old 0 b49 [9] (fun u=>#[pt b59,pt b60,pt b68,pt b69,((u 9).v.cells.getD 0 undef),((u 9).v.cells.getD 1 undef)]) 154 (by intro u u' h; simp [h 9 (by simp)]) (lt_of B49) (by intro y k hy; match y,hy with | 0,hy=>rfl)) (fun u μ ρ H=>?_) ?_
  · have e43:=H.g 43 10; have e42:=H.r 42 9; have hb:=H.blkOld B49 0 11 rfl (.inl rfl)
    obtain ⟨x1,x2,h1,h2,h3⟩:=(H.a 9 rfl)
    have o1:=VP1.rat h2
    have o2:=VP1.rat h3
    rw [h1] at e42
    refine ⟨μ.setRow b49 #[pt b59,pt b60,pt b68,pt b69,x1,x2],ex_store_part 81 _ _ rfl e43 e42 hb (by kernel_rfl) (by simp) (by simp [o1,o2]) (by simp),fun g=>?_,setRow_only _ _ _⟩
    show (World.setRow _ _ _).heap[b49]? = _
    rw [setRow_at hb]; try simp [upd,h1,Value.cells]
  refine .dd (fun u=>⟨List.toArray (.agg #[pt b1,pt b2]::.agg #[pt b3,pt b4]::sq u1 0 5 (u2 8::u2 9::u6 6::u7 0::u18 1::U::sq u2 0 8 (sq u3 0 3 (sq u6 0 6 (.int .i64 2::u17 0::u18 0::sq u 0 11 (.int .i64 2::d45::d46::us 17)))))),[]⟩) bel.size fun u19 w19 D=>?_
  obtain ⟨b75,b76,E19_8,L75,L76,F75,F76⟩:=CxP.elim (D.rr 8)
  obtain ⟨b77,b78,E19_9,L77,L78,F77,F78⟩:=CxP.elim (D.rr 9)
  have E19_0:=D.q 0
  have E19_1:=D.q 1
  have E19_2:=D.q 2
  have E19_3:=D.q 3
  have E19_4:=D.q 4
  have E19_5:=D.q 5
  have E19_6:=D.q 6
  have E19_7:=D.q 7
  have E19_10:=D.q 10
  replace B8:=D.k1 B8 (Ne.symm N8_49)
  replace B9:=D.k1 B9 (Ne.symm N9_49)
  replace B10:=D.k1 B10 (Ne.symm N10_49)
  replace B20:=D.k1 B20 (Ne.symm N20_49)
  replace B21:=D.k1 B21 (Ne.symm N21_49)
  replace B47:=D.k1 B47 (Ne.symm N47_49)
  replace B49:w19.heap[b49]? = _:=(D.a 11 rfl)
  simp only [Value.cells,E19_8,E19_9] at B49
  replace F_b20_c0:=D.o L_b20_c0 F_b20_c0
  replace F_b20_c1:=D.o L_b20_c1 F_b20_c1
  replace F_b20_c2:=D.o L_b20_c2 F_b20_c2
  replace F_b20_c3:=D.o L_b20_c3 F_b20_c3
  replace F_b20_c4:=D.o L_b20_c4 F_b20_c4
  replace F_b20_c5:=D.o L_b20_c5 F_b20_c5
  replace F_b21_c0:=D.o L_b21_c0 F_b21_c0
  replace F_b21_c1:=D.o L_b21_c1 F_b21_c1
  replace F_b21_c2:=D.o L_b21_c2 F_b21_c2
  replace F_b21_c3:=D.o L_b21_c3 F_b21_c3
  replace F_b21_c4:=D.o L_b21_c4 F_b21_c4
  replace F_b21_c5:=D.o L_b21_c5 F_b21_c5
  replace F43:=D.o L43 F43
  replace F44:=D.o L44 F44
  replace F45:=D.o L45 F45
  replace F46:=D.o L46 F46
  replace F59:=D.o L59 F59
  replace F60:=D.o L60 F60
  replace F68:=D.o L68 F68
  replace F69:=D.o L69 F69
  replace bel:=D.d.base.bel bel bel.size (by simp; omega)
  clear D
  refine inBlock_normal ?_
  refine K73 _ _ ?_
  refine wp_region_list ?_
  refine wpT_val (v:=.int .i64 3) rfl (by have aw_:IntKind.wrap .i64 3 = 3:=(by decide); go_simp) ?_
  refine wpT_val rfl (ex_move rfl) ?_
  refine wpList_nil ?_
  show _
  refine hK70 _ _ ?_
  refine rounds_k fun K79 hK79=>?_
  refine gs 1 (Amb S W) fun _ K80=>?_
  refine .e rfl (V:=.bool false) (fun H=>x_cmp (H.v 30 (.int .i64 3)) (H.c _)) ?_
  refine .dk (fun u=>.agg #[pt b1,pt b2]::.agg #[pt b3,pt b4]::sq u1 0 5 (u2 8::u2 9::u6 6::u7 0::u18 1::U::sq u2 0 8 (sq u3 0 3 (sq u6 0 6 (.int .i64 3::u 0::u18 0::sq u19 0 11 (.int .i64 3::d45::d46::us 17)))))) K80 bel fun u21 w21 D bel=>?_
  have E21_0:=D.q 0
  replace B8:=D.k B8
  replace B9:=D.k B9
  replace B10:=D.k B10
  replace B20:=D.k B20
  replace B21:=D.k B21
  replace B47:=D.k B47
  replace B49:=D.k B49
  replace F_b20_c0:=D.o L_b20_c0 F_b20_c0
  replace F_b20_c1:=D.o L_b20_c1 F_b20_c1
  replace F_b20_c2:=D.o L_b20_c2 F_b20_c2
  replace F_b20_c3:=D.o L_b20_c3 F_b20_c3
  replace F_b20_c4:=D.o L_b20_c4 F_b20_c4
  replace F_b20_c5:=D.o L_b20_c5 F_b20_c5
  replace F_b21_c0:=D.o L_b21_c0 F_b21_c0
  replace F_b21_c1:=D.o L_b21_c1 F_b21_c1
  replace F_b21_c2:=D.o L_b21_c2 F_b21_c2
  replace F_b21_c3:=D.o L_b21_c3 F_b21_c3
  replace F_b21_c4:=D.o L_b21_c4 F_b21_c4
  replace F_b21_c5:=D.o L_b21_c5 F_b21_c5
  replace F43:=D.o L43 F43
  replace F44:=D.o L44 F44
  replace F45:=D.o L45 F45
  replace F46:=D.o L46 F46
  replace F59:=D.o L59 F59
  replace F60:=D.o L60 F60
  replace F68:=D.o L68 F68
  replace F69:=D.o L69 F69
  replace F75:=D.o L75 F75
  replace F76:=D.o L76 F76
  replace F77:=D.o L77 F77
  replace F78:=D.o L78 F78
  clear D
  refine wp_seq_k fun _ K81=>?_
  refine wp_cond_false (by exact E21_0) ?_
  refine wp_exit ?_
  refine then_exit ?_
  refine then_exit ?_
  refine inBlock_here ?_
  refine K50 _ _ ?_
  refine go2_drawn (by kernel_rfl) 4 rfl (Amb S W) [(b20,2),(b21,3)] [2,3] (Olds.cons (R0:=fun _=>True) (lt_of B20) (by simp [(Ne.symm N20_21)]) (Olds.one (lt_of B21))) (by kernel_rfl) ?_
  refine .e rfl (fun H=>x_ldr (H.z 8 E2_9) (H.bo B21 1 3)) ?_
  refine .e rfl (fun H=>x_ldr (H.z 10 E7_0) (H.bn B49 (no_cons N20_49 (no_cons N21_49 (no_nil _))))) ?_
  refine .sz rfl 0 B20 (lt_of B20) (by intro y k hy; match y,hy with | 0,hy=>rfl | 1,hy=>simp at hy; exact absurd hy.1 (Ne.symm N20_21)) (fun H=>⟨(H.z 7 E2_8),(H.g 45 0)⟩) ?_
  refine .sz rfl 1 B21 (lt_of B21) (by intro y k hy; match y,hy with | 0,hy=>simp at hy; exact absurd hy.1 N20_21 | 1,hy=>rfl) (fun H=>⟨(H.z 8 E2_9),(H.g 46 1)⟩) ?_
  refine .dd (fun u=>⟨List.toArray (.agg #[pt b1,pt b2]::.agg #[pt b3,pt b4]::sq u1 0 5 (u2 8::u2 9::u6 6::u7 0::u18 1::U::sq u2 0 8 (sq u3 0 3 (sq u6 0 6 (.int .i64 3::u21 0::u18 0::sq u19 0 11 (.int .i64 3::u 0::u 1::us 17)))))),[]⟩) bel.size fun u22 w22 D=>?_
  have E22_0:=D.q 0
  have E22_1:=D.q 1
  replace B8:=D.kk B8 (no_cons (Ne.symm N8_20) (no_cons (Ne.symm N8_21) (no_nil _)))
  replace B9:=D.kk B9 (no_cons (Ne.symm N9_20) (no_cons (Ne.symm N9_21) (no_nil _)))
  replace B10:=D.kk B10 (no_cons (Ne.symm N10_20) (no_cons (Ne.symm N10_21) (no_nil _)))
  replace B20:=D.ol 2
  replace B21:=D.ol 3
  replace B47:=D.kk B47 (no_cons N20_47 (no_cons N21_47 (no_nil _)))
  replace B49:=D.kk B49 (no_cons N20_49 (no_cons N21_49 (no_nil _)))
  replace F_b20_c0:=D.o L_b20_c0 F_b20_c0
  replace F_b20_c1:=D.o L_b20_c1 F_b20_c1
  replace F_b20_c4:=D.o L_b20_c4 F_b20_c4
  replace F_b20_c5:=D.o L_b20_c5 F_b20_c5
  replace F_b21_c0:=D.o L_b21_c0 F_b21_c0
  replace F_b21_c1:=D.o L_b21_c1 F_b21_c1
  replace F_b21_c2:=D.o L_b21_c2 F_b21_c2
  replace F_b21_c3:=D.o L_b21_c3 F_b21_c3
  replace F_b21_c4:=D.o L_b21_c4 F_b21_c4
  replace F_b21_c5:=D.o L_b21_c5 F_b21_c5
  replace F43:=D.o L43 F43
  replace F44:=D.o L44 F44
  replace F45:=D.o L45 F45
  replace F46:=D.o L46 F46
  replace F59:=D.o L59 F59
  replace F60:=D.o L60 F60
  replace F68:=D.o L68 F68
  replace F69:=D.o L69 F69
  replace F75:=D.o L75 F75
  replace F76:=D.o L76 F76
  replace F77:=D.o L77 F77
  replace F78:=D.o L78 F78
  replace bel:=D.d.base.bel bel bel.size (by simp; omega)
  clear D
  refine inBlock_normal ?_
  refine hK26 _ _ (Handed.intro (n - 1) (by rw [hn27]; exact comb_dec i0) (hJ25 _ _ _ ⟨_,_,_,_,_,_,_,_,_,_,_,_,_,_,_,_,_,_,_,_,_,_,_,_,_,_,_,_,_,_,_,_,_,_,_,_,_,_,_,_,_,n - 1,y0,y1,y2,x0.sub (((x0.div y0).near).mul y0),x1.sub (((x0.div y0).near).mul y1),x2.sub (((x0.div y0).near).mul y2),rfl,rfl,by exact comb_step i0 c30,B20,(VP.at F_b21_c0 L_b21_c0),(VP.at F_b21_c1 L_b21_c1),(VP.at F_b21_c2 L_b21_c2),(VP.at F_b21_c3 L_b21_c3),(VP.at F_b21_c4 L_b21_c4),(VP.at F_b21_c5 L_b21_c5),B21,(VP.at F59 L59),(VP.at F60 L60),(VP.at F68 L68),(VP.at F69 L69),(VP.at F77 L77),(VP.at F78 L78),B10,B8,B9,bel⟩))
end Go.Proofs.YtllohoibifcmdaaGreat
namespace Go.Proofs.YtllohoibifcmdaaGreat
open Go.RowKit Rgn
theorem xGaussOk {S:Nat → Prop} {W:World} {v0:Value} (x:Cx) (t0:(CxP x).p S v0 W) (p0:ht x.re + ht x.im ≤ 68719476736) (p1:gfits (rg x) = true) :
  Calls Tryz.prog 55 #[v0] W (RetV (.tuple #[.agg #[.bool (decide (x.re.num < 0)),.string (bS x.re.num.natAbs),.bool (decide ((x.re.den:Int) < 0)),.string (bS (x.re.den:Int).natAbs),.bool (decide (x.im.num < 0)),.string (bS x.im.num.natAbs),.bool (decide ((x.im.den:Int) < 0)),.string (bS (x.im.den:Int).natAbs)],.int .i64 0]) W):=by
 refine reV ?_ (xGauss x t0 p0)
 unfold gcut gerr; rw [if_pos p1,if_pos p1]
theorem zero_dec {y:Cx} (h:y.zero = false):decide ((rg y) = rg (Cx.ofInt (0:Int) (0:Int))) = false:=by
 refine decide_eq_false fun e=>?_
 have:=rg_inj e
 subst this
 exact absurd h (by decide)
theorem zero_dec1 {y:Cx} (h:y.zero = true):decide ((rg y) = rg (Cx.ofInt (0:Int) (0:Int))) = true:=by
 unfold Cx.zero at h
 rw [Bool.and_eq_true,decide_eq_true_eq,decide_eq_true_eq] at h
 exact decide_eq_true (congrArg rg (Cx.ext' h.1 h.2))
theorem comb_res {n:Nat} {x0 x1 x2 y0 y1 y2:Cx} {r:Cx × Cx × Cx} (h:combC n x0 x1 x2 y0 y1 y2 = some r):ht r.1.re + ht r.1.im ≤ 16777216:=by
 induction n generalizing x0 x1 x2 y0 y1 y2 with
 | zero=>cases h
 | succ n ih =>
  cases hz:y0.zero with
  | true =>
   have:=comb_end h hz
   subst this
   have:=comb_sml h
   show ht x0.re + ht x0.im ≤ _
   omega
  | false=>exact ih (comb_step h hz)
theorem bS_size_le {n k:Nat} (h:bl n ≤ 8 * k):(bS n).size ≤ k:=by
 have e:(bS n).size = (leB n).length:=by
  show (bytesOf n).toArray.size = _
  simp [bytesOf]
 rw [e,leB_bl]; omega
theorem fits_ht {q:Rat} (h:ht q ≤ 8192):fits (rf q) = true:=by
 unfold fits
 rw [Bool.and_eq_true,decide_eq_true_eq,decide_eq_true_eq]
 have h1:=ht_num q
 have h2:=ht_den q
 refine ⟨bS_size_le (by omega),?_⟩
 show (bS (q.den:Int).natAbs).size ≤ 1024
 exact bS_size_le (by rw [Int.natAbs_natCast]; omega)
theorem gfits_ht {z:Cx} (h:ht z.re ≤ 8192 ∧ ht z.im ≤ 8192):gfits (rg z) = true:=by
 show (fits (rf z.re) && fits (rf z.im)) = true
 rw [fits_ht h.1,fits_ht h.2]; rfl
theorem gwhole_int {a b:Int} (h:ht (a:Rat) ≤ 8192 ∧ ht (b:Rat) ≤ 8192):gwhole (rg (Cx.ofInt a b)) = true:=by
 unfold gwhole
 rw [gmay_rg,gfits_ht (z:=Cx.ofInt a b) h]
 show (true && decide (rw ((a:Rat).den:Int) = rw 1) && decide (rw ((b:Rat).den:Int) = rw 1)) = true
 rw [Rat.den_intCast,Rat.den_intCast]
 show (true && decide (rw 1 = rw 1) && decide (rw 1 = rw 1)) = true
 rw [decide_eq_true rfl]; rfl
end Go.Proofs.YtllohoibifcmdaaGreat
namespace Go.Proofs.YtllohoibifcmdaaGreat
open Go.RowKit Rgn
set_option maxHeartbeats 4000000
set_option maxRecDepth 100000
variable {S:Nat → Prop} {W:World}
set_option maxHeartbeats 8000000 in
theorem hDivC (x:Cx) (y:Cx) (p0:gwhole (rg x) = true) (p1:gwhole (rg y) = true) (p2:y.zero = false) (p3:ht x.re + ht x.im + ht y.re + ht y.im ≤ 16777216) (p4:gfits (rg (x.div y).near) = true) (p5:gfits (rg (x.sub ((x.div y).near.mul y))) = true) :
  Calls Tryz.prog 23 #[gV x,gV y] W (RetV (.tuple #[gV ((x.div y).near),gV (x.sub ((x.div y).near.mul y)),.int .i64 0]) W):=by
 have h1:=hc_div x y
 have h2:=ht_rnd (x.div y).re
 have h3:=ht_rnd (x.div y).im
 have h4:=hc_mul (x.div y).near y
 have h5:=hc_sub x ((x.div y).near.mul y)
 have h6:ht (x.div y).near.re = ht ((rnd (x.div y).re:Int):Rat):=rfl
 have h7:ht (x.div y).near.im = ht ((rnd (x.div y).im:Int):Rat):=rfl
 have bel:=b0 W
 go_enter Tryz.func23,Tryz.ntmps23
 refine gs 5 (Amb Z0 W) fun _ K1=>?_
 refine .bx rfl (fun H=>H.v 0 (gV x)) ?_
 refine .bx rfl (fun H=>H.v 1 (gV y)) ?_
 refine .al rfl zG ?_
 refine .al rfl zG ?_
 refine .mc rfl ?_
 refine .dk (fun u=>gV x::gV y::sq u 0 5 (us 55)) K1 bel fun u1 w1 D bel=>?_
 obtain ⟨b2,E1_0,A2,B2⟩:=D.nw 0
 obtain ⟨b3,E1_1,A3,B3⟩:=D.nw 1
 obtain ⟨b4,E1_2,A4,B4⟩:=D.nw 2
 obtain ⟨b5,E1_3,A5,B5⟩:=D.nw 3
 have E1_4:=D.q 4
 have N2_4:=D.n2 0 2 E1_0 E1_2
 have N3_4:=D.n2 1 2 E1_1 E1_2
 have N2_5:=D.n2 0 3 E1_0 E1_3
 have N3_5:=D.n2 1 3 E1_1 E1_3
 have N4_5:=D.n2 2 3 E1_2 E1_3
 clear D
 refine wp_seq_k fun _ K6=>?_
 refine wp_block ?_
 refine gs 9 (Amb Z0 W) fun _ K7=>?_
 refine .lr rfl 2 E1_0 B2 ?_
 refine .cK rfl (V:=.bool true) Tryz.func28 (fun H=>⟨_,ar1 (H.g 15 0),reV (congrArg Value.bool p0) (hWhole (rg x))⟩) ?_
 refine .e rfl (V:=.bool false) (fun H=>x_not (H.g 16 1)) ?_
 refine .mv rfl 2 ?_
 refine .lr rfl 3 E1_1 B3 ?_ (hg:=gq 3 rfl)
 refine .cK rfl (V:=.bool true) Tryz.func28 (fun H=>⟨_,ar1 (H.g 19 4),reV (congrArg Value.bool p1) (hWhole (rg y))⟩) ?_ (hg:=gq 3 rfl)
 refine .e rfl (V:=.bool false) (fun H=>x_not (H.g 20 5)) ?_ (hg:=gq 3 rfl)
 refine .e rfl (fun H=>x_pkF (H.g 18 3) (H.g 21 6)) ?_
 refine .mv rfl 7 ?_
 refine .dk (fun u=>gV x::gV y::sq u1 0 5 (U::U::U::U::U::U::U::u 8::sq u 0 8 (us 39))) K7 bel fun u2 w2 D bel=>?_
 have E2_8:=D.q 8
 replace B2:=D.k B2
 replace B3:=D.k B3
 replace B4:=D.k B4
 replace B5:=D.k B5
 clear D
 refine wp_cond_false (by exact E2_8) ?_
 refine gs 3 (Amb Z0 W) fun _ K8=>?_
 refine .lr rfl 3 E1_1 B3 ?_
 refine .cK rfl (V:=.bool false) Tryz.func37 (fun H=>⟨_,ar1 (H.g 26 0),reV (congrArg Value.bool (zero_dec p2)) (gaZero (rg y))⟩) ?_
 refine .mv rfl 1 ?_
 refine .dk (fun u=>gV x::gV y::sq u1 0 5 (U::U::U::U::U::U::U::u2 8::sq u2 0 8 (U::U::u 2::u 0::u 1::us 34))) K8 bel fun u3 w3 D bel=>?_
 have E3_2:=D.q 2
 replace B2:=D.k B2
 replace B3:=D.k B3
 replace B4:=D.k B4
 replace B5:=D.k B5
 clear D
 refine wp_cond_false (by exact E3_2) ?_
 refine wp_skip ?_
 refine inBlock_normal ?_
 refine K6 _ _ ?_
 refine gd 8 (Amb Z0 W) fun _ K9=>?_
 refine .lr rfl 2 E1_0 B2 ?_
 refine .cR rfl [] Tryz.func57 (fun H=>⟨_,ar1 (H.g 30 0),xOf _ (by first | omega | exact zero_norm p2 | exact p4 | exact p5)⟩) ?_
 refine .lr rfl 3 E1_1 B3 ?_
 refine .cR rfl [] Tryz.func57 (fun H=>⟨_,ar1 (H.g 32 2),xOf _ (by first | omega | exact zero_norm p2 | exact p4 | exact p5)⟩) ?_
 refine .al rfl (#[.pointer none,.pointer none]) ?_
 refine .al rfl (#[.pointer none,.pointer none]) ?_
 refine Go2.storeOwn (i:=6) (m:=4) rfl rfl (.tail _ (.head _)) (SP.cells 4 [1] (fun u=>#[((u 1).v.cells.getD 0 undef),((u 1).v.cells.getD 1 undef)]) 81 (by intro u u' h; simp [h 1 (by simp)])) (fun u μ ρ b H h0 hB hb=>?_) ?_
 · have e7:=H.r 7 4; have e31:=H.r 31 1
   rw [h0] at e7
   obtain ⟨x1,x2,h1,h2,h3⟩:=(H.a 1 rfl)
   have o1:=VP1.rat h2
   have o2:=VP1.rat h3
   rw [h1] at e31
   refine ⟨μ.setRow b #[x1,x2],ex_store_row 81 _ _ rfl e7 e31 hb (by kernel_rfl) rfl (by simp [o1,o2]),fun g=>⟨b,?_,hB,?_⟩,setRow_only _ _ _⟩
   · rw [upd_other _ _ (by decide)]; exact h0
   · rw [setRow_at hb]; try simp [upd,h1,Value.cells]
 refine Go2.storeOwn (i:=7) (m:=5) rfl rfl (.tail _ (.head _)) (SP.cells 5 [3] (fun u=>#[((u 3).v.cells.getD 0 undef),((u 3).v.cells.getD 1 undef)]) 81 (by intro u u' h; simp [h 3 (by simp)])) (fun u μ ρ b H h0 hB hb=>?_) ?_
 · have e8:=H.r 8 5; have e33:=H.r 33 3
   rw [h0] at e8
   obtain ⟨x1,x2,h1,h2,h3⟩:=(H.a 3 rfl)
   have o1:=VP1.rat h2
   have o2:=VP1.rat h3
   rw [h1] at e33
   refine ⟨μ.setRow b #[x1,x2],ex_store_row 81 _ _ rfl e8 e33 hb (by kernel_rfl) rfl (by simp [o1,o2]),fun g=>⟨b,?_,hB,?_⟩,setRow_only _ _ _⟩
   · rw [upd_other _ _ (by decide)]; exact h0
   · rw [setRow_at hb]; try simp [upd,h1,Value.cells]
 refine .dk (fun u=>gV x::gV y::sq u1 0 5 (u 4::u 5::U::U::U::U::U::u2 8::sq u2 0 8 (U::U::u3 2::u3 0::u3 1::U::U::sq u 0 4 (us 28)))) K9 bel fun u4 w4 D bel=>?_
 obtain ⟨b10,b11,E4_1,L10,L11,F10,F11⟩:=CxP.elim (D.rr 1)
 obtain ⟨b12,b13,E4_3,L12,L13,F12,F13⟩:=CxP.elim (D.rr 3)
 obtain ⟨b14,E4_4,A14,B14⟩:=(D.a 6 rfl)
 replace A14:=le2 D.le A14
 obtain ⟨b15,E4_5,A15,B15⟩:=(D.a 7 rfl)
 replace A15:=le2 D.le A15
 have N4_14:=D.n1 4 (lt_of B4) E4_4
 have N5_14:=D.n1 4 (lt_of B5) E4_4
 have N4_15:=D.n1 5 (lt_of B4) E4_5
 have N5_15:=D.n1 5 (lt_of B5) E4_5
 replace B4:=D.k B4
 replace B5:=D.k B5
 simp only [Value.cells,E4_1,E4_3,E4_4,E4_5] at B14
 replace B14:w4.heap[b14]? = some (.cells #[pt b10,pt b11] 81 (0,0)):=B14
 simp only [Value.cells,E4_1,E4_3,E4_4,E4_5] at B15
 replace B15:w4.heap[b15]? = some (.cells #[pt b12,pt b13] 81 (0,0)):=B15
 clear D
 refine gs 6 (Amb Z0 W) fun _ K16=>?_
 refine .lr rfl 7 E4_4 B14 ?_
 refine .lr rfl 8 E4_5 B15 ?_
 refine .cR rfl [] Tryz.func54 (fun H=>⟨_,ar2 (H.g 34 0) (H.g 35 1),xDiv _ _ (CxP.mk (H.was _ [] (VP.at F10 L10)) (H.was _ [] (VP.at F11 L11))) (CxP.mk (H.was _ [] (VP.at F12 L12)) (H.was _ [] (VP.at F13 L13))) (by first | omega | exact zero_norm p2 | exact p4 | exact p5) (by first | omega | exact zero_norm p2 | exact p4 | exact p5)⟩) ?_
 refine .cR rfl [2] Tryz.func81 (fun H=>⟨_,ar1 (H.r 36 2),hNearest _ (SV.sub [2] (H.a 2 rfl) rfl) (by first | omega | exact zero_norm p2 | exact p4 | exact p5)⟩) ?_
 refine .al rfl (#[.pointer none,.pointer none]) ?_
 refine Go2.storeOwn (i:=5) (m:=4) rfl rfl (.head _) (SP.cells 4 [3] (fun u=>#[((u 3).v.cells.getD 0 undef),((u 3).v.cells.getD 1 undef)]) 81 (by intro u u' h; simp [h 3 (by simp)])) (fun u μ ρ b H h0 hB hb=>?_) ?_
 · have e9:=H.r 9 4; have e37:=H.r 37 3
   rw [h0] at e9
   obtain ⟨x1,x2,h1,h2,h3⟩:=(H.a 3 rfl)
   have o1:=VP1.rat h2
   have o2:=VP1.rat h3
   rw [h1] at e37
   refine ⟨μ.setRow b #[x1,x2],ex_store_row 81 _ _ rfl e9 e37 hb (by kernel_rfl) rfl (by simp [o1,o2]),fun g=>⟨b,?_,hB,?_⟩,setRow_only _ _ _⟩
   · rw [upd_other _ _ (by decide)]; exact h0
   · rw [setRow_at hb]; try simp [upd,h1,Value.cells]
 refine .dk (fun u=>gV x::gV y::sq u1 0 5 (u4 4::u4 5::u 4::U::U::U::U::u2 8::sq u2 0 8 (U::U::u3 2::u3 0::u3 1::U::U::sq u4 0 4 (sq u 0 4 (us 24))))) K16 bel fun u5 w5 D bel=>?_
 obtain ⟨b17,b18,E5_3,L17,L18,F17,F18⟩:=CxP.elim (D.rr 3)
 obtain ⟨b19,E5_4,A19,B19⟩:=(D.a 5 rfl)
 replace A19:=le2 D.le A19
 have N4_19:=D.n1 4 (lt_of B4) E5_4
 have N5_19:=D.n1 4 (lt_of B5) E5_4
 replace B4:=D.k B4
 replace B5:=D.k B5
 replace B14:=D.k B14
 replace B15:=D.k B15
 simp only [Value.cells,E5_3,E5_4] at B19
 replace B19:w5.heap[b19]? = some (.cells #[pt b17,pt b18] 81 (0,0)):=B19
 replace F10:=D.o L10 F10
 replace F11:=D.o L11 F11
 replace F12:=D.o L12 F12
 replace F13:=D.o L13 F13
 clear D
 refine gs 8 (Amb Z0 W) fun _ K20=>?_
 refine .lr rfl 9 E5_4 B19 ?_
 refine .cK rfl Tryz.func55 (fun H=>⟨_,ar1 (H.g 39 0),xGaussOk _ (CxP.mk (VP.any _ (H.was _ [] (VP.at F17 L17))) (VP.any _ (H.was _ [] (VP.at F18 L18)))) (by first | omega | exact zero_norm p2 | exact p4 | exact p5) (by first | omega | exact zero_norm p2 | exact p4 | exact p5)⟩) ?_
 refine .mv rfl 1 ?_
 refine .e rfl (V:=gV ((x.div y).near)) (fun H=>x_ex (H.g 38 2)) ?_
 refine .e rfl (V:=.int .i64 0) (fun H=>x_ex (H.g 38 2)) ?_
 refine .al rfl zG ?_
 refine .so rfl 5 (fun H=>⟨H.r 10 5,H.g 41 3⟩) ?_
 refine .mv rfl 4 ?_
 refine .dk (fun u=>gV x::gV y::sq u1 0 5 (u4 4::u4 5::u5 4::u 5::u 7::U::U::u2 8::sq u2 0 8 (U::U::u3 2::u3 0::u3 1::U::U::sq u4 0 4 (sq u5 0 4 (u 2::u 0::u 1::u 3::u 4::us 19))))) K20 bel fun u6 w6 D bel=>?_
 obtain ⟨b21,E6_5,A21,B21⟩:=D.st 6
 have E6_7:=D.q 7
 have N4_21:=D.n1 5 (lt_of B4) E6_5
 have N5_21:=D.n1 5 (lt_of B5) E6_5
 replace B4:=D.k B4
 replace B5:=D.k B5
 replace B14:=D.k B14
 replace B15:=D.k B15
 replace B19:=D.k B19
 replace F10:=D.o L10 F10
 replace F11:=D.o L11 F11
 replace F12:=D.o L12 F12
 replace F13:=D.o L13 F13
 replace F17:=D.o L17 F17
 replace F18:=D.o L18 F18
 clear D
 refine gd 12 (Amb Z0 W) fun _ K22=>?_
 refine .lr rfl 7 E4_4 B14 ?_
 refine .lr rfl 9 E5_4 B19 ?_
 refine .lr rfl 8 E4_5 B15 ?_
 refine .cR rfl [] Tryz.func67 (fun H=>⟨_,ar2 (H.g 45 1) (H.g 46 2),xMul _ _ (CxP.mk (H.was _ [] (VP.at F17 L17)) (H.was _ [] (VP.at F18 L18))) (CxP.mk (H.was _ [] (VP.at F12 L12)) (H.was _ [] (VP.at F13 L13))) (by first | omega | exact zero_norm p2 | exact p4 | exact p5)⟩) ?_
 refine .cR rfl [3] Tryz.func82 (fun H=>⟨_,ar2 (H.g 44 0) (H.r 47 3),xSub _ _ (CxP.mk (H.was _ [3] (VP.at F10 L10)) (H.was _ [3] (VP.at F11 L11))) (SV.sub [3] (H.a 3 rfl) rfl) (by first | omega | exact zero_norm p2 | exact p4 | exact p5)⟩) ?_
 refine .cK rfl Tryz.func55 (fun H=>⟨_,ar1 (H.r 48 4),xGaussOk _ (SV.any (H.a 4 rfl)) (by first | omega | exact zero_norm p2 | exact p4 | exact p5) (by first | omega | exact zero_norm p2 | exact p4 | exact p5)⟩) ?_
 refine .mv rfl 5 ?_
 refine .e rfl (V:=gV (x.sub (((x.div y).near).mul y))) (fun H=>x_ex (H.g 43 6)) ?_
 refine .e rfl (V:=.int .i64 0) (fun H=>x_ex (H.g 43 6)) ?_
 refine .al rfl zG ?_
 refine .so rfl 9 (fun H=>⟨H.r 12 9,H.g 50 7⟩) ?_
 refine .mv rfl 8 ?_
 refine .dk (fun u=>gV x::gV y::sq u1 0 5 (u4 4::u4 5::u5 4::u6 5::u6 7::u 9::u 11::u2 8::sq u2 0 8 (U::U::u3 2::u3 0::u3 1::U::U::sq u4 0 4 (sq u5 0 4 (u6 2::u6 0::u6 1::u6 3::u6 4::u 6::sq u 0 6 (u 7::u 8::us 10)))))) K22 bel fun u7 w7 D bel=>?_
 obtain ⟨b23,E7_9,A23,B23⟩:=D.st 10
 have E7_11:=D.q 11
 have N4_23:=D.n1 9 (lt_of B4) E7_9
 have N5_23:=D.n1 9 (lt_of B5) E7_9
 replace B4:=D.k B4
 replace B5:=D.k B5
 replace B21:=D.k B21
 clear D
 refine wp_seq_k fun _ K24=>?_
 refine gs 6 (Amb Z0 W) fun _ K25=>?_
 refine .mz rfl 11 E6_7 ?_
 refine .e rfl (V:=.bool false) (fun H=>x_cmp (H.g 52 0) (H.c _)) ?_
 refine .mv rfl 1 ?_
 refine .mz rfl 13 E7_11 ?_ (hg:=gq 2 rfl)
 refine .e rfl (V:=.bool false) (fun H=>x_cmp (H.g 55 3) (H.c _)) ?_ (hg:=gq 2 rfl)
 refine .e rfl (fun H=>x_pkF (H.g 54 2) (H.g 56 4)) ?_
 refine .dk (fun u=>gV x::gV y::sq u1 0 5 (u4 4::u4 5::u5 4::u6 5::u6 7::u7 9::u7 11::u2 8::sq u2 0 8 (U::U::u3 2::u3 0::u3 1::U::U::sq u4 0 4 (sq u5 0 4 (u6 2::u6 0::u6 1::u6 3::u6 4::u7 6::sq u7 0 6 (u7 7::u7 8::sq u 0 6 (us 4))))))) K25 bel fun u8 w8 D bel=>?_
 have E8_5:=D.q 5
 replace B4:=D.k B4
 replace B5:=D.k B5
 replace B21:=D.k B21
 replace B23:=D.k B23
 clear D
 refine wp_cond_false (by exact E8_5) ?_
 refine wp_skip ?_
 refine K24 _ _ ?_
 refine wp_seq_k fun _ K26=>?_
 refine go2_drawn (by kernel_rfl) 5 rfl (Amb Z0 W) [(b4,2),(b5,3)] [2,3] (Olds.cons (R0:=fun _=>True) (lt_of B4) (by simp [(Ne.symm N4_5)]) (Olds.one (lt_of B5))) (by kernel_rfl) ?_
 refine .e rfl (fun H=>x_ldr (H.z 10 E6_5) (H.bn B21 (no_cons N4_21 (no_cons N5_21 (no_nil _))))) ?_
 refine .e rfl (fun H=>x_ldr (H.z 12 E7_9) (H.bn B23 (no_cons N4_23 (no_cons N5_23 (no_nil _))))) ?_
 refine .sz rfl 0 B4 (lt_of B4) (by intro y k hy; match y,hy with | 0,hy=>rfl | 1,hy=>simp at hy; exact absurd hy.1 (Ne.symm N4_5)) (fun H=>⟨(H.z 4 E1_2),(H.g 60 0)⟩) ?_
 refine .sz rfl 1 B5 (lt_of B5) (by intro y k hy; match y,hy with | 0,hy=>simp at hy; exact absurd hy.1 N4_5 | 1,hy=>rfl) (fun H=>⟨(H.z 5 E1_3),(H.g 61 1)⟩) ?_
 refine .mc rfl ?_
 refine .dd (fun u=>⟨List.toArray (gV x::gV y::sq u1 0 4 (u 4::u4 4::u4 5::u5 4::u6 5::u6 7::u7 9::u7 11::u2 8::sq u2 0 8 (U::U::u3 2::u3 0::u3 1::U::U::sq u4 0 4 (sq u5 0 4 (u6 2::u6 0::u6 1::u6 3::u6 4::u7 6::sq u7 0 6 (u7 7::u7 8::sq u8 0 6 (U::U::u 0::u 1::[]))))))),[]⟩) bel.size fun u9 w9 D=>?_
 have E9_4:=D.q 4
 replace B4:=D.ol 2
 replace B5:=D.ol 3
 replace bel:=D.d.base.bel bel bel.size (by simp; omega)
 clear D
 refine K26 _ _ ?_
 refine wp_ret ?_
 refine ret_ok rfl (by exact results_mix3 rfl (by exact E1_2) B4 Tryz.underlying30 rfl (by kernel_rfl) (by exact E1_3) B5 Tryz.underlying30 rfl (by kernel_rfl) (by exact E9_4)) (RetV.mk ?_ bel)
 exact congrArg Ending.returned (rfl)
end Go.Proofs.YtllohoibifcmdaaGreat
