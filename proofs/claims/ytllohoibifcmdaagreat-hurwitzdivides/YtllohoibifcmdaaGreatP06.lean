import Derived.Test.YtllohoibifcmdaaGreatP05
set_option linter.unusedVariables false
set_option linter.unusedSimpArgs false
namespace Go.Proofs.YtllohoibifcmdaaGreat
open Go.RowKit Rgn
set_option maxHeartbeats 4000000
set_option maxRecDepth 100000
variable {S:Nat → Prop} {W:World}
theorem frFloor {v0:Value} (x:Rat) (t0:(RatP x).p S v0 W) (p0:ht x ≤ 34359738368) :
  Calls Tryz.prog 137 #[v0] W (Ret (IntO (x.num / (x.den:Int))) S W):=by
 obtain ⟨b1,rfl,L1,F1⟩:=RatP.elim t0
 replace L1:Amb S W b1:=.inl L1
 have n0:=hi_num x
 have n2:=hi_den x
 have bel:=b0 W
 go_enter Tryz.func137,Tryz.ntmps137
 refine gs 1 (Amb S W) fun _ K2=>?_
 refine .mc rfl ?_
 refine .dk (fun u=>pt b1::U::u 0::us 6) K2 bel fun u1 w1 D bel=>?_
 have E1_0:=D.q 0
 replace F1:=D.o L1 F1
 clear D
 refine gs 7 (Amb S W) fun _ K3=>?_
 refine .al rfl zI ?_
 refine .mz rfl 0 (V:=pt b1) rfl ?_
 refine .cR rfl [] Tryz.func164 (fun H=>⟨_,ar1 (H.g 4 1),qNum _ (H.was _ [] (VP.at F1 L1)) (by first | omega | exact den_ne _)⟩) ?_
 refine .mz rfl 0 (V:=pt b1) rfl ?_
 refine .cR rfl [] Tryz.func69 (fun H=>⟨_,ar1 (H.g 6 3),qDenom _ (H.was _ [] (VP.at F1 L1)) (by first | omega | exact den_ne _)⟩) ?_
 refine .cO rfl 0 Tryz.func181 (fun H h0 hz=>⟨_,ar3 (H.p 3 0 h0) (H.r 5 2) (H.r 7 4),bDiv _ _ (IntBlk.of hz) (IntO.p (SV.any (H.a 2 rfl))) (IntO.p (SV.any (H.a 4 rfl))) (by first | omega | exact den_ne _) (by first | omega | exact den_ne _)⟩) ?_
 refine .mo rfl 5 ?_
 refine .dk (fun u=>pt b1::U::u 6::sq u 0 6 []) K3 bel fun u2 w2 D bel=>?_
 obtain ⟨b4,E2_6,A4,F4⟩:=D.ow 6
 have L4:Amb S W b4:=.inr A4
 clear D
 refine wp_ret ?_
 refine ret_ok rfl (by exact results_tmp' rfl (by exact E2_6)) ⟨_,rfl,?_,bel⟩
 exact (VP.at F4 L4)
theorem frAnswer {v0:Value} (x:Rat) (t0:(RatP x).p S v0 W) (p0:ht x ≤ 34359738368) :
  Calls Tryz.prog 143 #[v0] W (RetV (.tuple #[.agg #[.bool (fcut x).a.n,.string (fcut x).a.s,.bool (fcut x).b.n,.string (fcut x).b.s],.int .i64 (ferr x)]) W):=by
 obtain ⟨b1,rfl,L1,F1⟩:=RatP.elim t0
 replace L1:Amb S W b1:=.inl L1
 have n0:=hi_num x
 have n2:=hi_den x
 have bel:=b0 W
 go_enter Tryz.func143,Tryz.ntmps143
 rcases Bool.eq_false_or_eq_true (wshort (rw x.num)) with c2 | c2
 ·
  rcases Bool.eq_false_or_eq_true (wshort (rw (x.den:Int))) with c3 | c3
  ·
   refine gs 2 (Amb S W) fun _ K4=>?_
   refine .al rfl zF ?_
   refine .mc rfl ?_
   refine .dk (fun u=>pt b1::U::u 0::u 1::us 15) K4 bel fun u1 w1 D bel=>?_
   obtain ⟨b5,E1_0,A5,B5⟩:=D.nw 0
   have E1_1:=D.q 1
   have N1_5:=D.n1 0 (RatP.lt F1) E1_0
   replace F1:=D.o L1 F1
   clear D
   refine gs 4 (Amb S W) fun _ K6=>?_
   refine .mz rfl 0 (V:=pt b1) rfl ?_
   refine .cK rfl Tryz.func102 (fun H=>⟨_,ar1 (H.g 5 0),frTold _ (VP.any _ (H.was _ [] (VP.at F1 L1))) (by omega)⟩) ?_
   refine .al rfl zF ?_
   refine .so rfl 2 (fun H=>⟨H.r 4 2,H.g 6 1⟩) ?_
   refine .dk (fun u=>pt b1::U::u1 0::u1 1::u 2::u 0::u 1::us 12) K6 bel fun u2 w2 D bel=>?_
   obtain ⟨b7,E2_2,A7,B7⟩:=D.st 3
   have N5_7:=D.n1 2 (lt_of B5) E2_2
   replace B5:=D.k B5
   clear D
   refine wp_seq_k fun _ K8=>?_
   refine gs 10 (Amb S W) fun _ K9=>?_
   refine .fz rfl 4 0 E2_2 ?_
   refine .lp rfl 0 (wC x.num) B7 ?_
   refine .cK rfl (V:=.bool true) Tryz.func163 (fun H=>⟨_,ar1 (H.g 8 1),reV (congrArg Value.bool c2) (frShort (rw x.num))⟩) ?_
   refine .e rfl (V:=.bool false) (fun H=>x_not (H.g 9 2)) ?_
   refine .mv rfl 3 ?_
   refine .fz rfl 4 2 E2_2 ?_ (hg:=gq 4 rfl)
   refine .lp rfl 5 (wC (x.den:Int)) B7 ?_ (hg:=gq 4 rfl)
   refine .cK rfl (V:=.bool true) Tryz.func163 (fun H=>⟨_,ar1 (H.g 13 6),reV (congrArg Value.bool c3) (frShort (rw (x.den:Int)))⟩) ?_ (hg:=gq 4 rfl)
   refine .e rfl (V:=.bool false) (fun H=>x_not (H.g 14 7)) ?_ (hg:=gq 4 rfl)
   refine .e rfl (fun H=>x_pkF (H.g 11 4) (H.g 15 8)) ?_
   refine .dk (fun u=>pt b1::U::u1 0::u1 1::u2 2::u2 0::u2 1::sq u 0 10 (U::U::[])) K9 bel fun u3 w3 D bel=>?_
   have E3_9:=D.q 9
   replace B5:=D.k B5
   replace B7:=D.k B7
   clear D
   refine wp_cond_false (by exact E3_9) ?_
   refine wp_skip ?_
   refine K8 _ _ ?_
   refine gs1 3 (Amb S W) 1 B5 fun _ K10=>?_
   refine .e rfl (fun H=>x_ldr (H.z 4 E2_2) (H.b1 B7 N5_7)) ?_
   refine .s1 rfl B5 (fun H=>⟨H.z 2 E1_0,H.g 18 0⟩) ?_
   refine .mc rfl ?_
   refine .d1 (fun u=>pt b1::U::u1 0::u 2::u2 2::u2 0::u2 1::sq u3 0 10 (U::u 0::[])) K10 bel A5 fun u4 w4 D bel=>?_
   have E4_2:=D.q 2
   replace B5:=D.ol 1
   clear D
   refine wp_ret ?_
   refine ret_ok rfl (by exact results_mix rfl (by exact E1_0) B5 Tryz.underlying28 rfl (by kernel_rfl) (by exact E4_2)) (RetV.mk ?_ bel)
   exact congrArg Ending.returned (fans_y c2 c3)
  ·
   refine gs 2 (Amb S W) fun _ K11=>?_
   refine .al rfl zF ?_
   refine .mc rfl ?_
   refine .dk (fun u=>pt b1::U::u 0::u 1::us 15) K11 bel fun u1 w1 D bel=>?_
   obtain ⟨b12,E1_0,A12,B12⟩:=D.nw 0
   have E1_1:=D.q 1
   have N1_12:=D.n1 0 (RatP.lt F1) E1_0
   replace F1:=D.o L1 F1
   clear D
   refine gs 4 (Amb S W) fun _ K13=>?_
   refine .mz rfl 0 (V:=pt b1) rfl ?_
   refine .cK rfl Tryz.func102 (fun H=>⟨_,ar1 (H.g 5 0),frTold _ (VP.any _ (H.was _ [] (VP.at F1 L1))) (by omega)⟩) ?_
   refine .al rfl zF ?_
   refine .so rfl 2 (fun H=>⟨H.r 4 2,H.g 6 1⟩) ?_
   refine .dk (fun u=>pt b1::U::u1 0::u1 1::u 2::u 0::u 1::us 12) K13 bel fun u2 w2 D bel=>?_
   obtain ⟨b14,E2_2,A14,B14⟩:=D.st 3
   have N12_14:=D.n1 2 (lt_of B12) E2_2
   replace B12:=D.k B12
   clear D
   refine wp_seq_k fun _ K15=>?_
   refine gs 10 (Amb S W) fun _ K16=>?_
   refine .fz rfl 4 0 E2_2 ?_
   refine .lp rfl 0 (wC x.num) B14 ?_
   refine .cK rfl (V:=.bool true) Tryz.func163 (fun H=>⟨_,ar1 (H.g 8 1),reV (congrArg Value.bool c2) (frShort (rw x.num))⟩) ?_
   refine .e rfl (V:=.bool false) (fun H=>x_not (H.g 9 2)) ?_
   refine .mv rfl 3 ?_
   refine .fz rfl 4 2 E2_2 ?_ (hg:=gq 4 rfl)
   refine .lp rfl 5 (wC (x.den:Int)) B14 ?_ (hg:=gq 4 rfl)
   refine .cK rfl (V:=.bool false) Tryz.func163 (fun H=>⟨_,ar1 (H.g 13 6),reV (congrArg Value.bool c3) (frShort (rw (x.den:Int)))⟩) ?_ (hg:=gq 4 rfl)
   refine .e rfl (V:=.bool true) (fun H=>x_not (H.g 14 7)) ?_ (hg:=gq 4 rfl)
   refine .e rfl (fun H=>x_pkF (H.g 11 4) (H.g 15 8)) ?_
   refine .dk (fun u=>pt b1::U::u1 0::u1 1::u2 2::u2 0::u2 1::sq u 0 10 (U::U::[])) K16 bel fun u3 w3 D bel=>?_
   have E3_9:=D.q 9
   replace B12:=D.k B12
   replace B14:=D.k B14
   clear D
   refine wp_cond_true (by exact E3_9) ?_
   refine gs1 3 (Amb S W) 1 B12 fun _ K17=>?_
   refine .e rfl (V:=.agg zF) (fun H=>by clear H; go_simp) ?_
   refine .s1 rfl B12 (fun H=>⟨H.z 2 E1_0,H.g 17 0⟩) ?_
   refine .mc rfl ?_
   refine .d1 (fun u=>pt b1::U::u1 0::u 2::u2 2::u2 0::u2 1::sq u3 0 10 (u 0::U::[])) K17 bel A12 fun u4 w4 D bel=>?_
   have E4_2:=D.q 2
   replace B12:=D.ol 1
   clear D
   refine wp_ret ?_
   refine ret_ok rfl (by exact results_mix rfl (by exact E1_0) B12 Tryz.underlying28 rfl (by kernel_rfl) (by exact E4_2)) (RetV.mk ?_ bel)
   exact congrArg Ending.returned (fans_d c3)
 ·
  rcases Bool.eq_false_or_eq_true (wshort (rw (x.den:Int))) with c18 | c18
  ·
   refine gs 2 (Amb S W) fun _ K19=>?_
   refine .al rfl zF ?_
   refine .mc rfl ?_
   refine .dk (fun u=>pt b1::U::u 0::u 1::us 15) K19 bel fun u1 w1 D bel=>?_
   obtain ⟨b20,E1_0,A20,B20⟩:=D.nw 0
   have E1_1:=D.q 1
   have N1_20:=D.n1 0 (RatP.lt F1) E1_0
   replace F1:=D.o L1 F1
   clear D
   refine gs 4 (Amb S W) fun _ K21=>?_
   refine .mz rfl 0 (V:=pt b1) rfl ?_
   refine .cK rfl Tryz.func102 (fun H=>⟨_,ar1 (H.g 5 0),frTold _ (VP.any _ (H.was _ [] (VP.at F1 L1))) (by omega)⟩) ?_
   refine .al rfl zF ?_
   refine .so rfl 2 (fun H=>⟨H.r 4 2,H.g 6 1⟩) ?_
   refine .dk (fun u=>pt b1::U::u1 0::u1 1::u 2::u 0::u 1::us 12) K21 bel fun u2 w2 D bel=>?_
   obtain ⟨b22,E2_2,A22,B22⟩:=D.st 3
   have N20_22:=D.n1 2 (lt_of B20) E2_2
   replace B20:=D.k B20
   clear D
   refine wp_seq_k fun _ K23=>?_
   refine gs 10 (Amb S W) fun _ K24=>?_
   refine .fz rfl 4 0 E2_2 ?_
   refine .lp rfl 0 (wC x.num) B22 ?_
   refine .cK rfl (V:=.bool false) Tryz.func163 (fun H=>⟨_,ar1 (H.g 8 1),reV (congrArg Value.bool c2) (frShort (rw x.num))⟩) ?_
   refine .e rfl (V:=.bool true) (fun H=>x_not (H.g 9 2)) ?_
   refine .mv rfl 3 ?_
   refine .sk rfl 4 ?_
   refine .sk rfl 4 ?_
   refine .sk rfl 4 ?_
   refine .sk rfl 4 ?_
   refine .e rfl (fun H=>x_pkT (H.g 11 4) (H.c _)) ?_
   refine .dk (fun u=>pt b1::U::u1 0::u1 1::u2 2::u2 0::u2 1::sq u 0 10 (U::U::[])) K24 bel fun u3 w3 D bel=>?_
   have E3_9:=D.q 9
   replace B20:=D.k B20
   replace B22:=D.k B22
   clear D
   refine wp_cond_true (by exact E3_9) ?_
   refine gs1 3 (Amb S W) 1 B20 fun _ K25=>?_
   refine .e rfl (V:=.agg zF) (fun H=>by clear H; go_simp) ?_
   refine .s1 rfl B20 (fun H=>⟨H.z 2 E1_0,H.g 17 0⟩) ?_
   refine .mc rfl ?_
   refine .d1 (fun u=>pt b1::U::u1 0::u 2::u2 2::u2 0::u2 1::sq u3 0 10 (u 0::U::[])) K25 bel A20 fun u4 w4 D bel=>?_
   have E4_2:=D.q 2
   replace B20:=D.ol 1
   clear D
   refine wp_ret ?_
   refine ret_ok rfl (by exact results_mix rfl (by exact E1_0) B20 Tryz.underlying28 rfl (by kernel_rfl) (by exact E4_2)) (RetV.mk ?_ bel)
   exact congrArg Ending.returned (fans_n c2)
  ·
   refine gs 2 (Amb S W) fun _ K26=>?_
   refine .al rfl zF ?_
   refine .mc rfl ?_
   refine .dk (fun u=>pt b1::U::u 0::u 1::us 15) K26 bel fun u1 w1 D bel=>?_
   obtain ⟨b27,E1_0,A27,B27⟩:=D.nw 0
   have E1_1:=D.q 1
   have N1_27:=D.n1 0 (RatP.lt F1) E1_0
   replace F1:=D.o L1 F1
   clear D
   refine gs 4 (Amb S W) fun _ K28=>?_
   refine .mz rfl 0 (V:=pt b1) rfl ?_
   refine .cK rfl Tryz.func102 (fun H=>⟨_,ar1 (H.g 5 0),frTold _ (VP.any _ (H.was _ [] (VP.at F1 L1))) (by omega)⟩) ?_
   refine .al rfl zF ?_
   refine .so rfl 2 (fun H=>⟨H.r 4 2,H.g 6 1⟩) ?_
   refine .dk (fun u=>pt b1::U::u1 0::u1 1::u 2::u 0::u 1::us 12) K28 bel fun u2 w2 D bel=>?_
   obtain ⟨b29,E2_2,A29,B29⟩:=D.st 3
   have N27_29:=D.n1 2 (lt_of B27) E2_2
   replace B27:=D.k B27
   clear D
   refine wp_seq_k fun _ K30=>?_
   refine gs 10 (Amb S W) fun _ K31=>?_
   refine .fz rfl 4 0 E2_2 ?_
   refine .lp rfl 0 (wC x.num) B29 ?_
   refine .cK rfl (V:=.bool false) Tryz.func163 (fun H=>⟨_,ar1 (H.g 8 1),reV (congrArg Value.bool c2) (frShort (rw x.num))⟩) ?_
   refine .e rfl (V:=.bool true) (fun H=>x_not (H.g 9 2)) ?_
   refine .mv rfl 3 ?_
   refine .sk rfl 4 ?_
   refine .sk rfl 4 ?_
   refine .sk rfl 4 ?_
   refine .sk rfl 4 ?_
   refine .e rfl (fun H=>x_pkT (H.g 11 4) (H.c _)) ?_
   refine .dk (fun u=>pt b1::U::u1 0::u1 1::u2 2::u2 0::u2 1::sq u 0 10 (U::U::[])) K31 bel fun u3 w3 D bel=>?_
   have E3_9:=D.q 9
   replace B27:=D.k B27
   replace B29:=D.k B29
   clear D
   refine wp_cond_true (by exact E3_9) ?_
   refine gs1 3 (Amb S W) 1 B27 fun _ K32=>?_
   refine .e rfl (V:=.agg zF) (fun H=>by clear H; go_simp) ?_
   refine .s1 rfl B27 (fun H=>⟨H.z 2 E1_0,H.g 17 0⟩) ?_
   refine .mc rfl ?_
   refine .d1 (fun u=>pt b1::U::u1 0::u 2::u2 2::u2 0::u2 1::sq u3 0 10 (u 0::U::[])) K32 bel A27 fun u4 w4 D bel=>?_
   have E4_2:=D.q 2
   replace B27:=D.ol 1
   clear D
   refine wp_ret ?_
   refine ret_ok rfl (by exact results_mix rfl (by exact E1_0) B27 Tryz.underlying28 rfl (by kernel_rfl) (by exact E4_2)) (RetV.mk ?_ bel)
   exact congrArg Ending.returned (fans_n c2)
theorem fWholeN (n:Int) :
  Calls Tryz.prog 77 #[wV n] W (RetV (fV ((n:Int):Rat)) W):=by
 have bel:=b0 W
 go_enter Tryz.func77,Tryz.ntmps77
 refine gs 2 (Amb Z0 W) fun _ K1=>?_
 refine .bx rfl (fun H=>H.v 0 (wV n)) ?_
 refine .al rfl zF ?_
 refine .dk (fun u=>wV n::u 0::u 1::us 3) K1 bel fun u1 w1 D bel=>?_
 obtain ⟨b2,E1_0,A2,B2⟩:=D.nw 0
 obtain ⟨b3,E1_1,A3,B3⟩:=D.nw 1
 have N2_3:=D.n2 0 1 E1_0 E1_1
 clear D
 refine gd1 4 (Amb Z0 W) 3 B3 fun _ K4=>?_
 refine .e rfl (fun H=>x_ldr (H.z 1 E1_0) (H.b1 B2 (Ne.symm N2_3))) ?_
 refine .cK rfl Tryz.func62 (fun H=>⟨_,ar1 (H.c (.int .i64 1)),rOf _ (by omega) (by omega)⟩) ?_
 refine .e rfl (V:=rfV (RF.mk (rw n) (rw (1:Int)))) (fun H=>by have e3:=H.g 3 0; have e4:=H.g 4 1; clear H; go_simp) ?_
 refine .s1 rfl B3 (fun H=>⟨H.z 2 E1_1,H.g 5 2⟩) ?_
 refine .d1 (fun u=>wV n::u1 0::u1 1::sq u 0 3 []) K4 bel A3 fun u2 w2 D bel=>?_
 replace B3:=D.ol 3
 clear D
 exact wp_ret (rr rfl E1_1 B3 (fr_int n) bel)
theorem fFloor (x:Rat) (p0:ht x ≤ 34359738368) :
  Calls Tryz.prog 146 #[fV x] W (RetV (wV (x.num / (x.den:Int))) W):=by
 have n0:=hi_num x
 have n2:=hi_den x
 have bel:=b0 W
 go_enter Tryz.func146,Tryz.ntmps146
 refine gs 2 (Amb Z0 W) fun _ K1=>?_
 refine .bx rfl (fun H=>H.v 0 (fV x)) ?_
 refine .al rfl zW ?_
 refine .dk (fun u=>fV x::u 0::u 1::us 11) K1 bel fun u1 w1 D bel=>?_
 obtain ⟨b2,E1_0,A2,B2⟩:=D.nw 0
 obtain ⟨b3,E1_1,A3,B3⟩:=D.nw 1
 have N2_3:=D.n2 0 1 E1_0 E1_1
 clear D
 refine gs 12 (Amb Z0 W) fun _ K4=>?_
 refine .fz rfl 1 0 E1_0 ?_
 refine .lp rfl 0 (wC x.num) B2 ?_
 refine .fz rfl 1 2 E1_0 ?_
 refine .lp rfl 2 (wC (x.den:Int)) B2 ?_
 refine .cK rfl Tryz.func149 (fun H=>⟨_,ar2 (H.g 7 1) (H.g 9 3),rDivMod _ _ (by first | omega | exact den_ne _) (by first | omega | exact den_ne _)⟩) ?_
 refine .mv rfl 4 ?_
 refine .e rfl (V:=wV (x.num / (x.den:Int))) (fun H=>x_ex (H.g 5 5)) ?_
 refine .e rfl (V:=wV (x.num % (x.den:Int))) (fun H=>x_ex (H.g 5 5)) ?_
 refine .al rfl zW ?_
 refine .al rfl zW ?_
 refine .so rfl 8 (fun H=>⟨H.r 3 8,H.g 11 6⟩) ?_
 refine .so rfl 9 (fun H=>⟨H.r 4 9,H.g 12 7⟩) ?_
 refine .dk (fun u=>fV x::u1 0::u1 1::u 8::u 9::u 5::sq u 0 5 (u 6::u 7::U::[])) K4 bel fun u2 w2 D bel=>?_
 obtain ⟨b5,E2_8,A5,B5⟩:=D.st 10
 have N3_5:=D.n1 8 (lt_of B3) E2_8
 replace B3:=D.k B3
 clear D
 refine gs1 2 (Amb Z0 W) 1 B3 fun _ K6=>?_
 refine .e rfl (fun H=>x_ldr (H.z 3 E2_8) (H.b1 B5 N3_5)) ?_
 refine .s1 rfl B3 (fun H=>⟨H.z 2 E1_1,H.g 13 0⟩) ?_
 refine .d1 (fun u=>fV x::u1 0::u1 1::u2 8::u2 9::u2 5::sq u2 0 5 (u2 6::u2 7::u 0::[])) K6 bel A3 fun u3 w3 D bel=>?_
 replace B3:=D.ol 1
 clear D
 exact wp_ret (rr rfl E1_1 B3 rfl bel)
theorem fCmp (x:Rat) (y:Rat) (p0:ht x + ht y ≤ 68719476736) :
  Calls Tryz.prog 147 #[fV x,fV y] W (RetV (.int .i64 (icmp (x.num * (y.den:Int)) (y.num * (x.den:Int)))) W):=by
 have n0:=hi_num x
 have n1:=hi_num y
 have n2:=hi_den x
 have n3:=hi_den y
 have m0:=hi_mul x.num (y.den:Int)
 have m1:=hi_mul y.num (x.den:Int)
 have bel:=b0 W
 go_enter Tryz.func147,Tryz.ntmps147
 refine gs 3 (Amb Z0 W) fun _ K1=>?_
 refine .bx rfl (fun H=>H.v 0 (fV x)) ?_
 refine .bx rfl (fun H=>H.v 1 (fV y)) ?_
 refine .mc rfl ?_
 refine .dk (fun u=>fV x::fV y::sq u 0 3 (us 11)) K1 bel fun u1 w1 D bel=>?_
 obtain ⟨b2,E1_0,A2,B2⟩:=D.nw 0
 obtain ⟨b3,E1_1,A3,B3⟩:=D.nw 1
 have E1_2:=D.q 2
 clear D
 refine gd 12 (Amb Z0 W) fun _ K4=>?_
 refine .fz rfl 2 0 E1_0 ?_
 refine .lp rfl 0 (wC x.num) B2 ?_
 refine .fz rfl 3 2 E1_1 ?_
 refine .lp rfl 2 (wC (y.den:Int)) B3 ?_
 refine .cK rfl Tryz.func76 (fun H=>⟨_,ar2 (H.g 6 1) (H.g 8 3),rTimes _ _ (by omega)⟩) ?_
 refine .fz rfl 3 0 E1_1 ?_
 refine .lp rfl 5 (wC y.num) B3 ?_
 refine .fz rfl 2 2 E1_0 ?_
 refine .lp rfl 7 (wC (x.den:Int)) B2 ?_
 refine .cK rfl Tryz.func76 (fun H=>⟨_,ar2 (H.g 11 6) (H.g 13 8),rTimes _ _ (by omega)⟩) ?_
 refine .cK rfl Tryz.func184 (fun H=>⟨_,ar2 (H.g 9 4) (H.g 14 9),rCmp _ _ (by omega)⟩) ?_
 refine .mv rfl 10 ?_
 refine .dk (fun u=>fV x::fV y::u1 0::u1 1::u 11::sq u 0 11 []) K4 bel fun u2 w2 D bel=>?_
 have E2_11:=D.q 11
 clear D
 exact wp_ret (rt rfl E2_11 rfl bel)
theorem fSmall (a:Int) (b:Int) (p0:-9223372036854775808 ≤ a) (p1:a ≤ 9223372036854775807) (p2:-9223372036854775808 ≤ b) (p3:b ≤ 9223372036854775807) (p4:b ≠ 0) :
  Calls Tryz.prog 148 #[.int .i64 a,.int .i64 b] W (RetV (fV (Rat.divInt a b)) W):=by
 have n0:=hi_i64 p0 p1
 have n1:=hi_i64 p2 p3
 have bel:=b0 W
 go_enter Tryz.func148,Tryz.ntmps148
 refine gs 1 (Amb Z0 W) fun _ K1=>?_
 refine .al rfl zF ?_
 refine .dk (fun u=>.int .i64 a::.int .i64 b::U::U::u 0::us 5) K1 bel fun u1 w1 D bel=>?_
 obtain ⟨b2,E1_0,A2,B2⟩:=D.nw 0
 clear D
 refine gs1 6 (Amb Z0 W) 5 B2 fun _ K3=>?_
 refine .mz rfl 0 (V:=.int .i64 a) rfl ?_
 refine .cK rfl Tryz.func62 (fun H=>⟨_,ar1 (H.g 5 0),rOf _ (by first | omega | exact p4) (by first | omega | exact p4)⟩) ?_
 refine .mz rfl 1 (V:=.int .i64 b) rfl ?_
 refine .cK rfl Tryz.func62 (fun H=>⟨_,ar1 (H.g 7 2),rOf _ (by first | omega | exact p4) (by first | omega | exact p4)⟩) ?_
 refine .cK rfl Tryz.func153 (fun H=>⟨_,ar2 (H.g 6 1) (H.g 8 3),fOf _ _ (by first | omega | exact p4) (by first | omega | exact p4)⟩) ?_
 refine .s1 rfl B2 (fun H=>⟨H.z 4 E1_0,H.g 9 4⟩) ?_
 refine .d1 (fun u=>.int .i64 a::.int .i64 b::U::U::u1 0::sq u 0 5 []) K3 bel A2 fun u2 w2 D bel=>?_
 replace B2:=D.ol 5
 clear D
 exact wp_ret (rr rfl E1_0 B2 rfl bel)
theorem fNearest (x:Rat) (p0:ht x ≤ 8589934592) :
  Calls Tryz.prog 83 #[fV x] W (RetV (wV (rnd x)) W):=by
 have n0:=hi_num x
 have n2:=hi_den x
 have h2:ht (Rat.divInt (1:Int) (2:Int)) = 3:=by decide
 have h3:=ht_int_le (x.num / (x.den:Int))
 have h4:=hi_fdiv x
 have h5:=ht_sub x ((x.num / (x.den:Int):Int):Rat)
 have h6:hi 2 = 3:=by decide
 have h7:hi 1 = 2:=by decide
 have bel:=b0 W
 go_enter Tryz.func83,Tryz.ntmps83
 refine gs 2 (Amb Z0 W) fun _ K1=>?_
 refine .bx rfl (fun H=>H.v 0 (fV x)) ?_
 refine .al rfl zW ?_
 refine .dk (fun u=>fV x::u 0::u 1::us 35) K1 bel fun u1 w1 D bel=>?_
 obtain ⟨b2,E1_0,A2,B2⟩:=D.nw 0
 obtain ⟨b3,E1_1,A3,B3⟩:=D.nw 1
 have N2_3:=D.n2 0 1 E1_0 E1_1
 clear D
 refine gs 4 (Amb Z0 W) fun _ K4=>?_
 refine .lr rfl 1 E1_0 B2 ?_
 refine .cK rfl Tryz.func146 (fun H=>⟨_,ar1 (H.g 8 0),fFloor _ (by first | omega | decide)⟩) ?_
 refine .al rfl zW ?_
 refine .so rfl 2 (fun H=>⟨H.r 3 2,H.g 9 1⟩) ?_
 refine .dk (fun u=>fV x::u1 0::u1 1::u 2::U::U::U::U::u 0::u 1::us 28) K4 bel fun u2 w2 D bel=>?_
 obtain ⟨b5,E2_2,A5,B5⟩:=D.st 3
 have N3_5:=D.n1 2 (lt_of B3) E2_2
 replace B2:=D.k B2
 replace B3:=D.k B3
 clear D
 refine gd 6 (Amb Z0 W) fun _ K6=>?_
 refine .lr rfl 1 E1_0 B2 ?_
 refine .lr rfl 3 E2_2 B5 ?_
 refine .cK rfl Tryz.func77 (fun H=>⟨_,ar1 (H.g 11 1),fWholeN _⟩) ?_
 refine .cK rfl Tryz.func85 (fun H=>⟨_,ar2 (H.g 10 0) (H.g 12 2),fMinus _ _ (by first | omega | decide)⟩) ?_
 refine .al rfl zF ?_
 refine .so rfl 4 (fun H=>⟨H.r 4 4,H.g 13 3⟩) ?_
 refine .dk (fun u=>fV x::u1 0::u1 1::u2 2::u 4::U::U::U::u2 0::u2 1::sq u 0 4 (us 24)) K6 bel fun u3 w3 D bel=>?_
 obtain ⟨b7,E3_4,A7,B7⟩:=D.st 5
 have N3_7:=D.n1 4 (lt_of B3) E3_4
 replace B3:=D.k B3
 replace B5:=D.k B5
 clear D
 refine gd 4 (Amb Z0 W) fun _ K8=>?_
 refine .lr rfl 4 E3_4 B7 ?_
 refine .cK rfl Tryz.func148 (fun H=>⟨_,ar2 (H.c (.int .i64 1)) (H.c (.int .i64 2)),fSmall _ _ (by first | omega | decide) (by first | omega | decide) (by first | omega | decide) (by first | omega | decide) (by first | omega | decide)⟩) ?_
 refine .cK rfl Tryz.func147 (fun H=>⟨_,ar2 (H.g 14 0) (H.g 15 1),fCmp _ _ (by first | omega | decide)⟩) ?_
 refine .mv rfl 2 ?_
 refine .dk (fun u=>fV x::u1 0::u1 1::u2 2::u3 4::u 3::U::U::u2 0::u2 1::sq u3 0 4 (sq u 0 3 (us 21))) K8 bel fun u4 w4 D bel=>?_
 have E4_3:=D.q 3
 replace B3:=D.k B3
 replace B5:=D.k B5
 clear D
 refine gd 10 (Amb Z0 W) fun _ K9=>?_
 refine .lr rfl 3 E2_2 B5 ?_
 refine .cK rfl Tryz.func62 (fun H=>⟨_,ar1 (H.c (.int .i64 2)),rOf _ (by first | omega | decide) (by first | omega | decide)⟩) ?_
 refine .cK rfl Tryz.func149 (fun H=>⟨_,ar2 (H.g 18 0) (H.g 19 1),rDivMod _ _ (by first | omega | decide) (by first | omega | decide)⟩) ?_
 refine .mv rfl 2 ?_
 refine .e rfl (V:=wV ((x.num / (x.den:Int)) / (2:Int))) (fun H=>x_ex (H.g 17 3)) ?_
 refine .e rfl (V:=wV ((x.num / (x.den:Int)) % (2:Int))) (fun H=>x_ex (H.g 17 3)) ?_
 refine .al rfl zW ?_
 refine .al rfl zW ?_
 refine .so rfl 6 (fun H=>⟨H.r 6 6,H.g 21 4⟩) ?_
 refine .so rfl 7 (fun H=>⟨H.r 7 7,H.g 22 5⟩) ?_
 refine .dk (fun u=>fV x::u1 0::u1 1::u2 2::u3 4::u4 3::u 6::u 7::u2 0::u2 1::sq u3 0 4 (sq u4 0 3 (u 3::sq u 0 3 (u 4::u 5::us 15)))) K9 bel fun u5 w5 D bel=>?_
 obtain ⟨b10,E5_7,A10,B10⟩:=D.st 9
 have N3_10:=D.n1 7 (lt_of B3) E5_7
 replace B3:=D.k B3
 replace B5:=D.k B5
 clear D
 refine wp_seq_k fun _ K11=>?_
 rcases Bool.eq_false_or_eq_true (decide (0 < (icmp ((x - (((x.num / (x.den:Int)):Int):Rat)).num * ((Rat.divInt (1:Int) (2:Int)).den:Int)) ((Rat.divInt (1:Int) (2:Int)).num * ((x - (((x.num / (x.den:Int)):Int):Rat)).den:Int))))) with c13 | c13
 ·
  have dc13:=of_decide_eq_true c13
  refine gs 11 (Amb Z0 W) fun _ K12=>?_
  refine .mz rfl 5 E4_3 ?_
  refine .e rfl (V:=.bool true) (fun H=>x_cm (H.g 23 0) (H.c _) c13) ?_
  refine .mv rfl 1 ?_
  refine .sk rfl 2 ?_
  refine .sk rfl 2 ?_
  refine .su rfl 2 ?_
  refine .sn rfl 5 ?_
  refine .sn rfl 5 ?_
  refine .sn rfl 5 ?_
  refine .sk rfl 2 ?_
  refine .e rfl (fun H=>x_pkT (H.g 25 2) (H.c _)) ?_
  refine .dk (fun u=>fV x::u1 0::u1 1::u2 2::u3 4::u4 3::u5 6::u5 7::u2 0::u2 1::sq u3 0 4 (sq u4 0 3 (u5 3::sq u5 0 3 (u5 4::u5 5::sq u 0 11 (us 4))))) K12 bel fun u6 w6 D bel=>?_
  have E6_10:=D.q 10
  replace B3:=D.k B3
  replace B5:=D.k B5
  clear D
  refine wp_cond_true (by exact E6_10) ?_
  refine gd1 4 (Amb Z0 W) 3 B3 fun _ K14=>?_
  refine .e rfl (fun H=>x_ldr (H.z 3 E2_2) (H.b1 B5 N3_5)) ?_
  refine .cK rfl Tryz.func62 (fun H=>⟨_,ar1 (H.c (.int .i64 1)),rOf _ (by first | omega | decide) (by first | omega | decide)⟩) ?_
  refine .cK rfl Tryz.func151 (fun H=>⟨_,ar2 (H.g 34 0) (H.g 35 1),rPlus _ _ (by first | omega | decide)⟩) ?_
  refine .s1 rfl B3 (fun H=>⟨H.z 2 E1_1,H.g 36 2⟩) ?_
  refine .d1 (fun u=>fV x::u1 0::u1 1::u2 2::u3 4::u4 3::u5 6::u5 7::u2 0::u2 1::sq u3 0 4 (sq u4 0 3 (u5 3::sq u5 0 3 (u5 4::u5 5::sq u6 0 11 (sq u 0 3 (U::[])))))) K14 bel A3 fun u7 w7 D bel=>?_
  replace B3:=D.ol 3
  clear D
  exact wp_ret (rr rfl E1_1 B3 (nr_1 dc13) bel)
 ·
  have dc13:=of_decide_eq_false c13
  rcases Bool.eq_false_or_eq_true ((icmp ((x - (((x.num / (x.den:Int)):Int):Rat)).num * ((Rat.divInt (1:Int) (2:Int)).den:Int)) ((Rat.divInt (1:Int) (2:Int)).num * ((x - (((x.num / (x.den:Int)):Int):Rat)).den:Int))) == 0) with c15 | c15
  ·
   refine gs 11 (Amb Z0 W) fun _ K12=>?_
   refine .mz rfl 5 E4_3 ?_
   refine .e rfl (V:=.bool false) (fun H=>x_cm (H.g 23 0) (H.c _) c13) ?_
   refine .mv rfl 1 ?_
   refine .mz rfl 5 E4_3 ?_ (hg:=gq 2 rfl)
   refine .e rfl (V:=.bool true) (fun H=>x_cm (H.g 26 3) (H.c _) c15) ?_ (hg:=gq 2 rfl)
   refine .mv rfl 4 ?_ (hg:=gq 2 rfl)
   refine .lr rfl 7 E5_7 B10 ?_ (hg:=gq 5 rfl)
   refine .cK rfl Tryz.func150 (fun H=>⟨_,ar1 (H.g 29 6),rSign _⟩) ?_ (hg:=gq 5 rfl)
   refine .e rfl (V:=.bool ((((x.num / (x.den:Int)) % (2:Int)).sign) != 0)) (fun H=>x_cmp (H.g 30 7) (H.c _)) ?_ (hg:=gq 5 rfl)
   refine .e rfl (fun H=>x_pkT (H.g 28 5) (H.g 31 8)) ?_ (hg:=gq 2 rfl)
   refine .e rfl (fun H=>x_pkF (H.g 25 2) (H.g 32 9)) ?_
   refine .dk (fun u=>fV x::u1 0::u1 1::u2 2::u3 4::u4 3::u5 6::u5 7::u2 0::u2 1::sq u3 0 4 (sq u4 0 3 (u5 3::sq u5 0 3 (u5 4::u5 5::sq u 0 11 (us 4))))) K12 bel fun u6 w6 D bel=>?_
   have E6_10:=D.q 10
   replace B3:=D.k B3
   replace B5:=D.k B5
   clear D
   rcases Bool.eq_false_or_eq_true ((((x.num / (x.den:Int)) % (2:Int)).sign) != 0) with c16 | c16
   ·
    refine wp_cond_true ((E6_10).trans (congrArg Value.bool c16)) ?_
    refine gd1 4 (Amb Z0 W) 3 B3 fun _ K17=>?_
    refine .e rfl (fun H=>x_ldr (H.z 3 E2_2) (H.b1 B5 N3_5)) ?_
    refine .cK rfl Tryz.func62 (fun H=>⟨_,ar1 (H.c (.int .i64 1)),rOf _ (by first | omega | decide) (by first | omega | decide)⟩) ?_
    refine .cK rfl Tryz.func151 (fun H=>⟨_,ar2 (H.g 34 0) (H.g 35 1),rPlus _ _ (by first | omega | decide)⟩) ?_
    refine .s1 rfl B3 (fun H=>⟨H.z 2 E1_1,H.g 36 2⟩) ?_
    refine .d1 (fun u=>fV x::u1 0::u1 1::u2 2::u3 4::u4 3::u5 6::u5 7::u2 0::u2 1::sq u3 0 4 (sq u4 0 3 (u5 3::sq u5 0 3 (u5 4::u5 5::sq u6 0 11 (sq u 0 3 (U::[])))))) K17 bel A3 fun u7 w7 D bel=>?_
    replace B3:=D.ol 3
    clear D
    exact wp_ret (rr rfl E1_1 B3 (nr_2 c15 c16) bel)
   ·
    refine wp_cond_false ((E6_10).trans (congrArg Value.bool c16)) ?_
    refine wp_skip ?_
    refine K11 _ _ ?_
    refine gs1 2 (Amb Z0 W) 1 B3 fun _ K18=>?_
    refine .e rfl (fun H=>x_ldr (H.z 3 E2_2) (H.b1 B5 N3_5)) ?_
    refine .s1 rfl B3 (fun H=>⟨H.z 2 E1_1,H.g 37 0⟩) ?_
    refine .d1 (fun u=>fV x::u1 0::u1 1::u2 2::u3 4::u4 3::u5 6::u5 7::u2 0::u2 1::sq u3 0 4 (sq u4 0 3 (u5 3::sq u5 0 3 (u5 4::u5 5::sq u6 0 11 (U::U::U::u 0::[]))))) K18 bel A3 fun u8 w8 D bel=>?_
    replace B3:=D.ol 1
    clear D
    exact wp_ret (rr rfl E1_1 B3 (nr_3 c15 c16) bel)
  ·
   refine gs 11 (Amb Z0 W) fun _ K12=>?_
   refine .mz rfl 5 E4_3 ?_
   refine .e rfl (V:=.bool false) (fun H=>x_cm (H.g 23 0) (H.c _) c13) ?_
   refine .mv rfl 1 ?_
   refine .mz rfl 5 E4_3 ?_ (hg:=gq 2 rfl)
   refine .e rfl (V:=.bool false) (fun H=>x_cm (H.g 26 3) (H.c _) c15) ?_ (hg:=gq 2 rfl)
   refine .mv rfl 4 ?_ (hg:=gq 2 rfl)
   refine .sk rfl 5 ?_
   refine .sk rfl 5 ?_
   refine .sk rfl 5 ?_
   refine .e rfl (fun H=>x_pkF (H.g 28 5) (H.c _)) ?_ (hg:=gq 2 rfl)
   refine .e rfl (fun H=>x_pkF (H.g 25 2) (H.g 32 9)) ?_
   refine .dk (fun u=>fV x::u1 0::u1 1::u2 2::u3 4::u4 3::u5 6::u5 7::u2 0::u2 1::sq u3 0 4 (sq u4 0 3 (u5 3::sq u5 0 3 (u5 4::u5 5::sq u 0 11 (us 4))))) K12 bel fun u6 w6 D bel=>?_
   have E6_10:=D.q 10
   replace B3:=D.k B3
   replace B5:=D.k B5
   clear D
   refine wp_cond_false (by exact E6_10) ?_
   refine wp_skip ?_
   refine K11 _ _ ?_
   refine gs1 2 (Amb Z0 W) 1 B3 fun _ K19=>?_
   refine .e rfl (fun H=>x_ldr (H.z 3 E2_2) (H.b1 B5 N3_5)) ?_
   refine .s1 rfl B3 (fun H=>⟨H.z 2 E1_1,H.g 37 0⟩) ?_
   refine .d1 (fun u=>fV x::u1 0::u1 1::u2 2::u3 4::u4 3::u5 6::u5 7::u2 0::u2 1::sq u3 0 4 (sq u4 0 3 (u5 3::sq u5 0 3 (u5 4::u5 5::sq u6 0 11 (U::U::U::u 0::[]))))) K19 bel A3 fun u7 w7 D bel=>?_
   replace B3:=D.ol 1
   clear D
   exact wp_ret (rr rfl E1_1 B3 (nr_4 dc13 c15) bel)
theorem frNearC (x:Rat) (p0:fmay (rf x) = true) (p1:ht x ≤ 8589934592) :
  Calls Tryz.prog 78 #[fV x] W (RetV (.tuple #[wV (rnd x),.int .i64 0]) W):=by
 have n0:=hi_num x
 have n2:=hi_den x
 have h1:=ht_add x (Rat.divInt (1:Int) (2:Int))
 have h2:ht (Rat.divInt (1:Int) (2:Int)) = 3:=by decide
 have h3:=hi_num (x + (Rat.divInt (1:Int) (2:Int)))
 have h5:=hi_fdiv (x + (Rat.divInt (1:Int) (2:Int)))
 have h6:hi 1 = 2:=by decide
 have h7:=ht_int_le ((x + (Rat.divInt (1:Int) (2:Int))).num / ((x + (Rat.divInt (1:Int) (2:Int))).den:Int))
 have h8:=ht_sub (((x + (Rat.divInt (1:Int) (2:Int))).num / ((x + (Rat.divInt (1:Int) (2:Int))).den:Int):Int):Rat) x
 have h9:=hi_sub ((x + (Rat.divInt (1:Int) (2:Int))).num / ((x + (Rat.divInt (1:Int) (2:Int))).den:Int)) 1
 have bel:=b0 W
 go_enter Tryz.func78,Tryz.ntmps78
 refine gs 3 (Amb Z0 W) fun _ K1=>?_
 refine .bx rfl (fun H=>H.v 0 (fV x)) ?_
 refine .al rfl zW ?_
 refine .mc rfl ?_
 refine .dk (fun u=>fV x::sq u 0 3 (us 37)) K1 bel fun u1 w1 D bel=>?_
 obtain ⟨b2,E1_0,A2,B2⟩:=D.nw 0
 obtain ⟨b3,E1_1,A3,B3⟩:=D.nw 1
 have E1_2:=D.q 2
 have N2_3:=D.n2 0 1 E1_0 E1_1
 clear D
 refine wp_seq_k fun _ K4=>?_
 refine gs 3 (Amb Z0 W) fun _ K5=>?_
 refine .lr rfl 1 E1_0 B2 ?_
 refine .cK rfl (V:=.bool true) Tryz.func100 (fun H=>⟨_,ar1 (H.g 8 0),reV (congrArg Value.bool p0) (frMay (rf x))⟩) ?_
 refine .e rfl (V:=.bool false) (fun H=>x_not (H.g 9 1)) ?_
 refine .dk (fun u=>fV x::sq u1 0 3 (U::U::U::U::sq u 0 3 (us 30))) K5 bel fun u2 w2 D bel=>?_
 have E2_2:=D.q 2
 replace B2:=D.k B2
 replace B3:=D.k B3
 clear D
 refine wp_cond_false (by exact E2_2) ?_
 refine wp_skip ?_
 refine K4 _ _ ?_
 refine gs 3 (Amb Z0 W) fun _ K6=>?_
 refine .lr rfl 1 E1_0 B2 ?_
 refine .cR rfl [] Tryz.func135 (fun H=>⟨_,ar1 (H.g 12 0),frRat _ (by first | omega | exact den_ne _ | decide)⟩) ?_
 refine .mn rfl 1 [1] ?_
 refine .dk (fun u=>fV x::sq u1 0 3 (u 2::U::U::U::sq u2 0 3 (U::u 0::u 1::us 27))) K6 bel fun u3 w3 D bel=>?_
 obtain ⟨b7,E3_2,L7,F7⟩:=RatP.elim (D.rr 2)
 replace B3:=D.k B3
 clear D
 refine gs 2 (Amb Z0 W) fun _ K8=>?_
 refine .cR rfl [] Tryz.func136 (fun H=>⟨_,ar2 (H.c (.int .i64 1)) (H.c (.int .i64 2)),qNewRat _ _ (by first | omega | exact den_ne _ | decide) (by first | omega | exact den_ne _ | decide) (by first | omega | exact den_ne _ | decide) (by first | omega | exact den_ne _ | decide) (by first | omega | exact den_ne _ | decide)⟩) ?_
 refine .mn rfl 0 [0] ?_
 refine .dk (fun u=>fV x::sq u1 0 3 (u3 2::u 1::U::U::sq u2 0 3 (U::u3 0::u3 1::u 0::us 26))) K8 bel fun u4 w4 D bel=>?_
 obtain ⟨b9,E4_1,L9,F9⟩:=RatP.elim (D.rr 1)
 replace B3:=D.k B3
 replace F7:=D.o L7 F7
 clear D
 refine gs 6 (Amb Z0 W) fun _ K10=>?_
 refine .al rfl zQ ?_
 refine .mz rfl 4 E3_2 ?_
 refine .mz rfl 5 E4_1 ?_
 refine .cO rfl 0 Tryz.func94 (fun H h0 hz=>⟨_,ar3 (H.p 15 0 h0) (H.g 16 1) (H.g 17 2),qAdd _ _ (RatBlk.of hz) (VP.any _ (H.was _ [] (VP.at F7 L7))) (VP.any _ (H.was _ [] (VP.at F9 L9))) (by first | omega | exact den_ne _ | decide)⟩) ?_
 refine .cR rfl [0,3] Tryz.func137 (fun H=>⟨_,ar1 (H.r 18 3),frFloor _ (Own.use (H.a 3 rfl) (H.a 0 rfl) [0,3] rfl) (by first | omega | exact den_ne _ | decide)⟩) ?_
 refine .mn rfl 4 [0,3,4] ?_
 refine .dk (fun u=>fV x::sq u1 0 3 (u3 2::u4 1::u 5::U::sq u2 0 3 (U::u3 0::u3 1::u4 0::sq u 0 5 (us 21)))) K10 bel fun u5 w5 D bel=>?_
 obtain ⟨b11,E5_5,L11,F11⟩:=IntO.elim (D.rr 5)
 replace B3:=D.k B3
 replace F7:=D.o L7 F7
 replace F9:=D.o L9 F9
 clear D
 refine wp_seq_k fun _ K12=>?_
 refine gs 7 (Amb Z0 W) fun _ K13=>?_
 refine .al rfl zQ ?_
 refine .al rfl zQ ?_
 refine .mz rfl 6 E5_5 ?_
 refine .cO rfl 1 Tryz.func70 (fun H h0 hz=>⟨_,ar2 (H.p 21 1 h0) (H.g 22 2),qSetInt _ (RatBlk.of hz) (IntO.p (VP.any _ (H.was _ [] (VP.at F11 L11)))) (by first | omega | exact den_ne _ | decide)⟩) ?_
 refine .mz rfl 4 E3_2 ?_
 refine .cO rfl 0 Tryz.func125 (fun H h0 hz=>⟨_,ar3 (H.p 20 0 h0) (H.r 23 3) (H.g 24 4),qSub _ _ (RatBlk.of hz) (Own.any (H.a 3 rfl)) (VP.any _ (H.was _ [] (VP.at F7 L7))) (by first | omega | exact den_ne _ | decide)⟩) ?_
 refine .mo rfl 5 ?_
 refine .dk (fun u=>fV x::sq u1 0 3 (u3 2::u4 1::u5 5::u 6::sq u2 0 3 (U::u3 0::u3 1::u4 0::sq u5 0 5 (sq u 0 6 (us 15))))) K13 bel fun u6 w6 D bel=>?_
 obtain ⟨b14,E6_6,A14,F14⟩:=D.ow 6
 have N3_14:=D.n1 0 (lt_of B3) ((D.a 6 rfl).1.symm.trans E6_6)
 replace B3:=D.k B3
 replace F9:=D.o L9 F9
 replace F11:=D.o L11 F11
 have L14:Amb Z0 W b14:=.inr A14
 clear D
 rcases Bool.eq_false_or_eq_true ((icmp ((((((x + (Rat.divInt (1:Int) (2:Int))).num / ((x + (Rat.divInt (1:Int) (2:Int))).den:Int)):Int):Rat) - x).num * ((Rat.divInt (1:Int) (2:Int)).den:Int)) ((Rat.divInt (1:Int) (2:Int)).num * ((((((x + (Rat.divInt (1:Int) (2:Int))).num / ((x + (Rat.divInt (1:Int) (2:Int))).den:Int)):Int):Rat) - x).den:Int))) == 0) with c16 | c16
 ·
  refine gs 9 (Amb Z0 W) fun _ K15=>?_
  refine .mz rfl 7 E6_6 ?_
  refine .mz rfl 5 E4_1 ?_
  refine .cK rfl Tryz.func138 (fun H=>⟨_,ar2 (H.g 26 0) (H.g 27 1),qCmp _ _ (VP.any _ (H.was _ [] (VP.at F14 L14))) (VP.any _ (H.was _ [] (VP.at F9 L9))) (by first | omega | exact den_ne _ | decide)⟩) ?_
  refine .e rfl (V:=.bool true) (fun H=>x_cm (H.g 28 2) (H.c _) c16) ?_
  refine .mv rfl 3 ?_
  refine .mz rfl 6 E5_5 ?_ (hg:=gq 4 rfl)
  refine .cK rfl Tryz.func139 (fun H=>⟨_,ar2 (H.g 31 5) (H.c (.int .i64 0)),bBit _ _ (IntO.p (VP.any _ (H.was _ [] (VP.at F11 L11)))) (by first | omega | exact den_ne _ | decide) (by first | omega | exact den_ne _ | decide)⟩) ?_ (hg:=gq 4 rfl)
  refine .e rfl (V:=.bool (((((x + (Rat.divInt (1:Int) (2:Int))).num / ((x + (Rat.divInt (1:Int) (2:Int))).den:Int)).natAbs % 2:Nat):Int) == 1)) (fun H=>x_cmp (H.g 32 6) (H.c _)) ?_ (hg:=gq 4 rfl)
  refine .e rfl (fun H=>x_pkT (H.g 30 4) (H.g 33 7)) ?_
  refine .dk (fun u=>fV x::sq u1 0 3 (u3 2::u4 1::u5 5::u6 6::sq u2 0 3 (U::u3 0::u3 1::u4 0::sq u5 0 5 (sq u6 0 6 (sq u 0 9 (us 6)))))) K15 bel fun u7 w7 D bel=>?_
  have E7_8:=D.q 8
  replace B3:=D.k B3
  replace F11:=D.o L11 F11
  clear D
  rcases Bool.eq_false_or_eq_true (((((x + (Rat.divInt (1:Int) (2:Int))).num / ((x + (Rat.divInt (1:Int) (2:Int))).den:Int)).natAbs % 2:Nat):Int) == 1) with c17 | c17
  ·
   refine wp_cond_true ((E7_8).trans (congrArg Value.bool c17)) ?_
   refine go2_seqT 3 1 rfl (Amb Z0 W) [] [] (Olds.nil _) (by kernel_rfl) ?_
   refine .mz rfl 6 E5_5 ?_
   refine .mz rfl 6 E5_5 ?_
   refine .cR rfl [] Tryz.func130 (fun H=>⟨_,ar1 (H.c (.int .i64 1)),bNewInt _ (by first | omega | exact den_ne _ | decide) (by first | omega | exact den_ne _ | decide)⟩) ?_
   refine .dT (fun u=>fV x::sq u1 0 3 (u3 2::u4 1::u5 5::u6 6::sq u2 0 3 (U::u3 0::u3 1::u4 0::sq u5 0 5 (sq u6 0 6 (sq u7 0 9 (sq u 0 4 (U::U::[]))))))) bel.size _ rfl fun u8 w8 D=>?_
   obtain ⟨b18,E8_2,L18,F18⟩:=IntO.elim (D.rr 2)
   have E8_0:=D.q 0
   have E8_1:=D.q 1
   replace B3:=D.k B3
   replace F11:=D.o L11 F11
   replace bel:=D.d.base.bel0 bel bel.size
   clear D
   refine wpT_callO (args:=#[pt b11,pt b11,pt b18]) rfl (ex_call rfl rfl Tryz.func140 (by kernel_rfl) (by kernel_rfl) (by simp only [List.map_toArray,List.map_cons,List.map_nil]; show #[(u8 0).v,(u8 1).v,(u8 2).v] = #[pt b11,pt b11,pt b18]; rw [E8_0,E8_1,E8_2])) (bSub (z:=b11) (x:=(x + (Rat.divInt (1:Int) (2:Int))).num / ((x + (Rat.divInt (1:Int) (2:Int))).den:Int)) (y:=(1:Int)) (IntO.blk F11) (IntO.p (VP.any _ F11)) (IntO.p (VP.any _ F18)) (by first | omega | exact den_ne _ | decide)) fun w19 fw19 ow19=>?_
   have N3_11:b3 ≠ b11:=soft_ne (IntO.soft F11) B3 (by decide)
   have A11:=az L11
   have sw19:Soft w8 b11 ∨ Local w8 b11:=.inl (IntO.soft F11)
   replace B3:=ow19.keep B3 N3_11
   have F11:=fw19
   have L11:Amb Z0 W b11:=.inr A11
   replace bel:=bel.trans (only_below' ow19 A11 bel.size)
   refine wpList_nil ?_
   show _
   refine K12 _ _ ?_
   refine gs1 4 (Amb Z0 W) 2 B3 fun _ K20=>?_
   refine .mz rfl 6 E5_5 ?_
   refine .cK rfl Tryz.func141 (fun H=>⟨_,ar1 (H.g 39 0),frBack _ (IntO.p (VP.any _ (H.was _ [] (VP.at F11 L11)))) (by first | omega | exact den_ne _ | decide)⟩) ?_
   refine .s1 rfl B3 (fun H=>⟨H.z 2 E1_1,H.g 40 1⟩) ?_
   refine .mc rfl ?_
   refine .d1 (fun u=>fV x::u1 0::u1 1::u 3::u3 2::u4 1::u5 5::u6 6::sq u2 0 3 (U::u3 0::u3 1::u4 0::sq u5 0 5 (sq u6 0 6 (sq u7 0 9 (sq u8 0 3 (.pointer (some ⟨b11,0,none⟩)::u 0::u 1::[])))))) K20 bel A3 fun u9 w9 D bel=>?_
   have E9_3:=D.q 3
   replace B3:=D.ol 2
   clear D
   refine wp_ret ?_
   refine ret_ok rfl (by exact results_mix rfl (by exact E1_1) B3 Tryz.underlying26 rfl (by kernel_rfl) (by exact E9_3)) (RetV.mk ?_ bel)
   exact congrArg Ending.returned (np_1 c16 c17)
  ·
   refine wp_cond_false ((E7_8).trans (congrArg Value.bool c17)) ?_
   refine wp_skip ?_
   refine K12 _ _ ?_
   refine gs1 4 (Amb Z0 W) 2 B3 fun _ K21=>?_
   refine .mz rfl 6 E5_5 ?_
   refine .cK rfl Tryz.func141 (fun H=>⟨_,ar1 (H.g 39 0),frBack _ (IntO.p (VP.any _ (H.was _ [] (VP.at F11 L11)))) (by first | omega | exact den_ne _ | decide)⟩) ?_
   refine .s1 rfl B3 (fun H=>⟨H.z 2 E1_1,H.g 40 1⟩) ?_
   refine .mc rfl ?_
   refine .d1 (fun u=>fV x::u1 0::u1 1::u 3::u3 2::u4 1::u5 5::u6 6::sq u2 0 3 (U::u3 0::u3 1::u4 0::sq u5 0 5 (sq u6 0 6 (sq u7 0 9 (U::U::U::U::u 0::u 1::[]))))) K21 bel A3 fun u10 w10 D bel=>?_
   have E10_3:=D.q 3
   replace B3:=D.ol 2
   clear D
   refine wp_ret ?_
   refine ret_ok rfl (by exact results_mix rfl (by exact E1_1) B3 Tryz.underlying26 rfl (by kernel_rfl) (by exact E10_3)) (RetV.mk ?_ bel)
   exact congrArg Ending.returned (np_2 c16 c17)
 ·
  refine gs 9 (Amb Z0 W) fun _ K15=>?_
  refine .mz rfl 7 E6_6 ?_
  refine .mz rfl 5 E4_1 ?_
  refine .cK rfl Tryz.func138 (fun H=>⟨_,ar2 (H.g 26 0) (H.g 27 1),qCmp _ _ (VP.any _ (H.was _ [] (VP.at F14 L14))) (VP.any _ (H.was _ [] (VP.at F9 L9))) (by first | omega | exact den_ne _ | decide)⟩) ?_
  refine .e rfl (V:=.bool false) (fun H=>x_cm (H.g 28 2) (H.c _) c16) ?_
  refine .mv rfl 3 ?_
  refine .sk rfl 4 ?_
  refine .sk rfl 4 ?_
  refine .sk rfl 4 ?_
  refine .e rfl (fun H=>x_pkF (H.g 30 4) (H.c _)) ?_
  refine .dk (fun u=>fV x::sq u1 0 3 (u3 2::u4 1::u5 5::u6 6::sq u2 0 3 (U::u3 0::u3 1::u4 0::sq u5 0 5 (sq u6 0 6 (sq u 0 9 (us 6)))))) K15 bel fun u7 w7 D bel=>?_
  have E7_8:=D.q 8
  replace B3:=D.k B3
  replace F11:=D.o L11 F11
  clear D
  refine wp_cond_false (by exact E7_8) ?_
  refine wp_skip ?_
  refine K12 _ _ ?_
  refine gs1 4 (Amb Z0 W) 2 B3 fun _ K22=>?_
  refine .mz rfl 6 E5_5 ?_
  refine .cK rfl Tryz.func141 (fun H=>⟨_,ar1 (H.g 39 0),frBack _ (IntO.p (VP.any _ (H.was _ [] (VP.at F11 L11)))) (by first | omega | exact den_ne _ | decide)⟩) ?_
  refine .s1 rfl B3 (fun H=>⟨H.z 2 E1_1,H.g 40 1⟩) ?_
  refine .mc rfl ?_
  refine .d1 (fun u=>fV x::u1 0::u1 1::u 3::u3 2::u4 1::u5 5::u6 6::sq u2 0 3 (U::u3 0::u3 1::u4 0::sq u5 0 5 (sq u6 0 6 (sq u7 0 9 (U::U::U::U::u 0::u 1::[]))))) K22 bel A3 fun u8 w8 D bel=>?_
  have E8_3:=D.q 3
  replace B3:=D.ol 2
  clear D
  refine wp_ret ?_
  refine ret_ok rfl (by exact results_mix rfl (by exact E1_1) B3 Tryz.underlying26 rfl (by kernel_rfl) (by exact E8_3)) (RetV.mk ?_ bel)
  exact congrArg Ending.returned (np_3 c16)
theorem frOf (x:Int) (y:Int) (p0:((werr (rw x)) != 0) = false) (p1:((werr (rw y)) != 0) = false) (p2:((wsign (rw y)) == 0) = false) (p3:hi x ≤ 17179869184) (p4:hi y ≤ 17179869184) (p5:y ≠ 0) (p6:ht (Rat.divInt x y) ≤ 34359738368) :
  Calls Tryz.prog 79 #[wV x,wV y] W (RetV (.tuple #[.agg #[.bool (fcut (Rat.divInt x y)).a.n,.string (fcut (Rat.divInt x y)).a.s,.bool (fcut (Rat.divInt x y)).b.n,.string (fcut (Rat.divInt x y)).b.s],.int .i64 (ferr (Rat.divInt x y))]) W):=by
 have bel:=b0 W
 go_enter Tryz.func79,Tryz.ntmps79
 refine gs 4 (Amb Z0 W) fun _ K1=>?_
 refine .bx rfl (fun H=>H.v 0 (wV x)) ?_
 refine .bx rfl (fun H=>H.v 1 (wV y)) ?_
 refine .al rfl zF ?_
 refine .mc rfl ?_
 refine .dk (fun u=>wV x::wV y::sq u 0 4 (us 22)) K1 bel fun u1 w1 D bel=>?_
 obtain ⟨b2,E1_0,A2,B2⟩:=D.nw 0
 obtain ⟨b3,E1_1,A3,B3⟩:=D.nw 1
 obtain ⟨b4,E1_2,A4,B4⟩:=D.nw 2
 have E1_3:=D.q 3
 have N2_4:=D.n2 0 2 E1_0 E1_2
 have N3_4:=D.n2 1 2 E1_1 E1_2
 clear D
 refine wp_seq_k fun _ K5=>?_
 refine wp_block ?_
 refine gs 9 (Amb Z0 W) fun _ K6=>?_
 refine .lr rfl 2 E1_0 B2 ?_
 refine .cK rfl Tryz.func142 (fun H=>⟨_,ar1 (H.g 7 0),wCheck (rw x)⟩) ?_
 refine .e rfl (V:=.bool false) (fun H=>x_cm (H.g 8 1) (H.c _) p0) ?_
 refine .mv rfl 2 ?_
 refine .lr rfl 3 E1_1 B3 ?_ (hg:=gq 3 rfl)
 refine .cK rfl Tryz.func142 (fun H=>⟨_,ar1 (H.g 11 4),wCheck (rw y)⟩) ?_ (hg:=gq 3 rfl)
 refine .e rfl (V:=.bool false) (fun H=>x_cm (H.g 12 5) (H.c _) p1) ?_ (hg:=gq 3 rfl)
 refine .e rfl (fun H=>x_pkF (H.g 10 3) (H.g 13 6)) ?_
 refine .mv rfl 7 ?_
 refine .dk (fun u=>wV x::wV y::sq u1 0 4 (u 8::sq u 0 8 (us 13))) K6 bel fun u2 w2 D bel=>?_
 have E2_8:=D.q 8
 replace B2:=D.k B2
 replace B3:=D.k B3
 replace B4:=D.k B4
 clear D
 refine wp_cond_false (by exact E2_8) ?_
 refine gs 4 (Amb Z0 W) fun _ K7=>?_
 refine .lr rfl 3 E1_1 B3 ?_
 refine .cK rfl Tryz.func101 (fun H=>⟨_,ar1 (H.g 17 0),wSign (rw y)⟩) ?_
 refine .e rfl (V:=.bool false) (fun H=>x_cm (H.g 18 1) (H.c _) p2) ?_
 refine .mv rfl 2 ?_
 refine .dk (fun u=>wV x::wV y::sq u1 0 4 (u2 8::sq u2 0 8 (U::u 3::sq u 0 3 (us 8)))) K7 bel fun u3 w3 D bel=>?_
 have E3_3:=D.q 3
 replace B2:=D.k B2
 replace B3:=D.k B3
 replace B4:=D.k B4
 clear D
 refine wp_cond_false (by exact E3_3) ?_
 refine wp_skip ?_
 refine inBlock_normal ?_
 refine K5 _ _ ?_
 refine gs1 9 (Amb Z0 W) 7 B4 fun _ K8=>?_
 refine .e rfl (fun H=>x_ldr (H.z 2 E1_0) (H.b1 B2 (Ne.symm N2_4))) ?_
 refine .e rfl (fun H=>x_ldr (H.z 3 E1_1) (H.b1 B3 (Ne.symm N3_4))) ?_
 refine .e rfl (V:=rfV (RF.mk (rw x) (rw y))) (fun H=>by have e21:=H.g 21 0; have e22:=H.g 22 1; clear H; go_simp) ?_
 refine .cR rfl [] Tryz.func135 (fun H=>⟨_,ar1 (H.g 23 2),frRatW (x,y) (by first | omega | exact p5 | exact p6) (by first | omega | exact p5 | exact p6) (by first | omega | exact p5 | exact p6)⟩) ?_
 refine .cK rfl Tryz.func143 (fun H=>⟨_,ar1 (H.r 24 3),frAnswer _ (SV.any (H.a 3 rfl)) (by first | omega | exact p5 | exact p6)⟩) ?_
 refine .e rfl (V:=rfV (fcut (Rat.divInt (x,y).1 (x,y).2))) (fun H=>x_ex (H.g 25 4)) ?_
 refine .e rfl (V:=.int .i64 (ferr (Rat.divInt (x,y).1 (x,y).2))) (fun H=>x_ex (H.g 25 4)) ?_
 refine .s1 rfl B4 (fun H=>⟨H.z 4 E1_2,H.g 26 5⟩) ?_
 refine .mv rfl 6 ?_
 refine .d1 (fun u=>wV x::wV y::sq u1 0 3 (u 8::u2 8::sq u2 0 8 (U::u3 3::sq u3 0 3 (U::sq u 0 7 [])))) K8 bel A4 fun u4 w4 D bel=>?_
 have E4_8:=D.q 8
 replace B4:=D.ol 7
 clear D
 refine wp_ret ?_
 refine ret_ok rfl (by exact results_mix rfl (by exact E1_2) B4 Tryz.underlying28 rfl (by kernel_rfl) (by exact E4_8)) (RetV.mk ?_ bel)
 exact congrArg Ending.returned (rfl)
end Go.Proofs.YtllohoibifcmdaaGreat
namespace Go.Proofs.YtllohoibifcmdaaGreat
open Go.RowKit Rgn
theorem GSl.lit {w:World} {b n:Nat} {l:List RG} {T:TypeId} {fr:Nat × Nat} (h:w.heap[b]? = some (.cells (flat l).toArray T fr)) (hn:l.length = n) (h1:n ≤ 1000):GSl w (.slice (some ⟨b,0,none⟩) n n) l:=by
 subst hn
 exact ⟨_,_,rfl,Nat.le_refl _,by omega,fun _=>⟨b,0,_,T,fr,rfl,h,GRow.of_flat (n:=(flat l).length) (by simp)⟩⟩
section
variable {ops:Array Oper} {Q:Exit → Act → World → Prop} {o:Oper} {rest:List Oper} {a:Act} {w:World}
theorem wpT_lit2 {x0 x1:Operand} {r0 r1:RG} (hg:o.guard = none) (ho:o.op = .buildSlice 22 2 #[(0,x0),(1,x1)]) (h0:a.eval x0 = rgV r0) (h1:a.eval x1 = rgV r1)
  (h:∀ v w', GSl w' v [r0,r1] → (∀ p n c,v = .slice p n c → w.heap.size ≤ slB p) → RowKit.Below w.heap.size w w' → wpList Tryz.prog ops Q rest (a.put o.dst v) w'):wpList Tryz.prog ops Q (o :: rest) a w:=by
 obtain ⟨i0,hi,hz0,hz1,hz2⟩:=info_parts info_gauss
 refine wpList_buildSlice hg 22 30 2 #[(0,x0),(1,x1)] ho (flat [r0,r1]).toArray i0 _ Tryz.underlying22 hi hz0 (by rw [hz1]; decide) (by rw [hz1]; decide) ?_ ?_
 ·simp only [hz1,List.map_toArray,List.map_cons,List.map_nil,h0,h1]
  obtain ⟨⟨⟨n10,s10⟩,⟨n20,s20⟩⟩,⟨⟨n30,s30⟩,⟨n40,s40⟩⟩⟩:=r0
  obtain ⟨⟨⟨n11,s11⟩,⟨n21,s21⟩⟩,⟨⟨n31,s31⟩,⟨n41,s41⟩⟩⟩:=r1
  have e:((Array.range (2 * 8)).map fun x=>(Value.agg #[.bool false,.string ⟨#[]⟩,.bool false,.string ⟨#[]⟩,.bool false,.string ⟨#[]⟩,.bool false,.string ⟨#[]⟩]).cells[x % (Value.agg #[.bool false,.string ⟨#[]⟩,.bool false,.string ⟨#[]⟩,.bool false,.string ⟨#[]⟩,.bool false,.string ⟨#[]⟩]).cells.size]!) = #[.bool false,.string ⟨#[]⟩,.bool false,.string ⟨#[]⟩,.bool false,.string ⟨#[]⟩,.bool false,.string ⟨#[]⟩,.bool false,.string ⟨#[]⟩,.bool false,.string ⟨#[]⟩,.bool false,.string ⟨#[]⟩,.bool false,.string ⟨#[]⟩]:=by
   simp [Array.range,Value.cells]
   rfl
  rw [e]
  simp [Instr.fill,Value.cells,rgV,flat,rgc,List.zipIdx]
 ·exact h _ _ (GSl.lit (heap_alloc_new w _) rfl (by decide)) (by rintro _ _ _ ⟨⟩; exact Nat.le_refl _) ⟨rfl,rfl,rfl,by simp,fun k hk=>heap_alloc_old w _ hk⟩
theorem wpT_lit4 {x0 x1 x2 x3:Operand} {r0 r1 r2 r3:RG} (hg:o.guard = none) (ho:o.op = .buildSlice 22 4 #[(0,x0),(1,x1),(2,x2),(3,x3)]) (h0:a.eval x0 = rgV r0) (h1:a.eval x1 = rgV r1) (h2:a.eval x2 = rgV r2) (h3:a.eval x3 = rgV r3)
  (h:∀ v w', GSl w' v [r0,r1,r2,r3] → (∀ p n c,v = .slice p n c → w.heap.size ≤ slB p) → RowKit.Below w.heap.size w w' → wpList Tryz.prog ops Q rest (a.put o.dst v) w'):wpList Tryz.prog ops Q (o :: rest) a w:=by
 obtain ⟨i0,hi,hz0,hz1,hz2⟩:=info_parts info_gauss
 refine wpList_buildSlice hg 22 30 4 #[(0,x0),(1,x1),(2,x2),(3,x3)] ho (flat [r0,r1,r2,r3]).toArray i0 _ Tryz.underlying22 hi hz0 (by rw [hz1]; decide) (by rw [hz1]; decide) ?_ ?_
 ·simp only [hz1,List.map_toArray,List.map_cons,List.map_nil,h0,h1,h2,h3]
  obtain ⟨⟨⟨n10,s10⟩,⟨n20,s20⟩⟩,⟨⟨n30,s30⟩,⟨n40,s40⟩⟩⟩:=r0
  obtain ⟨⟨⟨n11,s11⟩,⟨n21,s21⟩⟩,⟨⟨n31,s31⟩,⟨n41,s41⟩⟩⟩:=r1
  obtain ⟨⟨⟨n12,s12⟩,⟨n22,s22⟩⟩,⟨⟨n32,s32⟩,⟨n42,s42⟩⟩⟩:=r2
  obtain ⟨⟨⟨n13,s13⟩,⟨n23,s23⟩⟩,⟨⟨n33,s33⟩,⟨n43,s43⟩⟩⟩:=r3
  have e:((Array.range (4 * 8)).map fun x=>(Value.agg #[.bool false,.string ⟨#[]⟩,.bool false,.string ⟨#[]⟩,.bool false,.string ⟨#[]⟩,.bool false,.string ⟨#[]⟩]).cells[x % (Value.agg #[.bool false,.string ⟨#[]⟩,.bool false,.string ⟨#[]⟩,.bool false,.string ⟨#[]⟩,.bool false,.string ⟨#[]⟩]).cells.size]!) = #[.bool false,.string ⟨#[]⟩,.bool false,.string ⟨#[]⟩,.bool false,.string ⟨#[]⟩,.bool false,.string ⟨#[]⟩,.bool false,.string ⟨#[]⟩,.bool false,.string ⟨#[]⟩,.bool false,.string ⟨#[]⟩,.bool false,.string ⟨#[]⟩,.bool false,.string ⟨#[]⟩,.bool false,.string ⟨#[]⟩,.bool false,.string ⟨#[]⟩,.bool false,.string ⟨#[]⟩,.bool false,.string ⟨#[]⟩,.bool false,.string ⟨#[]⟩,.bool false,.string ⟨#[]⟩,.bool false,.string ⟨#[]⟩]:=by
   simp [Array.range,Value.cells]
   rfl
  rw [e]
  simp [Instr.fill,Value.cells,rgV,flat,rgc,List.zipIdx]
 ·exact h _ _ (GSl.lit (heap_alloc_new w _) rfl (by decide)) (by rintro _ _ _ ⟨⟩; exact Nat.le_refl _) ⟨rfl,rfl,rfl,by simp,fun k hk=>heap_alloc_old w _ hk⟩
end
section
variable {P:Program} {ρ:Operand → Value} {o:Oper} {w:World} {x y:Operand}
theorem x_bm {t r:TypeId} {c d b:Bool} (hx:ρ x = .bool c) (hy:ρ y = .bool d) (hb:(c != d) = b) (ho:o.op = .binOp .neq t x y r:=by rfl) (he:(Op.equal t (.bool c) (.bool d)).run P w = .ok (c == d) w:=by kernel_rfl):(execOp ρ o).run P w = .ok (.value (.bool b)) w:=hb ▸ x_bne hx hy ho he
theorem x_bns {t r:TypeId} {c:Bool} (hx:ρ x = .bool c) (hy:ρ y = .bool c) (ho:o.op = .binOp .neq t x y r:=by rfl) (he:(Op.equal t (.bool c) (.bool c)).run P w = .ok (c == c) w:=by kernel_rfl):(execOp ρ o).run P w = .ok (.value (.bool false)) w:=by
 have h:=x_bne hx hy ho he
 rwa [bne_self_eq_false] at h
end
@[reducible] def tC (g:Cx × Cx × Cx):Array Value:=#[.bool (decide (g.1.re.num < 0)),.string (bS g.1.re.num.natAbs),.bool (decide ((g.1.re.den:Int) < 0)),.string (bS (g.1.re.den:Int).natAbs),.bool (decide (g.1.im.num < 0)),.string (bS g.1.im.num.natAbs),.bool (decide ((g.1.im.den:Int) < 0)),.string (bS (g.1.im.den:Int).natAbs),.bool (decide (g.2.1.re.num < 0)),.string (bS g.2.1.re.num.natAbs),.bool (decide ((g.2.1.re.den:Int) < 0)),.string (bS (g.2.1.re.den:Int).natAbs),.bool (decide (g.2.1.im.num < 0)),.string (bS g.2.1.im.num.natAbs),.bool (decide ((g.2.1.im.den:Int) < 0)),.string (bS (g.2.1.im.den:Int).natAbs),.bool (decide (g.2.2.re.num < 0)),.string (bS g.2.2.re.num.natAbs),.bool (decide ((g.2.2.re.den:Int) < 0)),.string (bS (g.2.2.re.den:Int).natAbs),.bool (decide (g.2.2.im.num < 0)),.string (bS g.2.2.im.num.natAbs),.bool (decide ((g.2.2.im.den:Int) < 0)),.string (bS (g.2.2.im.den:Int).natAbs)]
abbrev tV (g:Cx × Cx × Cx):Value:=.agg (tC g)
abbrev zT:Array Value:=#[.bool false,.string ⟨#[]⟩,.bool false,.string ⟨#[]⟩,.bool false,.string ⟨#[]⟩,.bool false,.string ⟨#[]⟩,.bool false,.string ⟨#[]⟩,.bool false,.string ⟨#[]⟩,.bool false,.string ⟨#[]⟩,.bool false,.string ⟨#[]⟩,.bool false,.string ⟨#[]⟩,.bool false,.string ⟨#[]⟩,.bool false,.string ⟨#[]⟩,.bool false,.string ⟨#[]⟩]
section
variable {P:Program} {fn:Func} {p q r s ty:Nat} {tmps:Array Value} {w:World} {g g' g'' : Nat} {t t' t'' : TypeId} {cs cs' cs'' : Array Value} {fr1 fr2 fr3:Nat × Nat} {v v' : Value}
theorem results_ctt (hf:fn.results = #[.cell p ty,.tmp q,.tmp r]) (hp:tmps.getD p undef = pt g) (hg:w.heap[g]? = some (.cells cs t fr1)) (h:tmps.getD q undef = v) (h' : tmps.getD r undef = v')
  (hd:aggB P ty = true:=by kernel_rfl) (hi:(P.info? ty).map (·.size) = some cs.size:=by kernel_rfl):(results fn tmps).run P w = .ok (.tuple #[.agg cs,v,v']) w:=by
 obtain ⟨d,h1,h2⟩:=aggB_ex hd
 have hp:tmps[p]?.getD undef = .pointer (some ⟨g,0,none⟩):=by simpa using hp
 have h:tmps[q]?.getD undef = v:=by simpa using h
 have h' : tmps[r]?.getD undef = v' := by simpa using h'
 have hl:=run_loadVar_row (P:=P) w g t ty cs fr1 d hg h1 (by cases d <;> first | rfl | cases h2) hi
 simp only [results,hf]
 simp [hp,hl,h,h', asAddr]
theorem results_ccct (hf:fn.results = #[.cell p ty,.cell q ty,.cell r ty,.tmp s]) (hp:tmps.getD p undef = pt g) (hg:w.heap[g]? = some (.cells cs t fr1)) (hq:tmps.getD q undef = pt g') (hg' : w.heap[g']? = some (.cells cs' t' fr2)) (hr:tmps.getD r undef = pt g'') (hg'' : w.heap[g'']? = some (.cells cs'' t'' fr3)) (h:tmps.getD s undef = v)
  (hd:aggB P ty = true:=by kernel_rfl) (hi:(P.info? ty).map (·.size) = some cs.size:=by kernel_rfl) (hi' : (P.info? ty).map (·.size) = some cs'.size:=by kernel_rfl) (hi'' : (P.info? ty).map (·.size) = some cs''.size:=by kernel_rfl):(results fn tmps).run P w = .ok (.tuple #[.agg cs,.agg cs', .agg cs'', v]) w:=by
 obtain ⟨d,h1,h2⟩:=aggB_ex hd
 have hp:tmps[p]?.getD undef = .pointer (some ⟨g,0,none⟩):=by simpa using hp
 have hq:tmps[q]?.getD undef = .pointer (some ⟨g', 0,none⟩):=by simpa using hq
 have hr:tmps[r]?.getD undef = .pointer (some ⟨g'', 0,none⟩):=by simpa using hr
 have h:tmps[s]?.getD undef = v:=by simpa using h
 have hl:=run_loadVar_row (P:=P) w g t ty cs fr1 d hg h1 (by cases d <;> first | rfl | cases h2) hi
 have hl' := run_loadVar_row (P:=P) w g' t' ty cs' fr2 d hg' h1 (by cases d <;> first | rfl | cases h2) hi'
 have hl'' := run_loadVar_row (P:=P) w g'' t'' ty cs'' fr3 d hg'' h1 (by cases d <;> first | rfl | cases h2) hi''
 simp only [results,hf]
 simp [hp,hl,hq,hl', hr,hl'', h,asAddr]
end
theorem unit_row {k:Int} (h0:0 ≤ k) (h1:k < 4):rgV (([rg (Cx.ofInt (1:Int) (0:Int)),rg (Cx.ofInt (0:Int) (1:Int)),rg (Cx.ofInt (-1:Int) (0:Int)),rg (Cx.ofInt (0:Int) (-1:Int))]).getD k.toNat rg0) = gV (unitC k.toNat):=by
 have:k = 0 ∨ k = 1 ∨ k = 2 ∨ k = 3:=by omega
 rcases this with rfl | rfl | rfl | rfl <;> rfl
theorem werr_rw {x:Int} (h:hi x ≤ 131072):((werr (rw x)) != 0) = false:=by
 have h1:=hi_bl x
 have h2:(bS x.natAbs).size ≤ 16384:=bS_size_le (by omega)
 unfold werr
 rw [wformed_rw,if_pos (by rw [Bool.true_and]; exact decide_eq_true h2)]; rfl
theorem frOf1 {W:World} (x y:Int) (p0:y = 1) (p1:hi x ≤ 100000):Calls Tryz.prog 79 #[wV x,wV y] W (RetV (.tuple #[rfV (fcut ((x:Int):Rat)),.int .i64 (ferr ((x:Int):Rat))]) W):=by
 subst p0
 have e:Rat.divInt x 1 = (x:Rat):=by
  have h:=Rat.num_divInt_den (x:Rat)
  rw [Rat.num_intCast,Rat.den_intCast] at h
  exact h
 have h2:hi 1 = 2:=by decide
 have h3:=ht_int_le x
 have h:=frOf (W:=W) x 1 (werr_rw (by omega)) (werr_rw (by omega)) (by rw [wsign_rw (werr_rw (by omega))]; rfl) (by omega) (by omega) (by decide) (by rw [e]; omega)
 rw [e] at h; exact h
abbrev uu:Nat → Got:=fun _=>⟨undef,0,0⟩
end Go.Proofs.YtllohoibifcmdaaGreat
namespace Go.Proofs.YtllohoibifcmdaaGreat
open Go.RowKit Rgn
set_option maxHeartbeats 4000000
set_option maxRecDepth 100000
variable {S:Nat → Prop} {W:World}
theorem hNearC (x:Cx) (p0:gmay (rg x) = true) (p1:ht x.re + ht x.im ≤ 20000) :
  Calls Tryz.prog 22 #[gV x] W (RetV (.tuple #[.agg #[.bool (gcut x.near).re.a.n,.string (gcut x.near).re.a.s,.bool (gcut x.near).re.b.n,.string (gcut x.near).re.b.s,.bool (gcut x.near).im.a.n,.string (gcut x.near).im.a.s,.bool (gcut x.near).im.b.n,.string (gcut x.near).im.b.s],.int .i64 (gerr x.near)]) W):=by
 have h1:=hi_rnd x.re
 have h2:=hi_rnd x.im
 have bel:=b0 W
 go_enter Tryz.func22,Tryz.ntmps22
 refine gs 3 (Amb Z0 W) fun _ K1=>?_
 refine .bx rfl (fun H=>H.v 0 (gV x)) ?_
 refine .al rfl zG ?_
 refine .mc rfl ?_
 refine .dk (fun u=>gV x::sq u 0 3 (us 46)) K1 bel fun u1 w1 D bel=>?_
 obtain ⟨b2,E1_0,A2,B2⟩:=D.nw 0
 obtain ⟨b3,E1_1,A3,B3⟩:=D.nw 1
 have E1_2:=D.q 2
 have N2_3:=D.n2 0 1 E1_0 E1_1
 clear D
 refine wp_seq_k fun _ K4=>?_
 refine gs 3 (Amb Z0 W) fun _ K5=>?_
 refine .lr rfl 1 E1_0 B2 ?_
 refine .cK rfl (V:=.bool true) Tryz.func46 (fun H=>⟨_,ar1 (H.g 12 0),reV (congrArg Value.bool p0) (gaMay (rg x))⟩) ?_
 refine .e rfl (V:=.bool false) (fun H=>x_not (H.g 13 1)) ?_
 refine .dk (fun u=>gV x::sq u1 0 3 (U::U::U::U::U::U::U::U::sq u 0 3 (us 35))) K5 bel fun u2 w2 D bel=>?_
 have E2_2:=D.q 2
 replace B2:=D.k B2
 replace B3:=D.k B3
 clear D
 refine wp_cond_false (by exact E2_2) ?_
 refine wp_skip ?_
 refine K4 _ _ ?_
 refine gs 9 (Amb Z0 W) fun _ K6=>?_
 refine .fz rfl 1 0 E1_0 ?_
 refine .lp rfl 0 (fC x.re) B2 ?_
 refine .cK rfl Tryz.func78 (fun H=>⟨_,ar1 (H.g 18 1),frNearC _ (by first | omega | exact (and_tt p0).1 | exact (and_tt p0).2) (by first | omega | exact (and_tt p0).1 | exact (and_tt p0).2)⟩) ?_
 refine .mv rfl 2 ?_
 refine .e rfl (V:=wV (rnd x.re)) (fun H=>x_ex (H.g 16 3)) ?_
 refine .e rfl (V:=.int .i64 0) (fun H=>x_ex (H.g 16 3)) ?_
 refine .al rfl zW ?_
 refine .so rfl 6 (fun H=>⟨H.r 4 6,H.g 20 4⟩) ?_
 refine .mv rfl 5 ?_
 refine .dk (fun u=>gV x::sq u1 0 3 (u 6::u 8::U::U::U::U::U::U::sq u2 0 3 (U::u 3::sq u 0 3 (u 4::u 5::us 28)))) K6 bel fun u3 w3 D bel=>?_
 obtain ⟨b7,E3_6,A7,B7⟩:=D.st 7
 have N3_7:=D.n1 6 (lt_of B3) E3_6
 replace B2:=D.k B2
 replace B3:=D.k B3
 clear D
 refine gs 9 (Amb Z0 W) fun _ K8=>?_
 refine .fz rfl 1 4 E1_0 ?_
 refine .lp rfl 0 (fC x.im) B2 ?_
 refine .cK rfl Tryz.func78 (fun H=>⟨_,ar1 (H.g 24 1),frNearC _ (by first | omega | exact (and_tt p0).1 | exact (and_tt p0).2) (by first | omega | exact (and_tt p0).1 | exact (and_tt p0).2)⟩) ?_
 refine .mv rfl 2 ?_
 refine .e rfl (V:=wV (rnd x.im)) (fun H=>x_ex (H.g 22 3)) ?_
 refine .e rfl (V:=.int .i64 0) (fun H=>x_ex (H.g 22 3)) ?_
 refine .al rfl zW ?_
 refine .so rfl 6 (fun H=>⟨H.r 6 6,H.g 26 4⟩) ?_
 refine .mv rfl 5 ?_
 refine .dk (fun u=>gV x::sq u1 0 3 (u3 6::u3 8::u 6::u 8::U::U::U::U::sq u2 0 3 (U::u3 3::sq u3 0 3 (u3 4::u3 5::u 3::sq u 0 3 (u 4::u 5::us 22))))) K8 bel fun u4 w4 D bel=>?_
 obtain ⟨b9,E4_6,A9,B9⟩:=D.st 7
 have N3_9:=D.n1 6 (lt_of B3) E4_6
 replace B3:=D.k B3
 replace B7:=D.k B7
 clear D
 refine gd 9 (Amb Z0 W) fun _ K10=>?_
 refine .lr rfl 4 E3_6 B7 ?_
 refine .cK rfl Tryz.func80 (fun H=>⟨_,ar1 (H.c (.int .i64 1)),wOf _ (by first | omega | exact (and_tt p0).1 | exact (and_tt p0).2) (by first | omega | exact (and_tt p0).1 | exact (and_tt p0).2)⟩) ?_
 refine .cK rfl Tryz.func79 (fun H=>⟨_,ar2 (H.g 29 0) (H.g 30 1),frOf1 _ _ (by first | omega | exact (and_tt p0).1 | exact (and_tt p0).2) (by first | omega | exact (and_tt p0).1 | exact (and_tt p0).2)⟩) ?_
 refine .mv rfl 2 ?_
 refine .e rfl (V:=rfV (fcut (((rnd x.re):Int):Rat))) (fun H=>x_ex (H.g 28 3)) ?_
 refine .e rfl (V:=.int .i64 (ferr (((rnd x.re):Int):Rat))) (fun H=>x_ex (H.g 28 3)) ?_
 refine .al rfl zF ?_
 refine .so rfl 6 (fun H=>⟨H.r 8 6,H.g 32 4⟩) ?_
 refine .mv rfl 5 ?_
 refine .dk (fun u=>gV x::sq u1 0 3 (u3 6::u3 8::u4 6::u4 8::u 6::u 8::U::U::sq u2 0 3 (U::u3 3::sq u3 0 3 (u3 4::u3 5::u4 3::sq u4 0 3 (u4 4::u4 5::u 3::sq u 0 3 (u 4::u 5::us 16)))))) K10 bel fun u5 w5 D bel=>?_
 obtain ⟨b11,E5_6,A11,B11⟩:=D.st 7
 have E5_8:=D.q 8
 have N3_11:=D.n1 6 (lt_of B3) E5_6
 replace B3:=D.k B3
 replace B9:=D.k B9
 clear D
 refine gd 9 (Amb Z0 W) fun _ K12=>?_
 refine .lr rfl 6 E4_6 B9 ?_
 refine .cK rfl Tryz.func80 (fun H=>⟨_,ar1 (H.c (.int .i64 1)),wOf _ (by first | omega | exact (and_tt p0).1 | exact (and_tt p0).2) (by first | omega | exact (and_tt p0).1 | exact (and_tt p0).2)⟩) ?_
 refine .cK rfl Tryz.func79 (fun H=>⟨_,ar2 (H.g 35 0) (H.g 36 1),frOf1 _ _ (by first | omega | exact (and_tt p0).1 | exact (and_tt p0).2) (by first | omega | exact (and_tt p0).1 | exact (and_tt p0).2)⟩) ?_
 refine .mv rfl 2 ?_
 refine .e rfl (V:=rfV (fcut (((rnd x.im):Int):Rat))) (fun H=>x_ex (H.g 34 3)) ?_
 refine .e rfl (V:=.int .i64 (ferr (((rnd x.im):Int):Rat))) (fun H=>x_ex (H.g 34 3)) ?_
 refine .al rfl zF ?_
 refine .so rfl 6 (fun H=>⟨H.r 10 6,H.g 38 4⟩) ?_
 refine .mv rfl 5 ?_
 refine .dk (fun u=>gV x::sq u1 0 3 (u3 6::u3 8::u4 6::u4 8::u5 6::u5 8::u 6::u 8::sq u2 0 3 (U::u3 3::sq u3 0 3 (u3 4::u3 5::u4 3::sq u4 0 3 (u4 4::u4 5::u5 3::sq u5 0 3 (u5 4::u5 5::u 3::sq u 0 3 (u 4::u 5::us 10))))))) K12 bel fun u6 w6 D bel=>?_
 obtain ⟨b13,E6_6,A13,B13⟩:=D.st 7
 have E6_8:=D.q 8
 have N3_13:=D.n1 6 (lt_of B3) E6_6
 replace B3:=D.k B3
 replace B11:=D.k B11
 clear D
 refine wp_seq_k fun _ K14=>?_
 rcases Bool.eq_false_or_eq_true ((ferr (((rnd x.re):Int):Rat)) != 0) with c16 | c16
 ·
  refine gs 6 (Amb Z0 W) fun _ K15=>?_
  refine .mz rfl 9 E5_8 ?_
  refine .e rfl (V:=.bool true) (fun H=>x_cm (H.g 40 0) (H.c _) c16) ?_
  refine .mv rfl 1 ?_
  refine .sk rfl 2 ?_
  refine .sk rfl 2 ?_
  refine .e rfl (fun H=>x_pkT (H.g 42 2) (H.c _)) ?_
  refine .dk (fun u=>gV x::sq u1 0 3 (u3 6::u3 8::u4 6::u4 8::u5 6::u5 8::u6 6::u6 8::sq u2 0 3 (U::u3 3::sq u3 0 3 (u3 4::u3 5::u4 3::sq u4 0 3 (u4 4::u4 5::u5 3::sq u5 0 3 (u5 4::u5 5::u6 3::sq u6 0 3 (u6 4::u6 5::sq u 0 6 (us 4)))))))) K15 bel fun u7 w7 D bel=>?_
  have E7_5:=D.q 5
  replace B3:=D.k B3
  replace B11:=D.k B11
  replace B13:=D.k B13
  clear D
  refine wp_cond_true (by exact E7_5) ?_
  refine gs1 3 (Amb Z0 W) 1 B3 fun _ K17=>?_
  refine .e rfl (V:=.agg zG) (fun H=>by clear H; go_simp) ?_
  refine .s1 rfl B3 (fun H=>⟨H.z 2 E1_1,H.g 46 0⟩) ?_
  refine .mc rfl ?_
  refine .d1 (fun u=>gV x::u1 0::u1 1::u 2::u3 6::u3 8::u4 6::u4 8::u5 6::u5 8::u6 6::u6 8::sq u2 0 3 (U::u3 3::sq u3 0 3 (u3 4::u3 5::u4 3::sq u4 0 3 (u4 4::u4 5::u5 3::sq u5 0 3 (u5 4::u5 5::u6 3::sq u6 0 3 (u6 4::u6 5::sq u7 0 6 (u 0::us 3))))))) K17 bel A3 fun u8 w8 D bel=>?_
  have E8_2:=D.q 2
  replace B3:=D.ol 1
  clear D
  refine wp_ret ?_
  refine ret_ok rfl (by exact results_mix rfl (by exact E1_1) B3 Tryz.underlying30 rfl (by kernel_rfl) (by exact E8_2)) (RetV.mk ?_ bel)
  exact congrArg Ending.returned (gcut_no (x:=x.near) (.inl c16))
 ·
  refine gs 6 (Amb Z0 W) fun _ K15=>?_
  refine .mz rfl 9 E5_8 ?_
  refine .e rfl (V:=.bool false) (fun H=>x_cm (H.g 40 0) (H.c _) c16) ?_
  refine .mv rfl 1 ?_
  refine .mz rfl 11 E6_8 ?_ (hg:=gq 2 rfl)
  refine .e rfl (V:=.bool ((ferr (((rnd x.im):Int):Rat)) != 0)) (fun H=>x_cmp (H.g 43 3) (H.c _)) ?_ (hg:=gq 2 rfl)
  refine .e rfl (fun H=>x_pkF (H.g 42 2) (H.g 44 4)) ?_
  refine .dk (fun u=>gV x::sq u1 0 3 (u3 6::u3 8::u4 6::u4 8::u5 6::u5 8::u6 6::u6 8::sq u2 0 3 (U::u3 3::sq u3 0 3 (u3 4::u3 5::u4 3::sq u4 0 3 (u4 4::u4 5::u5 3::sq u5 0 3 (u5 4::u5 5::u6 3::sq u6 0 3 (u6 4::u6 5::sq u 0 6 (us 4)))))))) K15 bel fun u7 w7 D bel=>?_
  have E7_5:=D.q 5
  replace B3:=D.k B3
  replace B11:=D.k B11
  replace B13:=D.k B13
  clear D
  rcases Bool.eq_false_or_eq_true ((ferr (((rnd x.im):Int):Rat)) != 0) with c18 | c18
  ·
   refine wp_cond_true ((E7_5).trans (congrArg Value.bool c18)) ?_
   refine gs1 3 (Amb Z0 W) 1 B3 fun _ K19=>?_
   refine .e rfl (V:=.agg zG) (fun H=>by clear H; go_simp) ?_
   refine .s1 rfl B3 (fun H=>⟨H.z 2 E1_1,H.g 46 0⟩) ?_
   refine .mc rfl ?_
   refine .d1 (fun u=>gV x::u1 0::u1 1::u 2::u3 6::u3 8::u4 6::u4 8::u5 6::u5 8::u6 6::u6 8::sq u2 0 3 (U::u3 3::sq u3 0 3 (u3 4::u3 5::u4 3::sq u4 0 3 (u4 4::u4 5::u5 3::sq u5 0 3 (u5 4::u5 5::u6 3::sq u6 0 3 (u6 4::u6 5::sq u7 0 6 (u 0::us 3))))))) K19 bel A3 fun u8 w8 D bel=>?_
   have E8_2:=D.q 2
   replace B3:=D.ol 1
   clear D
   refine wp_ret ?_
   refine ret_ok rfl (by exact results_mix rfl (by exact E1_1) B3 Tryz.underlying30 rfl (by kernel_rfl) (by exact E8_2)) (RetV.mk ?_ bel)
   exact congrArg Ending.returned (gcut_no (x:=x.near) (.inr c18))
  ·
   refine wp_cond_false ((E7_5).trans (congrArg Value.bool c18)) ?_
   refine wp_skip ?_
   refine K14 _ _ ?_
   refine gs1 5 (Amb Z0 W) 3 B3 fun _ K20=>?_
   refine .e rfl (fun H=>x_ldr (H.z 8 E5_6) (H.b1 B11 N3_11)) ?_
   refine .e rfl (fun H=>x_ldr (H.z 10 E6_6) (H.b1 B13 N3_13)) ?_
   refine .e rfl (V:=.agg #[.bool (fcut (((rnd x.re):Int):Rat)).a.n,.string (fcut (((rnd x.re):Int):Rat)).a.s,.bool (fcut (((rnd x.re):Int):Rat)).b.n,.string (fcut (((rnd x.re):Int):Rat)).b.s,.bool (fcut (((rnd x.im):Int):Rat)).a.n,.string (fcut (((rnd x.im):Int):Rat)).a.s,.bool (fcut (((rnd x.im):Int):Rat)).b.n,.string (fcut (((rnd x.im):Int):Rat)).b.s]) (fun H=>by have e47:=H.g 47 0; have e48:=H.g 48 1; clear H; go_simp) ?_
   refine .s1 rfl B3 (fun H=>⟨H.z 2 E1_1,H.g 49 2⟩) ?_
   refine .mc rfl ?_
   refine .d1 (fun u=>gV x::u1 0::u1 1::u 4::u3 6::u3 8::u4 6::u4 8::u5 6::u5 8::u6 6::u6 8::sq u2 0 3 (U::u3 3::sq u3 0 3 (u3 4::u3 5::u4 3::sq u4 0 3 (u4 4::u4 5::u5 3::sq u5 0 3 (u5 4::u5 5::u6 3::sq u6 0 3 (u6 4::u6 5::sq u7 0 6 (U::sq u 0 3 []))))))) K20 bel A3 fun u9 w9 D bel=>?_
   have E9_4:=D.q 4
   replace B3:=D.ol 3
   clear D
   refine wp_ret ?_
   refine ret_ok rfl (by exact results_mix rfl (by exact E1_1) B3 Tryz.underlying30 rfl (by kernel_rfl) (by exact E9_4)) (RetV.mk ?_ bel)
   exact congrArg Ending.returned (gcut_yes (x:=x.near) c16 c18)
theorem hNearA (r:RG) (p0:gmay r = false) :
  Calls Tryz.prog 22 #[rgV r] W (RetV (.tuple #[.agg #[.bool false,.string ⟨#[]⟩,.bool false,.string ⟨#[]⟩,.bool false,.string ⟨#[]⟩,.bool false,.string ⟨#[]⟩],.int .i64 2]) W):=by
 have bel:=b0 W
 go_enter Tryz.func22,Tryz.ntmps22
 refine gs 3 (Amb Z0 W) fun _ K1=>?_
 refine .bx rfl (fun H=>H.v 0 (rgV r)) ?_
 refine .al rfl zG ?_
 refine .mc rfl ?_
 refine .dk (fun u=>rgV r::sq u 0 3 (us 46)) K1 bel fun u1 w1 D bel=>?_
 obtain ⟨b2,E1_0,A2,B2⟩:=D.nw 0
 obtain ⟨b3,E1_1,A3,B3⟩:=D.nw 1
 have E1_2:=D.q 2
 have N2_3:=D.n2 0 1 E1_0 E1_1
 clear D
 refine wp_seq_k fun _ K4=>?_
 refine gs 3 (Amb Z0 W) fun _ K5=>?_
 refine .lr rfl 1 E1_0 B2 ?_
 refine .cK rfl (V:=.bool false) Tryz.func46 (fun H=>⟨_,ar1 (H.g 12 0),reV (congrArg Value.bool p0) (gaMay _)⟩) ?_
 refine .e rfl (V:=.bool true) (fun H=>x_not (H.g 13 1)) ?_
 refine .dk (fun u=>rgV r::sq u1 0 3 (U::U::U::U::U::U::U::U::sq u 0 3 (us 35))) K5 bel fun u2 w2 D bel=>?_
 have E2_2:=D.q 2
 replace B2:=D.k B2
 replace B3:=D.k B3
 clear D
 refine wp_cond_true (by exact E2_2) ?_
 refine gs1 3 (Amb Z0 W) 1 B3 fun _ K6=>?_
 refine .e rfl (V:=.agg zG) (fun H=>by clear H; go_simp) ?_
 refine .s1 rfl B3 (fun H=>⟨H.z 2 E1_1,H.g 15 0⟩) ?_
 refine .mc rfl ?_
 refine .d1 (fun u=>rgV r::u1 0::u1 1::u 2::U::U::U::U::U::U::U::U::sq u2 0 3 (u 0::us 34)) K6 bel A3 fun u3 w3 D bel=>?_
 have E3_2:=D.q 2
 replace B3:=D.ol 1
 clear D
 refine wp_ret ?_
 refine ret_ok rfl (by exact results_mix rfl (by exact E1_1) B3 Tryz.underlying30 rfl (by kernel_rfl) (by exact E3_2)) (RetV.mk ?_ bel)
 exact congrArg Ending.returned (rfl)
theorem hDivA1 (r:RG) (q:RG) (p0:gwhole r = false) :
  Calls Tryz.prog 23 #[rgV r,rgV q] W (RetV (.tuple #[.agg #[.bool false,.string ⟨#[]⟩,.bool false,.string ⟨#[]⟩,.bool false,.string ⟨#[]⟩,.bool false,.string ⟨#[]⟩],.agg #[.bool false,.string ⟨#[]⟩,.bool false,.string ⟨#[]⟩,.bool false,.string ⟨#[]⟩,.bool false,.string ⟨#[]⟩],.int .i64 2]) W):=by
 have bel:=b0 W
 go_enter Tryz.func23,Tryz.ntmps23
 refine gs 5 (Amb Z0 W) fun _ K1=>?_
 refine .bx rfl (fun H=>H.v 0 (rgV r)) ?_
 refine .bx rfl (fun H=>H.v 1 (rgV q)) ?_
 refine .al rfl zG ?_
 refine .al rfl zG ?_
 refine .mc rfl ?_
 refine .dk (fun u=>rgV r::rgV q::sq u 0 5 (us 55)) K1 bel fun u1 w1 D bel=>?_
 obtain ⟨b2,E1_0,A2,B2⟩:=D.nw 0
 obtain ⟨b3,E1_1,A3,B3⟩:=D.nw 1
 obtain ⟨b4,E1_2,A4,B4⟩:=D.nw 2
 obtain ⟨b5,E1_3,A5,B5⟩:=D.nw 3
 have E1_4:=D.q 4
 have N2_4:=D.n2 0 2 E1_0 E1_2
 have N3_4:=D.n2 1 2 E1_1 E1_2
 have N2_5:=D.n2 0 3 E1_0 E1_3
 have N3_5:=D.n2 1 3 E1_1 E1_3
 have N4_5:=D.n2 2 3 E1_2 E1_3
 clear D
 refine wp_seq_k fun _ K6=>?_
 refine wp_block ?_
 refine gs 9 (Amb Z0 W) fun _ K7=>?_
 refine .lr rfl 2 E1_0 B2 ?_
 refine .cK rfl (V:=.bool false) Tryz.func28 (fun H=>⟨_,ar1 (H.g 15 0),reV (congrArg Value.bool p0) (hWhole _)⟩) ?_
 refine .e rfl (V:=.bool true) (fun H=>x_not (H.g 16 1)) ?_
 refine .mv rfl 2 ?_
 refine .sk rfl 3 ?_
 refine .sk rfl 3 ?_
 refine .sk rfl 3 ?_
 refine .e rfl (fun H=>x_pkT (H.g 18 3) (H.c _)) ?_
 refine .mv rfl 7 ?_
 refine .dk (fun u=>rgV r::rgV q::sq u1 0 5 (U::U::U::U::U::U::U::u 8::sq u 0 8 (us 39))) K7 bel fun u2 w2 D bel=>?_
 have E2_8:=D.q 8
 replace B2:=D.k B2
 replace B3:=D.k B3
 replace B4:=D.k B4
 replace B5:=D.k B5
 clear D
 refine wp_cond_true (by exact E2_8) ?_
 refine wp_seq_k fun _ K8=>?_
 refine go2_seq 5 rfl (Amb Z0 W) [(b4,2),(b5,3)] [2,3] (Olds.cons (R0:=fun _=>True) (lt_of B4) (by simp [(Ne.symm N4_5)]) (Olds.one (lt_of B5))) (by kernel_rfl) ?_
 refine .e rfl (V:=.agg zG) (fun H=>by clear H; go_simp) ?_
 refine .e rfl (V:=.agg zG) (fun H=>by clear H; go_simp) ?_
 refine .sz rfl 0 B4 (lt_of B4) (by intro y k hy; match y,hy with | 0,hy=>rfl | 1,hy=>simp at hy; exact absurd hy.1 (Ne.symm N4_5)) (fun H=>⟨(H.z 4 E1_2),(H.g 23 0)⟩) ?_
 refine .sz rfl 1 B5 (lt_of B5) (by intro y k hy; match y,hy with | 0,hy=>simp at hy; exact absurd hy.1 N4_5 | 1,hy=>rfl) (fun H=>⟨(H.z 5 E1_3),(H.g 24 1)⟩) ?_
 refine .mc rfl ?_
 refine .dd (fun u=>⟨List.toArray (rgV r::rgV q::sq u1 0 4 (u 4::U::U::U::U::U::U::U::u2 8::sq u2 0 8 (u 0::u 1::us 37))),[]⟩) bel.size fun u3 w3 D=>?_
 have E3_4:=D.q 4
 replace B4:=D.ol 2
 replace B5:=D.ol 3
 replace bel:=D.d.base.bel bel bel.size (by simp; omega)
 clear D
 refine K8 _ _ ?_
 refine wp_ret ?_
 refine ret_ok rfl (by exact results_mix3 rfl (by exact E1_2) B4 Tryz.underlying30 rfl (by kernel_rfl) (by exact E1_3) B5 Tryz.underlying30 rfl (by kernel_rfl) (by exact E3_4)) (RetV.mk ?_ bel)
 exact congrArg Ending.returned (rfl)
theorem hDivA2 (r:RG) (q:RG) (p0:gwhole r = true) (p1:gwhole q = false) :
  Calls Tryz.prog 23 #[rgV r,rgV q] W (RetV (.tuple #[.agg #[.bool false,.string ⟨#[]⟩,.bool false,.string ⟨#[]⟩,.bool false,.string ⟨#[]⟩,.bool false,.string ⟨#[]⟩],.agg #[.bool false,.string ⟨#[]⟩,.bool false,.string ⟨#[]⟩,.bool false,.string ⟨#[]⟩,.bool false,.string ⟨#[]⟩],.int .i64 2]) W):=by
 have bel:=b0 W
 go_enter Tryz.func23,Tryz.ntmps23
 refine gs 5 (Amb Z0 W) fun _ K1=>?_
 refine .bx rfl (fun H=>H.v 0 (rgV r)) ?_
 refine .bx rfl (fun H=>H.v 1 (rgV q)) ?_
 refine .al rfl zG ?_
 refine .al rfl zG ?_
 refine .mc rfl ?_
 refine .dk (fun u=>rgV r::rgV q::sq u 0 5 (us 55)) K1 bel fun u1 w1 D bel=>?_
 obtain ⟨b2,E1_0,A2,B2⟩:=D.nw 0
 obtain ⟨b3,E1_1,A3,B3⟩:=D.nw 1
 obtain ⟨b4,E1_2,A4,B4⟩:=D.nw 2
 obtain ⟨b5,E1_3,A5,B5⟩:=D.nw 3
 have E1_4:=D.q 4
 have N2_4:=D.n2 0 2 E1_0 E1_2
 have N3_4:=D.n2 1 2 E1_1 E1_2
 have N2_5:=D.n2 0 3 E1_0 E1_3
 have N3_5:=D.n2 1 3 E1_1 E1_3
 have N4_5:=D.n2 2 3 E1_2 E1_3
 clear D
 refine wp_seq_k fun _ K6=>?_
 refine wp_block ?_
 refine gs 9 (Amb Z0 W) fun _ K7=>?_
 refine .lr rfl 2 E1_0 B2 ?_
 refine .cK rfl (V:=.bool true) Tryz.func28 (fun H=>⟨_,ar1 (H.g 15 0),reV (congrArg Value.bool p0) (hWhole _)⟩) ?_
 refine .e rfl (V:=.bool false) (fun H=>x_not (H.g 16 1)) ?_
 refine .mv rfl 2 ?_
 refine .lr rfl 3 E1_1 B3 ?_ (hg:=gq 3 rfl)
 refine .cK rfl (V:=.bool false) Tryz.func28 (fun H=>⟨_,ar1 (H.g 19 4),reV (congrArg Value.bool p1) (hWhole _)⟩) ?_ (hg:=gq 3 rfl)
 refine .e rfl (V:=.bool true) (fun H=>x_not (H.g 20 5)) ?_ (hg:=gq 3 rfl)
 refine .e rfl (fun H=>x_pkF (H.g 18 3) (H.g 21 6)) ?_
 refine .mv rfl 7 ?_
 refine .dk (fun u=>rgV r::rgV q::sq u1 0 5 (U::U::U::U::U::U::U::u 8::sq u 0 8 (us 39))) K7 bel fun u2 w2 D bel=>?_
 have E2_8:=D.q 8
 replace B2:=D.k B2
 replace B3:=D.k B3
 replace B4:=D.k B4
 replace B5:=D.k B5
 clear D
 refine wp_cond_true (by exact E2_8) ?_
 refine wp_seq_k fun _ K8=>?_
 refine go2_seq 5 rfl (Amb Z0 W) [(b4,2),(b5,3)] [2,3] (Olds.cons (R0:=fun _=>True) (lt_of B4) (by simp [(Ne.symm N4_5)]) (Olds.one (lt_of B5))) (by kernel_rfl) ?_
 refine .e rfl (V:=.agg zG) (fun H=>by clear H; go_simp) ?_
 refine .e rfl (V:=.agg zG) (fun H=>by clear H; go_simp) ?_
 refine .sz rfl 0 B4 (lt_of B4) (by intro y k hy; match y,hy with | 0,hy=>rfl | 1,hy=>simp at hy; exact absurd hy.1 (Ne.symm N4_5)) (fun H=>⟨(H.z 4 E1_2),(H.g 23 0)⟩) ?_
 refine .sz rfl 1 B5 (lt_of B5) (by intro y k hy; match y,hy with | 0,hy=>simp at hy; exact absurd hy.1 N4_5 | 1,hy=>rfl) (fun H=>⟨(H.z 5 E1_3),(H.g 24 1)⟩) ?_
 refine .mc rfl ?_
 refine .dd (fun u=>⟨List.toArray (rgV r::rgV q::sq u1 0 4 (u 4::U::U::U::U::U::U::U::u2 8::sq u2 0 8 (u 0::u 1::us 37))),[]⟩) bel.size fun u3 w3 D=>?_
 have E3_4:=D.q 4
 replace B4:=D.ol 2
 replace B5:=D.ol 3
 replace bel:=D.d.base.bel bel bel.size (by simp; omega)
 clear D
 refine K8 _ _ ?_
 refine wp_ret ?_
 refine ret_ok rfl (by exact results_mix3 rfl (by exact E1_2) B4 Tryz.underlying30 rfl (by kernel_rfl) (by exact E1_3) B5 Tryz.underlying30 rfl (by kernel_rfl) (by exact E3_4)) (RetV.mk ?_ bel)
 exact congrArg Ending.returned (rfl)
theorem hGcdA1 (r:RG) (q:RG) (p0:gwhole r = false) :
  Calls Tryz.prog 24 #[rgV r,rgV q] W (RetV (.tuple #[.agg #[.bool false,.string ⟨#[]⟩,.bool false,.string ⟨#[]⟩,.bool false,.string ⟨#[]⟩,.bool false,.string ⟨#[]⟩],.int .i64 2]) W):=by
 have bel:=b0 W
 go_enter Tryz.func24,Tryz.ntmps24
 refine gs 4 (Amb Z0 W) fun _ K1=>?_
 refine .bx rfl (fun H=>H.v 0 (rgV r)) ?_
 refine .bx rfl (fun H=>H.v 1 (rgV q)) ?_
 refine .al rfl zG ?_
 refine .mc rfl ?_
 refine .dk (fun u=>rgV r::rgV q::sq u 0 4 (us 25)) K1 bel fun u1 w1 D bel=>?_
 obtain ⟨b2,E1_0,A2,B2⟩:=D.nw 0
 obtain ⟨b3,E1_1,A3,B3⟩:=D.nw 1
 obtain ⟨b4,E1_2,A4,B4⟩:=D.nw 2
 have E1_3:=D.q 3
 have N2_4:=D.n2 0 2 E1_0 E1_2
 have N3_4:=D.n2 1 2 E1_1 E1_2
 clear D
 refine wp_seq_k fun _ K5=>?_
 refine gs 8 (Amb Z0 W) fun _ K6=>?_
 refine .lr rfl 2 E1_0 B2 ?_
 refine .cK rfl (V:=.bool false) Tryz.func28 (fun H=>⟨_,ar1 (H.g 9 0),reV (congrArg Value.bool p0) (hWhole _)⟩) ?_
 refine .e rfl (V:=.bool true) (fun H=>x_not (H.g 10 1)) ?_
 refine .mv rfl 2 ?_
 refine .sk rfl 3 ?_
 refine .sk rfl 3 ?_
 refine .sk rfl 3 ?_
 refine .e rfl (fun H=>x_pkT (H.g 12 3) (H.c _)) ?_
 refine .dk (fun u=>rgV r::rgV q::sq u1 0 4 (U::U::U::sq u 0 8 (us 14))) K6 bel fun u2 w2 D bel=>?_
 have E2_7:=D.q 7
 replace B2:=D.k B2
 replace B3:=D.k B3
 replace B4:=D.k B4
 clear D
 refine wp_cond_true (by exact E2_7) ?_
 refine gs1 3 (Amb Z0 W) 1 B4 fun _ K7=>?_
 refine .e rfl (V:=.agg zG) (fun H=>by clear H; go_simp) ?_
 refine .s1 rfl B4 (fun H=>⟨H.z 4 E1_2,H.g 17 0⟩) ?_
 refine .mc rfl ?_
 refine .d1 (fun u=>rgV r::rgV q::sq u1 0 3 (u 2::U::U::U::sq u2 0 8 (u 0::us 13))) K7 bel A4 fun u3 w3 D bel=>?_
 have E3_2:=D.q 2
 replace B4:=D.ol 1
 clear D
 refine wp_ret ?_
 refine ret_ok rfl (by exact results_mix rfl (by exact E1_2) B4 Tryz.underlying30 rfl (by kernel_rfl) (by exact E3_2)) (RetV.mk ?_ bel)
 exact congrArg Ending.returned (rfl)
theorem hGcdA2 (r:RG) (q:RG) (p0:gwhole r = true) (p1:gwhole q = false) :
  Calls Tryz.prog 24 #[rgV r,rgV q] W (RetV (.tuple #[.agg #[.bool false,.string ⟨#[]⟩,.bool false,.string ⟨#[]⟩,.bool false,.string ⟨#[]⟩,.bool false,.string ⟨#[]⟩],.int .i64 2]) W):=by
 have bel:=b0 W
 go_enter Tryz.func24,Tryz.ntmps24
 refine gs 4 (Amb Z0 W) fun _ K1=>?_
 refine .bx rfl (fun H=>H.v 0 (rgV r)) ?_
 refine .bx rfl (fun H=>H.v 1 (rgV q)) ?_
 refine .al rfl zG ?_
 refine .mc rfl ?_
 refine .dk (fun u=>rgV r::rgV q::sq u 0 4 (us 25)) K1 bel fun u1 w1 D bel=>?_
 obtain ⟨b2,E1_0,A2,B2⟩:=D.nw 0
 obtain ⟨b3,E1_1,A3,B3⟩:=D.nw 1
 obtain ⟨b4,E1_2,A4,B4⟩:=D.nw 2
 have E1_3:=D.q 3
 have N2_4:=D.n2 0 2 E1_0 E1_2
 have N3_4:=D.n2 1 2 E1_1 E1_2
 clear D
 refine wp_seq_k fun _ K5=>?_
 refine gs 8 (Amb Z0 W) fun _ K6=>?_
 refine .lr rfl 2 E1_0 B2 ?_
 refine .cK rfl (V:=.bool true) Tryz.func28 (fun H=>⟨_,ar1 (H.g 9 0),reV (congrArg Value.bool p0) (hWhole _)⟩) ?_
 refine .e rfl (V:=.bool false) (fun H=>x_not (H.g 10 1)) ?_
 refine .mv rfl 2 ?_
 refine .lr rfl 3 E1_1 B3 ?_ (hg:=gq 3 rfl)
 refine .cK rfl (V:=.bool false) Tryz.func28 (fun H=>⟨_,ar1 (H.g 13 4),reV (congrArg Value.bool p1) (hWhole _)⟩) ?_ (hg:=gq 3 rfl)
 refine .e rfl (V:=.bool true) (fun H=>x_not (H.g 14 5)) ?_ (hg:=gq 3 rfl)
 refine .e rfl (fun H=>x_pkF (H.g 12 3) (H.g 15 6)) ?_
 refine .dk (fun u=>rgV r::rgV q::sq u1 0 4 (U::U::U::sq u 0 8 (us 14))) K6 bel fun u2 w2 D bel=>?_
 have E2_7:=D.q 7
 replace B2:=D.k B2
 replace B3:=D.k B3
 replace B4:=D.k B4
 clear D
 refine wp_cond_true (by exact E2_7) ?_
 refine gs1 3 (Amb Z0 W) 1 B4 fun _ K7=>?_
 refine .e rfl (V:=.agg zG) (fun H=>by clear H; go_simp) ?_
 refine .s1 rfl B4 (fun H=>⟨H.z 4 E1_2,H.g 17 0⟩) ?_
 refine .mc rfl ?_
 refine .d1 (fun u=>rgV r::rgV q::sq u1 0 3 (u 2::U::U::U::sq u2 0 8 (u 0::us 13))) K7 bel A4 fun u3 w3 D bel=>?_
 have E3_2:=D.q 2
 replace B4:=D.ol 1
 clear D
 refine wp_ret ?_
 refine ret_ok rfl (by exact results_mix rfl (by exact E1_2) B4 Tryz.underlying30 rfl (by kernel_rfl) (by exact E3_2)) (RetV.mk ?_ bel)
 exact congrArg Ending.returned (rfl)
theorem hCombA1 (r:RG) (q:RG) (p0:gwhole r = false) :
  Calls Tryz.prog 25 #[rgV r,rgV q] W (RetV (.tuple #[.agg #[.bool false,.string ⟨#[]⟩,.bool false,.string ⟨#[]⟩,.bool false,.string ⟨#[]⟩,.bool false,.string ⟨#[]⟩],.agg #[.bool false,.string ⟨#[]⟩,.bool false,.string ⟨#[]⟩,.bool false,.string ⟨#[]⟩,.bool false,.string ⟨#[]⟩],.agg #[.bool false,.string ⟨#[]⟩,.bool false,.string ⟨#[]⟩,.bool false,.string ⟨#[]⟩,.bool false,.string ⟨#[]⟩],.int .i64 2]) W):=by
 have bel:=b0 W
 go_enter Tryz.func25,Tryz.ntmps25
 refine gs 6 (Amb Z0 W) fun _ K1=>?_
 refine .bx rfl (fun H=>H.v 0 (rgV r)) ?_
 refine .bx rfl (fun H=>H.v 1 (rgV q)) ?_
 refine .al rfl zG ?_
 refine .al rfl zG ?_
 refine .al rfl zG ?_
 refine .mc rfl ?_
 refine .dk (fun u=>rgV r::rgV q::sq u 0 6 (us 62)) K1 bel fun u1 w1 D bel=>?_
 obtain ⟨b2,E1_0,A2,B2⟩:=D.nw 0
 obtain ⟨b3,E1_1,A3,B3⟩:=D.nw 1
 obtain ⟨b4,E1_2,A4,B4⟩:=D.nw 2
 obtain ⟨b5,E1_3,A5,B5⟩:=D.nw 3
 obtain ⟨b6,E1_4,A6,B6⟩:=D.nw 4
 have E1_5:=D.q 5
 have N2_4:=D.n2 0 2 E1_0 E1_2
 have N3_4:=D.n2 1 2 E1_1 E1_2
 have N2_5:=D.n2 0 3 E1_0 E1_3
 have N3_5:=D.n2 1 3 E1_1 E1_3
 have N4_5:=D.n2 2 3 E1_2 E1_3
 have N2_6:=D.n2 0 4 E1_0 E1_4
 have N3_6:=D.n2 1 4 E1_1 E1_4
 have N4_6:=D.n2 2 4 E1_2 E1_4
 have N5_6:=D.n2 3 4 E1_3 E1_4
 clear D
 refine gs 3 (Amb Z0 W) fun _ K7=>?_
 refine .e rfl (V:=.agg zG) (fun H=>by clear H; go_simp) ?_
 refine .al rfl zG ?_
 refine .so rfl 1 (fun H=>⟨H.r 8 1,H.g 18 0⟩) ?_
 refine .dk (fun u=>rgV r::rgV q::sq u1 0 6 (u 1::U::U::U::U::U::U::U::U::U::u 0::us 51)) K7 bel fun u2 w2 D bel=>?_
 obtain ⟨b8,E2_1,A8,B8⟩:=D.st 2
 have N4_8:=D.n1 1 (lt_of B4) E2_1
 have N5_8:=D.n1 1 (lt_of B5) E2_1
 have N6_8:=D.n1 1 (lt_of B6) E2_1
 replace B2:=D.k B2
 replace B3:=D.k B3
 replace B4:=D.k B4
 replace B5:=D.k B5
 replace B6:=D.k B6
 clear D
 refine wp_seq_k fun _ K9=>?_
 refine gs 8 (Amb Z0 W) fun _ K10=>?_
 refine .lr rfl 2 E1_0 B2 ?_
 refine .cK rfl (V:=.bool false) Tryz.func28 (fun H=>⟨_,ar1 (H.g 19 0),reV (congrArg Value.bool p0) (hWhole _)⟩) ?_
 refine .e rfl (V:=.bool true) (fun H=>x_not (H.g 20 1)) ?_
 refine .mv rfl 2 ?_
 refine .sk rfl 3 ?_
 refine .sk rfl 3 ?_
 refine .sk rfl 3 ?_
 refine .e rfl (fun H=>x_pkT (H.g 22 3) (H.c _)) ?_
 refine .dk (fun u=>rgV r::rgV q::sq u1 0 6 (u2 1::U::U::U::U::U::U::U::U::U::u2 0::sq u 0 8 (us 43))) K10 bel fun u3 w3 D bel=>?_
 have E3_7:=D.q 7
 replace B2:=D.k B2
 replace B3:=D.k B3
 replace B4:=D.k B4
 replace B5:=D.k B5
 replace B6:=D.k B6
 replace B8:=D.k B8
 clear D
 refine wp_cond_true (by exact E3_7) ?_
 refine wp_seq_k fun _ K11=>?_
 refine go2_drawn (by kernel_rfl) 7 rfl (Amb Z0 W) [(b4,3),(b5,4),(b6,5)] [3,4,5] (Olds.cons (R0:=fun _=>True) (lt_of B4) (by simp [(Ne.symm N4_5),(Ne.symm N4_6)]) (Olds.cons (R0:=fun _=>True) (lt_of B5) (by simp [(Ne.symm N5_6)]) (Olds.one (lt_of B6)))) (by kernel_rfl) ?_
 refine .e rfl (fun H=>x_ldr (H.z 8 E2_1) (H.bn B8 (no_cons N4_8 (no_cons N5_8 (no_cons N6_8 (no_nil _)))))) ?_
 refine .e rfl (fun H=>x_ldr (H.z 8 E2_1) (H.bn B8 (no_cons N4_8 (no_cons N5_8 (no_cons N6_8 (no_nil _)))))) ?_
 refine .e rfl (fun H=>x_ldr (H.z 8 E2_1) (H.bn B8 (no_cons N4_8 (no_cons N5_8 (no_cons N6_8 (no_nil _)))))) ?_
 refine .sz rfl 0 B4 (lt_of B4) (by intro y k hy; match y,hy with | 0,hy=>rfl | 1,hy=>simp at hy; exact absurd hy.1 (Ne.symm N4_5) | 2,hy=>simp at hy; exact absurd hy.1 (Ne.symm N4_6)) (fun H=>⟨(H.z 4 E1_2),(H.g 27 0)⟩) ?_
 refine .sz rfl 1 B5 (lt_of B5) (by intro y k hy; match y,hy with | 0,hy=>simp at hy; exact absurd hy.1 N4_5 | 1,hy=>rfl | 2,hy=>simp at hy; exact absurd hy.1 (Ne.symm N5_6)) (fun H=>⟨(H.z 5 E1_3),(H.g 28 1)⟩) ?_
 refine .sz rfl 2 B6 (lt_of B6) (by intro y k hy; match y,hy with | 0,hy=>simp at hy; exact absurd hy.1 N4_6 | 1,hy=>simp at hy; exact absurd hy.1 N5_6 | 2,hy=>rfl) (fun H=>⟨(H.z 6 E1_4),(H.g 29 2)⟩) ?_
 refine .mc rfl ?_
 refine .dd (fun u=>⟨List.toArray (rgV r::rgV q::sq u1 0 5 (u 6::u2 1::U::U::U::U::U::U::U::U::U::u2 0::sq u3 0 8 (sq u 0 3 (us 40)))),[]⟩) bel.size fun u4 w4 D=>?_
 have E4_6:=D.q 6
 replace B4:=D.ol 3
 replace B5:=D.ol 4
 replace B6:=D.ol 5
 replace bel:=D.d.base.bel bel bel.size (by simp; omega)
 clear D
 refine K11 _ _ ?_
 refine wp_ret ?_
 refine ret_ok rfl (by exact results_ccct rfl (by exact E1_2) B4 (by exact E1_3) B5 (by exact E1_4) B6 (by exact E4_6)) (RetV.mk ?_ bel)
 exact congrArg Ending.returned (rfl)
theorem hCombA2 (r:RG) (q:RG) (p0:gwhole r = true) (p1:gwhole q = false) :
  Calls Tryz.prog 25 #[rgV r,rgV q] W (RetV (.tuple #[.agg #[.bool false,.string ⟨#[]⟩,.bool false,.string ⟨#[]⟩,.bool false,.string ⟨#[]⟩,.bool false,.string ⟨#[]⟩],.agg #[.bool false,.string ⟨#[]⟩,.bool false,.string ⟨#[]⟩,.bool false,.string ⟨#[]⟩,.bool false,.string ⟨#[]⟩],.agg #[.bool false,.string ⟨#[]⟩,.bool false,.string ⟨#[]⟩,.bool false,.string ⟨#[]⟩,.bool false,.string ⟨#[]⟩],.int .i64 2]) W):=by
 have bel:=b0 W
 go_enter Tryz.func25,Tryz.ntmps25
 refine gs 6 (Amb Z0 W) fun _ K1=>?_
 refine .bx rfl (fun H=>H.v 0 (rgV r)) ?_
 refine .bx rfl (fun H=>H.v 1 (rgV q)) ?_
 refine .al rfl zG ?_
 refine .al rfl zG ?_
 refine .al rfl zG ?_
 refine .mc rfl ?_
 refine .dk (fun u=>rgV r::rgV q::sq u 0 6 (us 62)) K1 bel fun u1 w1 D bel=>?_
 obtain ⟨b2,E1_0,A2,B2⟩:=D.nw 0
 obtain ⟨b3,E1_1,A3,B3⟩:=D.nw 1
 obtain ⟨b4,E1_2,A4,B4⟩:=D.nw 2
 obtain ⟨b5,E1_3,A5,B5⟩:=D.nw 3
 obtain ⟨b6,E1_4,A6,B6⟩:=D.nw 4
 have E1_5:=D.q 5
 have N2_4:=D.n2 0 2 E1_0 E1_2
 have N3_4:=D.n2 1 2 E1_1 E1_2
 have N2_5:=D.n2 0 3 E1_0 E1_3
 have N3_5:=D.n2 1 3 E1_1 E1_3
 have N4_5:=D.n2 2 3 E1_2 E1_3
 have N2_6:=D.n2 0 4 E1_0 E1_4
 have N3_6:=D.n2 1 4 E1_1 E1_4
 have N4_6:=D.n2 2 4 E1_2 E1_4
 have N5_6:=D.n2 3 4 E1_3 E1_4
 clear D
 refine gs 3 (Amb Z0 W) fun _ K7=>?_
 refine .e rfl (V:=.agg zG) (fun H=>by clear H; go_simp) ?_
 refine .al rfl zG ?_
 refine .so rfl 1 (fun H=>⟨H.r 8 1,H.g 18 0⟩) ?_
 refine .dk (fun u=>rgV r::rgV q::sq u1 0 6 (u 1::U::U::U::U::U::U::U::U::U::u 0::us 51)) K7 bel fun u2 w2 D bel=>?_
 obtain ⟨b8,E2_1,A8,B8⟩:=D.st 2
 have N4_8:=D.n1 1 (lt_of B4) E2_1
 have N5_8:=D.n1 1 (lt_of B5) E2_1
 have N6_8:=D.n1 1 (lt_of B6) E2_1
 replace B2:=D.k B2
 replace B3:=D.k B3
 replace B4:=D.k B4
 replace B5:=D.k B5
 replace B6:=D.k B6
 clear D
 refine wp_seq_k fun _ K9=>?_
 refine gs 8 (Amb Z0 W) fun _ K10=>?_
 refine .lr rfl 2 E1_0 B2 ?_
 refine .cK rfl (V:=.bool true) Tryz.func28 (fun H=>⟨_,ar1 (H.g 19 0),reV (congrArg Value.bool p0) (hWhole _)⟩) ?_
 refine .e rfl (V:=.bool false) (fun H=>x_not (H.g 20 1)) ?_
 refine .mv rfl 2 ?_
 refine .lr rfl 3 E1_1 B3 ?_ (hg:=gq 3 rfl)
 refine .cK rfl (V:=.bool false) Tryz.func28 (fun H=>⟨_,ar1 (H.g 23 4),reV (congrArg Value.bool p1) (hWhole _)⟩) ?_ (hg:=gq 3 rfl)
 refine .e rfl (V:=.bool true) (fun H=>x_not (H.g 24 5)) ?_ (hg:=gq 3 rfl)
 refine .e rfl (fun H=>x_pkF (H.g 22 3) (H.g 25 6)) ?_
 refine .dk (fun u=>rgV r::rgV q::sq u1 0 6 (u2 1::U::U::U::U::U::U::U::U::U::u2 0::sq u 0 8 (us 43))) K10 bel fun u3 w3 D bel=>?_
 have E3_7:=D.q 7
 replace B2:=D.k B2
 replace B3:=D.k B3
 replace B4:=D.k B4
 replace B5:=D.k B5
 replace B6:=D.k B6
 replace B8:=D.k B8
 clear D
 refine wp_cond_true (by exact E3_7) ?_
 refine wp_seq_k fun _ K11=>?_
 refine go2_drawn (by kernel_rfl) 7 rfl (Amb Z0 W) [(b4,3),(b5,4),(b6,5)] [3,4,5] (Olds.cons (R0:=fun _=>True) (lt_of B4) (by simp [(Ne.symm N4_5),(Ne.symm N4_6)]) (Olds.cons (R0:=fun _=>True) (lt_of B5) (by simp [(Ne.symm N5_6)]) (Olds.one (lt_of B6)))) (by kernel_rfl) ?_
 refine .e rfl (fun H=>x_ldr (H.z 8 E2_1) (H.bn B8 (no_cons N4_8 (no_cons N5_8 (no_cons N6_8 (no_nil _)))))) ?_
 refine .e rfl (fun H=>x_ldr (H.z 8 E2_1) (H.bn B8 (no_cons N4_8 (no_cons N5_8 (no_cons N6_8 (no_nil _)))))) ?_
 refine .e rfl (fun H=>x_ldr (H.z 8 E2_1) (H.bn B8 (no_cons N4_8 (no_cons N5_8 (no_cons N6_8 (no_nil _)))))) ?_
 refine .sz rfl 0 B4 (lt_of B4) (by intro y k hy; match y,hy with | 0,hy=>rfl | 1,hy=>simp at hy; exact absurd hy.1 (Ne.symm N4_5) | 2,hy=>simp at hy; exact absurd hy.1 (Ne.symm N4_6)) (fun H=>⟨(H.z 4 E1_2),(H.g 27 0)⟩) ?_
 refine .sz rfl 1 B5 (lt_of B5) (by intro y k hy; match y,hy with | 0,hy=>simp at hy; exact absurd hy.1 N4_5 | 1,hy=>rfl | 2,hy=>simp at hy; exact absurd hy.1 (Ne.symm N5_6)) (fun H=>⟨(H.z 5 E1_3),(H.g 28 1)⟩) ?_
 refine .sz rfl 2 B6 (lt_of B6) (by intro y k hy; match y,hy with | 0,hy=>simp at hy; exact absurd hy.1 N4_6 | 1,hy=>simp at hy; exact absurd hy.1 N5_6 | 2,hy=>rfl) (fun H=>⟨(H.z 6 E1_4),(H.g 29 2)⟩) ?_
 refine .mc rfl ?_
 refine .dd (fun u=>⟨List.toArray (rgV r::rgV q::sq u1 0 5 (u 6::u2 1::U::U::U::U::U::U::U::U::U::u2 0::sq u3 0 8 (sq u 0 3 (us 40)))),[]⟩) bel.size fun u4 w4 D=>?_
 have E4_6:=D.q 6
 replace B4:=D.ol 3
 replace B5:=D.ol 4
 replace B6:=D.ol 5
 replace bel:=D.d.base.bel bel bel.size (by simp; omega)
 clear D
 refine K11 _ _ ?_
 refine wp_ret ?_
 refine ret_ok rfl (by exact results_ccct rfl (by exact E1_2) B4 (by exact E1_3) B5 (by exact E1_4) B6 (by exact E4_6)) (RetV.mk ?_ bel)
 exact congrArg Ending.returned (rfl)
theorem hFirC (x:Cx) (p0:gwhole (rg x) = true) (p1:ht x.re + ht x.im ≤ 20000) (p2:gfits (rg (x.mul (unitC (firstC x).toNat))) = true) :
  Calls Tryz.prog 26 #[gV x] W (RetV (.tuple #[gV (x.mul (unitC (firstC x).toNat)),.int .i64 (firstC x),.int .i64 0]) W):=by
 have k2:=ht_unit (firstC x).toNat
 have k3:=hc_mul x (unitC (firstC x).toNat)
 have bel:=b0 W
 go_enter Tryz.func26,Tryz.ntmps26
 refine gs 4 (Amb Z0 W) fun _ K1=>?_
 refine .bx rfl (fun H=>H.v 0 (gV x)) ?_
 refine .al rfl zG ?_
 refine .mc rfl ?_
 refine .mc rfl ?_
 refine .dk (fun u=>gV x::sq u 0 4 (us 24)) K1 bel fun u1 w1 D bel=>?_
 obtain ⟨b2,E1_0,A2,B2⟩:=D.nw 0
 obtain ⟨b3,E1_1,A3,B3⟩:=D.nw 1
 have E1_2:=D.q 2
 have E1_3:=D.q 3
 have N2_3:=D.n2 0 1 E1_0 E1_1
 clear D
 refine wp_seq_k fun _ K4=>?_
 refine gs 3 (Amb Z0 W) fun _ K5=>?_
 refine .lr rfl 1 E1_0 B2 ?_
 refine .cK rfl (V:=.bool true) Tryz.func28 (fun H=>⟨_,ar1 (H.g 9 0),reV (congrArg Value.bool p0) (hWhole (rg x))⟩) ?_
 refine .e rfl (V:=.bool false) (fun H=>x_not (H.g 10 1)) ?_
 refine .dk (fun u=>gV x::sq u1 0 4 (U::U::U::U::sq u 0 3 (us 17))) K5 bel fun u2 w2 D bel=>?_
 have E2_2:=D.q 2
 replace B2:=D.k B2
 replace B3:=D.k B3
 clear D
 refine wp_cond_false (by exact E2_2) ?_
 refine wp_skip ?_
 refine K4 _ _ ?_
 refine gs 4 (Amb Z0 W) fun _ K6=>?_
 refine .lr rfl 1 E1_0 B2 ?_
 refine .cR rfl [] Tryz.func57 (fun H=>⟨_,ar1 (H.g 13 0),xOf _ (by first | omega | exact p2)⟩) ?_
 refine .al rfl (#[.pointer none,.pointer none]) ?_
 refine Go2.storeOwn (i:=3) (m:=2) rfl rfl (.head _) (SP.cells 2 [1] (fun u=>#[((u 1).v.cells.getD 0 undef),((u 1).v.cells.getD 1 undef)]) 81 (by intro u u' h; simp [h 1 (by simp)])) (fun u μ ρ b H h0 hB hb=>?_) ?_
 · have e5:=H.r 5 2; have e14:=H.r 14 1
   rw [h0] at e5
   obtain ⟨x1,x2,h1,h2,h3⟩:=(H.a 1 rfl)
   have o1:=VP1.rat h2
   have o2:=VP1.rat h3
   rw [h1] at e14
   refine ⟨μ.setRow b #[x1,x2],ex_store_row 81 _ _ rfl e5 e14 hb (by kernel_rfl) rfl (by simp [o1,o2]),fun g=>⟨b,?_,hB,?_⟩,setRow_only _ _ _⟩
   · rw [upd_other _ _ (by decide)]; exact h0
   · rw [setRow_at hb]; try simp [upd,h1,Value.cells]
 refine .dk (fun u=>gV x::sq u1 0 4 (u 2::U::U::U::sq u2 0 3 (U::u 0::u 1::us 14))) K6 bel fun u3 w3 D bel=>?_
 obtain ⟨b7,b8,E3_1,L7,L8,F7,F8⟩:=CxP.elim (D.rr 1)
 obtain ⟨b9,E3_2,A9,B9⟩:=(D.a 3 rfl)
 replace A9:=le2 D.le A9
 have N3_9:=D.n1 2 (lt_of B3) E3_2
 replace B3:=D.k B3
 simp only [Value.cells,E3_1,E3_2] at B9
 replace B9:w3.heap[b9]? = some (.cells #[pt b7,pt b8] 81 (0,0)):=B9
 clear D
 refine gs 3 (Amb Z0 W) fun _ K10=>?_
 refine .lr rfl 5 E3_2 B9 ?_
 refine .cK rfl Tryz.func73 (fun H=>⟨_,ar1 (H.g 15 0),hFirst _ (CxP.mk (VP.any _ (H.was _ [] (VP.at F7 L7))) (VP.any _ (H.was _ [] (VP.at F8 L8)))) (by first | omega | exact p2)⟩) ?_
 refine .mv rfl 1 ?_
 refine .dk (fun u=>gV x::sq u1 0 4 (u3 2::u 2::U::U::sq u2 0 3 (U::u3 0::u3 1::u 0::u 1::us 12))) K10 bel fun u4 w4 D bel=>?_
 have E4_2:=D.q 2
 replace B3:=D.k B3
 replace B9:=D.k B9
 replace F7:=D.o L7 F7
 replace F8:=D.o L8 F8
 clear D
 refine gd 12 (Amb Z0 W) fun _ K11=>?_
 refine .lr rfl 5 E3_2 B9 ?_
 refine .cR rfl [] Tryz.func72 (fun H=>⟨_,ar0,hUnits⟩) ?_
 refine .mz rfl 6 E4_2 ?_
 refine Go2.fn (i:=3) rfl (G0 rfl) (.val 3 [1] (CxP (unitC (firstC x).toNat))) (fun u μ ρ H=>by have e19:=H.r 19 1; have e20:=H.g 20 2; obtain ⟨a0,b0,a1,b1,a2,b2,a3,b3,h9_,g0,g1,g2,g3⟩:=(H.a 1 rfl); rw [h9_] at e19; rcases firstC_cases x with h_ | h_ | h_ | h_; (rw [h_] at e20; rw [show (firstC x).toNat = 0 from by rw [h_]; rfl]; have i_:=index_four (w:=μ) a0 b0 a1 b1 a2 b2 a3 b3 0 a0 b0 (.inl ⟨rfl,rfl,rfl⟩); exact ⟨.agg #[a0,b0],by clear H; go_simp,SP.tupKeep (by decide) (by decide) g0⟩); (rw [h_] at e20; rw [show (firstC x).toNat = 1 from by rw [h_]; rfl]; have i_:=index_four (w:=μ) a0 b0 a1 b1 a2 b2 a3 b3 1 a1 b1 (.inr (.inl ⟨rfl,rfl,rfl⟩)); exact ⟨.agg #[a1,b1],by clear H; go_simp,SP.tupKeep (by decide) (by decide) g1⟩); (rw [h_] at e20; rw [show (firstC x).toNat = 2 from by rw [h_]; rfl]; have i_:=index_four (w:=μ) a0 b0 a1 b1 a2 b2 a3 b3 2 a2 b2 (.inr (.inr (.inl ⟨rfl,rfl,rfl⟩))); exact ⟨.agg #[a2,b2],by clear H; go_simp,SP.tupKeep (by decide) (by decide) g2⟩); (rw [h_] at e20; rw [show (firstC x).toNat = 3 from by rw [h_]; rfl]; have i_:=index_four (w:=μ) a0 b0 a1 b1 a2 b2 a3 b3 3 a3 b3 (.inr (.inr (.inr ⟨rfl,rfl,rfl⟩))); exact ⟨.agg #[a3,b3],by clear H; go_simp,SP.tupKeep (by decide) (by decide) g3⟩)) ?_
 refine .cR rfl [1,3] Tryz.func67 (fun H=>⟨_,ar2 (H.g 18 0) (H.r 21 3),xMul _ _ (CxP.mk (H.was _ [1,3] (VP.at F7 L7)) (H.was _ [1,3] (VP.at F8 L8))) (SV.sub [1,3] (H.a 3 rfl) rfl) (by first | omega | exact p2)⟩) ?_
 refine .cK rfl Tryz.func55 (fun H=>⟨_,ar1 (H.r 22 4),xGaussOk _ (SV.any (H.a 4 rfl)) (by first | omega | exact p2) (by first | omega | exact p2)⟩) ?_
 refine .mv rfl 5 ?_
 refine .e rfl (V:=gV (x.mul (unitC (firstC x).toNat))) (fun H=>x_ex (H.g 17 6)) ?_
 refine .e rfl (V:=.int .i64 0) (fun H=>x_ex (H.g 17 6)) ?_
 refine .al rfl zG ?_
 refine .so rfl 9 (fun H=>⟨H.r 7 9,H.g 24 7⟩) ?_
 refine .mv rfl 8 ?_
 refine .dk (fun u=>gV x::sq u1 0 4 (u3 2::u4 2::u 9::u 11::sq u2 0 3 (U::u3 0::u3 1::u4 0::u4 1::u 6::sq u 0 6 (u 7::u 8::us 3)))) K11 bel fun u5 w5 D bel=>?_
 obtain ⟨b12,E5_9,A12,B12⟩:=D.st 10
 have E5_11:=D.q 11
 have N3_12:=D.n1 9 (lt_of B3) E5_9
 replace B3:=D.k B3
 clear D
 refine gs1 6 (Amb Z0 W) 3 B3 fun _ K13=>?_
 refine .e rfl (fun H=>x_ldr (H.z 7 E5_9) (H.b1 B12 N3_12)) ?_
 refine .mz rfl 6 E4_2 ?_
 refine .mz rfl 8 E5_11 ?_
 refine .s1 rfl B3 (fun H=>⟨H.z 2 E1_1,H.g 26 0⟩) ?_
 refine .mv rfl 1 ?_
 refine .mv rfl 2 ?_
 refine .d1 (fun u=>gV x::u1 0::u1 1::u 4::u 5::u3 2::u4 2::u5 9::u5 11::sq u2 0 3 (U::u3 0::u3 1::u4 0::u4 1::u5 6::sq u5 0 6 (u5 7::u5 8::sq u 0 3 []))) K13 bel A3 fun u6 w6 D bel=>?_
 have E6_4:=D.q 4
 have E6_5:=D.q 5
 replace B3:=D.ol 3
 clear D
 refine wp_ret ?_
 refine ret_ok rfl (by exact results_ctt rfl (by exact E1_1) B3 (by exact E6_4) (by exact E6_5)) (RetV.mk ?_ bel)
 exact congrArg Ending.returned (rfl)
theorem hFirA (r:RG) (p0:gwhole r = false) :
  Calls Tryz.prog 26 #[rgV r] W (RetV (.tuple #[.agg #[.bool false,.string ⟨#[]⟩,.bool false,.string ⟨#[]⟩,.bool false,.string ⟨#[]⟩,.bool false,.string ⟨#[]⟩],.int .i64 0,.int .i64 2]) W):=by
 have bel:=b0 W
 go_enter Tryz.func26,Tryz.ntmps26
 refine gs 4 (Amb Z0 W) fun _ K1=>?_
 refine .bx rfl (fun H=>H.v 0 (rgV r)) ?_
 refine .al rfl zG ?_
 refine .mc rfl ?_
 refine .mc rfl ?_
 refine .dk (fun u=>rgV r::sq u 0 4 (us 24)) K1 bel fun u1 w1 D bel=>?_
 obtain ⟨b2,E1_0,A2,B2⟩:=D.nw 0
 obtain ⟨b3,E1_1,A3,B3⟩:=D.nw 1
 have E1_2:=D.q 2
 have E1_3:=D.q 3
 have N2_3:=D.n2 0 1 E1_0 E1_1
 clear D
 refine wp_seq_k fun _ K4=>?_
 refine gs 3 (Amb Z0 W) fun _ K5=>?_
 refine .lr rfl 1 E1_0 B2 ?_
 refine .cK rfl (V:=.bool false) Tryz.func28 (fun H=>⟨_,ar1 (H.g 9 0),reV (congrArg Value.bool p0) (hWhole _)⟩) ?_
 refine .e rfl (V:=.bool true) (fun H=>x_not (H.g 10 1)) ?_
 refine .dk (fun u=>rgV r::sq u1 0 4 (U::U::U::U::sq u 0 3 (us 17))) K5 bel fun u2 w2 D bel=>?_
 have E2_2:=D.q 2
 replace B2:=D.k B2
 replace B3:=D.k B3
 clear D
 refine wp_cond_true (by exact E2_2) ?_
 refine gs1 4 (Amb Z0 W) 1 B3 fun _ K6=>?_
 refine .e rfl (V:=.agg zG) (fun H=>by clear H; go_simp) ?_
 refine .s1 rfl B3 (fun H=>⟨H.z 2 E1_1,H.g 12 0⟩) ?_
 refine .mc rfl ?_
 refine .mc rfl ?_
 refine .d1 (fun u=>rgV r::u1 0::u1 1::u 2::u 3::U::U::U::U::sq u2 0 3 (u 0::us 16)) K6 bel A3 fun u3 w3 D bel=>?_
 have E3_2:=D.q 2
 have E3_3:=D.q 3
 replace B3:=D.ol 1
 clear D
 refine wp_ret ?_
 refine ret_ok rfl (by exact results_ctt rfl (by exact E1_1) B3 (by exact E3_2) (by exact E3_3)) (RetV.mk ?_ bel)
 exact congrArg Ending.returned (rfl)
set_option maxHeartbeats 8000000 in
theorem hCombC {N:Nat} {r:Cx × Cx × Cx} (x:Cx) (y:Cx) (p0:gwhole (rg x) = true) (p1:gwhole (rg y) = true) (p2:combC N x (Cx.ofInt (1:Int) (0:Int)) (Cx.ofInt (0:Int) (0:Int)) y (Cx.ofInt (0:Int) (0:Int)) (Cx.ofInt (1:Int) (0:Int)) = some r) (p3:gfits (rg (r.1.mul (unitC (firstC r.1).toNat))) = true) (p4:gfits (rg (r.2.1.mul (unitC (firstC r.1).toNat))) = true) (p5:gfits (rg (r.2.2.mul (unitC (firstC r.1).toNat))) = true) :
  Calls Tryz.prog 25 #[gV x,gV y] W (RetV (.tuple #[gV (r.1.mul (unitC (firstC r.1).toNat)),gV (r.2.1.mul (unitC (firstC r.1).toNat)),gV (r.2.2.mul (unitC (firstC r.1).toNat)),.int .i64 0]) W):=by
 have k0:=(comb_bd p2).1
 have k1:=comb_res3 p2
 have k2:=ht_unit (firstC r.1).toNat
 have k3:=hc_mul r.1 (unitC (firstC r.1).toNat)
 have k4:=hc_mul r.2.1 (unitC (firstC r.1).toNat)
 have k5:=hc_mul r.2.2 (unitC (firstC r.1).toNat)
 have bel:=b0 W
 go_enter Tryz.func25,Tryz.ntmps25
 refine gs 6 (Amb Z0 W) fun _ K1=>?_
 refine .bx rfl (fun H=>H.v 0 (gV x)) ?_
 refine .bx rfl (fun H=>H.v 1 (gV y)) ?_
 refine .al rfl zG ?_
 refine .al rfl zG ?_
 refine .al rfl zG ?_
 refine .mc rfl ?_
 refine .dk (fun u=>gV x::gV y::sq u 0 6 (us 62)) K1 bel fun u1 w1 D bel=>?_
 obtain ⟨b2,E1_0,A2,B2⟩:=D.nw 0
 obtain ⟨b3,E1_1,A3,B3⟩:=D.nw 1
 obtain ⟨b4,E1_2,A4,B4⟩:=D.nw 2
 obtain ⟨b5,E1_3,A5,B5⟩:=D.nw 3
 obtain ⟨b6,E1_4,A6,B6⟩:=D.nw 4
 have E1_5:=D.q 5
 have N2_4:=D.n2 0 2 E1_0 E1_2
 have N3_4:=D.n2 1 2 E1_1 E1_2
 have N2_5:=D.n2 0 3 E1_0 E1_3
 have N3_5:=D.n2 1 3 E1_1 E1_3
 have N4_5:=D.n2 2 3 E1_2 E1_3
 have N2_6:=D.n2 0 4 E1_0 E1_4
 have N3_6:=D.n2 1 4 E1_1 E1_4
 have N4_6:=D.n2 2 4 E1_2 E1_4
 have N5_6:=D.n2 3 4 E1_3 E1_4
 clear D
 refine gs 3 (Amb Z0 W) fun _ K7=>?_
 refine .e rfl (V:=.agg zG) (fun H=>by clear H; go_simp) ?_
 refine .al rfl zG ?_
 refine .so rfl 1 (fun H=>⟨H.r 8 1,H.g 18 0⟩) ?_
 refine .dk (fun u=>gV x::gV y::sq u1 0 6 (u 1::U::U::U::U::U::U::U::U::U::u 0::us 51)) K7 bel fun u2 w2 D bel=>?_
 obtain ⟨b8,E2_1,A8,B8⟩:=D.st 2
 have N4_8:=D.n1 1 (lt_of B4) E2_1
 have N5_8:=D.n1 1 (lt_of B5) E2_1
 have N6_8:=D.n1 1 (lt_of B6) E2_1
 replace B2:=D.k B2
 replace B3:=D.k B3
 replace B4:=D.k B4
 replace B5:=D.k B5
 replace B6:=D.k B6
 clear D
 refine wp_seq_k fun _ K9=>?_
 refine gs 8 (Amb Z0 W) fun _ K10=>?_
 refine .lr rfl 2 E1_0 B2 ?_
 refine .cK rfl (V:=.bool true) Tryz.func28 (fun H=>⟨_,ar1 (H.g 19 0),reV (congrArg Value.bool p0) (hWhole (rg x))⟩) ?_
 refine .e rfl (V:=.bool false) (fun H=>x_not (H.g 20 1)) ?_
 refine .mv rfl 2 ?_
 refine .lr rfl 3 E1_1 B3 ?_ (hg:=gq 3 rfl)
 refine .cK rfl (V:=.bool true) Tryz.func28 (fun H=>⟨_,ar1 (H.g 23 4),reV (congrArg Value.bool p1) (hWhole (rg y))⟩) ?_ (hg:=gq 3 rfl)
 refine .e rfl (V:=.bool false) (fun H=>x_not (H.g 24 5)) ?_ (hg:=gq 3 rfl)
 refine .e rfl (fun H=>x_pkF (H.g 22 3) (H.g 25 6)) ?_
 refine .dk (fun u=>gV x::gV y::sq u1 0 6 (u2 1::U::U::U::U::U::U::U::U::U::u2 0::sq u 0 8 (us 43))) K10 bel fun u3 w3 D bel=>?_
 have E3_7:=D.q 7
 replace B2:=D.k B2
 replace B3:=D.k B3
 replace B4:=D.k B4
 replace B5:=D.k B5
 replace B6:=D.k B6
 replace B8:=D.k B8
 clear D
 refine wp_cond_false (by exact E3_7) ?_
 refine wp_skip ?_
 refine K9 _ _ ?_
 refine gd 15 (Amb Z0 W) fun _ K11=>?_
 refine .lr rfl 2 E1_0 B2 ?_
 refine .cR rfl [] Tryz.func57 (fun H=>⟨_,ar1 (H.g 31 0),xOf _ (by first | omega | exact p2 | exact p3 | exact p4 | exact p5)⟩) ?_
 refine .lr rfl 3 E1_1 B3 ?_
 refine .cR rfl [] Tryz.func57 (fun H=>⟨_,ar1 (H.g 33 2),xOf _ (by first | omega | exact p2 | exact p3 | exact p4 | exact p5)⟩) ?_
 refine .cR rfl [1,3] Tryz.func71 (fun H=>⟨_,ar2 (H.r 32 1) (H.r 34 3),hCombine _ _ (N:=N) (r:=r) (SV.sub [1,3] (H.a 1 rfl) rfl) (SV.sub [1,3] (H.a 3 rfl) rfl) (by first | omega | exact p2 | exact p3 | exact p4 | exact p5)⟩) ?_
 refine .mn rfl 4 [1,3,4] ?_
 refine Go2.fn (i:=6) rfl (G0 rfl) (.val 6 [1,3,4,5] (CxP (r.1.mul (unitC (firstC r.1).toNat)))) (fun u μ ρ H=>by have e30:=H.r 30 5; have h0:=(H.a 5 rfl); obtain ⟨x0,x1,x2,h1,h2⟩:=h0; rw [h1] at e30; exact ⟨x0,by clear H; go_simp,SP.tupKeep (by decide) (by decide) h2.1⟩) ?_
 refine Go2.fn (i:=7) rfl (G0 rfl) (.val 7 [1,3,4,5] (CxP (r.2.1.mul (unitC (firstC r.1).toNat)))) (fun u μ ρ H=>by have e30:=H.r 30 5; have h0:=(H.a 5 rfl); obtain ⟨x0,x1,x2,h1,h2⟩:=h0; rw [h1] at e30; exact ⟨x1,by clear H; go_simp,SP.tupKeep (by decide) (by decide) h2.2.1⟩) ?_
 refine Go2.fn (i:=8) rfl (G0 rfl) (.val 8 [1,3,4,5] (CxP (r.2.2.mul (unitC (firstC r.1).toNat)))) (fun u μ ρ H=>by have e30:=H.r 30 5; have h0:=(H.a 5 rfl); obtain ⟨x0,x1,x2,h1,h2⟩:=h0; rw [h1] at e30; exact ⟨x2,by clear H; go_simp,SP.tupKeep (by decide) (by decide) h2.2.2⟩) ?_
 refine .al rfl (#[.pointer none,.pointer none]) ?_
 refine .al rfl (#[.pointer none,.pointer none]) ?_
 refine .al rfl (#[.pointer none,.pointer none]) ?_
 refine Go2.storeOwn (i:=12) (m:=9) rfl rfl (.tail _ (.tail _ (.head _))) (SP.cells 9 [6] (fun u=>#[((u 6).v.cells.getD 0 undef),((u 6).v.cells.getD 1 undef)]) 81 (by intro u u' h; simp [h 6 (by simp)])) (fun u μ ρ b H h0 hB hb=>?_) ?_
 · have e9:=H.r 9 9; have e36:=H.r 36 6
   rw [h0] at e9
   obtain ⟨x1,x2,h1,h2,h3⟩:=(H.a 6 rfl)
   have o1:=VP1.rat h2
   have o2:=VP1.rat h3
   rw [h1] at e36
   refine ⟨μ.setRow b #[x1,x2],ex_store_row 81 _ _ rfl e9 e36 hb (by kernel_rfl) rfl (by simp [o1,o2]),fun g=>⟨b,?_,hB,?_⟩,setRow_only _ _ _⟩
   · rw [upd_other _ _ (by decide)]; exact h0
   · rw [setRow_at hb]; try simp [upd,h1,Value.cells]
 refine Go2.storeOwn (i:=13) (m:=10) rfl rfl (.tail _ (.tail _ (.head _))) (SP.cells 10 [7] (fun u=>#[((u 7).v.cells.getD 0 undef),((u 7).v.cells.getD 1 undef)]) 81 (by intro u u' h; simp [h 7 (by simp)])) (fun u μ ρ b H h0 hB hb=>?_) ?_
 · have e10:=H.r 10 10; have e37:=H.r 37 7
   rw [h0] at e10
   obtain ⟨x1,x2,h1,h2,h3⟩:=(H.a 7 rfl)
   have o1:=VP1.rat h2
   have o2:=VP1.rat h3
   rw [h1] at e37
   refine ⟨μ.setRow b #[x1,x2],ex_store_row 81 _ _ rfl e10 e37 hb (by kernel_rfl) rfl (by simp [o1,o2]),fun g=>⟨b,?_,hB,?_⟩,setRow_only _ _ _⟩
   · rw [upd_other _ _ (by decide)]; exact h0
   · rw [setRow_at hb]; try simp [upd,h1,Value.cells]
 refine Go2.storeOwn (i:=14) (m:=11) rfl rfl (.tail _ (.tail _ (.head _))) (SP.cells 11 [8] (fun u=>#[((u 8).v.cells.getD 0 undef),((u 8).v.cells.getD 1 undef)]) 81 (by intro u u' h; simp [h 8 (by simp)])) (fun u μ ρ b H h0 hB hb=>?_) ?_
 · have e11:=H.r 11 11; have e38:=H.r 38 8
   rw [h0] at e11
   obtain ⟨x1,x2,h1,h2,h3⟩:=(H.a 8 rfl)
   have o1:=VP1.rat h2
   have o2:=VP1.rat h3
   rw [h1] at e38
   refine ⟨μ.setRow b #[x1,x2],ex_store_row 81 _ _ rfl e11 e38 hb (by kernel_rfl) rfl (by simp [o1,o2]),fun g=>⟨b,?_,hB,?_⟩,setRow_only _ _ _⟩
   · rw [upd_other _ _ (by decide)]; exact h0
   · rw [setRow_at hb]; try simp [upd,h1,Value.cells]
 refine .dk (fun u=>gV x::gV y::sq u1 0 6 (u2 1::sq u 9 3 (U::U::U::U::U::U::u2 0::sq u3 0 8 (U::U::U::u 5::sq u 0 5 (sq u 6 3 (us 31)))))) K11 bel fun u4 w4 D bel=>?_
 obtain ⟨b12,b13,E4_6,L12,L13,F12,F13⟩:=CxP.elim (D.rr 6)
 obtain ⟨b14,b15,E4_7,L14,L15,F14,F15⟩:=CxP.elim (D.rr 7)
 obtain ⟨b16,b17,E4_8,L16,L17,F16,F17⟩:=CxP.elim (D.rr 8)
 obtain ⟨b18,E4_9,A18,B18⟩:=(D.a 12 rfl)
 replace A18:=le2 D.le A18
 obtain ⟨b19,E4_10,A19,B19⟩:=(D.a 13 rfl)
 replace A19:=le2 D.le A19
 obtain ⟨b20,E4_11,A20,B20⟩:=(D.a 14 rfl)
 replace A20:=le2 D.le A20
 have N4_18:=D.n1 9 (lt_of B4) E4_9
 have N5_18:=D.n1 9 (lt_of B5) E4_9
 have N6_18:=D.n1 9 (lt_of B6) E4_9
 have N4_19:=D.n1 10 (lt_of B4) E4_10
 have N5_19:=D.n1 10 (lt_of B5) E4_10
 have N6_19:=D.n1 10 (lt_of B6) E4_10
 have N4_20:=D.n1 11 (lt_of B4) E4_11
 have N5_20:=D.n1 11 (lt_of B5) E4_11
 have N6_20:=D.n1 11 (lt_of B6) E4_11
 replace B4:=D.k B4
 replace B5:=D.k B5
 replace B6:=D.k B6
 replace B8:=D.k B8
 simp only [Value.cells,E4_6,E4_7,E4_8,E4_9,E4_10,E4_11] at B18
 replace B18:w4.heap[b18]? = some (.cells #[pt b12,pt b13] 81 (0,0)):=B18
 simp only [Value.cells,E4_6,E4_7,E4_8,E4_9,E4_10,E4_11] at B19
 replace B19:w4.heap[b19]? = some (.cells #[pt b14,pt b15] 81 (0,0)):=B19
 simp only [Value.cells,E4_6,E4_7,E4_8,E4_9,E4_10,E4_11] at B20
 replace B20:w4.heap[b20]? = some (.cells #[pt b16,pt b17] 81 (0,0)):=B20
 clear D
 refine gs 8 (Amb Z0 W) fun _ K21=>?_
 refine .lr rfl 9 E4_9 B18 ?_
 refine .cK rfl Tryz.func55 (fun H=>⟨_,ar1 (H.g 40 0),xGaussOk _ (CxP.mk (VP.any _ (H.was _ [] (VP.at F12 L12))) (VP.any _ (H.was _ [] (VP.at F13 L13)))) (by first | omega | exact p2 | exact p3 | exact p4 | exact p5) (by first | omega | exact p2 | exact p3 | exact p4 | exact p5)⟩) ?_
 refine .mv rfl 1 ?_
 refine .e rfl (V:=gV (r.1.mul (unitC (firstC r.1).toNat))) (fun H=>x_ex (H.g 39 2)) ?_
 refine .e rfl (V:=.int .i64 0) (fun H=>x_ex (H.g 39 2)) ?_
 refine .al rfl zG ?_
 refine .so rfl 5 (fun H=>⟨H.r 12 5,H.g 42 3⟩) ?_
 refine .mv rfl 4 ?_
 refine .dk (fun u=>gV x::gV y::sq u1 0 6 (u2 1::sq u4 9 3 (u 5::u 7::U::U::U::U::u2 0::sq u3 0 8 (U::U::U::u4 5::sq u4 0 5 (sq u4 6 3 (u 2::u 0::u 1::u 3::u 4::us 26)))))) K21 bel fun u5 w5 D bel=>?_
 obtain ⟨b22,E5_5,A22,B22⟩:=D.st 6
 have E5_7:=D.q 7
 have N4_22:=D.n1 5 (lt_of B4) E5_5
 have N5_22:=D.n1 5 (lt_of B5) E5_5
 have N6_22:=D.n1 5 (lt_of B6) E5_5
 replace B4:=D.k B4
 replace B5:=D.k B5
 replace B6:=D.k B6
 replace B8:=D.k B8
 replace B19:=D.k B19
 replace B20:=D.k B20
 replace F14:=D.o L14 F14
 replace F15:=D.o L15 F15
 replace F16:=D.o L16 F16
 replace F17:=D.o L17 F17
 clear D
 refine gs 8 (Amb Z0 W) fun _ K23=>?_
 refine .lr rfl 10 E4_10 B19 ?_
 refine .cK rfl Tryz.func55 (fun H=>⟨_,ar1 (H.g 45 0),xGaussOk _ (CxP.mk (VP.any _ (H.was _ [] (VP.at F14 L14))) (VP.any _ (H.was _ [] (VP.at F15 L15)))) (by first | omega | exact p2 | exact p3 | exact p4 | exact p5) (by first | omega | exact p2 | exact p3 | exact p4 | exact p5)⟩) ?_
 refine .mv rfl 1 ?_
 refine .e rfl (V:=gV (r.2.1.mul (unitC (firstC r.1).toNat))) (fun H=>x_ex (H.g 44 2)) ?_
 refine .e rfl (V:=.int .i64 0) (fun H=>x_ex (H.g 44 2)) ?_
 refine .al rfl zG ?_
 refine .so rfl 5 (fun H=>⟨H.r 14 5,H.g 47 3⟩) ?_
 refine .mv rfl 4 ?_
 refine .dk (fun u=>gV x::gV y::sq u1 0 6 (u2 1::sq u4 9 3 (u5 5::u5 7::u 5::u 7::U::U::u2 0::sq u3 0 8 (U::U::U::u4 5::sq u4 0 5 (sq u4 6 3 (u5 2::u5 0::u5 1::u5 3::u5 4::u 2::u 0::u 1::u 3::u 4::us 21)))))) K23 bel fun u6 w6 D bel=>?_
 obtain ⟨b24,E6_5,A24,B24⟩:=D.st 6
 have E6_7:=D.q 7
 have N4_24:=D.n1 5 (lt_of B4) E6_5
 have N5_24:=D.n1 5 (lt_of B5) E6_5
 have N6_24:=D.n1 5 (lt_of B6) E6_5
 replace B4:=D.k B4
 replace B5:=D.k B5
 replace B6:=D.k B6
 replace B8:=D.k B8
 replace B20:=D.k B20
 replace B22:=D.k B22
 replace F16:=D.o L16 F16
 replace F17:=D.o L17 F17
 clear D
 refine gs 8 (Amb Z0 W) fun _ K25=>?_
 refine .lr rfl 11 E4_11 B20 ?_
 refine .cK rfl Tryz.func55 (fun H=>⟨_,ar1 (H.g 50 0),xGaussOk _ (CxP.mk (VP.any _ (H.was _ [] (VP.at F16 L16))) (VP.any _ (H.was _ [] (VP.at F17 L17)))) (by first | omega | exact p2 | exact p3 | exact p4 | exact p5) (by first | omega | exact p2 | exact p3 | exact p4 | exact p5)⟩) ?_
 refine .mv rfl 1 ?_
 refine .e rfl (V:=gV (r.2.2.mul (unitC (firstC r.1).toNat))) (fun H=>x_ex (H.g 49 2)) ?_
 refine .e rfl (V:=.int .i64 0) (fun H=>x_ex (H.g 49 2)) ?_
 refine .al rfl zG ?_
 refine .so rfl 5 (fun H=>⟨H.r 16 5,H.g 52 3⟩) ?_
 refine .mv rfl 4 ?_
 refine .dk (fun u=>gV x::gV y::sq u1 0 6 (u2 1::sq u4 9 3 (u5 5::u5 7::u6 5::u6 7::u 5::u 7::u2 0::sq u3 0 8 (U::U::U::u4 5::sq u4 0 5 (sq u4 6 3 (u5 2::u5 0::u5 1::u5 3::u5 4::u6 2::u6 0::u6 1::u6 3::u6 4::u 2::u 0::u 1::u 3::u 4::us 16)))))) K25 bel fun u7 w7 D bel=>?_
 obtain ⟨b26,E7_5,A26,B26⟩:=D.st 6
 have E7_7:=D.q 7
 have N4_26:=D.n1 5 (lt_of B4) E7_5
 have N5_26:=D.n1 5 (lt_of B5) E7_5
 have N6_26:=D.n1 5 (lt_of B6) E7_5
 replace B4:=D.k B4
 replace B5:=D.k B5
 replace B6:=D.k B6
 replace B8:=D.k B8
 replace B22:=D.k B22
 replace B24:=D.k B24
 clear D
 refine wp_seq_k fun _ K27=>?_
 refine gs 10 (Amb Z0 W) fun _ K28=>?_
 refine .mz rfl 13 E5_7 ?_
 refine .e rfl (V:=.bool false) (fun H=>x_cm (H.g 54 0) (H.c _) (bne_self_eq_false (show Int from 0))) ?_
 refine .mv rfl 1 ?_
 refine .mz rfl 15 E6_7 ?_ (hg:=gq 2 rfl)
 refine .e rfl (V:=.bool false) (fun H=>x_cm (H.g 57 3) (H.c _) (bne_self_eq_false (show Int from 0))) ?_ (hg:=gq 2 rfl)
 refine .e rfl (fun H=>x_pkF (H.g 56 2) (H.g 58 4)) ?_
 refine .mv rfl 5 ?_
 refine .mz rfl 17 E7_7 ?_ (hg:=gq 6 rfl)
 refine .e rfl (V:=.bool false) (fun H=>x_cm (H.g 61 7) (H.c _) (bne_self_eq_false (show Int from 0))) ?_ (hg:=gq 6 rfl)
 refine .e rfl (fun H=>x_pkF (H.g 60 6) (H.g 62 8)) ?_
 refine .dk (fun u=>gV x::gV y::sq u1 0 6 (u2 1::sq u4 9 3 (u5 5::u5 7::u6 5::u6 7::u7 5::u7 7::u2 0::sq u3 0 8 (U::U::U::u4 5::sq u4 0 5 (sq u4 6 3 (u5 2::u5 0::u5 1::u5 3::u5 4::u6 2::u6 0::u6 1::u6 3::u6 4::u7 2::u7 0::u7 1::u7 3::u7 4::sq u 0 10 (us 6))))))) K28 bel fun u8 w8 D bel=>?_
 have E8_9:=D.q 9
 replace B4:=D.k B4
 replace B5:=D.k B5
 replace B6:=D.k B6
 replace B8:=D.k B8
 replace B22:=D.k B22
 replace B24:=D.k B24
 replace B26:=D.k B26
 clear D
 refine wp_cond_false (by exact E8_9) ?_
 refine wp_skip ?_
 refine K27 _ _ ?_
 refine wp_seq_k fun _ K29=>?_
 refine go2_drawn (by kernel_rfl) 7 rfl (Amb Z0 W) [(b4,3),(b5,4),(b6,5)] [3,4,5] (Olds.cons (R0:=fun _=>True) (lt_of B4) (by simp [(Ne.symm N4_5),(Ne.symm N4_6)]) (Olds.cons (R0:=fun _=>True) (lt_of B5) (by simp [(Ne.symm N5_6)]) (Olds.one (lt_of B6)))) (by kernel_rfl) ?_
 refine .e rfl (fun H=>x_ldr (H.z 12 E5_5) (H.bn B22 (no_cons N4_22 (no_cons N5_22 (no_cons N6_22 (no_nil _)))))) ?_
 refine .e rfl (fun H=>x_ldr (H.z 14 E6_5) (H.bn B24 (no_cons N4_24 (no_cons N5_24 (no_cons N6_24 (no_nil _)))))) ?_
 refine .e rfl (fun H=>x_ldr (H.z 16 E7_5) (H.bn B26 (no_cons N4_26 (no_cons N5_26 (no_cons N6_26 (no_nil _)))))) ?_
 refine .sz rfl 0 B4 (lt_of B4) (by intro y k hy; match y,hy with | 0,hy=>rfl | 1,hy=>simp at hy; exact absurd hy.1 (Ne.symm N4_5) | 2,hy=>simp at hy; exact absurd hy.1 (Ne.symm N4_6)) (fun H=>⟨(H.z 4 E1_2),(H.g 67 0)⟩) ?_
 refine .sz rfl 1 B5 (lt_of B5) (by intro y k hy; match y,hy with | 0,hy=>simp at hy; exact absurd hy.1 N4_5 | 1,hy=>rfl | 2,hy=>simp at hy; exact absurd hy.1 (Ne.symm N5_6)) (fun H=>⟨(H.z 5 E1_3),(H.g 68 1)⟩) ?_
 refine .sz rfl 2 B6 (lt_of B6) (by intro y k hy; match y,hy with | 0,hy=>simp at hy; exact absurd hy.1 N4_6 | 1,hy=>simp at hy; exact absurd hy.1 N5_6 | 2,hy=>rfl) (fun H=>⟨(H.z 6 E1_4),(H.g 69 2)⟩) ?_
 refine .mc rfl ?_
 refine .dd (fun u=>⟨List.toArray (gV x::gV y::sq u1 0 5 (u 6::u2 1::sq u4 9 3 (u5 5::u5 7::u6 5::u6 7::u7 5::u7 7::u2 0::sq u3 0 8 (U::U::U::u4 5::sq u4 0 5 (sq u4 6 3 (u5 2::u5 0::u5 1::u5 3::u5 4::u6 2::u6 0::u6 1::u6 3::u6 4::u7 2::u7 0::u7 1::u7 3::u7 4::sq u8 0 10 (U::U::U::sq u 0 3 []))))))),[]⟩) bel.size fun u9 w9 D=>?_
 have E9_6:=D.q 6
 replace B4:=D.ol 3
 replace B5:=D.ol 4
 replace B6:=D.ol 5
 replace bel:=D.d.base.bel bel bel.size (by simp; omega)
 clear D
 refine K29 _ _ ?_
 refine wp_ret ?_
 refine ret_ok rfl (by exact results_ccct rfl (by exact E1_2) B4 (by exact E1_3) B5 (by exact E1_4) B6 (by exact E9_6)) (RetV.mk ?_ bel)
 exact congrArg Ending.returned (rfl)
theorem rNear (x:Cx) (p0:ht x.re + ht x.im ≤ 8589934592) :
  Calls Tryz.prog 30 #[gV x] W (RetV (gV x.near) W):=by
 have bel:=b0 W
 go_enter Tryz.func30,Tryz.ntmps30
 refine gs 2 (Amb Z0 W) fun _ K1=>?_
 refine .bx rfl (fun H=>H.v 0 (gV x)) ?_
 refine .al rfl zG ?_
 refine .dk (fun u=>gV x::u 0::u 1::us 9) K1 bel fun u1 w1 D bel=>?_
 obtain ⟨b2,E1_0,A2,B2⟩:=D.nw 0
 obtain ⟨b3,E1_1,A3,B3⟩:=D.nw 1
 have N2_3:=D.n2 0 1 E1_0 E1_1
 clear D
 refine gd1 10 (Amb Z0 W) 9 B3 fun _ K4=>?_
 refine .fz rfl 1 0 E1_0 ?_
 refine .e rfl (V:=fV x.re) (fun H=>x_ldp (H.g 3 0) (H.b1 B2 (Ne.symm N2_3))) ?_
 refine .cK rfl Tryz.func83 (fun H=>⟨_,ar1 (H.g 4 1),fNearest _ (by omega)⟩) ?_
 refine .cK rfl Tryz.func77 (fun H=>⟨_,ar1 (H.g 5 2),fWholeN _⟩) ?_
 refine .fz rfl 1 4 E1_0 ?_
 refine .e rfl (V:=fV x.im) (fun H=>x_ldp (H.g 7 4) (H.b1 B2 (Ne.symm N2_3))) ?_
 refine .cK rfl Tryz.func83 (fun H=>⟨_,ar1 (H.g 8 5),fNearest _ (by omega)⟩) ?_
 refine .cK rfl Tryz.func77 (fun H=>⟨_,ar1 (H.g 9 6),fWholeN _⟩) ?_
 refine .e rfl (V:=gV ⟨(((rnd x.re):Int):Rat),(((rnd x.im):Int):Rat)⟩) (fun H=>by have e6:=H.g 6 3; have e10:=H.g 10 7; clear H; go_simp) ?_
 refine .s1 rfl B3 (fun H=>⟨H.z 2 E1_1,H.g 11 8⟩) ?_
 refine .d1 (fun u=>gV x::u1 0::u1 1::sq u 0 9 []) K4 bel A3 fun u2 w2 D bel=>?_
 replace B3:=D.ol 9
 clear D
 exact wp_ret (rr rfl E1_1 B3 rfl bel)
theorem rDiv (x:Cx) (y:Cx) (p0:y.zero = false) (p1:ht x.re + ht x.im + ht y.re + ht y.im ≤ 16777216) :
  Calls Tryz.prog 36 #[gV x,gV y] W (RetV (.tuple #[gV ((x.div y).near),gV (x.sub ((x.div y).near.mul y))]) W):=by
 have h1:=hc_div x y
 have h2:=ht_rnd (x.div y).re
 have h3:=ht_rnd (x.div y).im
 have h4:=hc_mul (x.div y).near y
 have h5:=hc_sub x ((x.div y).near.mul y)
 have h6:ht (x.div y).near.re = ht ((rnd (x.div y).re:Int):Rat):=rfl
 have h7:ht (x.div y).near.im = ht ((rnd (x.div y).im:Int):Rat):=rfl
 have bel:=b0 W
 go_enter Tryz.func36,Tryz.ntmps36
 refine gs 4 (Amb Z0 W) fun _ K1=>?_
 refine .bx rfl (fun H=>H.v 0 (gV x)) ?_
 refine .bx rfl (fun H=>H.v 1 (gV y)) ?_
 refine .al rfl zG ?_
 refine .al rfl zG ?_
 refine .dk (fun u=>gV x::gV y::sq u 0 4 (us 11)) K1 bel fun u1 w1 D bel=>?_
 obtain ⟨b2,E1_0,A2,B2⟩:=D.nw 0
 obtain ⟨b3,E1_1,A3,B3⟩:=D.nw 1
 obtain ⟨b4,E1_2,A4,B4⟩:=D.nw 2
 obtain ⟨b5,E1_3,A5,B5⟩:=D.nw 3
 have N2_4:=D.n2 0 2 E1_0 E1_2
 have N3_4:=D.n2 1 2 E1_1 E1_2
 have N2_5:=D.n2 0 3 E1_0 E1_3
 have N3_5:=D.n2 1 3 E1_1 E1_3
 have N4_5:=D.n2 2 3 E1_2 E1_3
 clear D
 refine gs 6 (Amb Z0 W) fun _ K6=>?_
 refine .lr rfl 2 E1_0 B2 ?_
 refine .lr rfl 3 E1_1 B3 ?_
 refine .cK rfl Tryz.func58 (fun H=>⟨_,ar2 (H.g 7 0) (H.g 8 1),cOver _ _ (by first | omega | exact zero_norm p0) (by first | omega | exact zero_norm p0)⟩) ?_
 refine .cK rfl Tryz.func30 (fun H=>⟨_,ar1 (H.g 9 2),rNear _ (by first | omega | exact zero_norm p0)⟩) ?_
 refine .al rfl zG ?_
 refine .so rfl 4 (fun H=>⟨H.r 6 4,H.g 10 3⟩) ?_
 refine .dk (fun u=>gV x::gV y::sq u1 0 4 (u 4::sq u 0 4 (us 6))) K6 bel fun u2 w2 D bel=>?_
 obtain ⟨b7,E2_4,A7,B7⟩:=D.st 5
 have N4_7:=D.n1 4 (lt_of B4) E2_4
 have N5_7:=D.n1 4 (lt_of B5) E2_4
 replace B2:=D.k B2
 replace B3:=D.k B3
 replace B4:=D.k B4
 replace B5:=D.k B5
 clear D
 refine wp_seq_k fun _ K8=>?_
 refine go2_drawn (by kernel_rfl) 8 rfl (Amb Z0 W) [(b4,6),(b5,7)] [6,7] (Olds.cons (R0:=fun _=>True) (lt_of B4) (by simp [(Ne.symm N4_5)]) (Olds.one (lt_of B5))) (by kernel_rfl) ?_
 refine .e rfl (fun H=>x_ldr (H.z 6 E2_4) (H.bn B7 (no_cons N4_7 (no_cons N5_7 (no_nil _))))) ?_
 refine .e rfl (fun H=>x_ldr (H.z 2 E1_0) (H.bn B2 (no_cons (Ne.symm N2_4) (no_cons (Ne.symm N2_5) (no_nil _))))) ?_
 refine .e rfl (fun H=>x_ldr (H.z 6 E2_4) (H.bn B7 (no_cons N4_7 (no_cons N5_7 (no_nil _))))) ?_
 refine .e rfl (fun H=>x_ldr (H.z 3 E1_1) (H.bn B3 (no_cons (Ne.symm N3_4) (no_cons (Ne.symm N3_5) (no_nil _))))) ?_
 refine .cK rfl Tryz.func32 (fun H=>⟨_,ar2 (H.g 13 2) (H.g 14 3),cTimes _ _ (by first | omega | exact zero_norm p0)⟩) ?_
 refine .cK rfl Tryz.func63 (fun H=>⟨_,ar2 (H.g 12 1) (H.g 15 4),cMinus _ _ (by first | omega | exact zero_norm p0)⟩) ?_
 refine .sz rfl 0 B4 (lt_of B4) (by intro y k hy; match y,hy with | 0,hy=>rfl | 1,hy=>simp at hy; exact absurd hy.1 (Ne.symm N4_5)) (fun H=>⟨(H.z 4 E1_2),(H.g 11 0)⟩) ?_
 refine .sz rfl 1 B5 (lt_of B5) (by intro y k hy; match y,hy with | 0,hy=>simp at hy; exact absurd hy.1 N4_5 | 1,hy=>rfl) (fun H=>⟨(H.z 5 E1_3),(H.g 16 5)⟩) ?_
 refine .dd (fun u=>⟨List.toArray (gV x::gV y::sq u1 0 4 (u2 4::sq u2 0 4 (sq u 0 6 []))),[]⟩) bel.size fun u3 w3 D=>?_
 replace B4:=D.ol 6
 replace B5:=D.ol 7
 replace bel:=D.d.base.bel bel bel.size (by simp; omega)
 clear D
 refine K8 _ _ ?_
 refine wp_ret ?_
 refine ret_ok rfl (by exact results_rows2 rfl (by exact E1_2) B4 Tryz.underlying30 rfl (by kernel_rfl) (by exact E1_3) B5 Tryz.underlying30 rfl (by kernel_rfl)) (RetV.mk ?_ bel)
 exact congrArg Ending.returned (rfl)
theorem rUnit (k:Int) (p0:0 ≤ k) (p1:k < 4) :
  Calls Tryz.prog 33 #[.int .i64 k] W (RetV (gV (unitC k.toNat)) W):=by
 have bel:=b0 W
 go_enter Tryz.func33,Tryz.ntmps33
 refine gs 1 (Amb Z0 W) fun _ K1=>?_
 refine .al rfl zG ?_
 refine .dk (fun u=>.int .i64 k::U::u 0::us 10) K1 bel fun u1 w1 D bel=>?_
 obtain ⟨b2,E1_0,A2,B2⟩:=D.nw 0
 clear D
 refine wp_seq_k fun _ K3=>?_
 refine wp_region_list ?_
 refine wpT_callKW (V:=gV (Cx.ofInt (1:Int) (0:Int))) (wanted_none rfl _) (ex_call rfl rfl Tryz.func59 (by kernel_rfl) (by kernel_rfl) (by simp only [List.map_toArray,List.map_cons,List.map_nil]; rfl)) (cInt (a:=(1:Int)) (b:=(0:Int))  (by omega) (by omega) (by omega) (by omega)) fun w4 ow4=>?_
 replace B2:=(ow4.block b2 (lt_of B2)).trans B2
 replace bel:=bel.trans (ow4.mono bel.size)
 refine wpList_as (fr (.int .i64 k::U::u1 0::U::gV (Cx.ofInt (1:Int) (0:Int))::us 8)) (by kernel_rfl) ?_
 refine wpT_callKW (V:=gV (Cx.ofInt (0:Int) (1:Int))) (wanted_none rfl _) (ex_call rfl rfl Tryz.func59 (by kernel_rfl) (by kernel_rfl) (by simp only [List.map_toArray,List.map_cons,List.map_nil]; rfl)) (cInt (a:=(0:Int)) (b:=(1:Int))  (by omega) (by omega) (by omega) (by omega)) fun w5 ow5=>?_
 replace B2:=(ow5.block b2 (lt_of B2)).trans B2
 replace bel:=bel.trans (ow5.mono bel.size)
 refine wpList_as (fr (.int .i64 k::U::u1 0::U::gV (Cx.ofInt (1:Int) (0:Int))::gV (Cx.ofInt (0:Int) (1:Int))::us 7)) (by kernel_rfl) ?_
 refine wpT_callKW (V:=gV (Cx.ofInt (-1:Int) (0:Int))) (wanted_none rfl _) (ex_call rfl rfl Tryz.func59 (by kernel_rfl) (by kernel_rfl) (by simp only [List.map_toArray,List.map_cons,List.map_nil]; rfl)) (cInt (a:=(-1:Int)) (b:=(0:Int))  (by omega) (by omega) (by omega) (by omega)) fun w6 ow6=>?_
 replace B2:=(ow6.block b2 (lt_of B2)).trans B2
 replace bel:=bel.trans (ow6.mono bel.size)
 refine wpList_as (fr (.int .i64 k::U::u1 0::U::gV (Cx.ofInt (1:Int) (0:Int))::gV (Cx.ofInt (0:Int) (1:Int))::gV (Cx.ofInt (-1:Int) (0:Int))::us 6)) (by kernel_rfl) ?_
 refine wpT_callKW (V:=gV (Cx.ofInt (0:Int) (-1:Int))) (wanted_none rfl _) (ex_call rfl rfl Tryz.func59 (by kernel_rfl) (by kernel_rfl) (by simp only [List.map_toArray,List.map_cons,List.map_nil]; rfl)) (cInt (a:=(0:Int)) (b:=(-1:Int))  (by omega) (by omega) (by omega) (by omega)) fun w7 ow7=>?_
 replace B2:=(ow7.block b2 (lt_of B2)).trans B2
 replace bel:=bel.trans (ow7.mono bel.size)
 refine wpList_as (fr (.int .i64 k::U::u1 0::U::gV (Cx.ofInt (1:Int) (0:Int))::gV (Cx.ofInt (0:Int) (1:Int))::gV (Cx.ofInt (-1:Int) (0:Int))::gV (Cx.ofInt (0:Int) (-1:Int))::us 5)) (by kernel_rfl) ?_
 refine wpT_lit4 (r0:=rg (Cx.ofInt (1:Int) (0:Int))) (r1:=rg (Cx.ofInt (0:Int) (1:Int))) (r2:=rg (Cx.ofInt (-1:Int) (0:Int))) (r3:=rg (Cx.ofInt (0:Int) (-1:Int))) rfl rfl rfl rfl rfl rfl fun v9 w8 tw8 mw8 ow8=>?_
 obtain ⟨p_q,c_q,cur_q,T_q,fr_q,rfl,y_q,z_q,P_q,B_q,Q_q⟩:=GSl.open tw8
 replace mw8:=mw8 _ _ _ rfl
 have N_q_b2:=Nat.ne_of_lt (Nat.lt_of_lt_of_le (lt_of B2) mw8)
 replace B2:=(ow8.block b2 (lt_of B2)).trans B2
 replace bel:=bel.trans (ow8.mono bel.size)
 replace P_q:=Lib.hid P_q
 have X_q:=GSl.lt B_q
 refine wpList_as (fr (.int .i64 k::U::u1 0::U::gV (Cx.ofInt (1:Int) (0:Int))::gV (Cx.ofInt (0:Int) (1:Int))::gV (Cx.ofInt (-1:Int) (0:Int))::gV (Cx.ofInt (0:Int) (-1:Int))::.slice p_q ([rg (Cx.ofInt (1:Int) (0:Int)),rg (Cx.ofInt (0:Int) (1:Int)),rg (Cx.ofInt (-1:Int) (0:Int)),rg (Cx.ofInt (0:Int) (-1:Int))]).length c_q::us 4)) (by kernel_rfl) ?_
 refine wpT_val rfl (ex_assign rfl) ?_
 refine wpList_as (fr (.int .i64 k::U::u1 0::.slice p_q ([rg (Cx.ofInt (1:Int) (0:Int)),rg (Cx.ofInt (0:Int) (1:Int)),rg (Cx.ofInt (-1:Int) (0:Int)),rg (Cx.ofInt (0:Int) (-1:Int))]).length c_q::gV (Cx.ofInt (1:Int) (0:Int))::gV (Cx.ofInt (0:Int) (1:Int))::gV (Cx.ofInt (-1:Int) (0:Int))::gV (Cx.ofInt (0:Int) (-1:Int))::.slice p_q ([rg (Cx.ofInt (1:Int) (0:Int)),rg (Cx.ofInt (0:Int) (1:Int)),rg (Cx.ofInt (-1:Int) (0:Int)),rg (Cx.ofInt (0:Int) (-1:Int))]).length c_q::us 4)) (by kernel_rfl) ?_
 refine wpList_nil ?_
 show _
 refine K3 _ _ ?_
 refine gs1 5 (Amb Z0 W) 4 B2 fun _ K10=>?_
 refine .mz rfl 3 (V:=.slice p_q ([rg (Cx.ofInt (1:Int) (0:Int)),rg (Cx.ofInt (0:Int) (1:Int)),rg (Cx.ofInt (-1:Int) (0:Int)),rg (Cx.ofInt (0:Int) (-1:Int))]).length c_q) rfl ?_
 refine .mz rfl 0 (V:=.int .i64 k) rfl ?_
 refine Go2.eq (i:=2) rfl (G0 rfl) (V:=.pointer (some ⟨slB p_q,slO p_q + 8 * k.toNat,none⟩)) (by intro u μ ρ H; have e9:=H.g 9 0; have e10:=H.g 10 1; exact ex_index_gl rfl e9 e10 (by first | omega | (simp; done) | (simp; omega)) (by first | omega | (simp; done) | (simp; omega)) P_q.out) ?_
 refine Go2.eq (i:=3) rfl (G0 rfl) (V:=rgV (([rg (Cx.ofInt (1:Int) (0:Int)),rg (Cx.ofInt (0:Int) (1:Int)),rg (Cx.ofInt (-1:Int) (0:Int)),rg (Cx.ofInt (0:Int) (-1:Int))]).getD k.toNat rg0)) (by intro u μ ρ H; have e11:=H.g 11 2; exact ex_load_gl rfl e11 (H.blk (B_q (by first | omega | (simp; done) | (simp; omega))) (Nat.le_refl _) (no_cons N_q_b2 (no_nil _))) Q_q (by first | omega | (simp; done) | (simp; omega))) ?_
 refine .s1 rfl B2 (fun H=>⟨H.z 2 E1_0,H.g 12 3⟩) ?_
 refine .d1 (fun u=>.int .i64 k::U::u1 0::.slice p_q ([rg (Cx.ofInt (1:Int) (0:Int)),rg (Cx.ofInt (0:Int) (1:Int)),rg (Cx.ofInt (-1:Int) (0:Int)),rg (Cx.ofInt (0:Int) (-1:Int))]).length c_q::gV (Cx.ofInt (1:Int) (0:Int))::gV (Cx.ofInt (0:Int) (1:Int))::gV (Cx.ofInt (-1:Int) (0:Int))::gV (Cx.ofInt (0:Int) (-1:Int))::.slice p_q ([rg (Cx.ofInt (1:Int) (0:Int)),rg (Cx.ofInt (0:Int) (1:Int)),rg (Cx.ofInt (-1:Int) (0:Int)),rg (Cx.ofInt (0:Int) (-1:Int))]).length c_q::sq u 0 4 []) K10 bel A2 fun u3 w3 D bel=>?_
 replace B2:=D.ol 4
 replace B_q:=fun h=>D.kk (B_q h) (no_cons N_q_b2 (no_nil _))
 clear D
 exact wp_ret (rr rfl E1_0 B2 (unit_row p0 p1) bel)
theorem rFirst (x:Cx) (p0:ht x.re + ht x.im ≤ 8589934592) :
  Calls Tryz.prog 31 #[gV x] W (RetV (.int .i64 (firstC x)) W):=by
 have u0:=ht_unit
 have bel:=b0 W
 go_enter Tryz.func31,Tryz.ntmps31
 refine gs 2 (Amb Z0 W) fun _ K1=>?_
 refine .bx rfl (fun H=>H.v 0 (gV x)) ?_
 refine .mc rfl ?_
 refine .dk (fun u=>gV x::u 0::u 1::us 21) K1 bel fun u1 w1 D bel=>?_
 obtain ⟨b2,E1_0,A2,B2⟩:=D.nw 0
 have E1_1:=D.q 1
 clear D
 refine wp_seq_k fun _ K3=>?_
 refine gs 1 (Amb Z0 W) fun _ K4=>?_
 refine .mc rfl ?_
 refine .dk (fun u=>gV x::u1 0::u1 1::u 0::us 20) K4 bel fun u2 w2 D bel=>?_
 have E2_0:=D.q 0
 replace B2:=D.k B2
 clear D
 refine wp_block ?_
 refine wp_loop_ghost_k (fun n_ a_ w_=>∃ d2:Value,∃ s3:Value,∃ d4:Value,∃ d5:Value,∃ d6:Value,∃ d7:Value,∃ d8:Value,∃ d9:Value,∃ d10:Value,∃ d11:Value,∃ d12:Value,∃ d13:Value,∃ d14:Value,∃ d15:Value,∃ d16:Value,∃ d17:Value,∃ d18:Value,∃ d19:Value,∃ d20:Value,∃ d21:Value,∃ d22:Value,∃ d23:Value,∃ k:Int,a_ = fr (gV x::u1 0::d2::s3::d4::d5::d6::d7::d8::d9::d10::d11::d12::d13::d14::d15::d16::d17::d18::d19::d20::d21::d22::d23::[]) ∧ n_ = ((4:Int) - k).toNat ∧ 0 ≤ k ∧ k ≤ 4 ∧ (∀ j:Nat,(j:Int) < k → good x j = false) ∧ s3 = .int .i64 k ∧ w_.heap[b2]? = some (.cells #[.bool (decide (x.re.num < 0)),.string (bS x.re.num.natAbs),.bool (decide ((x.re.den:Int) < 0)),.string (bS (x.re.den:Int).natAbs),.bool (decide (x.im.num < 0)),.string (bS x.im.num.natAbs),.bool (decide ((x.im.den:Int) < 0)),.string (bS (x.im.den:Int).natAbs)] 30 (0,0)) ∧ RowKit.Below W.heap.size W w_) (((4:Int) - 0).toNat) ⟨_,_,_,_,_,_,_,_,_,_,_,_,_,_,_,_,_,_,_,_,_,_,0,rfl,rfl,by first | omega | (intro j hj; omega),by first | omega | (intro j hj; omega),by first | omega | (intro j hj; omega),(by exact E2_0),B2,bel⟩ ?_
 clear B2 bel
 rintro n_ _ w5 ⟨d2,s3,d4,d5,d6,d7,d8,d9,d10,d11,d12,d13,d14,d15,d16,d17,d18,d19,d20,d21,d22,d23,k,rfl,hn8,i0,i1,i2,rfl,B2,bel⟩ J6 K7 hJ6 hK7
 refine wp_seq_k fun _ K9=>?_
 refine gs 2 (Amb Z0 W) fun _ K10=>?_
 refine .mz rfl 3 (V:=.int .i64 k) rfl ?_
 refine .e rfl (V:=.bool (decide (k < 4))) (fun H=>x_cmp (H.g 5 0) (H.c _)) ?_
 refine .dk (fun u=>gV x::u1 0::d2::.int .i64 k::d4::u 0::u 1::d7::d8::d9::d10::d11::d12::d13::d14::d15::d16::d17::d18::d19::d20::d21::d22::d23::[]) K10 bel fun u3 w3 D bel=>?_
 have E3_0:=D.q 0
 have E3_1:=D.q 1
 replace B2:=D.k B2
 clear D
 rcases Bool.eq_false_or_eq_true (decide (k < 4)) with c11 | c11
 ·
  refine wp_cond_true ((E3_1).trans (congrArg Value.bool c11)) ?_
  have dc11:=of_decide_eq_true c11
  refine wp_skip ?_
  refine K9 _ _ ?_
  refine wp_seq_k fun _ K12=>?_
  refine wp_block ?_
  refine gd 6 (Amb Z0 W) fun _ K13=>?_
  refine .lr rfl 1 E1_0 B2 ?_
  refine .mz rfl 3 (V:=.int .i64 k) rfl ?_
  refine .cK rfl Tryz.func33 (fun H=>⟨_,ar1 (H.g 10 1),rUnit _ (by first | omega | (have u1:=u0 k.toNat; omega)) (by first | omega | (have u1:=u0 k.toNat; omega))⟩) ?_
  refine .cK rfl Tryz.func32 (fun H=>⟨_,ar2 (H.g 9 0) (H.g 11 2),cTimes _ _ (by first | omega | (have u1:=u0 k.toNat; omega))⟩) ?_
  refine .al rfl zG ?_
  refine .so rfl 4 (fun H=>⟨H.r 4 4,H.g 12 3⟩) ?_
  refine .dk (fun u=>gV x::u1 0::d2::.int .i64 k::u 4::u3 0::u3 1::d7::d8::sq u 0 4 (d13::d14::d15::d16::d17::d18::d19::d20::d21::d22::d23::[])) K13 bel fun u4 w4 D bel=>?_
  obtain ⟨b14,E4_4,A14,B14⟩:=D.st 5
  have E4_0:=D.q 0
  have E4_1:=D.q 1
  have E4_2:=D.q 2
  have E4_3:=D.q 3
  replace B2:=D.k B2
  clear D
  rcases Bool.eq_false_or_eq_true (decide (0 < (((x.mul (unitC k.toNat)).re).num.sign))) with c16 | c16
  ·
   have dc16:=of_decide_eq_true c16
   refine gs 10 (Amb Z0 W) fun _ K15=>?_
   refine .fz rfl 4 0 E4_4 ?_
   refine .lp rfl 0 (fC ((x.mul (unitC k.toNat)).re)) B14 ?_
   refine .cK rfl Tryz.func84 (fun H=>⟨_,ar1 (H.g 14 1),fSign _⟩) ?_
   refine .e rfl (V:=.bool true) (fun H=>x_cm (H.g 15 2) (H.c _) c16) ?_
   refine .mv rfl 3 ?_
   refine .fz rfl 4 4 E4_4 ?_ (hg:=gq 4 rfl)
   refine .lp rfl 5 (fC ((x.mul (unitC k.toNat)).im)) B14 ?_ (hg:=gq 4 rfl)
   refine .cK rfl Tryz.func84 (fun H=>⟨_,ar1 (H.g 19 6),fSign _⟩) ?_ (hg:=gq 4 rfl)
   refine .e rfl (V:=.bool (decide (0 ≤ (((x.mul (unitC k.toNat)).im).num.sign)))) (fun H=>x_cmp (H.g 20 7) (H.c _)) ?_ (hg:=gq 4 rfl)
   refine .e rfl (fun H=>x_pkT (H.g 17 4) (H.g 21 8)) ?_
   refine .dk (fun u=>gV x::u1 0::d2::.int .i64 k::u4 4::u3 0::u3 1::d7::d8::sq u4 0 4 (sq u 0 10 (d23::[]))) K15 bel fun u5 w5 D bel=>?_
   have E5_0:=D.q 0
   have E5_1:=D.q 1
   have E5_2:=D.q 2
   have E5_3:=D.q 3
   have E5_4:=D.q 4
   have E5_5:=D.q 5
   have E5_6:=D.q 6
   have E5_7:=D.q 7
   have E5_8:=D.q 8
   have E5_9:=D.q 9
   replace B2:=D.k B2
   replace B14:=D.k B14
   clear D
   rcases Bool.eq_false_or_eq_true (decide (0 ≤ (((x.mul (unitC k.toNat)).im).num.sign))) with c17 | c17
   ·
    refine wp_cond_true ((E5_9).trans (congrArg Value.bool c17)) ?_
    have dc17:=of_decide_eq_true c17
    refine gs 2 (Amb Z0 W) fun _ K18=>?_
    refine .mz rfl 3 (V:=.int .i64 k) rfl ?_
    refine .mv rfl 0 ?_
    refine .dk (fun u=>gV x::u1 0::u 1::.int .i64 k::u4 4::u3 0::u3 1::d7::d8::sq u4 0 4 (sq u5 0 10 (u 0::[]))) K18 bel fun u6 w6 D bel=>?_
    have E6_1:=D.q 1
    clear D
    exact wp_ret (rt rfl E6_1 (first_at i0 i2 dc11 c16 c17) bel)
   ·
    refine wp_cond_false ((E5_9).trans (congrArg Value.bool c17)) ?_
    have dc17:=of_decide_eq_false c17
    refine wp_skip ?_
    refine inBlock_normal ?_
    refine K12 _ _ ?_
    refine wp_region_list ?_
    refine wpT_val rfl (ex_move rfl) ?_
    refine wpT_val (v:=.int .i64 (k + 1)) rfl (by have aw_:IntKind.wrap .i64 (k + 1) = k + 1:=IntWalk.i64_in _ (by omega); go_simp) ?_
    refine wpT_val rfl (ex_assign rfl) ?_
    refine wpList_nil ?_
    show _
    refine hK7 _ _ (Handed.intro (((4:Int) - (k + 1)).toNat) (by rw [hn8]; omega) (hJ6 _ _ _ ⟨_,_,_,_,_,_,_,_,_,_,_,_,_,_,_,_,_,_,_,_,_,_,k + 1,rfl,rfl,by first | omega | exact first_step i0 i2 (good_no1 c16) | exact first_step i0 i2 (good_no2 c17),by first | omega | exact first_step i0 i2 (good_no1 c16) | exact first_step i0 i2 (good_no2 c17),by first | omega | exact first_step i0 i2 (good_no1 c16) | exact first_step i0 i2 (good_no2 c17),rfl,B2,bel⟩))
  ·
   have dc16:=of_decide_eq_false c16
   refine gs 10 (Amb Z0 W) fun _ K15=>?_
   refine .fz rfl 4 0 E4_4 ?_
   refine .lp rfl 0 (fC ((x.mul (unitC k.toNat)).re)) B14 ?_
   refine .cK rfl Tryz.func84 (fun H=>⟨_,ar1 (H.g 14 1),fSign _⟩) ?_
   refine .e rfl (V:=.bool false) (fun H=>x_cm (H.g 15 2) (H.c _) c16) ?_
   refine .mv rfl 3 ?_
   refine .sk rfl 4 ?_
   refine .sk rfl 4 ?_
   refine .sk rfl 4 ?_
   refine .sk rfl 4 ?_
   refine .e rfl (fun H=>x_pkF (H.g 17 4) (H.c _)) ?_
   refine .dk (fun u=>gV x::u1 0::d2::.int .i64 k::u4 4::u3 0::u3 1::d7::d8::sq u4 0 4 (sq u 0 10 (d23::[]))) K15 bel fun u5 w5 D bel=>?_
   have E5_0:=D.q 0
   have E5_1:=D.q 1
   have E5_2:=D.q 2
   have E5_3:=D.q 3
   have E5_4:=D.q 4
   have E5_9:=D.q 9
   replace B2:=D.k B2
   replace B14:=D.k B14
   clear D
   refine wp_cond_false (by exact E5_9) ?_
   refine wp_skip ?_
   refine inBlock_normal ?_
   refine K12 _ _ ?_
   refine wp_region_list ?_
   refine wpT_val rfl (ex_move rfl) ?_
   refine wpT_val (v:=.int .i64 (k + 1)) rfl (by have aw_:IntKind.wrap .i64 (k + 1) = k + 1:=IntWalk.i64_in _ (by omega); go_simp) ?_
   refine wpT_val rfl (ex_assign rfl) ?_
   refine wpList_nil ?_
   show _
   refine hK7 _ _ (Handed.intro (((4:Int) - (k + 1)).toNat) (by rw [hn8]; omega) (hJ6 _ _ _ ⟨_,_,_,_,_,_,_,_,_,_,_,_,_,_,_,_,_,_,_,_,_,_,k + 1,rfl,rfl,by first | omega | exact first_step i0 i2 (good_no1 c16) | exact first_step i0 i2 (good_no2 x_x),by first | omega | exact first_step i0 i2 (good_no1 c16) | exact first_step i0 i2 (good_no2 x_x),by first | omega | exact first_step i0 i2 (good_no1 c16) | exact first_step i0 i2 (good_no2 x_x),rfl,B2,bel⟩))
 ·
  refine wp_cond_false ((E3_1).trans (congrArg Value.bool c11)) ?_
  have dc11:=of_decide_eq_false c11
  refine wp_exit ?_
  refine then_exit ?_
  refine then_exit ?_
  refine inBlock_here ?_
  refine K3 _ _ ?_
  refine gs 1 (Amb Z0 W) fun _ K19=>?_
  refine .mc rfl ?_
  refine .dk (fun u=>gV x::u1 0::u 0::.int .i64 k::d4::u3 0::u3 1::d7::d8::d9::d10::d11::d12::d13::d14::d15::d16::d17::d18::d19::d20::d21::d22::d23::[]) K19 bel fun u7 w7 D bel=>?_
  have E7_0:=D.q 0
  clear D
  exact wp_ret (rt rfl E7_0 (first_end i1 i2 dc11) bel)
theorem rLess (x:Cx × Cx × Cx) (q:Cx) (y:Cx × Cx × Cx) (p0:ht x.1.re + ht x.1.im + ht x.2.1.re + ht x.2.1.im + ht x.2.2.re + ht x.2.2.im + ht q.re + ht q.im + ht y.1.re + ht y.1.im + ht y.2.1.re + ht y.2.1.im + ht y.2.2.re + ht y.2.2.im ≤ 1073741824) :
  Calls Tryz.prog 88 #[tV x,gV q,tV y] W (RetV (tV (x.1.sub (q.mul y.1),x.2.1.sub (q.mul y.2.1),x.2.2.sub (q.mul y.2.2))) W):=by
 have k1:=hc_mul q y.1
 have k2:=hc_mul q y.2.1
 have k3:=hc_mul q y.2.2
 have bel:=b0 W
 go_enter Tryz.func88,Tryz.ntmps88
 refine gs 4 (Amb Z0 W) fun _ K1=>?_
 refine .bx rfl (fun H=>H.v 0 (tV x)) ?_
 refine .bx rfl (fun H=>H.v 1 (gV q)) ?_
 refine .bx rfl (fun H=>H.v 2 (tV y)) ?_
 refine .al rfl zT ?_
 refine .dk (fun u=>tV x::gV q::tV y::sq u 0 4 (us 22)) K1 bel fun u1 w1 D bel=>?_
 obtain ⟨b2,E1_0,A2,B2⟩:=D.nw 0
 obtain ⟨b3,E1_1,A3,B3⟩:=D.nw 1
 obtain ⟨b4,E1_2,A4,B4⟩:=D.nw 2
 obtain ⟨b5,E1_3,A5,B5⟩:=D.nw 3
 have N2_5:=D.n2 0 3 E1_0 E1_3
 have N3_5:=D.n2 1 3 E1_1 E1_3
 have N4_5:=D.n2 2 3 E1_2 E1_3
 clear D
 refine gd1 23 (Amb Z0 W) 22 B5 fun _ K6=>?_
 refine .fz rfl 3 0 E1_0 ?_
 refine .e rfl (V:=gV x.1) (fun H=>x_ldp (H.g 7 0) (H.b1 B2 (Ne.symm N2_5))) ?_
 refine .e rfl (fun H=>x_ldr (H.z 4 E1_1) (H.b1 B3 (Ne.symm N3_5))) ?_
 refine .fz rfl 5 0 E1_2 ?_
 refine .e rfl (V:=gV y.1) (fun H=>x_ldp (H.g 10 3) (H.b1 B4 (Ne.symm N4_5))) ?_
 refine .cK rfl Tryz.func32 (fun H=>⟨_,ar2 (H.g 9 2) (H.g 11 4),cTimes _ _ (by omega)⟩) ?_
 refine .cK rfl Tryz.func63 (fun H=>⟨_,ar2 (H.g 8 1) (H.g 12 5),cMinus _ _ (by omega)⟩) ?_
 refine .fz rfl 3 8 E1_0 ?_
 refine .e rfl (V:=gV x.2.1) (fun H=>x_ldp (H.g 14 7) (H.b1 B2 (Ne.symm N2_5))) ?_
 refine .e rfl (fun H=>x_ldr (H.z 4 E1_1) (H.b1 B3 (Ne.symm N3_5))) ?_
 refine .fz rfl 5 8 E1_2 ?_
 refine .e rfl (V:=gV y.2.1) (fun H=>x_ldp (H.g 17 10) (H.b1 B4 (Ne.symm N4_5))) ?_
 refine .cK rfl Tryz.func32 (fun H=>⟨_,ar2 (H.g 16 9) (H.g 18 11),cTimes _ _ (by omega)⟩) ?_
 refine .cK rfl Tryz.func63 (fun H=>⟨_,ar2 (H.g 15 8) (H.g 19 12),cMinus _ _ (by omega)⟩) ?_
 refine .fz rfl 3 16 E1_0 ?_
 refine .e rfl (V:=gV x.2.2) (fun H=>x_ldp (H.g 21 14) (H.b1 B2 (Ne.symm N2_5))) ?_
 refine .e rfl (fun H=>x_ldr (H.z 4 E1_1) (H.b1 B3 (Ne.symm N3_5))) ?_
 refine .fz rfl 5 16 E1_2 ?_
 refine .e rfl (V:=gV y.2.2) (fun H=>x_ldp (H.g 24 17) (H.b1 B4 (Ne.symm N4_5))) ?_
 refine .cK rfl Tryz.func32 (fun H=>⟨_,ar2 (H.g 23 16) (H.g 25 18),cTimes _ _ (by omega)⟩) ?_
 refine .cK rfl Tryz.func63 (fun H=>⟨_,ar2 (H.g 22 15) (H.g 26 19),cMinus _ _ (by omega)⟩) ?_
 refine .e rfl (V:=tV (x.1.sub (q.mul y.1),x.2.1.sub (q.mul y.2.1),x.2.2.sub (q.mul y.2.2))) (fun H=>by have e13:=H.g 13 6; have e20:=H.g 20 13; have e27:=H.g 27 20; clear H; go_simp) ?_
 refine .s1 rfl B5 (fun H=>⟨H.z 6 E1_3,H.g 28 21⟩) ?_
 refine .d1 (fun u=>tV x::gV q::tV y::sq u1 0 4 (sq u 0 22 [])) K6 bel A5 fun u2 w2 D bel=>?_
 replace B5:=D.ol 22
 clear D
 exact wp_ret (rr rfl E1_3 B5 rfl bel)
theorem rComb {N:Nat} {r:Cx × Cx × Cx} (x:Cx) (y:Cx) (p0:combC N x (Cx.ofInt (1:Int) (0:Int)) (Cx.ofInt (0:Int) (0:Int)) y (Cx.ofInt (0:Int) (0:Int)) (Cx.ofInt (1:Int) (0:Int)) = some r) :
  Calls Tryz.prog 34 #[gV x,gV y] W (RetV (tV (r.1.mul (unitC (firstC r.1).toNat),r.2.1.mul (unitC (firstC r.1).toNat),r.2.2.mul (unitC (firstC r.1).toNat))) W):=by
 have u0:=ht_unit
 have bel:=b0 W
 go_enter Tryz.func34,Tryz.ntmps34
 refine gs 3 (Amb Z0 W) fun _ K1=>?_
 refine .bx rfl (fun H=>H.v 0 (gV x)) ?_
 refine .bx rfl (fun H=>H.v 1 (gV y)) ?_
 refine .al rfl zT ?_
 refine .dk (fun u=>gV x::gV y::sq u 0 3 (us 51)) K1 bel fun u1 w1 D bel=>?_
 obtain ⟨b2,E1_0,A2,B2⟩:=D.nw 0
 obtain ⟨b3,E1_1,A3,B3⟩:=D.nw 1
 obtain ⟨b4,E1_2,A4,B4⟩:=D.nw 2
 have N2_4:=D.n2 0 2 E1_0 E1_2
 have N3_4:=D.n2 1 2 E1_1 E1_2
 clear D
 refine gs 6 (Amb Z0 W) fun _ K5=>?_
 refine .cK rfl Tryz.func59 (fun H=>⟨_,ar2 (H.c (.int .i64 1)) (H.c (.int .i64 0)),cInt _ _ (by first | omega | (have k0:=comb_bd i0; have k1:=hc_mul (p.1.div q.1).near q.1; have k2:=hc_mul (p.1.div q.1).near q.2.1; have k3:=hc_mul (p.1.div q.1).near q.2.2; have k4:=u0 (firstC p.1).toNat; omega) | (have k5:=firstC_cases p.1; omega) | exact ntD x_x) (by first | omega | (have k0:=comb_bd i0; have k1:=hc_mul (p.1.div q.1).near q.1; have k2:=hc_mul (p.1.div q.1).near q.2.1; have k3:=hc_mul (p.1.div q.1).near q.2.2; have k4:=u0 (firstC p.1).toNat; omega) | (have k5:=firstC_cases p.1; omega) | exact ntD x_x) (by first | omega | (have k0:=comb_bd i0; have k1:=hc_mul (p.1.div q.1).near q.1; have k2:=hc_mul (p.1.div q.1).near q.2.1; have k3:=hc_mul (p.1.div q.1).near q.2.2; have k4:=u0 (firstC p.1).toNat; omega) | (have k5:=firstC_cases p.1; omega) | exact ntD x_x) (by first | omega | (have k0:=comb_bd i0; have k1:=hc_mul (p.1.div q.1).near q.1; have k2:=hc_mul (p.1.div q.1).near q.2.1; have k3:=hc_mul (p.1.div q.1).near q.2.2; have k4:=u0 (firstC p.1).toNat; omega) | (have k5:=firstC_cases p.1; omega) | exact ntD x_x)⟩) ?_
 refine .cK rfl Tryz.func59 (fun H=>⟨_,ar2 (H.c (.int .i64 0)) (H.c (.int .i64 0)),cInt _ _ (by first | omega | (have k0:=comb_bd i0; have k1:=hc_mul (p.1.div q.1).near q.1; have k2:=hc_mul (p.1.div q.1).near q.2.1; have k3:=hc_mul (p.1.div q.1).near q.2.2; have k4:=u0 (firstC p.1).toNat; omega) | (have k5:=firstC_cases p.1; omega) | exact ntD x_x) (by first | omega | (have k0:=comb_bd i0; have k1:=hc_mul (p.1.div q.1).near q.1; have k2:=hc_mul (p.1.div q.1).near q.2.1; have k3:=hc_mul (p.1.div q.1).near q.2.2; have k4:=u0 (firstC p.1).toNat; omega) | (have k5:=firstC_cases p.1; omega) | exact ntD x_x) (by first | omega | (have k0:=comb_bd i0; have k1:=hc_mul (p.1.div q.1).near q.1; have k2:=hc_mul (p.1.div q.1).near q.2.1; have k3:=hc_mul (p.1.div q.1).near q.2.2; have k4:=u0 (firstC p.1).toNat; omega) | (have k5:=firstC_cases p.1; omega) | exact ntD x_x) (by first | omega | (have k0:=comb_bd i0; have k1:=hc_mul (p.1.div q.1).near q.1; have k2:=hc_mul (p.1.div q.1).near q.2.1; have k3:=hc_mul (p.1.div q.1).near q.2.2; have k4:=u0 (firstC p.1).toNat; omega) | (have k5:=firstC_cases p.1; omega) | exact ntD x_x)⟩) ?_
 refine .al rfl zG ?_
 refine .al rfl zG ?_
 refine .so rfl 2 (fun H=>⟨H.r 5 2,H.g 12 0⟩) ?_
 refine .so rfl 3 (fun H=>⟨H.r 6 3,H.g 13 1⟩) ?_
 refine .dk (fun u=>gV x::gV y::sq u1 0 3 (u 2::u 3::U::U::U::U::U::u 0::u 1::us 42)) K5 bel fun u2 w2 D bel=>?_
 obtain ⟨b6,E2_2,A6,B6⟩:=D.st 4
 obtain ⟨b7,E2_3,A7,B7⟩:=D.st 5
 have N4_6:=D.n1 2 (lt_of B4) E2_2
 have N4_7:=D.n1 3 (lt_of B4) E2_3
 replace B2:=D.k B2
 replace B3:=D.k B3
 replace B4:=D.k B4
 clear D
 refine gs 6 (Amb Z0 W) fun _ K8=>?_
 refine .lr rfl 2 E1_0 B2 ?_
 refine .lr rfl 5 E2_2 B6 ?_
 refine .lr rfl 6 E2_3 B7 ?_
 refine .e rfl (V:=tV (x,Cx.ofInt (1:Int) (0:Int),Cx.ofInt (0:Int) (0:Int))) (fun H=>by have e14:=H.g 14 0; have e15:=H.g 15 1; have e16:=H.g 16 2; clear H; go_simp) ?_
 refine .al rfl zT ?_
 refine .so rfl 4 (fun H=>⟨H.r 7 4,H.g 17 3⟩) ?_
 refine .dk (fun u=>gV x::gV y::sq u1 0 3 (u2 2::u2 3::u 4::U::U::U::U::u2 0::u2 1::sq u 0 4 (us 38))) K8 bel fun u3 w3 D bel=>?_
 obtain ⟨b9,E3_4,A9,B9⟩:=D.st 5
 have N2_9:=D.n1 4 (lt_of B2) E3_4
 have N3_9:=D.n1 4 (lt_of B3) E3_4
 have N4_9:=D.n1 4 (lt_of B4) E3_4
 have N6_9:=D.n1 4 (lt_of B6) E3_4
 have N7_9:=D.n1 4 (lt_of B7) E3_4
 replace B3:=D.k B3
 replace B4:=D.k B4
 replace B6:=D.k B6
 replace B7:=D.k B7
 clear D
 refine gs 6 (Amb Z0 W) fun _ K10=>?_
 refine .lr rfl 3 E1_1 B3 ?_
 refine .lr rfl 6 E2_3 B7 ?_
 refine .lr rfl 5 E2_2 B6 ?_
 refine .e rfl (V:=tV (y,Cx.ofInt (0:Int) (0:Int),Cx.ofInt (1:Int) (0:Int))) (fun H=>by have e18:=H.g 18 0; have e19:=H.g 19 1; have e20:=H.g 20 2; clear H; go_simp) ?_
 refine .al rfl zT ?_
 refine .so rfl 4 (fun H=>⟨H.r 8 4,H.g 21 3⟩) ?_
 refine .dk (fun u=>gV x::gV y::sq u1 0 3 (u2 2::u2 3::u3 4::u 4::U::U::U::u2 0::u2 1::sq u3 0 4 (sq u 0 4 (us 34)))) K10 bel fun u4 w4 D bel=>?_
 obtain ⟨b11,E4_4,A11,B11⟩:=D.st 5
 have N3_11:=D.n1 4 (lt_of B3) E4_4
 have N4_11:=D.n1 4 (lt_of B4) E4_4
 have N6_11:=D.n1 4 (lt_of B6) E4_4
 have N7_11:=D.n1 4 (lt_of B7) E4_4
 have N9_11:=D.n1 4 (lt_of B9) E4_4
 replace B4:=D.k B4
 replace B9:=D.k B9
 clear D
 refine wp_seq_k fun _ K12=>?_
 refine wp_block ?_
 refine wp_loop_ghost_k (fun n_ a_ w_=>∃ d9:Value,∃ d10:Value,∃ d22:Value,∃ d23:Value,∃ d24:Value,∃ d25:Value,∃ d26:Value,∃ d27:Value,∃ d28:Value,∃ d29:Value,∃ d30:Value,∃ d31:Value,∃ d32:Value,∃ d33:Value,∃ d34:Value,∃ d35:Value,∃ d36:Value,∃ d37:Value,∃ d38:Value,∃ n:Nat,∃ p:Cx × Cx × Cx,∃ q:Cx × Cx × Cx,a_ = fr (gV x::gV y::sq u1 0 3 (u2 2::u2 3::u3 4::u4 4::d9::d10::U::u2 0::u2 1::sq u3 0 4 (sq u4 0 4 (d22::d23::d24::d25::d26::d27::d28::d29::d30::d31::d32::d33::d34::d35::d36::d37::d38::us 17)))) ∧ n_ = n ∧ combC n p.1 p.2.1 p.2.2 q.1 q.2.1 q.2.2 = some r ∧ w_.heap[b11]? = some (.cells #[.bool (decide (q.1.re.num < 0)),.string (bS q.1.re.num.natAbs),.bool (decide ((q.1.re.den:Int) < 0)),.string (bS (q.1.re.den:Int).natAbs),.bool (decide (q.1.im.num < 0)),.string (bS q.1.im.num.natAbs),.bool (decide ((q.1.im.den:Int) < 0)),.string (bS (q.1.im.den:Int).natAbs),.bool (decide (q.2.1.re.num < 0)),.string (bS q.2.1.re.num.natAbs),.bool (decide ((q.2.1.re.den:Int) < 0)),.string (bS (q.2.1.re.den:Int).natAbs),.bool (decide (q.2.1.im.num < 0)),.string (bS q.2.1.im.num.natAbs),.bool (decide ((q.2.1.im.den:Int) < 0)),.string (bS (q.2.1.im.den:Int).natAbs),.bool (decide (q.2.2.re.num < 0)),.string (bS q.2.2.re.num.natAbs),.bool (decide ((q.2.2.re.den:Int) < 0)),.string (bS (q.2.2.re.den:Int).natAbs),.bool (decide (q.2.2.im.num < 0)),.string (bS q.2.2.im.num.natAbs),.bool (decide ((q.2.2.im.den:Int) < 0)),.string (bS (q.2.2.im.den:Int).natAbs)] 69 (0,0)) ∧ w_.heap[b4]? = some (.cells #[.bool false,.string ⟨#[]⟩,.bool false,.string ⟨#[]⟩,.bool false,.string ⟨#[]⟩,.bool false,.string ⟨#[]⟩,.bool false,.string ⟨#[]⟩,.bool false,.string ⟨#[]⟩,.bool false,.string ⟨#[]⟩,.bool false,.string ⟨#[]⟩,.bool false,.string ⟨#[]⟩,.bool false,.string ⟨#[]⟩,.bool false,.string ⟨#[]⟩,.bool false,.string ⟨#[]⟩] 69 (0,0)) ∧ w_.heap[b9]? = some (.cells #[.bool (decide (p.1.re.num < 0)),.string (bS p.1.re.num.natAbs),.bool (decide ((p.1.re.den:Int) < 0)),.string (bS (p.1.re.den:Int).natAbs),.bool (decide (p.1.im.num < 0)),.string (bS p.1.im.num.natAbs),.bool (decide ((p.1.im.den:Int) < 0)),.string (bS (p.1.im.den:Int).natAbs),.bool (decide (p.2.1.re.num < 0)),.string (bS p.2.1.re.num.natAbs),.bool (decide ((p.2.1.re.den:Int) < 0)),.string (bS (p.2.1.re.den:Int).natAbs),.bool (decide (p.2.1.im.num < 0)),.string (bS p.2.1.im.num.natAbs),.bool (decide ((p.2.1.im.den:Int) < 0)),.string (bS (p.2.1.im.den:Int).natAbs),.bool (decide (p.2.2.re.num < 0)),.string (bS p.2.2.re.num.natAbs),.bool (decide ((p.2.2.re.den:Int) < 0)),.string (bS (p.2.2.re.den:Int).natAbs),.bool (decide (p.2.2.im.num < 0)),.string (bS p.2.2.im.num.natAbs),.bool (decide ((p.2.2.im.den:Int) < 0)),.string (bS (p.2.2.im.den:Int).natAbs)] 69 (0,0)) ∧ RowKit.Below W.heap.size W w_) N ⟨_,_,_,_,_,_,_,_,_,_,_,_,_,_,_,_,_,_,_,N,(x,Cx.ofInt (1:Int) (0:Int),Cx.ofInt (0:Int) (0:Int)),(y,Cx.ofInt (0:Int) (0:Int),Cx.ofInt (1:Int) (0:Int)),rfl,rfl,by exact p0,B11,B4,B9,bel⟩ ?_
 clear B11 B4 B9 bel
 rintro n_ _ w13 ⟨d9,d10,d22,d23,d24,d25,d26,d27,d28,d29,d30,d31,d32,d33,d34,d35,d36,d37,d38,n,p,q,rfl,hn16,i0,B11,B4,B9,bel⟩ J14 K15 hJ14 hK15
 refine wp_seq_k fun _ K17=>?_
 refine gs 4 (Amb Z0 W) fun _ K18=>?_
 refine .fz rfl 8 0 E4_4 ?_
 refine .lp rfl 0 (gC q.1) B11 ?_
 refine .cK rfl Tryz.func35 (fun H=>⟨_,ar1 (H.g 23 1),cZero _⟩) ?_
 refine .e rfl (V:=.bool (!q.1.zero)) (fun H=>x_not (H.g 24 2)) ?_
 refine .dk (fun u=>gV x::gV y::sq u1 0 3 (u2 2::u2 3::u3 4::u4 4::d9::d10::U::u2 0::u2 1::sq u3 0 4 (sq u4 0 4 (sq u 0 4 (d26::d27::d28::d29::d30::d31::d32::d33::d34::d35::d36::d37::d38::us 17))))) K18 bel fun u5 w5 D bel=>?_
 have E5_0:=D.q 0
 have E5_1:=D.q 1
 have E5_2:=D.q 2
 have E5_3:=D.q 3
 replace B4:=D.k B4
 replace B9:=D.k B9
 replace B11:=D.k B11
 clear D
 rcases Bool.eq_false_or_eq_true (!q.1.zero) with c19 | c19
 ·
  refine wp_cond_true ((E5_3).trans (congrArg Value.bool c19)) ?_
  refine wp_skip ?_
  refine K17 _ _ ?_
  refine wp_block ?_
  refine gs 12 (Amb Z0 W) fun _ K20=>?_
  refine .fz rfl 7 0 E3_4 ?_
  refine .lp rfl 0 (gC p.1) B9 ?_
  refine .fz rfl 8 0 E4_4 ?_
  refine .lp rfl 2 (gC q.1) B11 ?_
  refine .cK rfl Tryz.func36 (fun H=>⟨_,ar2 (H.g 28 1) (H.g 30 3),rDiv _ _ (by first | omega | (have k0:=comb_bd i0; have k1:=hc_mul (p.1.div q.1).near q.1; have k2:=hc_mul (p.1.div q.1).near q.2.1; have k3:=hc_mul (p.1.div q.1).near q.2.2; have k4:=u0 (firstC p.1).toNat; omega) | (have k5:=firstC_cases p.1; omega) | exact ntD c19) (by first | omega | (have k0:=comb_bd i0; have k1:=hc_mul (p.1.div q.1).near q.1; have k2:=hc_mul (p.1.div q.1).near q.2.1; have k3:=hc_mul (p.1.div q.1).near q.2.2; have k4:=u0 (firstC p.1).toNat; omega) | (have k5:=firstC_cases p.1; omega) | exact ntD c19)⟩) ?_
  refine .mv rfl 4 ?_
  refine .e rfl (V:=gV ((p.1.div q.1).near)) (fun H=>x_ex (H.g 26 5)) ?_
  refine .e rfl (V:=gV (p.1.sub ((p.1.div q.1).near.mul q.1))) (fun H=>x_ex (H.g 26 5)) ?_
  refine .al rfl zG ?_
  refine .al rfl zG ?_
  refine .so rfl 8 (fun H=>⟨H.r 9 8,H.g 32 6⟩) ?_
  refine .so rfl 9 (fun H=>⟨H.r 10 9,H.g 33 7⟩) ?_
  refine .dk (fun u=>gV x::gV y::sq u1 0 3 (u2 2::u2 3::u3 4::u4 4::u 8::u 9::U::u2 0::u2 1::sq u3 0 4 (sq u4 0 4 (sq u5 0 4 (u 5::sq u 0 5 (u 6::u 7::d34::d35::d36::d37::d38::us 17)))))) K20 bel fun u6 w6 D bel=>?_
  obtain ⟨b21,E6_8,A21,B21⟩:=D.st 10
  obtain ⟨b22,E6_9,A22,B22⟩:=D.st 11
  have E6_0:=D.q 0
  have E6_1:=D.q 1
  have E6_2:=D.q 2
  have E6_3:=D.q 3
  have E6_4:=D.q 4
  have E6_5:=D.q 5
  have E6_6:=D.q 6
  have E6_7:=D.q 7
  have N4_21:=D.n1 8 (lt_of B4) E6_8
  have N9_21:=D.n1 8 (lt_of B9) E6_8
  have N11_21:=D.n1 8 (lt_of B11) E6_8
  have N4_22:=D.n1 9 (lt_of B4) E6_9
  have N9_22:=D.n1 9 (lt_of B9) E6_9
  have N11_22:=D.n1 9 (lt_of B11) E6_9
  replace B4:=D.k B4
  replace B9:=D.k B9
  replace B11:=D.k B11
  clear D
  refine go2_drawn (by kernel_rfl) 7 rfl (Amb Z0 W) [(b9,5),(b11,6)] [5,6] (Olds.cons (R0:=fun _=>True) (lt_of B9) (by simp [(Ne.symm N9_11)]) (Olds.one (lt_of B11))) (by kernel_rfl) ?_
  refine .e rfl (fun H=>x_ldr (H.z 8 E4_4) (H.bo B11 1 6)) ?_
  refine .e rfl (fun H=>x_ldr (H.z 7 E3_4) (H.bo B9 0 5)) ?_
  refine .e rfl (fun H=>x_ldr (H.z 9 E6_8) (H.bn B21 (no_cons N9_21 (no_cons N11_21 (no_nil _))))) ?_
  refine .e rfl (fun H=>x_ldr (H.z 8 E4_4) (H.bo B11 1 6)) ?_
  refine .cK rfl Tryz.func88 (fun H=>⟨_,ar3 (H.g 35 1) (H.g 36 2) (H.g 37 3),rLess _ _ _ (by first | omega | (have k0:=comb_bd i0; have k1:=hc_mul (p.1.div q.1).near q.1; have k2:=hc_mul (p.1.div q.1).near q.2.1; have k3:=hc_mul (p.1.div q.1).near q.2.2; have k4:=u0 (firstC p.1).toNat; omega) | (have k5:=firstC_cases p.1; omega) | exact ntD c19)⟩) ?_
  refine .sz rfl 0 B9 (lt_of B9) (by intro y k hy; match y,hy with | 0,hy=>rfl | 1,hy=>simp at hy; exact absurd hy.1 (Ne.symm N9_11)) (fun H=>⟨(H.z 7 E3_4),(H.g 34 0)⟩) ?_
  refine .sz rfl 1 B11 (lt_of B11) (by intro y k hy; match y,hy with | 0,hy=>simp at hy; exact absurd hy.1 N9_11 | 1,hy=>rfl) (fun H=>⟨(H.z 8 E4_4),(H.g 38 4)⟩) ?_
  refine .dd (fun u=>⟨List.toArray (gV x::gV y::sq u1 0 3 (u2 2::u2 3::u3 4::u4 4::u6 8::u6 9::U::u2 0::u2 1::sq u3 0 4 (sq u4 0 4 (sq u5 0 4 (u6 5::sq u6 0 5 (u6 6::u6 7::sq u 0 5 (us 17))))))),[]⟩) bel.size fun u7 w7 D=>?_
  have E7_0:=D.q 0
  have E7_1:=D.q 1
  have E7_2:=D.q 2
  have E7_3:=D.q 3
  have E7_4:=D.q 4
  replace B4:=D.kk B4 (no_cons (Ne.symm N4_9) (no_cons (Ne.symm N4_11) (no_nil _)))
  replace B9:=D.ol 5
  replace B11:=D.ol 6
  replace B21:=D.kk B21 (no_cons N9_21 (no_cons N11_21 (no_nil _)))
  replace B22:=D.kk B22 (no_cons N9_22 (no_cons N11_22 (no_nil _)))
  replace bel:=D.d.base.bel bel bel.size (by simp; omega)
  clear D
  refine inBlock_normal ?_
  refine hK15 _ _ (Handed.intro (n - 1) (by rw [hn16]; exact comb_dec i0) (hJ14 _ _ _ ⟨_,_,_,_,_,_,_,_,_,_,_,_,_,_,_,_,_,_,_,n - 1,q,(p.1.sub (((p.1.div q.1).near).mul q.1),p.2.1.sub (((p.1.div q.1).near).mul q.2.1),p.2.2.sub (((p.1.div q.1).near).mul q.2.2)),rfl,rfl,by exact comb_step i0 (ntD c19),B11,B4,B9,bel⟩))
 ·
  refine wp_cond_false ((E5_3).trans (congrArg Value.bool c19)) ?_
  refine wp_exit ?_
  refine then_exit ?_
  refine then_exit ?_
  refine inBlock_here ?_
  refine K12 _ _ ?_
  refine gs 6 (Amb Z0 W) fun _ K23=>?_
  refine .fz rfl 7 0 E3_4 ?_
  refine .lp rfl 0 (gC p.1) B9 ?_
  refine .cK rfl Tryz.func31 (fun H=>⟨_,ar1 (H.g 40 1),rFirst _ (by first | omega | (have k0:=comb_bd i0; have k1:=hc_mul (p.1.div q.1).near q.1; have k2:=hc_mul (p.1.div q.1).near q.2.1; have k3:=hc_mul (p.1.div q.1).near q.2.2; have k4:=u0 (firstC p.1).toNat; omega) | (have k5:=firstC_cases p.1; omega) | exact ntD c19)⟩) ?_
  refine .cK rfl Tryz.func33 (fun H=>⟨_,ar1 (H.g 41 2),rUnit _ (by first | omega | (have k0:=comb_bd i0; have k1:=hc_mul (p.1.div q.1).near q.1; have k2:=hc_mul (p.1.div q.1).near q.2.1; have k3:=hc_mul (p.1.div q.1).near q.2.2; have k4:=u0 (firstC p.1).toNat; omega) | (have k5:=firstC_cases p.1; omega) | exact ntD c19) (by first | omega | (have k0:=comb_bd i0; have k1:=hc_mul (p.1.div q.1).near q.1; have k2:=hc_mul (p.1.div q.1).near q.2.1; have k3:=hc_mul (p.1.div q.1).near q.2.2; have k4:=u0 (firstC p.1).toNat; omega) | (have k5:=firstC_cases p.1; omega) | exact ntD c19)⟩) ?_
  refine .al rfl zG ?_
  refine .so rfl 4 (fun H=>⟨H.r 11 4,H.g 42 3⟩) ?_
  refine .dk (fun u=>gV x::gV y::sq u1 0 3 (u2 2::u2 3::u3 4::u4 4::d9::d10::u 4::u2 0::u2 1::sq u3 0 4 (sq u4 0 4 (sq u5 0 4 (d26::d27::d28::d29::d30::d31::d32::d33::d34::d35::d36::d37::d38::sq u 0 4 (us 13)))))) K23 bel fun u8 w8 D bel=>?_
  obtain ⟨b24,E8_4,A24,B24⟩:=D.st 5
  have N4_24:=D.n1 4 (lt_of B4) E8_4
  have N9_24:=D.n1 4 (lt_of B9) E8_4
  have N11_24:=D.n1 4 (lt_of B11) E8_4
  replace B4:=D.k B4
  replace B9:=D.k B9
  clear D
  refine gd1 14 (Amb Z0 W) 13 B4 fun _ K25=>?_
  refine .fz rfl 7 0 E3_4 ?_
  refine .e rfl (V:=gV p.1) (fun H=>x_ldp (H.g 43 0) (H.b1 B9 N4_9)) ?_
  refine .e rfl (fun H=>x_ldr (H.z 11 E8_4) (H.b1 B24 N4_24)) ?_
  refine .cK rfl Tryz.func32 (fun H=>⟨_,ar2 (H.g 44 1) (H.g 45 2),cTimes _ _ (by first | omega | (have k0:=comb_bd i0; have k1:=hc_mul (p.1.div q.1).near q.1; have k2:=hc_mul (p.1.div q.1).near q.2.1; have k3:=hc_mul (p.1.div q.1).near q.2.2; have k4:=u0 (firstC p.1).toNat; omega) | (have k5:=firstC_cases p.1; omega) | exact ntD c19)⟩) ?_
  refine .fz rfl 7 8 E3_4 ?_
  refine .e rfl (V:=gV p.2.1) (fun H=>x_ldp (H.g 47 4) (H.b1 B9 N4_9)) ?_
  refine .e rfl (fun H=>x_ldr (H.z 11 E8_4) (H.b1 B24 N4_24)) ?_
  refine .cK rfl Tryz.func32 (fun H=>⟨_,ar2 (H.g 48 5) (H.g 49 6),cTimes _ _ (by first | omega | (have k0:=comb_bd i0; have k1:=hc_mul (p.1.div q.1).near q.1; have k2:=hc_mul (p.1.div q.1).near q.2.1; have k3:=hc_mul (p.1.div q.1).near q.2.2; have k4:=u0 (firstC p.1).toNat; omega) | (have k5:=firstC_cases p.1; omega) | exact ntD c19)⟩) ?_
  refine .fz rfl 7 16 E3_4 ?_
  refine .e rfl (V:=gV p.2.2) (fun H=>x_ldp (H.g 51 8) (H.b1 B9 N4_9)) ?_
  refine .e rfl (fun H=>x_ldr (H.z 11 E8_4) (H.b1 B24 N4_24)) ?_
  refine .cK rfl Tryz.func32 (fun H=>⟨_,ar2 (H.g 52 9) (H.g 53 10),cTimes _ _ (by first | omega | (have k0:=comb_bd i0; have k1:=hc_mul (p.1.div q.1).near q.1; have k2:=hc_mul (p.1.div q.1).near q.2.1; have k3:=hc_mul (p.1.div q.1).near q.2.2; have k4:=u0 (firstC p.1).toNat; omega) | (have k5:=firstC_cases p.1; omega) | exact ntD c19)⟩) ?_
  refine .e rfl (V:=tV (p.1.mul (unitC (firstC p.1).toNat),p.2.1.mul (unitC (firstC p.1).toNat),p.2.2.mul (unitC (firstC p.1).toNat))) (fun H=>by have e46:=H.g 46 3; have e50:=H.g 50 7; have e54:=H.g 54 11; clear H; go_simp) ?_
  refine .s1 rfl B4 (fun H=>⟨H.z 4 E1_2,H.g 55 12⟩) ?_
  refine .d1 (fun u=>gV x::gV y::sq u1 0 3 (u2 2::u2 3::u3 4::u4 4::d9::d10::u8 4::u2 0::u2 1::sq u3 0 4 (sq u4 0 4 (sq u5 0 4 (d26::d27::d28::d29::d30::d31::d32::d33::d34::d35::d36::d37::d38::sq u8 0 4 (sq u 0 13 [])))))) K25 bel A4 fun u9 w9 D bel=>?_
  replace B4:=D.ol 13
  clear D
  obtain rfl:=comb_end i0 (nbD c19)
  exact wp_ret (rr rfl E1_2 B4 rfl bel)
theorem lNone (r:RG) :
  Calls Tryz.prog 20 #[rgV r] W (RetV (.bool (decide (r = rz))) W):=by
 have bel:=b0 W
 go_enter Tryz.func20,Tryz.ntmps20
 refine gs 2 (Amb Z0 W) fun _ K1=>?_
 refine .bx rfl (fun H=>H.v 0 (rgV r)) ?_
 refine .mc rfl ?_
 refine .dk (fun u=>rgV r::u 0::u 1::us 3) K1 bel fun u1 w1 D bel=>?_
 obtain ⟨b2,E1_0,A2,B2⟩:=D.nw 0
 have E1_1:=D.q 1
 clear D
 refine gs 4 (Amb Z0 W) fun _ K3=>?_
 refine .lr rfl 1 E1_0 B2 ?_
 refine .e rfl (V:=.agg zG) (fun H=>by clear H; go_simp) ?_
 refine .e rfl (V:=.bool (decide (r = rz))) (fun H=>ex_eql_gauss (r:=r) (q:=rz) _ _ rfl (H.g 3 0) (H.g 4 1) rfl) ?_
 refine .mv rfl 2 ?_
 refine .dk (fun u=>rgV r::u1 0::u 3::sq u 0 3 []) K3 bel fun u2 w2 D bel=>?_
 have E2_3:=D.q 3
 clear D
 exact wp_ret (rt rfl E2_3 rfl bel)
theorem lToldY (x:Cx) (e:Int) (y:Cx) (p0:x = y) (p1:e = 0) (p2:gfits (rg y) = true) :
  Calls Tryz.prog 29 #[gV x,.int .i64 e,gV y] W (RetV (.bool true) W):=by
 have bel:=b0 W
 go_enter Tryz.func29,Tryz.ntmps29
 refine gs 3 (Amb Z0 W) fun _ K1=>?_
 refine .bx rfl (fun H=>H.v 0 (gV x)) ?_
 refine .bx rfl (fun H=>H.v 2 (gV y)) ?_
 refine .mc rfl ?_
 refine .dk (fun u=>gV x::.int .i64 e::gV y::u 0::U::u 1::u 2::us 17) K1 bel fun u1 w1 D bel=>?_
 obtain ⟨b2,E1_0,A2,B2⟩:=D.nw 0
 obtain ⟨b3,E1_1,A3,B3⟩:=D.nw 1
 have E1_2:=D.q 2
 clear D
 refine wp_seq_k fun _ K4=>?_
 refine gs 3 (Amb Z0 W) fun _ K5=>?_
 refine .lr rfl 5 E1_1 B3 ?_
 refine .cK rfl (V:=.bool true) Tryz.func60 (fun H=>⟨_,ar1 (H.g 7 0),reV (congrArg Value.bool p2) (cFits (rg y))⟩) ?_
 refine .e rfl (V:=.bool false) (fun H=>x_not (H.g 8 1)) ?_
 refine .dk (fun u=>gV x::.int .i64 e::gV y::u1 0::U::u1 1::u1 2::sq u 0 3 (us 14)) K5 bel fun u2 w2 D bel=>?_
 have E2_2:=D.q 2
 replace B2:=D.k B2
 replace B3:=D.k B3
 clear D
 refine wp_cond_false (by exact E2_2) ?_
 refine wp_skip ?_
 refine K4 _ _ ?_
 refine gs 8 (Amb Z0 W) fun _ K6=>?_
 refine .lr rfl 3 E1_0 B2 ?_
 refine .lr rfl 5 E1_1 B3 ?_
 refine .e rfl (V:=.bool true) (fun H=>ex_eql_gauss (r:=rg x) (q:=rg y) _ _ rfl (H.g 17 0) (H.g 18 1) ((rg_dec x y).trans (decide_eq_true p0))) ?_
 refine .mv rfl 2 ?_
 refine .mz rfl 1 (V:=.int .i64 e) rfl ?_ (hg:=gq 3 rfl)
 refine .e rfl (V:=.bool true) (fun H=>x_cm (H.g 21 4) (H.c _) (beq_iff_eq.2 p1)) ?_ (hg:=gq 3 rfl)
 refine .e rfl (fun H=>x_pkT (H.g 20 3) (H.g 22 5)) ?_
 refine .mv rfl 6 ?_
 refine .dk (fun u=>gV x::.int .i64 e::gV y::u1 0::U::u1 1::u 7::sq u2 0 3 (U::U::U::U::U::U::U::sq u 0 7 [])) K6 bel fun u3 w3 D bel=>?_
 have E3_7:=D.q 7
 clear D
 exact wp_ret (rt rfl E3_7 rfl bel)
theorem lToldN (r:RG) (e:Int) (y:Cx) (p0:r = rz) (p1:e = 4) (p2:gfits (rg y) = false) :
  Calls Tryz.prog 29 #[rgV r,.int .i64 e,gV y] W (RetV (.bool true) W):=by
 have bel:=b0 W
 go_enter Tryz.func29,Tryz.ntmps29
 refine gs 3 (Amb Z0 W) fun _ K1=>?_
 refine .bx rfl (fun H=>H.v 0 (rgV r)) ?_
 refine .bx rfl (fun H=>H.v 2 (gV y)) ?_
 refine .mc rfl ?_
 refine .dk (fun u=>rgV r::.int .i64 e::gV y::u 0::U::u 1::u 2::us 17) K1 bel fun u1 w1 D bel=>?_
 obtain ⟨b2,E1_0,A2,B2⟩:=D.nw 0
 obtain ⟨b3,E1_1,A3,B3⟩:=D.nw 1
 have E1_2:=D.q 2
 clear D
 refine wp_seq_k fun _ K4=>?_
 refine gs 3 (Amb Z0 W) fun _ K5=>?_
 refine .lr rfl 5 E1_1 B3 ?_
 refine .cK rfl (V:=.bool false) Tryz.func60 (fun H=>⟨_,ar1 (H.g 7 0),reV (congrArg Value.bool p2) (cFits (rg y))⟩) ?_
 refine .e rfl (V:=.bool true) (fun H=>x_not (H.g 8 1)) ?_
 refine .dk (fun u=>rgV r::.int .i64 e::gV y::u1 0::U::u1 1::u1 2::sq u 0 3 (us 14)) K5 bel fun u2 w2 D bel=>?_
 have E2_2:=D.q 2
 replace B2:=D.k B2
 replace B3:=D.k B3
 clear D
 refine wp_cond_true (by exact E2_2) ?_
 refine gs 8 (Amb Z0 W) fun _ K6=>?_
 refine .lr rfl 3 E1_0 B2 ?_
 refine .e rfl (V:=.agg zG) (fun H=>by clear H; go_simp) ?_
 refine .e rfl (V:=.bool true) (fun H=>ex_eql_gauss (r:=r) (q:=rz) _ _ rfl (H.g 10 0) (H.g 11 1) (rfl.trans (decide_eq_true p0))) ?_
 refine .mv rfl 2 ?_
 refine .mz rfl 1 (V:=.int .i64 e) rfl ?_ (hg:=gq 3 rfl)
 refine .e rfl (V:=.bool true) (fun H=>x_cm (H.g 14 4) (H.c _) (beq_iff_eq.2 p1)) ?_ (hg:=gq 3 rfl)
 refine .e rfl (fun H=>x_pkT (H.g 13 3) (H.g 15 5)) ?_
 refine .mv rfl 6 ?_
 refine .dk (fun u=>rgV r::.int .i64 e::gV y::u1 0::U::u1 1::u 7::sq u2 0 3 (sq u 0 7 (us 7))) K6 bel fun u3 w3 D bel=>?_
 have E3_7:=D.q 7
 clear D
 exact wp_ret (rt rfl E3_7 rfl bel)
end Go.Proofs.YtllohoibifcmdaaGreat
namespace Go.Proofs.YtllohoibifcmdaaGreat
open Go.RowKit Rgn
theorem lTold {W:World} (r:RG) (e:Int) (x:Cx) (p0:r = gcut x) (p1:e = gerr x):Calls Tryz.prog 29 #[rgV r,.int .i64 e,gV x] W (RetV (.bool true) W):=by
 cases h:gfits (rg x) with
 | true =>
  have h1:r = rg x:=by rw [p0]; unfold gcut; rw [if_pos h]
  subst h1
  exact lToldY x e x rfl (by rw [p1]; unfold gerr; rw [if_pos h]) h
 | false=>exact lToldN r e x (by rw [p0]; unfold gcut; rw [if_neg (by rw [h]; decide)]) (by rw [p1]; unfold gerr; rw [if_neg (by rw [h]; decide)]) h
theorem len2_le {r q:RG}:[r,q].length ≤ 1099511627776:=by simp
end Go.Proofs.YtllohoibifcmdaaGreat
namespace Go.Proofs.YtllohoibifcmdaaGreat
open Go.RowKit Rgn
set_option maxHeartbeats 4000000
set_option maxRecDepth 100000
variable {S:Nat → Prop} {W:World}
theorem lDivV0 (r:RG) (q:RG) (p0:wideU (40:Int) ([r,q]) = true) :
  Calls Tryz.prog 5 #[rgV r,rgV q] W (RetV (.bool true) W):=by
 have bel:=b0 W
 go_enter Tryz.func5,Tryz.ntmps5
 refine gs 3 (Amb Z0 W) fun _ K1=>?_
 refine .bx rfl (fun H=>H.v 0 (rgV r)) ?_
 refine .bx rfl (fun H=>H.v 1 (rgV q)) ?_
 refine .mc rfl ?_
 refine .dk (fun u=>rgV r::rgV q::sq u 0 3 (us 228)) K1 bel fun u1 w1 D bel=>?_
 obtain ⟨b2,E1_0,A2,B2⟩:=D.nw 0
 obtain ⟨b3,E1_1,A3,B3⟩:=D.nw 1
 have E1_2:=D.q 2
 clear D
 refine wp_seq_k fun _ K4=>?_
 refine wp_seq_k fun _ K5=>?_
 refine wp_region_list ?_
 refine wpT_val (v:=rgV r) rfl (ex_load_row 30 _ rfl (by exact E1_0) B2 Tryz.underlying30 rfl (by kernel_rfl)) ?_
 refine wpList_as (fr (rgV r::rgV q::sq u1 0 3 (sq uu 0 20 (rgV r::us 207)))) (by kernel_rfl) ?_
 refine wpT_val (v:=rgV q) rfl (ex_load_row 30 _ rfl (by exact E1_1) B3 Tryz.underlying30 rfl (by kernel_rfl)) ?_
 refine wpList_as (fr (rgV r::rgV q::sq u1 0 3 (sq uu 0 20 (rgV r::rgV q::us 206)))) (by kernel_rfl) ?_
 refine wpT_lit2 (r0:=r) (r1:=q) rfl rfl rfl rfl fun v7 w6 tw6 mw6 ow6=>?_
 obtain ⟨p_q,c_q,cur_q,T_q,fr_q,rfl,y_q,z_q,P_q,B_q,Q_q⟩:=GSl.open tw6
 replace mw6:=mw6 _ _ _ rfl
 have N_q_b2:=Nat.ne_of_lt (Nat.lt_of_lt_of_le (lt_of B2) mw6)
 have N_q_b3:=Nat.ne_of_lt (Nat.lt_of_lt_of_le (lt_of B3) mw6)
 replace B2:=(ow6.block b2 (lt_of B2)).trans B2
 replace B3:=(ow6.block b3 (lt_of B3)).trans B3
 replace bel:=bel.trans (ow6.mono bel.size)
 replace P_q:=Lib.hid P_q
 have X_q:=GSl.lt B_q
 refine wpList_as (fr (rgV r::rgV q::sq u1 0 3 (sq uu 0 20 (rgV r::rgV q::.slice p_q ([r,q]).length c_q::us 205)))) (by kernel_rfl) ?_
 refine wpT_callKW (V:=.bool true) (wanted_none rfl _) (ex_call rfl rfl Tryz.func8 (by kernel_rfl) (by kernel_rfl) (by simp only [List.map_toArray,List.map_cons,List.map_nil]; rfl)) (reV (congrArg Value.bool p0) (lWide (most:=(40:Int)) (l:=[r,q]) (GSl.mk y_q z_q P_q.out B_q Q_q) (by first | omega | exact len2_le))) fun w8 ow8=>?_
 replace B2:=(ow8.block b2 (lt_of B2)).trans B2
 replace B3:=(ow8.block b3 (lt_of B3)).trans B3
 replace B_q:=fun h=>(ow8.block _ (lt_of (B_q h))).trans (B_q h)
 replace bel:=bel.trans (ow8.mono bel.size)
 refine wpList_as (fr (rgV r::rgV q::sq u1 0 3 (sq uu 0 20 (rgV r::rgV q::.slice p_q ([r,q]).length c_q::.bool true::us 204)))) (by kernel_rfl) ?_
 refine wpList_nil ?_
 show _
 refine K5 _ _ ?_
 refine wp_cond_true rfl ?_
 refine gs 2 (Amb Z0 W) fun _ K9=>?_
 refine .cK rfl Tryz.func9 (fun H=>⟨_,ar0,lKnown⟩) ?_
 refine .mv rfl 0 ?_
 refine .dk (fun u=>rgV r::rgV q::u1 0::u1 1::u 1::sq uu 0 20 (rgV r::rgV q::.slice p_q ([r,q]).length c_q::.bool true::u 0::us 203)) K9 bel fun u3 w3 D bel=>?_
 have E3_1:=D.q 1
 replace B_q:=fun h=>D.k (B_q h)
 clear D
 exact wp_ret (rt rfl E3_1 rfl bel)
theorem lDivV1 (r:RG) (q:RG) (p0:wideU (40:Int) ([r,q]) = false) (p1:gwhole r = false) (p2:gmay r = false) :
  Calls Tryz.prog 5 #[rgV r,rgV q] W (RetV (.bool true) W):=by
 have bel:=b0 W
 go_enter Tryz.func5,Tryz.ntmps5
 refine gs 3 (Amb Z0 W) fun _ K1=>?_
 refine .bx rfl (fun H=>H.v 0 (rgV r)) ?_
 refine .bx rfl (fun H=>H.v 1 (rgV q)) ?_
 refine .mc rfl ?_
 refine .dk (fun u=>rgV r::rgV q::sq u 0 3 (us 228)) K1 bel fun u1 w1 D bel=>?_
 obtain ⟨b2,E1_0,A2,B2⟩:=D.nw 0
 obtain ⟨b3,E1_1,A3,B3⟩:=D.nw 1
 have E1_2:=D.q 2
 clear D
 refine wp_seq_k fun _ K4=>?_
 refine wp_seq_k fun _ K5=>?_
 refine wp_region_list ?_
 refine wpT_val (v:=rgV r) rfl (ex_load_row 30 _ rfl (by exact E1_0) B2 Tryz.underlying30 rfl (by kernel_rfl)) ?_
 refine wpList_as (fr (rgV r::rgV q::sq u1 0 3 (sq uu 0 20 (rgV r::us 207)))) (by kernel_rfl) ?_
 refine wpT_val (v:=rgV q) rfl (ex_load_row 30 _ rfl (by exact E1_1) B3 Tryz.underlying30 rfl (by kernel_rfl)) ?_
 refine wpList_as (fr (rgV r::rgV q::sq u1 0 3 (sq uu 0 20 (rgV r::rgV q::us 206)))) (by kernel_rfl) ?_
 refine wpT_lit2 (r0:=r) (r1:=q) rfl rfl rfl rfl fun v7 w6 tw6 mw6 ow6=>?_
 obtain ⟨p_q,c_q,cur_q,T_q,fr_q,rfl,y_q,z_q,P_q,B_q,Q_q⟩:=GSl.open tw6
 replace mw6:=mw6 _ _ _ rfl
 have N_q_b2:=Nat.ne_of_lt (Nat.lt_of_lt_of_le (lt_of B2) mw6)
 have N_q_b3:=Nat.ne_of_lt (Nat.lt_of_lt_of_le (lt_of B3) mw6)
 replace B2:=(ow6.block b2 (lt_of B2)).trans B2
 replace B3:=(ow6.block b3 (lt_of B3)).trans B3
 replace bel:=bel.trans (ow6.mono bel.size)
 replace P_q:=Lib.hid P_q
 have X_q:=GSl.lt B_q
 refine wpList_as (fr (rgV r::rgV q::sq u1 0 3 (sq uu 0 20 (rgV r::rgV q::.slice p_q ([r,q]).length c_q::us 205)))) (by kernel_rfl) ?_
 refine wpT_callKW (V:=.bool false) (wanted_none rfl _) (ex_call rfl rfl Tryz.func8 (by kernel_rfl) (by kernel_rfl) (by simp only [List.map_toArray,List.map_cons,List.map_nil]; rfl)) (reV (congrArg Value.bool p0) (lWide (most:=(40:Int)) (l:=[r,q]) (GSl.mk y_q z_q P_q.out B_q Q_q) (by first | omega | exact len2_le | exact p1 | exact p2))) fun w8 ow8=>?_
 replace B2:=(ow8.block b2 (lt_of B2)).trans B2
 replace B3:=(ow8.block b3 (lt_of B3)).trans B3
 replace B_q:=fun h=>(ow8.block _ (lt_of (B_q h))).trans (B_q h)
 replace bel:=bel.trans (ow8.mono bel.size)
 refine wpList_as (fr (rgV r::rgV q::sq u1 0 3 (sq uu 0 20 (rgV r::rgV q::.slice p_q ([r,q]).length c_q::.bool false::us 204)))) (by kernel_rfl) ?_
 refine wpList_nil ?_
 show _
 refine K5 _ _ ?_
 refine wp_cond_false rfl ?_
 refine wp_skip ?_
 refine K4 _ _ ?_
 refine gs 8 (Amb Z0 W) fun _ K9=>?_
 refine .lr rfl 2 E1_0 B2 ?_
 refine .cK rfl Tryz.func22 (fun H=>⟨_,ar1 (H.g 31 0),hNearA _ (by first | omega | exact len2_le | exact p1 | exact p2)⟩) ?_
 refine .mv rfl 1 ?_
 refine .e rfl (V:=.agg zG) (fun H=>x_ex (H.g 30 2)) ?_
 refine .e rfl (V:=.int .i64 2) (fun H=>x_ex (H.g 30 2)) ?_
 refine .al rfl zG ?_
 refine .so rfl 5 (fun H=>⟨H.r 5 5,H.g 33 3⟩) ?_
 refine .mv rfl 4 ?_
 refine .dk (fun u=>rgV r::rgV q::sq u1 0 3 (u 5::u 7::sq uu 0 18 (rgV r::rgV q::.slice p_q ([r,q]).length c_q::.bool false::U::u 2::u 0::u 1::u 3::u 4::us 198))) K9 bel fun u3 w3 D bel=>?_
 obtain ⟨b10,E3_5,A10,B10⟩:=D.st 6
 have E3_7:=D.q 7
 replace B2:=D.k B2
 replace B3:=D.k B3
 replace B_q:=fun h=>D.k (B_q h)
 clear D
 refine gs 12 (Amb Z0 W) fun _ K11=>?_
 refine .lr rfl 2 E1_0 B2 ?_
 refine .lr rfl 3 E1_1 B3 ?_
 refine .cK rfl Tryz.func23 (fun H=>⟨_,ar2 (H.g 36 0) (H.g 37 1),hDivA1 _ _ (by first | omega | exact len2_le | exact p1 | exact p2)⟩) ?_
 refine .mv rfl 2 ?_
 refine .e rfl (V:=.agg zG) (fun H=>x_ex (H.g 35 3)) ?_
 refine .e rfl (V:=.agg zG) (fun H=>x_ex (H.g 35 3)) ?_
 refine .e rfl (V:=.int .i64 2) (fun H=>x_ex (H.g 35 3)) ?_
 refine .al rfl zG ?_
 refine .al rfl zG ?_
 refine .so rfl 7 (fun H=>⟨H.r 7 7,H.g 39 4⟩) ?_
 refine .so rfl 8 (fun H=>⟨H.r 8 8,H.g 40 5⟩) ?_
 refine .mv rfl 6 ?_
 refine .dk (fun u=>rgV r::rgV q::sq u1 0 3 (u3 5::u3 7::u 7::u 8::u 11::sq uu 0 15 (rgV r::rgV q::.slice p_q ([r,q]).length c_q::.bool false::U::u3 2::u3 0::u3 1::u3 3::u3 4::u 3::sq u 0 3 (sq u 4 3 (us 191))))) K11 bel fun u4 w4 D bel=>?_
 obtain ⟨b12,E4_7,A12,B12⟩:=D.st 9
 obtain ⟨b13,E4_8,A13,B13⟩:=D.st 10
 have E4_11:=D.q 11
 replace B2:=D.k B2
 replace B3:=D.k B3
 replace B10:=D.k B10
 replace B_q:=fun h=>D.k (B_q h)
 clear D
 refine gs 9 (Amb Z0 W) fun _ K14=>?_
 refine .lr rfl 2 E1_0 B2 ?_
 refine .lr rfl 3 E1_1 B3 ?_
 refine .cK rfl Tryz.func24 (fun H=>⟨_,ar2 (H.g 43 0) (H.g 44 1),hGcdA1 _ _ (by first | omega | exact len2_le | exact p1 | exact p2)⟩) ?_
 refine .mv rfl 2 ?_
 refine .e rfl (V:=.agg zG) (fun H=>x_ex (H.g 42 3)) ?_
 refine .e rfl (V:=.int .i64 2) (fun H=>x_ex (H.g 42 3)) ?_
 refine .al rfl zG ?_
 refine .so rfl 6 (fun H=>⟨H.r 10 6,H.g 46 4⟩) ?_
 refine .mv rfl 5 ?_
 refine .dk (fun u=>rgV r::rgV q::sq u1 0 3 (u3 5::u3 7::u4 7::u4 8::u4 11::u 6::u 8::sq uu 0 13 (rgV r::rgV q::.slice p_q ([r,q]).length c_q::.bool false::U::u3 2::u3 0::u3 1::u3 3::u3 4::u4 3::sq u4 0 3 (sq u4 4 3 (u 3::sq u 0 3 (u 4::u 5::us 185)))))) K14 bel fun u5 w5 D bel=>?_
 obtain ⟨b15,E5_6,A15,B15⟩:=D.st 7
 have E5_8:=D.q 8
 replace B2:=D.k B2
 replace B3:=D.k B3
 replace B10:=D.k B10
 replace B12:=D.k B12
 replace B13:=D.k B13
 replace B_q:=fun h=>D.k (B_q h)
 clear D
 refine gs 15 (Amb Z0 W) fun _ K16=>?_
 refine .lr rfl 2 E1_0 B2 ?_
 refine .lr rfl 3 E1_1 B3 ?_
 refine .cK rfl Tryz.func25 (fun H=>⟨_,ar2 (H.g 49 0) (H.g 50 1),hCombA1 _ _ (by first | omega | exact len2_le | exact p1 | exact p2)⟩) ?_
 refine .mv rfl 2 ?_
 refine .e rfl (V:=.agg zG) (fun H=>x_ex (H.g 48 3)) ?_
 refine .e rfl (V:=.agg zG) (fun H=>x_ex (H.g 48 3)) ?_
 refine .e rfl (V:=.agg zG) (fun H=>x_ex (H.g 48 3)) ?_
 refine .e rfl (V:=.int .i64 2) (fun H=>x_ex (H.g 48 3)) ?_
 refine .al rfl zG ?_
 refine .al rfl zG ?_
 refine .al rfl zG ?_
 refine .so rfl 8 (fun H=>⟨H.r 12 8,H.g 52 4⟩) ?_
 refine .so rfl 9 (fun H=>⟨H.r 13 9,H.g 53 5⟩) ?_
 refine .so rfl 10 (fun H=>⟨H.r 14 10,H.g 54 6⟩) ?_
 refine .mv rfl 7 ?_
 refine .dk (fun u=>rgV r::rgV q::sq u1 0 3 (u3 5::u3 7::u4 7::u4 8::u4 11::u5 6::u5 8::sq u 8 3 (u 14::sq uu 0 9 (rgV r::rgV q::.slice p_q ([r,q]).length c_q::.bool false::U::u3 2::u3 0::u3 1::u3 3::u3 4::u4 3::sq u4 0 3 (sq u4 4 3 (u5 3::sq u5 0 3 (u5 4::u5 5::u 3::sq u 0 3 (sq u 4 4 (us 177))))))))) K16 bel fun u6 w6 D bel=>?_
 obtain ⟨b17,E6_8,A17,B17⟩:=D.st 11
 obtain ⟨b18,E6_9,A18,B18⟩:=D.st 12
 obtain ⟨b19,E6_10,A19,B19⟩:=D.st 13
 have E6_14:=D.q 14
 replace B2:=D.k B2
 replace B3:=D.k B3
 replace B10:=D.k B10
 replace B12:=D.k B12
 replace B13:=D.k B13
 replace B15:=D.k B15
 replace B_q:=fun h=>D.k (B_q h)
 clear D
 refine gs 10 (Amb Z0 W) fun _ K20=>?_
 refine .lr rfl 2 E1_0 B2 ?_
 refine .cK rfl Tryz.func26 (fun H=>⟨_,ar1 (H.g 57 0),hFirA _ (by first | omega | exact len2_le | exact p1 | exact p2)⟩) ?_
 refine .mv rfl 1 ?_
 refine .e rfl (V:=.agg zG) (fun H=>x_ex (H.g 56 2)) ?_
 refine .e rfl (V:=.int .i64 0) (fun H=>x_ex (H.g 56 2)) ?_
 refine .e rfl (V:=.int .i64 2) (fun H=>x_ex (H.g 56 2)) ?_
 refine .al rfl zG ?_
 refine .so rfl 6 (fun H=>⟨H.r 16 6,H.g 59 3⟩) ?_
 refine .mv rfl 4 ?_
 refine .mv rfl 5 ?_
 refine .dk (fun u=>rgV r::rgV q::sq u1 0 3 (u3 5::u3 7::u4 7::u4 8::u4 11::u5 6::u5 8::sq u6 8 3 (u6 14::u 6::u 8::u 9::U::U::U::U::U::U::rgV r::rgV q::.slice p_q ([r,q]).length c_q::.bool false::U::u3 2::u3 0::u3 1::u3 3::u3 4::u4 3::sq u4 0 3 (sq u4 4 3 (u5 3::sq u5 0 3 (u5 4::u5 5::u6 3::sq u6 0 3 (sq u6 4 4 (u 2::u 0::u 1::sq u 3 3 (us 171))))))))) K20 bel fun u7 w7 D bel=>?_
 obtain ⟨b21,E7_6,A21,B21⟩:=D.st 7
 have E7_8:=D.q 8
 have E7_9:=D.q 9
 replace B2:=D.k B2
 replace B3:=D.k B3
 replace B10:=D.k B10
 replace B12:=D.k B12
 replace B13:=D.k B13
 replace B15:=D.k B15
 replace B17:=D.k B17
 replace B18:=D.k B18
 replace B19:=D.k B19
 replace B_q:=fun h=>D.k (B_q h)
 clear D
 refine gd 6 (Amb Z0 W) fun _ K22=>?_
 refine .lr rfl 2 E1_0 B2 ?_
 refine .cK rfl (V:=.bool false) Tryz.func27 (fun H=>⟨_,ar1 (H.g 62 0),reV (congrArg Value.bool p1) (cWhole _)⟩) ?_
 refine .lr rfl 3 E1_1 B3 ?_
 refine .cK rfl Tryz.func27 (fun H=>⟨_,ar1 (H.g 64 2),cWhole _⟩) ?_
 refine .mv rfl 1 ?_
 refine .mv rfl 3 ?_
 refine .dk (fun u=>rgV r::rgV q::sq u1 0 3 (u3 5::u3 7::u4 7::u4 8::u4 11::u5 6::u5 8::sq u6 8 3 (u6 14::u7 6::u7 8::u7 9::u 4::u 5::U::U::U::U::rgV r::rgV q::.slice p_q ([r,q]).length c_q::.bool false::U::u3 2::u3 0::u3 1::u3 3::u3 4::u4 3::sq u4 0 3 (sq u4 4 3 (u5 3::sq u5 0 3 (u5 4::u5 5::u6 3::sq u6 0 3 (sq u6 4 4 (u7 2::u7 0::u7 1::sq u7 3 3 (sq u 0 4 (us 167)))))))))) K22 bel fun u8 w8 D bel=>?_
 have E8_4:=D.q 4
 have E8_5:=D.q 5
 replace B2:=D.k B2
 replace B3:=D.k B3
 replace B10:=D.k B10
 replace B12:=D.k B12
 replace B13:=D.k B13
 replace B15:=D.k B15
 replace B17:=D.k B17
 replace B18:=D.k B18
 replace B19:=D.k B19
 replace B21:=D.k B21
 replace B_q:=fun h=>D.k (B_q h)
 clear D
 refine wp_seq_k fun _ K23=>?_
 refine gs 10 (Amb Z0 W) fun _ K24=>?_
 refine .lr rfl 2 E1_0 B2 ?_
 refine .cK rfl (V:=.bool false) Tryz.func28 (fun H=>⟨_,ar1 (H.g 66 0),reV (congrArg Value.bool p1) (hWhole _)⟩) ?_
 refine .mz rfl 19 E8_4 ?_
 refine .e rfl (V:=.bool false) (fun H=>x_bm (H.g 67 1) (H.g 68 2) rfl) ?_
 refine .mv rfl 3 ?_
 refine .lr rfl 3 E1_1 B3 ?_ (hg:=gq 4 rfl)
 refine .cK rfl Tryz.func28 (fun H=>⟨_,ar1 (H.g 71 5),hWhole _⟩) ?_ (hg:=gq 4 rfl)
 refine .mz rfl 20 E8_5 ?_ (hg:=gq 4 rfl)
 refine .e rfl (V:=.bool false) (fun H=>x_bns (H.g 72 6) (H.g 73 7)) ?_ (hg:=gq 4 rfl)
 refine .e rfl (fun H=>x_pkF (H.g 70 4) (H.g 74 8)) ?_
 refine .dk (fun u=>rgV r::rgV q::sq u1 0 3 (u3 5::u3 7::u4 7::u4 8::u4 11::u5 6::u5 8::sq u6 8 3 (u6 14::u7 6::u7 8::u7 9::u8 4::u8 5::U::U::U::U::rgV r::rgV q::.slice p_q ([r,q]).length c_q::.bool false::U::u3 2::u3 0::u3 1::u3 3::u3 4::u4 3::sq u4 0 3 (sq u4 4 3 (u5 3::sq u5 0 3 (u5 4::u5 5::u6 3::sq u6 0 3 (sq u6 4 4 (u7 2::u7 0::u7 1::sq u7 3 3 (sq u8 0 4 (sq u 0 10 (us 157))))))))))) K24 bel fun u9 w9 D bel=>?_
 have E9_9:=D.q 9
 replace B2:=D.k B2
 replace B3:=D.k B3
 replace B10:=D.k B10
 replace B12:=D.k B12
 replace B13:=D.k B13
 replace B15:=D.k B15
 replace B17:=D.k B17
 replace B18:=D.k B18
 replace B19:=D.k B19
 replace B21:=D.k B21
 replace B_q:=fun h=>D.k (B_q h)
 clear D
 refine wp_cond_false (by exact E9_9) ?_
 refine wp_skip ?_
 refine K23 _ _ ?_
 refine wp_seq_k fun _ K25=>?_
 refine gs 3 (Amb Z0 W) fun _ K26=>?_
 refine .lr rfl 2 E1_0 B2 ?_
 refine .cK rfl (V:=.bool false) Tryz.func19 (fun H=>⟨_,ar1 (H.g 76 0),reV (congrArg Value.bool p2) (cMay _)⟩) ?_
 refine .e rfl (V:=.bool true) (fun H=>x_not (H.g 77 1)) ?_
 refine .dk (fun u=>rgV r::rgV q::sq u1 0 3 (u3 5::u3 7::u4 7::u4 8::u4 11::u5 6::u5 8::sq u6 8 3 (u6 14::u7 6::u7 8::u7 9::u8 4::u8 5::U::U::U::U::rgV r::rgV q::.slice p_q ([r,q]).length c_q::.bool false::U::u3 2::u3 0::u3 1::u3 3::u3 4::u4 3::sq u4 0 3 (sq u4 4 3 (u5 3::sq u5 0 3 (u5 4::u5 5::u6 3::sq u6 0 3 (sq u6 4 4 (u7 2::u7 0::u7 1::sq u7 3 3 (sq u8 0 4 (sq u9 0 10 (sq u 0 3 (us 154)))))))))))) K26 bel fun u10 w10 D bel=>?_
 have E10_2:=D.q 2
 replace B2:=D.k B2
 replace B3:=D.k B3
 replace B10:=D.k B10
 replace B12:=D.k B12
 replace B13:=D.k B13
 replace B15:=D.k B15
 replace B17:=D.k B17
 replace B18:=D.k B18
 replace B19:=D.k B19
 replace B21:=D.k B21
 replace B_q:=fun h=>D.k (B_q h)
 clear D
 refine wp_cond_true (by exact E10_2) ?_
 refine gs 7 (Amb Z0 W) fun _ K27=>?_
 refine .lr rfl 5 E3_5 B10 ?_
 refine .cK rfl (V:=.bool true) Tryz.func20 (fun H=>⟨_,ar1 (H.g 79 0),reV (congrArg Value.bool (decide_eq_true rfl)) (lNone rz)⟩) ?_
 refine .e rfl (V:=.bool false) (fun H=>x_not (H.g 80 1)) ?_
 refine .mv rfl 2 ?_
 refine .mz rfl 6 E3_7 ?_ (hg:=gq 3 rfl)
 refine .e rfl (V:=.bool false) (fun H=>x_cm (H.g 83 4) (H.c _) (bne_self_eq_false (show Int from 2))) ?_ (hg:=gq 3 rfl)
 refine .e rfl (fun H=>x_pkF (H.g 82 3) (H.g 84 5)) ?_
 refine .dk (fun u=>rgV r::rgV q::sq u1 0 3 (u3 5::u3 7::u4 7::u4 8::u4 11::u5 6::u5 8::sq u6 8 3 (u6 14::u7 6::u7 8::u7 9::u8 4::u8 5::U::U::U::U::rgV r::rgV q::.slice p_q ([r,q]).length c_q::.bool false::U::u3 2::u3 0::u3 1::u3 3::u3 4::u4 3::sq u4 0 3 (sq u4 4 3 (u5 3::sq u5 0 3 (u5 4::u5 5::u6 3::sq u6 0 3 (sq u6 4 4 (u7 2::u7 0::u7 1::sq u7 3 3 (sq u8 0 4 (sq u9 0 10 (sq u10 0 3 (sq u 0 7 (us 147))))))))))))) K27 bel fun u11 w11 D bel=>?_
 have E11_6:=D.q 6
 replace B2:=D.k B2
 replace B3:=D.k B3
 replace B12:=D.k B12
 replace B13:=D.k B13
 replace B15:=D.k B15
 replace B17:=D.k B17
 replace B18:=D.k B18
 replace B19:=D.k B19
 replace B21:=D.k B21
 replace B_q:=fun h=>D.k (B_q h)
 clear D
 refine wp_cond_false (by exact E11_6) ?_
 refine wp_skip ?_
 refine K25 _ _ ?_
 refine wp_seq_k fun _ K28=>?_
 refine gs 1 (Amb Z0 W) fun _ K29=>?_
 refine .mz rfl 19 E8_4 ?_
 refine .dk (fun u=>rgV r::rgV q::sq u1 0 3 (u3 5::u3 7::u4 7::u4 8::u4 11::u5 6::u5 8::sq u6 8 3 (u6 14::u7 6::u7 8::u7 9::u8 4::u8 5::U::U::U::U::rgV r::rgV q::.slice p_q ([r,q]).length c_q::.bool false::U::u3 2::u3 0::u3 1::u3 3::u3 4::u4 3::sq u4 0 3 (sq u4 4 3 (u5 3::sq u5 0 3 (u5 4::u5 5::u6 3::sq u6 0 3 (sq u6 4 4 (u7 2::u7 0::u7 1::sq u7 3 3 (sq u8 0 4 (sq u9 0 10 (sq u10 0 3 (sq u11 0 7 (U::U::U::U::U::U::u 0::us 140))))))))))))) K29 bel fun u12 w12 D bel=>?_
 have E12_0:=D.q 0
 replace B2:=D.k B2
 replace B3:=D.k B3
 replace B12:=D.k B12
 replace B13:=D.k B13
 replace B15:=D.k B15
 replace B17:=D.k B17
 replace B18:=D.k B18
 replace B19:=D.k B19
 replace B21:=D.k B21
 replace B_q:=fun h=>D.k (B_q h)
 clear D
 refine wp_cond_false (by exact E12_0) ?_
 refine gs 11 (Amb Z0 W) fun _ K30=>?_
 refine .lr rfl 16 E7_6 B21 ?_
 refine .cK rfl (V:=.bool true) Tryz.func20 (fun H=>⟨_,ar1 (H.g 110 0),reV (congrArg Value.bool (decide_eq_true rfl)) (lNone rz)⟩) ?_
 refine .e rfl (V:=.bool false) (fun H=>x_not (H.g 111 1)) ?_
 refine .mv rfl 2 ?_
 refine .mz rfl 17 E7_8 ?_ (hg:=gq 3 rfl)
 refine .e rfl (V:=.bool false) (fun H=>x_cm (H.g 114 4) (H.c _) (bne_self_eq_false (show Int from 0))) ?_ (hg:=gq 3 rfl)
 refine .e rfl (fun H=>x_pkF (H.g 113 3) (H.g 115 5)) ?_
 refine .mv rfl 6 ?_
 refine .mz rfl 18 E7_9 ?_ (hg:=gq 7 rfl)
 refine .e rfl (V:=.bool false) (fun H=>x_cm (H.g 118 8) (H.c _) (bne_self_eq_false (show Int from 2))) ?_ (hg:=gq 7 rfl)
 refine .e rfl (fun H=>x_pkF (H.g 117 7) (H.g 119 9)) ?_
 refine .dk (fun u=>rgV r::rgV q::sq u1 0 3 (u3 5::u3 7::u4 7::u4 8::u4 11::u5 6::u5 8::sq u6 8 3 (u6 14::u7 6::u7 8::u7 9::u8 4::u8 5::U::U::U::U::rgV r::rgV q::.slice p_q ([r,q]).length c_q::.bool false::U::u3 2::u3 0::u3 1::u3 3::u3 4::u4 3::sq u4 0 3 (sq u4 4 3 (u5 3::sq u5 0 3 (u5 4::u5 5::u6 3::sq u6 0 3 (sq u6 4 4 (u7 2::u7 0::u7 1::sq u7 3 3 (sq u8 0 4 (sq u9 0 10 (sq u10 0 3 (sq u11 0 7 (U::U::U::U::U::U::u12 0::sq uu 0 17 (sq u 0 11 (us 112))))))))))))))) K30 bel fun u13 w13 D bel=>?_
 have E13_10:=D.q 10
 replace B2:=D.k B2
 replace B3:=D.k B3
 replace B12:=D.k B12
 replace B13:=D.k B13
 replace B15:=D.k B15
 replace B17:=D.k B17
 replace B18:=D.k B18
 replace B19:=D.k B19
 replace B_q:=fun h=>D.k (B_q h)
 clear D
 refine wp_cond_false (by exact E13_10) ?_
 refine wp_skip ?_
 refine K28 _ _ ?_
 refine wp_seq_k fun _ K31=>?_
 refine gs 6 (Amb Z0 W) fun _ K32=>?_
 refine .mz rfl 19 E8_4 ?_
 refine .e rfl (V:=.bool true) (fun H=>x_not (H.g 121 0)) ?_
 refine .mv rfl 1 ?_
 refine .sk rfl 2 ?_
 refine .sk rfl 2 ?_
 refine .e rfl (fun H=>x_pkT (H.g 123 2) (H.c _)) ?_
 refine .dk (fun u=>rgV r::rgV q::sq u1 0 3 (u3 5::u3 7::u4 7::u4 8::u4 11::u5 6::u5 8::sq u6 8 3 (u6 14::u7 6::u7 8::u7 9::u8 4::u8 5::U::U::U::U::rgV r::rgV q::.slice p_q ([r,q]).length c_q::.bool false::U::u3 2::u3 0::u3 1::u3 3::u3 4::u4 3::sq u4 0 3 (sq u4 4 3 (u5 3::sq u5 0 3 (u5 4::u5 5::u6 3::sq u6 0 3 (sq u6 4 4 (u7 2::u7 0::u7 1::sq u7 3 3 (sq u8 0 4 (sq u9 0 10 (sq u10 0 3 (sq u11 0 7 (U::U::U::U::U::U::u12 0::sq uu 0 17 (sq u13 0 11 (sq u 0 6 (us 106)))))))))))))))) K32 bel fun u14 w14 D bel=>?_
 have E14_5:=D.q 5
 replace B2:=D.k B2
 replace B3:=D.k B3
 replace B12:=D.k B12
 replace B13:=D.k B13
 replace B15:=D.k B15
 replace B17:=D.k B17
 replace B18:=D.k B18
 replace B19:=D.k B19
 replace B_q:=fun h=>D.k (B_q h)
 clear D
 refine wp_cond_true (by exact E14_5) ?_
 refine gs 38 (Amb Z0 W) fun _ K33=>?_
 refine .lr rfl 7 E4_7 B12 ?_
 refine .cK rfl (V:=.bool true) Tryz.func20 (fun H=>⟨_,ar1 (H.g 127 0),reV (congrArg Value.bool (decide_eq_true rfl)) (lNone rz)⟩) ?_
 refine .mv rfl 1 ?_
 refine .lr rfl 8 E4_8 B13 ?_ (hg:=gq 2 rfl)
 refine .cK rfl (V:=.bool true) Tryz.func20 (fun H=>⟨_,ar1 (H.g 130 3),reV (congrArg Value.bool (decide_eq_true rfl)) (lNone rz)⟩) ?_ (hg:=gq 2 rfl)
 refine .e rfl (fun H=>x_pkT (H.g 129 2) (H.g 131 4)) ?_
 refine .mv rfl 5 ?_
 refine .mz rfl 9 E4_11 ?_ (hg:=gq 6 rfl)
 refine .e rfl (V:=.bool true) (fun H=>x_cm (H.g 134 7) (H.c _) (beq_self_eq_true (show Int from 2))) ?_ (hg:=gq 6 rfl)
 refine .e rfl (fun H=>x_pkT (H.g 133 6) (H.g 135 8)) ?_
 refine .mv rfl 9 ?_
 refine .lr rfl 10 E5_6 B15 ?_ (hg:=gq 10 rfl)
 refine .cK rfl (V:=.bool true) Tryz.func20 (fun H=>⟨_,ar1 (H.g 138 11),reV (congrArg Value.bool (decide_eq_true rfl)) (lNone rz)⟩) ?_ (hg:=gq 10 rfl)
 refine .e rfl (fun H=>x_pkT (H.g 137 10) (H.g 139 12)) ?_
 refine .mv rfl 13 ?_
 refine .mz rfl 11 E5_8 ?_ (hg:=gq 14 rfl)
 refine .e rfl (V:=.bool true) (fun H=>x_cm (H.g 142 15) (H.c _) (beq_self_eq_true (show Int from 2))) ?_ (hg:=gq 14 rfl)
 refine .e rfl (fun H=>x_pkT (H.g 141 14) (H.g 143 16)) ?_
 refine .mv rfl 17 ?_
 refine .lr rfl 12 E6_8 B17 ?_ (hg:=gq 18 rfl)
 refine .cK rfl (V:=.bool true) Tryz.func20 (fun H=>⟨_,ar1 (H.g 146 19),reV (congrArg Value.bool (decide_eq_true rfl)) (lNone rz)⟩) ?_ (hg:=gq 18 rfl)
 refine .e rfl (fun H=>x_pkT (H.g 145 18) (H.g 147 20)) ?_
 refine .mv rfl 21 ?_
 refine .lr rfl 13 E6_9 B18 ?_ (hg:=gq 22 rfl)
 refine .cK rfl (V:=.bool true) Tryz.func20 (fun H=>⟨_,ar1 (H.g 150 23),reV (congrArg Value.bool (decide_eq_true rfl)) (lNone rz)⟩) ?_ (hg:=gq 22 rfl)
 refine .e rfl (fun H=>x_pkT (H.g 149 22) (H.g 151 24)) ?_
 refine .mv rfl 25 ?_
 refine .lr rfl 14 E6_10 B19 ?_ (hg:=gq 26 rfl)
 refine .cK rfl (V:=.bool true) Tryz.func20 (fun H=>⟨_,ar1 (H.g 154 27),reV (congrArg Value.bool (decide_eq_true rfl)) (lNone rz)⟩) ?_ (hg:=gq 26 rfl)
 refine .e rfl (fun H=>x_pkT (H.g 153 26) (H.g 155 28)) ?_
 refine .mv rfl 29 ?_
 refine .mz rfl 15 E6_14 ?_ (hg:=gq 30 rfl)
 refine .e rfl (V:=.bool true) (fun H=>x_cm (H.g 158 31) (H.c _) (beq_self_eq_true (show Int from 2))) ?_ (hg:=gq 30 rfl)
 refine .e rfl (fun H=>x_pkT (H.g 157 30) (H.g 159 32)) ?_
 refine .mv rfl 33 ?_
 refine .cK rfl Tryz.func9 (fun H=>⟨_,ar0,lKnown⟩) ?_ (hg:=gq 34 rfl)
 refine .e rfl (fun H=>x_pkT (H.g 161 34) (H.g 162 35)) ?_
 refine .mv rfl 36 ?_
 refine .dk (fun u=>rgV r::rgV q::u1 0::u1 1::u 37::u3 5::u3 7::u4 7::u4 8::u4 11::u5 6::u5 8::sq u6 8 3 (u6 14::u7 6::u7 8::u7 9::u8 4::u8 5::U::U::U::U::rgV r::rgV q::.slice p_q ([r,q]).length c_q::.bool false::U::u3 2::u3 0::u3 1::u3 3::u3 4::u4 3::sq u4 0 3 (sq u4 4 3 (u5 3::sq u5 0 3 (u5 4::u5 5::u6 3::sq u6 0 3 (sq u6 4 4 (u7 2::u7 0::u7 1::sq u7 3 3 (sq u8 0 4 (sq u9 0 10 (sq u10 0 3 (sq u11 0 7 (U::U::U::U::U::U::u12 0::sq uu 0 17 (sq u13 0 11 (sq u14 0 6 (sq u 0 37 (us 69)))))))))))))))) K33 bel fun u15 w15 D bel=>?_
 have E15_37:=D.q 37
 replace B_q:=fun h=>D.k (B_q h)
 clear D
 exact wp_ret (rt rfl E15_37 rfl bel)
theorem lDivV2 (x:Cx) (q:RG) (p0:wideU (40:Int) ([rg x,q]) = false) (p1:gwhole (rg x) = false) (p2:gmay (rg x) = true) (p3:ht x.re + ht x.im ≤ 20000) :
  Calls Tryz.prog 5 #[gV x,rgV q] W (RetV (.bool true) W):=by
 have bel:=b0 W
 go_enter Tryz.func5,Tryz.ntmps5
 refine gs 3 (Amb Z0 W) fun _ K1=>?_
 refine .bx rfl (fun H=>H.v 0 (gV x)) ?_
 refine .bx rfl (fun H=>H.v 1 (rgV q)) ?_
 refine .mc rfl ?_
 refine .dk (fun u=>gV x::rgV q::sq u 0 3 (us 228)) K1 bel fun u1 w1 D bel=>?_
 obtain ⟨b2,E1_0,A2,B2⟩:=D.nw 0
 obtain ⟨b3,E1_1,A3,B3⟩:=D.nw 1
 have E1_2:=D.q 2
 clear D
 refine wp_seq_k fun _ K4=>?_
 refine wp_seq_k fun _ K5=>?_
 refine wp_region_list ?_
 refine wpT_val (v:=gV x) rfl (ex_load_row 30 _ rfl (by exact E1_0) B2 Tryz.underlying30 rfl (by kernel_rfl)) ?_
 refine wpList_as (fr (gV x::rgV q::sq u1 0 3 (sq uu 0 20 (gV x::us 207)))) (by kernel_rfl) ?_
 refine wpT_val (v:=rgV q) rfl (ex_load_row 30 _ rfl (by exact E1_1) B3 Tryz.underlying30 rfl (by kernel_rfl)) ?_
 refine wpList_as (fr (gV x::rgV q::sq u1 0 3 (sq uu 0 20 (gV x::rgV q::us 206)))) (by kernel_rfl) ?_
 refine wpT_lit2 (r0:=rg x) (r1:=q) rfl rfl rfl rfl fun v7 w6 tw6 mw6 ow6=>?_
 obtain ⟨p_q,c_q,cur_q,T_q,fr_q,rfl,y_q,z_q,P_q,B_q,Q_q⟩:=GSl.open tw6
 replace mw6:=mw6 _ _ _ rfl
 have N_q_b2:=Nat.ne_of_lt (Nat.lt_of_lt_of_le (lt_of B2) mw6)
 have N_q_b3:=Nat.ne_of_lt (Nat.lt_of_lt_of_le (lt_of B3) mw6)
 replace B2:=(ow6.block b2 (lt_of B2)).trans B2
 replace B3:=(ow6.block b3 (lt_of B3)).trans B3
 replace bel:=bel.trans (ow6.mono bel.size)
 replace P_q:=Lib.hid P_q
 have X_q:=GSl.lt B_q
 refine wpList_as (fr (gV x::rgV q::sq u1 0 3 (sq uu 0 20 (gV x::rgV q::.slice p_q ([rg x,q]).length c_q::us 205)))) (by kernel_rfl) ?_
 refine wpT_callKW (V:=.bool false) (wanted_none rfl _) (ex_call rfl rfl Tryz.func8 (by kernel_rfl) (by kernel_rfl) (by simp only [List.map_toArray,List.map_cons,List.map_nil]; rfl)) (reV (congrArg Value.bool p0) (lWide (most:=(40:Int)) (l:=[rg x,q]) (GSl.mk y_q z_q P_q.out B_q Q_q) (by first | omega | exact len2_le | exact p1 | exact p2 | rfl))) fun w8 ow8=>?_
 replace B2:=(ow8.block b2 (lt_of B2)).trans B2
 replace B3:=(ow8.block b3 (lt_of B3)).trans B3
 replace B_q:=fun h=>(ow8.block _ (lt_of (B_q h))).trans (B_q h)
 replace bel:=bel.trans (ow8.mono bel.size)
 refine wpList_as (fr (gV x::rgV q::sq u1 0 3 (sq uu 0 20 (gV x::rgV q::.slice p_q ([rg x,q]).length c_q::.bool false::us 204)))) (by kernel_rfl) ?_
 refine wpList_nil ?_
 show _
 refine K5 _ _ ?_
 refine wp_cond_false rfl ?_
 refine wp_skip ?_
 refine K4 _ _ ?_
 refine gs 8 (Amb Z0 W) fun _ K9=>?_
 refine .lr rfl 2 E1_0 B2 ?_
 refine .cK rfl Tryz.func22 (fun H=>⟨_,ar1 (H.g 31 0),hNearC _ (by first | omega | exact len2_le | exact p1 | exact p2 | rfl) (by first | omega | exact len2_le | exact p1 | exact p2 | rfl)⟩) ?_
 refine .mv rfl 1 ?_
 refine .e rfl (V:=rgV (gcut x.near)) (fun H=>x_ex (H.g 30 2)) ?_
 refine .e rfl (V:=.int .i64 (gerr x.near)) (fun H=>x_ex (H.g 30 2)) ?_
 refine .al rfl zG ?_
 refine .so rfl 5 (fun H=>⟨H.r 5 5,H.g 33 3⟩) ?_
 refine .mv rfl 4 ?_
 refine .dk (fun u=>gV x::rgV q::sq u1 0 3 (u 5::u 7::sq uu 0 18 (gV x::rgV q::.slice p_q ([rg x,q]).length c_q::.bool false::U::u 2::u 0::u 1::u 3::u 4::us 198))) K9 bel fun u3 w3 D bel=>?_
 obtain ⟨b10,E3_5,A10,B10⟩:=D.st 6
 have E3_7:=D.q 7
 replace B2:=D.k B2
 replace B3:=D.k B3
 replace B_q:=fun h=>D.k (B_q h)
 clear D
 refine gs 12 (Amb Z0 W) fun _ K11=>?_
 refine .lr rfl 2 E1_0 B2 ?_
 refine .lr rfl 3 E1_1 B3 ?_
 refine .cK rfl Tryz.func23 (fun H=>⟨_,ar2 (H.g 36 0) (H.g 37 1),hDivA1 (rg x) _ (by first | omega | exact len2_le | exact p1 | exact p2 | rfl)⟩) ?_
 refine .mv rfl 2 ?_
 refine .e rfl (V:=.agg zG) (fun H=>x_ex (H.g 35 3)) ?_
 refine .e rfl (V:=.agg zG) (fun H=>x_ex (H.g 35 3)) ?_
 refine .e rfl (V:=.int .i64 2) (fun H=>x_ex (H.g 35 3)) ?_
 refine .al rfl zG ?_
 refine .al rfl zG ?_
 refine .so rfl 7 (fun H=>⟨H.r 7 7,H.g 39 4⟩) ?_
 refine .so rfl 8 (fun H=>⟨H.r 8 8,H.g 40 5⟩) ?_
 refine .mv rfl 6 ?_
 refine .dk (fun u=>gV x::rgV q::sq u1 0 3 (u3 5::u3 7::u 7::u 8::u 11::sq uu 0 15 (gV x::rgV q::.slice p_q ([rg x,q]).length c_q::.bool false::U::u3 2::u3 0::u3 1::u3 3::u3 4::u 3::sq u 0 3 (sq u 4 3 (us 191))))) K11 bel fun u4 w4 D bel=>?_
 obtain ⟨b12,E4_7,A12,B12⟩:=D.st 9
 obtain ⟨b13,E4_8,A13,B13⟩:=D.st 10
 have E4_11:=D.q 11
 replace B2:=D.k B2
 replace B3:=D.k B3
 replace B10:=D.k B10
 replace B_q:=fun h=>D.k (B_q h)
 clear D
 refine gs 9 (Amb Z0 W) fun _ K14=>?_
 refine .lr rfl 2 E1_0 B2 ?_
 refine .lr rfl 3 E1_1 B3 ?_
 refine .cK rfl Tryz.func24 (fun H=>⟨_,ar2 (H.g 43 0) (H.g 44 1),hGcdA1 (rg x) _ (by first | omega | exact len2_le | exact p1 | exact p2 | rfl)⟩) ?_
 refine .mv rfl 2 ?_
 refine .e rfl (V:=.agg zG) (fun H=>x_ex (H.g 42 3)) ?_
 refine .e rfl (V:=.int .i64 2) (fun H=>x_ex (H.g 42 3)) ?_
 refine .al rfl zG ?_
 refine .so rfl 6 (fun H=>⟨H.r 10 6,H.g 46 4⟩) ?_
 refine .mv rfl 5 ?_
 refine .dk (fun u=>gV x::rgV q::sq u1 0 3 (u3 5::u3 7::u4 7::u4 8::u4 11::u 6::u 8::sq uu 0 13 (gV x::rgV q::.slice p_q ([rg x,q]).length c_q::.bool false::U::u3 2::u3 0::u3 1::u3 3::u3 4::u4 3::sq u4 0 3 (sq u4 4 3 (u 3::sq u 0 3 (u 4::u 5::us 185)))))) K14 bel fun u5 w5 D bel=>?_
 obtain ⟨b15,E5_6,A15,B15⟩:=D.st 7
 have E5_8:=D.q 8
 replace B2:=D.k B2
 replace B3:=D.k B3
 replace B10:=D.k B10
 replace B12:=D.k B12
 replace B13:=D.k B13
 replace B_q:=fun h=>D.k (B_q h)
 clear D
 refine gs 15 (Amb Z0 W) fun _ K16=>?_
 refine .lr rfl 2 E1_0 B2 ?_
 refine .lr rfl 3 E1_1 B3 ?_
 refine .cK rfl Tryz.func25 (fun H=>⟨_,ar2 (H.g 49 0) (H.g 50 1),hCombA1 (rg x) _ (by first | omega | exact len2_le | exact p1 | exact p2 | rfl)⟩) ?_
 refine .mv rfl 2 ?_
 refine .e rfl (V:=.agg zG) (fun H=>x_ex (H.g 48 3)) ?_
 refine .e rfl (V:=.agg zG) (fun H=>x_ex (H.g 48 3)) ?_
 refine .e rfl (V:=.agg zG) (fun H=>x_ex (H.g 48 3)) ?_
 refine .e rfl (V:=.int .i64 2) (fun H=>x_ex (H.g 48 3)) ?_
 refine .al rfl zG ?_
 refine .al rfl zG ?_
 refine .al rfl zG ?_
 refine .so rfl 8 (fun H=>⟨H.r 12 8,H.g 52 4⟩) ?_
 refine .so rfl 9 (fun H=>⟨H.r 13 9,H.g 53 5⟩) ?_
 refine .so rfl 10 (fun H=>⟨H.r 14 10,H.g 54 6⟩) ?_
 refine .mv rfl 7 ?_
 refine .dk (fun u=>gV x::rgV q::sq u1 0 3 (u3 5::u3 7::u4 7::u4 8::u4 11::u5 6::u5 8::sq u 8 3 (u 14::sq uu 0 9 (gV x::rgV q::.slice p_q ([rg x,q]).length c_q::.bool false::U::u3 2::u3 0::u3 1::u3 3::u3 4::u4 3::sq u4 0 3 (sq u4 4 3 (u5 3::sq u5 0 3 (u5 4::u5 5::u 3::sq u 0 3 (sq u 4 4 (us 177))))))))) K16 bel fun u6 w6 D bel=>?_
 obtain ⟨b17,E6_8,A17,B17⟩:=D.st 11
 obtain ⟨b18,E6_9,A18,B18⟩:=D.st 12
 obtain ⟨b19,E6_10,A19,B19⟩:=D.st 13
 have E6_14:=D.q 14
 replace B2:=D.k B2
 replace B3:=D.k B3
 replace B10:=D.k B10
 replace B12:=D.k B12
 replace B13:=D.k B13
 replace B15:=D.k B15
 replace B_q:=fun h=>D.k (B_q h)
 clear D
 refine gs 10 (Amb Z0 W) fun _ K20=>?_
 refine .lr rfl 2 E1_0 B2 ?_
 refine .cK rfl Tryz.func26 (fun H=>⟨_,ar1 (H.g 57 0),hFirA (rg x) (by first | omega | exact len2_le | exact p1 | exact p2 | rfl)⟩) ?_
 refine .mv rfl 1 ?_
 refine .e rfl (V:=.agg zG) (fun H=>x_ex (H.g 56 2)) ?_
 refine .e rfl (V:=.int .i64 0) (fun H=>x_ex (H.g 56 2)) ?_
 refine .e rfl (V:=.int .i64 2) (fun H=>x_ex (H.g 56 2)) ?_
 refine .al rfl zG ?_
 refine .so rfl 6 (fun H=>⟨H.r 16 6,H.g 59 3⟩) ?_
 refine .mv rfl 4 ?_
 refine .mv rfl 5 ?_
 refine .dk (fun u=>gV x::rgV q::sq u1 0 3 (u3 5::u3 7::u4 7::u4 8::u4 11::u5 6::u5 8::sq u6 8 3 (u6 14::u 6::u 8::u 9::U::U::U::U::U::U::gV x::rgV q::.slice p_q ([rg x,q]).length c_q::.bool false::U::u3 2::u3 0::u3 1::u3 3::u3 4::u4 3::sq u4 0 3 (sq u4 4 3 (u5 3::sq u5 0 3 (u5 4::u5 5::u6 3::sq u6 0 3 (sq u6 4 4 (u 2::u 0::u 1::sq u 3 3 (us 171))))))))) K20 bel fun u7 w7 D bel=>?_
 obtain ⟨b21,E7_6,A21,B21⟩:=D.st 7
 have E7_8:=D.q 8
 have E7_9:=D.q 9
 replace B2:=D.k B2
 replace B3:=D.k B3
 replace B10:=D.k B10
 replace B12:=D.k B12
 replace B13:=D.k B13
 replace B15:=D.k B15
 replace B17:=D.k B17
 replace B18:=D.k B18
 replace B19:=D.k B19
 replace B_q:=fun h=>D.k (B_q h)
 clear D
 refine gd 6 (Amb Z0 W) fun _ K22=>?_
 refine .lr rfl 2 E1_0 B2 ?_
 refine .cK rfl (V:=.bool false) Tryz.func27 (fun H=>⟨_,ar1 (H.g 62 0),reV (congrArg Value.bool p1) (cWhole (rg x))⟩) ?_
 refine .lr rfl 3 E1_1 B3 ?_
 refine .cK rfl Tryz.func27 (fun H=>⟨_,ar1 (H.g 64 2),cWhole _⟩) ?_
 refine .mv rfl 1 ?_
 refine .mv rfl 3 ?_
 refine .dk (fun u=>gV x::rgV q::sq u1 0 3 (u3 5::u3 7::u4 7::u4 8::u4 11::u5 6::u5 8::sq u6 8 3 (u6 14::u7 6::u7 8::u7 9::u 4::u 5::U::U::U::U::gV x::rgV q::.slice p_q ([rg x,q]).length c_q::.bool false::U::u3 2::u3 0::u3 1::u3 3::u3 4::u4 3::sq u4 0 3 (sq u4 4 3 (u5 3::sq u5 0 3 (u5 4::u5 5::u6 3::sq u6 0 3 (sq u6 4 4 (u7 2::u7 0::u7 1::sq u7 3 3 (sq u 0 4 (us 167)))))))))) K22 bel fun u8 w8 D bel=>?_
 have E8_4:=D.q 4
 have E8_5:=D.q 5
 replace B2:=D.k B2
 replace B3:=D.k B3
 replace B10:=D.k B10
 replace B12:=D.k B12
 replace B13:=D.k B13
 replace B15:=D.k B15
 replace B17:=D.k B17
 replace B18:=D.k B18
 replace B19:=D.k B19
 replace B21:=D.k B21
 replace B_q:=fun h=>D.k (B_q h)
 clear D
 refine wp_seq_k fun _ K23=>?_
 refine gs 10 (Amb Z0 W) fun _ K24=>?_
 refine .lr rfl 2 E1_0 B2 ?_
 refine .cK rfl (V:=.bool false) Tryz.func28 (fun H=>⟨_,ar1 (H.g 66 0),reV (congrArg Value.bool p1) (hWhole (rg x))⟩) ?_
 refine .mz rfl 19 E8_4 ?_
 refine .e rfl (V:=.bool false) (fun H=>x_bm (H.g 67 1) (H.g 68 2) rfl) ?_
 refine .mv rfl 3 ?_
 refine .lr rfl 3 E1_1 B3 ?_ (hg:=gq 4 rfl)
 refine .cK rfl Tryz.func28 (fun H=>⟨_,ar1 (H.g 71 5),hWhole _⟩) ?_ (hg:=gq 4 rfl)
 refine .mz rfl 20 E8_5 ?_ (hg:=gq 4 rfl)
 refine .e rfl (V:=.bool false) (fun H=>x_bns (H.g 72 6) (H.g 73 7)) ?_ (hg:=gq 4 rfl)
 refine .e rfl (fun H=>x_pkF (H.g 70 4) (H.g 74 8)) ?_
 refine .dk (fun u=>gV x::rgV q::sq u1 0 3 (u3 5::u3 7::u4 7::u4 8::u4 11::u5 6::u5 8::sq u6 8 3 (u6 14::u7 6::u7 8::u7 9::u8 4::u8 5::U::U::U::U::gV x::rgV q::.slice p_q ([rg x,q]).length c_q::.bool false::U::u3 2::u3 0::u3 1::u3 3::u3 4::u4 3::sq u4 0 3 (sq u4 4 3 (u5 3::sq u5 0 3 (u5 4::u5 5::u6 3::sq u6 0 3 (sq u6 4 4 (u7 2::u7 0::u7 1::sq u7 3 3 (sq u8 0 4 (sq u 0 10 (us 157))))))))))) K24 bel fun u9 w9 D bel=>?_
 have E9_9:=D.q 9
 replace B2:=D.k B2
 replace B3:=D.k B3
 replace B10:=D.k B10
 replace B12:=D.k B12
 replace B13:=D.k B13
 replace B15:=D.k B15
 replace B17:=D.k B17
 replace B18:=D.k B18
 replace B19:=D.k B19
 replace B21:=D.k B21
 replace B_q:=fun h=>D.k (B_q h)
 clear D
 refine wp_cond_false (by exact E9_9) ?_
 refine wp_skip ?_
 refine K23 _ _ ?_
 refine wp_seq_k fun _ K25=>?_
 refine gs 3 (Amb Z0 W) fun _ K26=>?_
 refine .lr rfl 2 E1_0 B2 ?_
 refine .cK rfl (V:=.bool true) Tryz.func19 (fun H=>⟨_,ar1 (H.g 76 0),reV (congrArg Value.bool p2) (cMay (rg x))⟩) ?_
 refine .e rfl (V:=.bool false) (fun H=>x_not (H.g 77 1)) ?_
 refine .dk (fun u=>gV x::rgV q::sq u1 0 3 (u3 5::u3 7::u4 7::u4 8::u4 11::u5 6::u5 8::sq u6 8 3 (u6 14::u7 6::u7 8::u7 9::u8 4::u8 5::U::U::U::U::gV x::rgV q::.slice p_q ([rg x,q]).length c_q::.bool false::U::u3 2::u3 0::u3 1::u3 3::u3 4::u4 3::sq u4 0 3 (sq u4 4 3 (u5 3::sq u5 0 3 (u5 4::u5 5::u6 3::sq u6 0 3 (sq u6 4 4 (u7 2::u7 0::u7 1::sq u7 3 3 (sq u8 0 4 (sq u9 0 10 (sq u 0 3 (us 154)))))))))))) K26 bel fun u10 w10 D bel=>?_
 have E10_2:=D.q 2
 replace B2:=D.k B2
 replace B3:=D.k B3
 replace B10:=D.k B10
 replace B12:=D.k B12
 replace B13:=D.k B13
 replace B15:=D.k B15
 replace B17:=D.k B17
 replace B18:=D.k B18
 replace B19:=D.k B19
 replace B21:=D.k B21
 replace B_q:=fun h=>D.k (B_q h)
 clear D
 refine wp_cond_false (by exact E10_2) ?_
 refine gd 6 (Amb Z0 W) fun _ K27=>?_
 refine .lr rfl 5 E3_5 B10 ?_
 refine .mz rfl 6 E3_7 ?_
 refine .lr rfl 2 E1_0 B2 ?_
 refine .cK rfl Tryz.func30 (fun H=>⟨_,ar1 (H.g 88 2),rNear _ (by first | omega | exact len2_le | exact p1 | exact p2 | rfl)⟩) ?_
 refine .cK rfl Tryz.func29 (fun H=>⟨_,ar3 (H.g 86 0) (H.g 87 1) (H.g 89 3),lTold _ _ _ (by first | omega | exact len2_le | exact p1 | exact p2 | rfl) (by first | omega | exact len2_le | exact p1 | exact p2 | rfl)⟩) ?_
 refine .e rfl (V:=.bool false) (fun H=>x_not (H.g 90 4)) ?_
 refine .dk (fun u=>gV x::rgV q::sq u1 0 3 (u3 5::u3 7::u4 7::u4 8::u4 11::u5 6::u5 8::sq u6 8 3 (u6 14::u7 6::u7 8::u7 9::u8 4::u8 5::U::U::U::U::gV x::rgV q::.slice p_q ([rg x,q]).length c_q::.bool false::U::u3 2::u3 0::u3 1::u3 3::u3 4::u4 3::sq u4 0 3 (sq u4 4 3 (u5 3::sq u5 0 3 (u5 4::u5 5::u6 3::sq u6 0 3 (sq u6 4 4 (u7 2::u7 0::u7 1::sq u7 3 3 (sq u8 0 4 (sq u9 0 10 (sq u10 0 3 (sq uu 0 7 (sq u 0 6 (us 141)))))))))))))) K27 bel fun u11 w11 D bel=>?_
 have E11_5:=D.q 5
 replace B2:=D.k B2
 replace B3:=D.k B3
 replace B12:=D.k B12
 replace B13:=D.k B13
 replace B15:=D.k B15
 replace B17:=D.k B17
 replace B18:=D.k B18
 replace B19:=D.k B19
 replace B21:=D.k B21
 replace B_q:=fun h=>D.k (B_q h)
 clear D
 refine wp_cond_false (by exact E11_5) ?_
 refine wp_skip ?_
 refine K25 _ _ ?_
 refine wp_seq_k fun _ K28=>?_
 refine gs 1 (Amb Z0 W) fun _ K29=>?_
 refine .mz rfl 19 E8_4 ?_
 refine .dk (fun u=>gV x::rgV q::sq u1 0 3 (u3 5::u3 7::u4 7::u4 8::u4 11::u5 6::u5 8::sq u6 8 3 (u6 14::u7 6::u7 8::u7 9::u8 4::u8 5::U::U::U::U::gV x::rgV q::.slice p_q ([rg x,q]).length c_q::.bool false::U::u3 2::u3 0::u3 1::u3 3::u3 4::u4 3::sq u4 0 3 (sq u4 4 3 (u5 3::sq u5 0 3 (u5 4::u5 5::u6 3::sq u6 0 3 (sq u6 4 4 (u7 2::u7 0::u7 1::sq u7 3 3 (sq u8 0 4 (sq u9 0 10 (sq u10 0 3 (sq uu 0 7 (sq u11 0 6 (u 0::us 140)))))))))))))) K29 bel fun u12 w12 D bel=>?_
 have E12_0:=D.q 0
 replace B2:=D.k B2
 replace B3:=D.k B3
 replace B12:=D.k B12
 replace B13:=D.k B13
 replace B15:=D.k B15
 replace B17:=D.k B17
 replace B18:=D.k B18
 replace B19:=D.k B19
 replace B21:=D.k B21
 replace B_q:=fun h=>D.k (B_q h)
 clear D
 refine wp_cond_false (by exact E12_0) ?_
 refine gs 11 (Amb Z0 W) fun _ K30=>?_
 refine .lr rfl 16 E7_6 B21 ?_
 refine .cK rfl (V:=.bool true) Tryz.func20 (fun H=>⟨_,ar1 (H.g 110 0),reV (congrArg Value.bool (decide_eq_true rfl)) (lNone rz)⟩) ?_
 refine .e rfl (V:=.bool false) (fun H=>x_not (H.g 111 1)) ?_
 refine .mv rfl 2 ?_
 refine .mz rfl 17 E7_8 ?_ (hg:=gq 3 rfl)
 refine .e rfl (V:=.bool false) (fun H=>x_cm (H.g 114 4) (H.c _) (bne_self_eq_false (show Int from 0))) ?_ (hg:=gq 3 rfl)
 refine .e rfl (fun H=>x_pkF (H.g 113 3) (H.g 115 5)) ?_
 refine .mv rfl 6 ?_
 refine .mz rfl 18 E7_9 ?_ (hg:=gq 7 rfl)
 refine .e rfl (V:=.bool false) (fun H=>x_cm (H.g 118 8) (H.c _) (bne_self_eq_false (show Int from 2))) ?_ (hg:=gq 7 rfl)
 refine .e rfl (fun H=>x_pkF (H.g 117 7) (H.g 119 9)) ?_
 refine .dk (fun u=>gV x::rgV q::sq u1 0 3 (u3 5::u3 7::u4 7::u4 8::u4 11::u5 6::u5 8::sq u6 8 3 (u6 14::u7 6::u7 8::u7 9::u8 4::u8 5::U::U::U::U::gV x::rgV q::.slice p_q ([rg x,q]).length c_q::.bool false::U::u3 2::u3 0::u3 1::u3 3::u3 4::u4 3::sq u4 0 3 (sq u4 4 3 (u5 3::sq u5 0 3 (u5 4::u5 5::u6 3::sq u6 0 3 (sq u6 4 4 (u7 2::u7 0::u7 1::sq u7 3 3 (sq u8 0 4 (sq u9 0 10 (sq u10 0 3 (sq uu 0 7 (sq u11 0 6 (u12 0::sq uu 0 17 (sq u 0 11 (us 112)))))))))))))))) K30 bel fun u13 w13 D bel=>?_
 have E13_10:=D.q 10
 replace B2:=D.k B2
 replace B3:=D.k B3
 replace B12:=D.k B12
 replace B13:=D.k B13
 replace B15:=D.k B15
 replace B17:=D.k B17
 replace B18:=D.k B18
 replace B19:=D.k B19
 replace B_q:=fun h=>D.k (B_q h)
 clear D
 refine wp_cond_false (by exact E13_10) ?_
 refine wp_skip ?_
 refine K28 _ _ ?_
 refine wp_seq_k fun _ K31=>?_
 refine gs 6 (Amb Z0 W) fun _ K32=>?_
 refine .mz rfl 19 E8_4 ?_
 refine .e rfl (V:=.bool true) (fun H=>x_not (H.g 121 0)) ?_
 refine .mv rfl 1 ?_
 refine .sk rfl 2 ?_
 refine .sk rfl 2 ?_
 refine .e rfl (fun H=>x_pkT (H.g 123 2) (H.c _)) ?_
 refine .dk (fun u=>gV x::rgV q::sq u1 0 3 (u3 5::u3 7::u4 7::u4 8::u4 11::u5 6::u5 8::sq u6 8 3 (u6 14::u7 6::u7 8::u7 9::u8 4::u8 5::U::U::U::U::gV x::rgV q::.slice p_q ([rg x,q]).length c_q::.bool false::U::u3 2::u3 0::u3 1::u3 3::u3 4::u4 3::sq u4 0 3 (sq u4 4 3 (u5 3::sq u5 0 3 (u5 4::u5 5::u6 3::sq u6 0 3 (sq u6 4 4 (u7 2::u7 0::u7 1::sq u7 3 3 (sq u8 0 4 (sq u9 0 10 (sq u10 0 3 (sq uu 0 7 (sq u11 0 6 (u12 0::sq uu 0 17 (sq u13 0 11 (sq u 0 6 (us 106))))))))))))))))) K32 bel fun u14 w14 D bel=>?_
 have E14_5:=D.q 5
 replace B2:=D.k B2
 replace B3:=D.k B3
 replace B12:=D.k B12
 replace B13:=D.k B13
 replace B15:=D.k B15
 replace B17:=D.k B17
 replace B18:=D.k B18
 replace B19:=D.k B19
 replace B_q:=fun h=>D.k (B_q h)
 clear D
 refine wp_cond_true (by exact E14_5) ?_
 refine gs 38 (Amb Z0 W) fun _ K33=>?_
 refine .lr rfl 7 E4_7 B12 ?_
 refine .cK rfl (V:=.bool true) Tryz.func20 (fun H=>⟨_,ar1 (H.g 127 0),reV (congrArg Value.bool (decide_eq_true rfl)) (lNone rz)⟩) ?_
 refine .mv rfl 1 ?_
 refine .lr rfl 8 E4_8 B13 ?_ (hg:=gq 2 rfl)
 refine .cK rfl (V:=.bool true) Tryz.func20 (fun H=>⟨_,ar1 (H.g 130 3),reV (congrArg Value.bool (decide_eq_true rfl)) (lNone rz)⟩) ?_ (hg:=gq 2 rfl)
 refine .e rfl (fun H=>x_pkT (H.g 129 2) (H.g 131 4)) ?_
 refine .mv rfl 5 ?_
 refine .mz rfl 9 E4_11 ?_ (hg:=gq 6 rfl)
 refine .e rfl (V:=.bool true) (fun H=>x_cm (H.g 134 7) (H.c _) (beq_self_eq_true (show Int from 2))) ?_ (hg:=gq 6 rfl)
 refine .e rfl (fun H=>x_pkT (H.g 133 6) (H.g 135 8)) ?_
 refine .mv rfl 9 ?_
 refine .lr rfl 10 E5_6 B15 ?_ (hg:=gq 10 rfl)
 refine .cK rfl (V:=.bool true) Tryz.func20 (fun H=>⟨_,ar1 (H.g 138 11),reV (congrArg Value.bool (decide_eq_true rfl)) (lNone rz)⟩) ?_ (hg:=gq 10 rfl)
 refine .e rfl (fun H=>x_pkT (H.g 137 10) (H.g 139 12)) ?_
 refine .mv rfl 13 ?_
 refine .mz rfl 11 E5_8 ?_ (hg:=gq 14 rfl)
 refine .e rfl (V:=.bool true) (fun H=>x_cm (H.g 142 15) (H.c _) (beq_self_eq_true (show Int from 2))) ?_ (hg:=gq 14 rfl)
 refine .e rfl (fun H=>x_pkT (H.g 141 14) (H.g 143 16)) ?_
 refine .mv rfl 17 ?_
 refine .lr rfl 12 E6_8 B17 ?_ (hg:=gq 18 rfl)
 refine .cK rfl (V:=.bool true) Tryz.func20 (fun H=>⟨_,ar1 (H.g 146 19),reV (congrArg Value.bool (decide_eq_true rfl)) (lNone rz)⟩) ?_ (hg:=gq 18 rfl)
 refine .e rfl (fun H=>x_pkT (H.g 145 18) (H.g 147 20)) ?_
 refine .mv rfl 21 ?_
 refine .lr rfl 13 E6_9 B18 ?_ (hg:=gq 22 rfl)
 refine .cK rfl (V:=.bool true) Tryz.func20 (fun H=>⟨_,ar1 (H.g 150 23),reV (congrArg Value.bool (decide_eq_true rfl)) (lNone rz)⟩) ?_ (hg:=gq 22 rfl)
 refine .e rfl (fun H=>x_pkT (H.g 149 22) (H.g 151 24)) ?_
 refine .mv rfl 25 ?_
 refine .lr rfl 14 E6_10 B19 ?_ (hg:=gq 26 rfl)
 refine .cK rfl (V:=.bool true) Tryz.func20 (fun H=>⟨_,ar1 (H.g 154 27),reV (congrArg Value.bool (decide_eq_true rfl)) (lNone rz)⟩) ?_ (hg:=gq 26 rfl)
 refine .e rfl (fun H=>x_pkT (H.g 153 26) (H.g 155 28)) ?_
 refine .mv rfl 29 ?_
 refine .mz rfl 15 E6_14 ?_ (hg:=gq 30 rfl)
 refine .e rfl (V:=.bool true) (fun H=>x_cm (H.g 158 31) (H.c _) (beq_self_eq_true (show Int from 2))) ?_ (hg:=gq 30 rfl)
 refine .e rfl (fun H=>x_pkT (H.g 157 30) (H.g 159 32)) ?_
 refine .mv rfl 33 ?_
 refine .cK rfl Tryz.func9 (fun H=>⟨_,ar0,lKnown⟩) ?_ (hg:=gq 34 rfl)
 refine .e rfl (fun H=>x_pkT (H.g 161 34) (H.g 162 35)) ?_
 refine .mv rfl 36 ?_
 refine .dk (fun u=>gV x::rgV q::u1 0::u1 1::u 37::u3 5::u3 7::u4 7::u4 8::u4 11::u5 6::u5 8::sq u6 8 3 (u6 14::u7 6::u7 8::u7 9::u8 4::u8 5::U::U::U::U::gV x::rgV q::.slice p_q ([rg x,q]).length c_q::.bool false::U::u3 2::u3 0::u3 1::u3 3::u3 4::u4 3::sq u4 0 3 (sq u4 4 3 (u5 3::sq u5 0 3 (u5 4::u5 5::u6 3::sq u6 0 3 (sq u6 4 4 (u7 2::u7 0::u7 1::sq u7 3 3 (sq u8 0 4 (sq u9 0 10 (sq u10 0 3 (sq uu 0 7 (sq u11 0 6 (u12 0::sq uu 0 17 (sq u13 0 11 (sq u14 0 6 (sq u 0 37 (us 69))))))))))))))))) K33 bel fun u15 w15 D bel=>?_
 have E15_37:=D.q 37
 replace B_q:=fun h=>D.k (B_q h)
 clear D
 exact wp_ret (rt rfl E15_37 rfl bel)
theorem lDivV3 (x:Cx) (q:RG) (p0:wideU (40:Int) ([rg x,q]) = false) (p1:gwhole (rg x) = true) (p2:gwhole q = false) (p3:ht x.re + ht x.im ≤ 20000) (p4:gfits (rg (x.mul (unitC (firstC x).toNat))) = true) :
  Calls Tryz.prog 5 #[gV x,rgV q] W (RetV (.bool true) W):=by
 have kf:=firstC_cases x
 have ku:=ht_unit (firstC x).toNat
 have bel:=b0 W
 go_enter Tryz.func5,Tryz.ntmps5
 refine gs 3 (Amb Z0 W) fun _ K1=>?_
 refine .bx rfl (fun H=>H.v 0 (gV x)) ?_
 refine .bx rfl (fun H=>H.v 1 (rgV q)) ?_
 refine .mc rfl ?_
 refine .dk (fun u=>gV x::rgV q::sq u 0 3 (us 228)) K1 bel fun u1 w1 D bel=>?_
 obtain ⟨b2,E1_0,A2,B2⟩:=D.nw 0
 obtain ⟨b3,E1_1,A3,B3⟩:=D.nw 1
 have E1_2:=D.q 2
 clear D
 refine wp_seq_k fun _ K4=>?_
 refine wp_seq_k fun _ K5=>?_
 refine wp_region_list ?_
 refine wpT_val (v:=gV x) rfl (ex_load_row 30 _ rfl (by exact E1_0) B2 Tryz.underlying30 rfl (by kernel_rfl)) ?_
 refine wpList_as (fr (gV x::rgV q::sq u1 0 3 (sq uu 0 20 (gV x::us 207)))) (by kernel_rfl) ?_
 refine wpT_val (v:=rgV q) rfl (ex_load_row 30 _ rfl (by exact E1_1) B3 Tryz.underlying30 rfl (by kernel_rfl)) ?_
 refine wpList_as (fr (gV x::rgV q::sq u1 0 3 (sq uu 0 20 (gV x::rgV q::us 206)))) (by kernel_rfl) ?_
 refine wpT_lit2 (r0:=rg x) (r1:=q) rfl rfl rfl rfl fun v7 w6 tw6 mw6 ow6=>?_
 obtain ⟨p_q,c_q,cur_q,T_q,fr_q,rfl,y_q,z_q,P_q,B_q,Q_q⟩:=GSl.open tw6
 replace mw6:=mw6 _ _ _ rfl
 have N_q_b2:=Nat.ne_of_lt (Nat.lt_of_lt_of_le (lt_of B2) mw6)
 have N_q_b3:=Nat.ne_of_lt (Nat.lt_of_lt_of_le (lt_of B3) mw6)
 replace B2:=(ow6.block b2 (lt_of B2)).trans B2
 replace B3:=(ow6.block b3 (lt_of B3)).trans B3
 replace bel:=bel.trans (ow6.mono bel.size)
 replace P_q:=Lib.hid P_q
 have X_q:=GSl.lt B_q
 refine wpList_as (fr (gV x::rgV q::sq u1 0 3 (sq uu 0 20 (gV x::rgV q::.slice p_q ([rg x,q]).length c_q::us 205)))) (by kernel_rfl) ?_
 refine wpT_callKW (V:=.bool false) (wanted_none rfl _) (ex_call rfl rfl Tryz.func8 (by kernel_rfl) (by kernel_rfl) (by simp only [List.map_toArray,List.map_cons,List.map_nil]; rfl)) (reV (congrArg Value.bool p0) (lWide (most:=(40:Int)) (l:=[rg x,q]) (GSl.mk y_q z_q P_q.out B_q Q_q) (by first | omega | exact len2_le | exact p1 | exact p2 | exact p4 | exact gw_may p1 | rfl))) fun w8 ow8=>?_
 replace B2:=(ow8.block b2 (lt_of B2)).trans B2
 replace B3:=(ow8.block b3 (lt_of B3)).trans B3
 replace B_q:=fun h=>(ow8.block _ (lt_of (B_q h))).trans (B_q h)
 replace bel:=bel.trans (ow8.mono bel.size)
 refine wpList_as (fr (gV x::rgV q::sq u1 0 3 (sq uu 0 20 (gV x::rgV q::.slice p_q ([rg x,q]).length c_q::.bool false::us 204)))) (by kernel_rfl) ?_
 refine wpList_nil ?_
 show _
 refine K5 _ _ ?_
 refine wp_cond_false rfl ?_
 refine wp_skip ?_
 refine K4 _ _ ?_
 refine gs 8 (Amb Z0 W) fun _ K9=>?_
 refine .lr rfl 2 E1_0 B2 ?_
 refine .cK rfl Tryz.func22 (fun H=>⟨_,ar1 (H.g 31 0),hNearC _ (by first | omega | exact len2_le | exact p1 | exact p2 | exact p4 | exact gw_may p1 | rfl) (by first | omega | exact len2_le | exact p1 | exact p2 | exact p4 | exact gw_may p1 | rfl)⟩) ?_
 refine .mv rfl 1 ?_
 refine .e rfl (V:=rgV (gcut x.near)) (fun H=>x_ex (H.g 30 2)) ?_
 refine .e rfl (V:=.int .i64 (gerr x.near)) (fun H=>x_ex (H.g 30 2)) ?_
 refine .al rfl zG ?_
 refine .so rfl 5 (fun H=>⟨H.r 5 5,H.g 33 3⟩) ?_
 refine .mv rfl 4 ?_
 refine .dk (fun u=>gV x::rgV q::sq u1 0 3 (u 5::u 7::sq uu 0 18 (gV x::rgV q::.slice p_q ([rg x,q]).length c_q::.bool false::U::u 2::u 0::u 1::u 3::u 4::us 198))) K9 bel fun u3 w3 D bel=>?_
 obtain ⟨b10,E3_5,A10,B10⟩:=D.st 6
 have E3_7:=D.q 7
 replace B2:=D.k B2
 replace B3:=D.k B3
 replace B_q:=fun h=>D.k (B_q h)
 clear D
 refine gs 12 (Amb Z0 W) fun _ K11=>?_
 refine .lr rfl 2 E1_0 B2 ?_
 refine .lr rfl 3 E1_1 B3 ?_
 refine .cK rfl Tryz.func23 (fun H=>⟨_,ar2 (H.g 36 0) (H.g 37 1),hDivA2 (rg x) _ (by first | omega | exact len2_le | exact p1 | exact p2 | exact p4 | exact gw_may p1 | rfl) (by first | omega | exact len2_le | exact p1 | exact p2 | exact p4 | exact gw_may p1 | rfl)⟩) ?_
 refine .mv rfl 2 ?_
 refine .e rfl (V:=.agg zG) (fun H=>x_ex (H.g 35 3)) ?_
 refine .e rfl (V:=.agg zG) (fun H=>x_ex (H.g 35 3)) ?_
 refine .e rfl (V:=.int .i64 2) (fun H=>x_ex (H.g 35 3)) ?_
 refine .al rfl zG ?_
 refine .al rfl zG ?_
 refine .so rfl 7 (fun H=>⟨H.r 7 7,H.g 39 4⟩) ?_
 refine .so rfl 8 (fun H=>⟨H.r 8 8,H.g 40 5⟩) ?_
 refine .mv rfl 6 ?_
 refine .dk (fun u=>gV x::rgV q::sq u1 0 3 (u3 5::u3 7::u 7::u 8::u 11::sq uu 0 15 (gV x::rgV q::.slice p_q ([rg x,q]).length c_q::.bool false::U::u3 2::u3 0::u3 1::u3 3::u3 4::u 3::sq u 0 3 (sq u 4 3 (us 191))))) K11 bel fun u4 w4 D bel=>?_
 obtain ⟨b12,E4_7,A12,B12⟩:=D.st 9
 obtain ⟨b13,E4_8,A13,B13⟩:=D.st 10
 have E4_11:=D.q 11
 replace B2:=D.k B2
 replace B3:=D.k B3
 replace B10:=D.k B10
 replace B_q:=fun h=>D.k (B_q h)
 clear D
 refine gs 9 (Amb Z0 W) fun _ K14=>?_
 refine .lr rfl 2 E1_0 B2 ?_
 refine .lr rfl 3 E1_1 B3 ?_
 refine .cK rfl Tryz.func24 (fun H=>⟨_,ar2 (H.g 43 0) (H.g 44 1),hGcdA2 (rg x) _ (by first | omega | exact len2_le | exact p1 | exact p2 | exact p4 | exact gw_may p1 | rfl) (by first | omega | exact len2_le | exact p1 | exact p2 | exact p4 | exact gw_may p1 | rfl)⟩) ?_
 refine .mv rfl 2 ?_
 refine .e rfl (V:=.agg zG) (fun H=>x_ex (H.g 42 3)) ?_
 refine .e rfl (V:=.int .i64 2) (fun H=>x_ex (H.g 42 3)) ?_
 refine .al rfl zG ?_
 refine .so rfl 6 (fun H=>⟨H.r 10 6,H.g 46 4⟩) ?_
 refine .mv rfl 5 ?_
 refine .dk (fun u=>gV x::rgV q::sq u1 0 3 (u3 5::u3 7::u4 7::u4 8::u4 11::u 6::u 8::sq uu 0 13 (gV x::rgV q::.slice p_q ([rg x,q]).length c_q::.bool false::U::u3 2::u3 0::u3 1::u3 3::u3 4::u4 3::sq u4 0 3 (sq u4 4 3 (u 3::sq u 0 3 (u 4::u 5::us 185)))))) K14 bel fun u5 w5 D bel=>?_
 obtain ⟨b15,E5_6,A15,B15⟩:=D.st 7
 have E5_8:=D.q 8
 replace B2:=D.k B2
 replace B3:=D.k B3
 replace B10:=D.k B10
 replace B12:=D.k B12
 replace B13:=D.k B13
 replace B_q:=fun h=>D.k (B_q h)
 clear D
 refine gs 15 (Amb Z0 W) fun _ K16=>?_
 refine .lr rfl 2 E1_0 B2 ?_
 refine .lr rfl 3 E1_1 B3 ?_
 refine .cK rfl Tryz.func25 (fun H=>⟨_,ar2 (H.g 49 0) (H.g 50 1),hCombA2 (rg x) _ (by first | omega | exact len2_le | exact p1 | exact p2 | exact p4 | exact gw_may p1 | rfl) (by first | omega | exact len2_le | exact p1 | exact p2 | exact p4 | exact gw_may p1 | rfl)⟩) ?_
 refine .mv rfl 2 ?_
 refine .e rfl (V:=.agg zG) (fun H=>x_ex (H.g 48 3)) ?_
 refine .e rfl (V:=.agg zG) (fun H=>x_ex (H.g 48 3)) ?_
 refine .e rfl (V:=.agg zG) (fun H=>x_ex (H.g 48 3)) ?_
 refine .e rfl (V:=.int .i64 2) (fun H=>x_ex (H.g 48 3)) ?_
 refine .al rfl zG ?_
 refine .al rfl zG ?_
 refine .al rfl zG ?_
 refine .so rfl 8 (fun H=>⟨H.r 12 8,H.g 52 4⟩) ?_
 refine .so rfl 9 (fun H=>⟨H.r 13 9,H.g 53 5⟩) ?_
 refine .so rfl 10 (fun H=>⟨H.r 14 10,H.g 54 6⟩) ?_
 refine .mv rfl 7 ?_
 refine .dk (fun u=>gV x::rgV q::sq u1 0 3 (u3 5::u3 7::u4 7::u4 8::u4 11::u5 6::u5 8::sq u 8 3 (u 14::sq uu 0 9 (gV x::rgV q::.slice p_q ([rg x,q]).length c_q::.bool false::U::u3 2::u3 0::u3 1::u3 3::u3 4::u4 3::sq u4 0 3 (sq u4 4 3 (u5 3::sq u5 0 3 (u5 4::u5 5::u 3::sq u 0 3 (sq u 4 4 (us 177))))))))) K16 bel fun u6 w6 D bel=>?_
 obtain ⟨b17,E6_8,A17,B17⟩:=D.st 11
 obtain ⟨b18,E6_9,A18,B18⟩:=D.st 12
 obtain ⟨b19,E6_10,A19,B19⟩:=D.st 13
 have E6_14:=D.q 14
 replace B2:=D.k B2
 replace B3:=D.k B3
 replace B10:=D.k B10
 replace B12:=D.k B12
 replace B13:=D.k B13
 replace B15:=D.k B15
 replace B_q:=fun h=>D.k (B_q h)
 clear D
 refine gs 10 (Amb Z0 W) fun _ K20=>?_
 refine .lr rfl 2 E1_0 B2 ?_
 refine .cK rfl Tryz.func26 (fun H=>⟨_,ar1 (H.g 57 0),hFirC _ (by first | omega | exact len2_le | exact p1 | exact p2 | exact p4 | exact gw_may p1 | rfl) (by first | omega | exact len2_le | exact p1 | exact p2 | exact p4 | exact gw_may p1 | rfl) (by first | omega | exact len2_le | exact p1 | exact p2 | exact p4 | exact gw_may p1 | rfl)⟩) ?_
 refine .mv rfl 1 ?_
 refine .e rfl (V:=gV (x.mul (unitC (firstC x).toNat))) (fun H=>x_ex (H.g 56 2)) ?_
 refine .e rfl (V:=.int .i64 (firstC x)) (fun H=>x_ex (H.g 56 2)) ?_
 refine .e rfl (V:=.int .i64 0) (fun H=>x_ex (H.g 56 2)) ?_
 refine .al rfl zG ?_
 refine .so rfl 6 (fun H=>⟨H.r 16 6,H.g 59 3⟩) ?_
 refine .mv rfl 4 ?_
 refine .mv rfl 5 ?_
 refine .dk (fun u=>gV x::rgV q::sq u1 0 3 (u3 5::u3 7::u4 7::u4 8::u4 11::u5 6::u5 8::sq u6 8 3 (u6 14::u 6::u 8::u 9::U::U::U::U::U::U::gV x::rgV q::.slice p_q ([rg x,q]).length c_q::.bool false::U::u3 2::u3 0::u3 1::u3 3::u3 4::u4 3::sq u4 0 3 (sq u4 4 3 (u5 3::sq u5 0 3 (u5 4::u5 5::u6 3::sq u6 0 3 (sq u6 4 4 (u 2::u 0::u 1::sq u 3 3 (us 171))))))))) K20 bel fun u7 w7 D bel=>?_
 obtain ⟨b21,E7_6,A21,B21⟩:=D.st 7
 have E7_8:=D.q 8
 have E7_9:=D.q 9
 replace B2:=D.k B2
 replace B3:=D.k B3
 replace B10:=D.k B10
 replace B12:=D.k B12
 replace B13:=D.k B13
 replace B15:=D.k B15
 replace B17:=D.k B17
 replace B18:=D.k B18
 replace B19:=D.k B19
 replace B_q:=fun h=>D.k (B_q h)
 clear D
 refine gd 6 (Amb Z0 W) fun _ K22=>?_
 refine .lr rfl 2 E1_0 B2 ?_
 refine .cK rfl (V:=.bool true) Tryz.func27 (fun H=>⟨_,ar1 (H.g 62 0),reV (congrArg Value.bool p1) (cWhole (rg x))⟩) ?_
 refine .lr rfl 3 E1_1 B3 ?_
 refine .cK rfl (V:=.bool false) Tryz.func27 (fun H=>⟨_,ar1 (H.g 64 2),reV (congrArg Value.bool p2) (cWhole _)⟩) ?_
 refine .mv rfl 1 ?_
 refine .mv rfl 3 ?_
 refine .dk (fun u=>gV x::rgV q::sq u1 0 3 (u3 5::u3 7::u4 7::u4 8::u4 11::u5 6::u5 8::sq u6 8 3 (u6 14::u7 6::u7 8::u7 9::u 4::u 5::U::U::U::U::gV x::rgV q::.slice p_q ([rg x,q]).length c_q::.bool false::U::u3 2::u3 0::u3 1::u3 3::u3 4::u4 3::sq u4 0 3 (sq u4 4 3 (u5 3::sq u5 0 3 (u5 4::u5 5::u6 3::sq u6 0 3 (sq u6 4 4 (u7 2::u7 0::u7 1::sq u7 3 3 (sq u 0 4 (us 167)))))))))) K22 bel fun u8 w8 D bel=>?_
 have E8_4:=D.q 4
 have E8_5:=D.q 5
 replace B2:=D.k B2
 replace B3:=D.k B3
 replace B10:=D.k B10
 replace B12:=D.k B12
 replace B13:=D.k B13
 replace B15:=D.k B15
 replace B17:=D.k B17
 replace B18:=D.k B18
 replace B19:=D.k B19
 replace B21:=D.k B21
 replace B_q:=fun h=>D.k (B_q h)
 clear D
 refine wp_seq_k fun _ K23=>?_
 refine gs 10 (Amb Z0 W) fun _ K24=>?_
 refine .lr rfl 2 E1_0 B2 ?_
 refine .cK rfl (V:=.bool true) Tryz.func28 (fun H=>⟨_,ar1 (H.g 66 0),reV (congrArg Value.bool p1) (hWhole (rg x))⟩) ?_
 refine .mz rfl 19 E8_4 ?_
 refine .e rfl (V:=.bool false) (fun H=>x_bm (H.g 67 1) (H.g 68 2) rfl) ?_
 refine .mv rfl 3 ?_
 refine .lr rfl 3 E1_1 B3 ?_ (hg:=gq 4 rfl)
 refine .cK rfl (V:=.bool false) Tryz.func28 (fun H=>⟨_,ar1 (H.g 71 5),reV (congrArg Value.bool p2) (hWhole _)⟩) ?_ (hg:=gq 4 rfl)
 refine .mz rfl 20 E8_5 ?_ (hg:=gq 4 rfl)
 refine .e rfl (V:=.bool false) (fun H=>x_bm (H.g 72 6) (H.g 73 7) rfl) ?_ (hg:=gq 4 rfl)
 refine .e rfl (fun H=>x_pkF (H.g 70 4) (H.g 74 8)) ?_
 refine .dk (fun u=>gV x::rgV q::sq u1 0 3 (u3 5::u3 7::u4 7::u4 8::u4 11::u5 6::u5 8::sq u6 8 3 (u6 14::u7 6::u7 8::u7 9::u8 4::u8 5::U::U::U::U::gV x::rgV q::.slice p_q ([rg x,q]).length c_q::.bool false::U::u3 2::u3 0::u3 1::u3 3::u3 4::u4 3::sq u4 0 3 (sq u4 4 3 (u5 3::sq u5 0 3 (u5 4::u5 5::u6 3::sq u6 0 3 (sq u6 4 4 (u7 2::u7 0::u7 1::sq u7 3 3 (sq u8 0 4 (sq u 0 10 (us 157))))))))))) K24 bel fun u9 w9 D bel=>?_
 have E9_9:=D.q 9
 replace B2:=D.k B2
 replace B3:=D.k B3
 replace B10:=D.k B10
 replace B12:=D.k B12
 replace B13:=D.k B13
 replace B15:=D.k B15
 replace B17:=D.k B17
 replace B18:=D.k B18
 replace B19:=D.k B19
 replace B21:=D.k B21
 replace B_q:=fun h=>D.k (B_q h)
 clear D
 refine wp_cond_false (by exact E9_9) ?_
 refine wp_skip ?_
 refine K23 _ _ ?_
 refine wp_seq_k fun _ K25=>?_
 refine gs 3 (Amb Z0 W) fun _ K26=>?_
 refine .lr rfl 2 E1_0 B2 ?_
 refine .cK rfl (V:=.bool true) Tryz.func19 (fun H=>⟨_,ar1 (H.g 76 0),reV (congrArg Value.bool (gw_may p1)) (cMay (rg x))⟩) ?_
 refine .e rfl (V:=.bool false) (fun H=>x_not (H.g 77 1)) ?_
 refine .dk (fun u=>gV x::rgV q::sq u1 0 3 (u3 5::u3 7::u4 7::u4 8::u4 11::u5 6::u5 8::sq u6 8 3 (u6 14::u7 6::u7 8::u7 9::u8 4::u8 5::U::U::U::U::gV x::rgV q::.slice p_q ([rg x,q]).length c_q::.bool false::U::u3 2::u3 0::u3 1::u3 3::u3 4::u4 3::sq u4 0 3 (sq u4 4 3 (u5 3::sq u5 0 3 (u5 4::u5 5::u6 3::sq u6 0 3 (sq u6 4 4 (u7 2::u7 0::u7 1::sq u7 3 3 (sq u8 0 4 (sq u9 0 10 (sq u 0 3 (us 154)))))))))))) K26 bel fun u10 w10 D bel=>?_
 have E10_2:=D.q 2
 replace B2:=D.k B2
 replace B3:=D.k B3
 replace B10:=D.k B10
 replace B12:=D.k B12
 replace B13:=D.k B13
 replace B15:=D.k B15
 replace B17:=D.k B17
 replace B18:=D.k B18
 replace B19:=D.k B19
 replace B21:=D.k B21
 replace B_q:=fun h=>D.k (B_q h)
 clear D
 refine wp_cond_false (by exact E10_2) ?_
 refine gd 6 (Amb Z0 W) fun _ K27=>?_
 refine .lr rfl 5 E3_5 B10 ?_
 refine .mz rfl 6 E3_7 ?_
 refine .lr rfl 2 E1_0 B2 ?_
 refine .cK rfl Tryz.func30 (fun H=>⟨_,ar1 (H.g 88 2),rNear _ (by first | omega | exact len2_le | exact p1 | exact p2 | exact p4 | exact gw_may p1 | rfl)⟩) ?_
 refine .cK rfl Tryz.func29 (fun H=>⟨_,ar3 (H.g 86 0) (H.g 87 1) (H.g 89 3),lTold _ _ _ (by first | omega | exact len2_le | exact p1 | exact p2 | exact p4 | exact gw_may p1 | rfl) (by first | omega | exact len2_le | exact p1 | exact p2 | exact p4 | exact gw_may p1 | rfl)⟩) ?_
 refine .e rfl (V:=.bool false) (fun H=>x_not (H.g 90 4)) ?_
 refine .dk (fun u=>gV x::rgV q::sq u1 0 3 (u3 5::u3 7::u4 7::u4 8::u4 11::u5 6::u5 8::sq u6 8 3 (u6 14::u7 6::u7 8::u7 9::u8 4::u8 5::U::U::U::U::gV x::rgV q::.slice p_q ([rg x,q]).length c_q::.bool false::U::u3 2::u3 0::u3 1::u3 3::u3 4::u4 3::sq u4 0 3 (sq u4 4 3 (u5 3::sq u5 0 3 (u5 4::u5 5::u6 3::sq u6 0 3 (sq u6 4 4 (u7 2::u7 0::u7 1::sq u7 3 3 (sq u8 0 4 (sq u9 0 10 (sq u10 0 3 (sq uu 0 7 (sq u 0 6 (us 141)))))))))))))) K27 bel fun u11 w11 D bel=>?_
 have E11_5:=D.q 5
 replace B2:=D.k B2
 replace B3:=D.k B3
 replace B12:=D.k B12
 replace B13:=D.k B13
 replace B15:=D.k B15
 replace B17:=D.k B17
 replace B18:=D.k B18
 replace B19:=D.k B19
 replace B21:=D.k B21
 replace B_q:=fun h=>D.k (B_q h)
 clear D
 refine wp_cond_false (by exact E11_5) ?_
 refine wp_skip ?_
 refine K25 _ _ ?_
 refine wp_seq_k fun _ K28=>?_
 refine gs 1 (Amb Z0 W) fun _ K29=>?_
 refine .mz rfl 19 E8_4 ?_
 refine .dk (fun u=>gV x::rgV q::sq u1 0 3 (u3 5::u3 7::u4 7::u4 8::u4 11::u5 6::u5 8::sq u6 8 3 (u6 14::u7 6::u7 8::u7 9::u8 4::u8 5::U::U::U::U::gV x::rgV q::.slice p_q ([rg x,q]).length c_q::.bool false::U::u3 2::u3 0::u3 1::u3 3::u3 4::u4 3::sq u4 0 3 (sq u4 4 3 (u5 3::sq u5 0 3 (u5 4::u5 5::u6 3::sq u6 0 3 (sq u6 4 4 (u7 2::u7 0::u7 1::sq u7 3 3 (sq u8 0 4 (sq u9 0 10 (sq u10 0 3 (sq uu 0 7 (sq u11 0 6 (u 0::us 140)))))))))))))) K29 bel fun u12 w12 D bel=>?_
 have E12_0:=D.q 0
 replace B2:=D.k B2
 replace B3:=D.k B3
 replace B12:=D.k B12
 replace B13:=D.k B13
 replace B15:=D.k B15
 replace B17:=D.k B17
 replace B18:=D.k B18
 replace B19:=D.k B19
 replace B21:=D.k B21
 replace B_q:=fun h=>D.k (B_q h)
 clear D
 refine wp_cond_true (by exact E12_0) ?_
 refine gs 3 (Amb Z0 W) fun _ K30=>?_
 refine .lr rfl 2 E1_0 B2 ?_
 refine .cK rfl Tryz.func31 (fun H=>⟨_,ar1 (H.g 93 0),rFirst _ (by first | omega | exact len2_le | exact p1 | exact p2 | exact p4 | exact gw_may p1 | rfl)⟩) ?_
 refine .mv rfl 1 ?_
 refine .dk (fun u=>gV x::rgV q::sq u1 0 3 (u3 5::u3 7::u4 7::u4 8::u4 11::u5 6::u5 8::sq u6 8 3 (u6 14::u7 6::u7 8::u7 9::u8 4::u8 5::u 2::U::U::U::gV x::rgV q::.slice p_q ([rg x,q]).length c_q::.bool false::U::u3 2::u3 0::u3 1::u3 3::u3 4::u4 3::sq u4 0 3 (sq u4 4 3 (u5 3::sq u5 0 3 (u5 4::u5 5::u6 3::sq u6 0 3 (sq u6 4 4 (u7 2::u7 0::u7 1::sq u7 3 3 (sq u8 0 4 (sq u9 0 10 (sq u10 0 3 (sq uu 0 7 (sq u11 0 6 (u12 0::u 0::u 1::us 138)))))))))))))) K30 bel fun u13 w13 D bel=>?_
 have E13_2:=D.q 2
 replace B2:=D.k B2
 replace B3:=D.k B3
 replace B12:=D.k B12
 replace B13:=D.k B13
 replace B15:=D.k B15
 replace B17:=D.k B17
 replace B18:=D.k B18
 replace B19:=D.k B19
 replace B21:=D.k B21
 replace B_q:=fun h=>D.k (B_q h)
 clear D
 refine gd 15 (Amb Z0 W) fun _ K31=>?_
 refine .lr rfl 16 E7_6 B21 ?_
 refine .lr rfl 2 E1_0 B2 ?_
 refine .mz rfl 21 E13_2 ?_
 refine .cK rfl Tryz.func33 (fun H=>⟨_,ar1 (H.g 97 2),rUnit _ (by first | omega | exact len2_le | exact p1 | exact p2 | exact p4 | exact gw_may p1 | rfl) (by first | omega | exact len2_le | exact p1 | exact p2 | exact p4 | exact gw_may p1 | rfl)⟩) ?_
 refine .cK rfl Tryz.func32 (fun H=>⟨_,ar2 (H.g 96 1) (H.g 98 3),cTimes _ _ (by first | omega | exact len2_le | exact p1 | exact p2 | exact p4 | exact gw_may p1 | rfl)⟩) ?_
 refine .e rfl (V:=.bool false) (fun H=>ex_neq_gauss (r:=rg (x.mul (unitC (firstC x).toNat))) (q:=rg (x.mul (unitC (firstC x).toNat))) _ _ rfl (H.g 95 0) (H.g 99 4) ((rg_dec (x.mul (unitC (firstC x).toNat)) (x.mul (unitC (firstC x).toNat))).trans (decide_eq_true rfl))) ?_
 refine .mv rfl 5 ?_
 refine .mz rfl 17 E7_8 ?_ (hg:=gq 6 rfl)
 refine .mz rfl 21 E13_2 ?_ (hg:=gq 6 rfl)
 refine .e rfl (V:=.bool false) (fun H=>x_cm (H.g 102 7) (H.g 103 8) (bne_self_eq_false (show Int from (firstC x)))) ?_ (hg:=gq 6 rfl)
 refine .e rfl (fun H=>x_pkF (H.g 101 6) (H.g 104 9)) ?_
 refine .mv rfl 10 ?_
 refine .mz rfl 18 E7_9 ?_ (hg:=gq 11 rfl)
 refine .e rfl (V:=.bool false) (fun H=>x_cm (H.g 107 12) (H.c _) (bne_self_eq_false (show Int from 0))) ?_ (hg:=gq 11 rfl)
 refine .e rfl (fun H=>x_pkF (H.g 106 11) (H.g 108 13)) ?_
 refine .dk (fun u=>gV x::rgV q::sq u1 0 3 (u3 5::u3 7::u4 7::u4 8::u4 11::u5 6::u5 8::sq u6 8 3 (u6 14::u7 6::u7 8::u7 9::u8 4::u8 5::u13 2::U::U::U::gV x::rgV q::.slice p_q ([rg x,q]).length c_q::.bool false::U::u3 2::u3 0::u3 1::u3 3::u3 4::u4 3::sq u4 0 3 (sq u4 4 3 (u5 3::sq u5 0 3 (u5 4::u5 5::u6 3::sq u6 0 3 (sq u6 4 4 (u7 2::u7 0::u7 1::sq u7 3 3 (sq u8 0 4 (sq u9 0 10 (sq u10 0 3 (sq uu 0 7 (sq u11 0 6 (u12 0::u13 0::u13 1::sq u 0 15 (us 123))))))))))))))) K31 bel fun u14 w14 D bel=>?_
 have E14_14:=D.q 14
 replace B2:=D.k B2
 replace B3:=D.k B3
 replace B12:=D.k B12
 replace B13:=D.k B13
 replace B15:=D.k B15
 replace B17:=D.k B17
 replace B18:=D.k B18
 replace B19:=D.k B19
 replace B_q:=fun h=>D.k (B_q h)
 clear D
 refine wp_cond_false (by exact E14_14) ?_
 refine wp_skip ?_
 refine K28 _ _ ?_
 refine wp_seq_k fun _ K32=>?_
 refine gs 6 (Amb Z0 W) fun _ K33=>?_
 refine .mz rfl 19 E8_4 ?_
 refine .e rfl (V:=.bool false) (fun H=>x_not (H.g 121 0)) ?_
 refine .mv rfl 1 ?_
 refine .mz rfl 20 E8_5 ?_ (hg:=gq 2 rfl)
 refine .e rfl (V:=.bool true) (fun H=>x_not (H.g 124 3)) ?_ (hg:=gq 2 rfl)
 refine .e rfl (fun H=>x_pkF (H.g 123 2) (H.g 125 4)) ?_
 refine .dk (fun u=>gV x::rgV q::sq u1 0 3 (u3 5::u3 7::u4 7::u4 8::u4 11::u5 6::u5 8::sq u6 8 3 (u6 14::u7 6::u7 8::u7 9::u8 4::u8 5::u13 2::U::U::U::gV x::rgV q::.slice p_q ([rg x,q]).length c_q::.bool false::U::u3 2::u3 0::u3 1::u3 3::u3 4::u4 3::sq u4 0 3 (sq u4 4 3 (u5 3::sq u5 0 3 (u5 4::u5 5::u6 3::sq u6 0 3 (sq u6 4 4 (u7 2::u7 0::u7 1::sq u7 3 3 (sq u8 0 4 (sq u9 0 10 (sq u10 0 3 (sq uu 0 7 (sq u11 0 6 (u12 0::u13 0::u13 1::sq u14 0 15 (sq uu 0 11 (sq u 0 6 (us 106))))))))))))))))) K33 bel fun u15 w15 D bel=>?_
 have E15_5:=D.q 5
 replace B2:=D.k B2
 replace B3:=D.k B3
 replace B12:=D.k B12
 replace B13:=D.k B13
 replace B15:=D.k B15
 replace B17:=D.k B17
 replace B18:=D.k B18
 replace B19:=D.k B19
 replace B_q:=fun h=>D.k (B_q h)
 clear D
 refine wp_cond_true (by exact E15_5) ?_
 refine gs 38 (Amb Z0 W) fun _ K34=>?_
 refine .lr rfl 7 E4_7 B12 ?_
 refine .cK rfl (V:=.bool true) Tryz.func20 (fun H=>⟨_,ar1 (H.g 127 0),reV (congrArg Value.bool (decide_eq_true rfl)) (lNone rz)⟩) ?_
 refine .mv rfl 1 ?_
 refine .lr rfl 8 E4_8 B13 ?_ (hg:=gq 2 rfl)
 refine .cK rfl (V:=.bool true) Tryz.func20 (fun H=>⟨_,ar1 (H.g 130 3),reV (congrArg Value.bool (decide_eq_true rfl)) (lNone rz)⟩) ?_ (hg:=gq 2 rfl)
 refine .e rfl (fun H=>x_pkT (H.g 129 2) (H.g 131 4)) ?_
 refine .mv rfl 5 ?_
 refine .mz rfl 9 E4_11 ?_ (hg:=gq 6 rfl)
 refine .e rfl (V:=.bool true) (fun H=>x_cm (H.g 134 7) (H.c _) (beq_self_eq_true (show Int from 2))) ?_ (hg:=gq 6 rfl)
 refine .e rfl (fun H=>x_pkT (H.g 133 6) (H.g 135 8)) ?_
 refine .mv rfl 9 ?_
 refine .lr rfl 10 E5_6 B15 ?_ (hg:=gq 10 rfl)
 refine .cK rfl (V:=.bool true) Tryz.func20 (fun H=>⟨_,ar1 (H.g 138 11),reV (congrArg Value.bool (decide_eq_true rfl)) (lNone rz)⟩) ?_ (hg:=gq 10 rfl)
 refine .e rfl (fun H=>x_pkT (H.g 137 10) (H.g 139 12)) ?_
 refine .mv rfl 13 ?_
 refine .mz rfl 11 E5_8 ?_ (hg:=gq 14 rfl)
 refine .e rfl (V:=.bool true) (fun H=>x_cm (H.g 142 15) (H.c _) (beq_self_eq_true (show Int from 2))) ?_ (hg:=gq 14 rfl)
 refine .e rfl (fun H=>x_pkT (H.g 141 14) (H.g 143 16)) ?_
 refine .mv rfl 17 ?_
 refine .lr rfl 12 E6_8 B17 ?_ (hg:=gq 18 rfl)
 refine .cK rfl (V:=.bool true) Tryz.func20 (fun H=>⟨_,ar1 (H.g 146 19),reV (congrArg Value.bool (decide_eq_true rfl)) (lNone rz)⟩) ?_ (hg:=gq 18 rfl)
 refine .e rfl (fun H=>x_pkT (H.g 145 18) (H.g 147 20)) ?_
 refine .mv rfl 21 ?_
 refine .lr rfl 13 E6_9 B18 ?_ (hg:=gq 22 rfl)
 refine .cK rfl (V:=.bool true) Tryz.func20 (fun H=>⟨_,ar1 (H.g 150 23),reV (congrArg Value.bool (decide_eq_true rfl)) (lNone rz)⟩) ?_ (hg:=gq 22 rfl)
 refine .e rfl (fun H=>x_pkT (H.g 149 22) (H.g 151 24)) ?_
 refine .mv rfl 25 ?_
 refine .lr rfl 14 E6_10 B19 ?_ (hg:=gq 26 rfl)
 refine .cK rfl (V:=.bool true) Tryz.func20 (fun H=>⟨_,ar1 (H.g 154 27),reV (congrArg Value.bool (decide_eq_true rfl)) (lNone rz)⟩) ?_ (hg:=gq 26 rfl)
 refine .e rfl (fun H=>x_pkT (H.g 153 26) (H.g 155 28)) ?_
 refine .mv rfl 29 ?_
 refine .mz rfl 15 E6_14 ?_ (hg:=gq 30 rfl)
 refine .e rfl (V:=.bool true) (fun H=>x_cm (H.g 158 31) (H.c _) (beq_self_eq_true (show Int from 2))) ?_ (hg:=gq 30 rfl)
 refine .e rfl (fun H=>x_pkT (H.g 157 30) (H.g 159 32)) ?_
 refine .mv rfl 33 ?_
 refine .cK rfl Tryz.func9 (fun H=>⟨_,ar0,lKnown⟩) ?_ (hg:=gq 34 rfl)
 refine .e rfl (fun H=>x_pkT (H.g 161 34) (H.g 162 35)) ?_
 refine .mv rfl 36 ?_
 refine .dk (fun u=>gV x::rgV q::u1 0::u1 1::u 37::u3 5::u3 7::u4 7::u4 8::u4 11::u5 6::u5 8::sq u6 8 3 (u6 14::u7 6::u7 8::u7 9::u8 4::u8 5::u13 2::U::U::U::gV x::rgV q::.slice p_q ([rg x,q]).length c_q::.bool false::U::u3 2::u3 0::u3 1::u3 3::u3 4::u4 3::sq u4 0 3 (sq u4 4 3 (u5 3::sq u5 0 3 (u5 4::u5 5::u6 3::sq u6 0 3 (sq u6 4 4 (u7 2::u7 0::u7 1::sq u7 3 3 (sq u8 0 4 (sq u9 0 10 (sq u10 0 3 (sq uu 0 7 (sq u11 0 6 (u12 0::u13 0::u13 1::sq u14 0 15 (sq uu 0 11 (sq u15 0 6 (sq u 0 37 (us 69))))))))))))))))) K34 bel fun u16 w16 D bel=>?_
 have E16_37:=D.q 37
 replace B_q:=fun h=>D.k (B_q h)
 clear D
 exact wp_ret (rt rfl E16_37 rfl bel)
end Go.Proofs.YtllohoibifcmdaaGreat
