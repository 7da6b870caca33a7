import Derived.Test.YtcdbmjnipaochaaGreatP02
import Derived.BigQuiet
import Derived.Laws.AppendOwn
set_option linter.unusedVariables false
set_option linter.unusedSimpArgs false
set_option maxHeartbeats 8000000
set_option maxRecDepth 100000
namespace Go.Proofs.YtcdbmjnipaochaaGreat
open Go.RowKit Rgn
variable {S:Nat→Prop} {W:World}
theorem rDivMod(x y:Int)(p0:hi x+hi y+2≤1099511627776)(p1:y≠0):Calls Tryz.prog 269 #[wV x,wV y] W (RetV (.tuple #[wV (x/y),wV (x%y)]) W):=by
 have q0:=hi_bl x
 have q1:=hi_bl y
 have q2:=bl_mono (Nat.div_le_self x.natAbs y.natAbs)
 have q3:=bl_mono (Nat.mod_le x.natAbs y.natAbs)
 have q4:hi 1=2:=by decide
 have bel:=b0 W
 go_enter Tryz.func269,Tryz.ntmps269
 rcases Bool.eq_false_or_eq_true (decide (x<0)) with c1|c1
 ·
  have dc1:=of_decide_eq_true c1
  have S0:(wV x:Value)=.agg #[.bool true,.string (bS x.natAbs)]:=by simp only [wV,wC,c1]
  rcases Bool.eq_false_or_eq_true (decide (x.natAbs%y.natAbs=0)) with c2|c2
  ·
   have dc2:=of_decide_eq_true c2
   refine gs 4 (Amb Z0 W) fun _ K3=>?_
   refine .bx rfl (fun H=>H.z 0 S0) ?_
   refine .bx rfl (fun H=>H.v 1 (wV y)) ?_
   refine .al rfl zW ?_
   refine .al rfl zW ?_
   refine .dk (fun u=>wV x::wV y::sq u 0 4 (us 46)) K3 bel fun u1 w1 D bel=>?_
   obtain⟨b4,E1_0,A4,B4⟩:=D.nw 0
   obtain⟨b5,E1_1,A5,B5⟩:=D.nw 1
   obtain⟨b6,E1_2,A6,B6⟩:=D.nw 2
   obtain⟨b7,E1_3,A7,B7⟩:=D.nw 3
   have N4_6:=D.n2 0 2 E1_0 E1_2
   have N5_6:=D.n2 1 2 E1_1 E1_2
   have N4_7:=D.n2 0 3 E1_0 E1_3
   have N5_7:=D.n2 1 3 E1_1 E1_3
   have N6_7:=D.n2 2 3 E1_2 E1_3
   clear D
   refine gd 12 (Amb Z0 W) fun _ K8=>?_
   refine .fz rfl 2 1 E1_0 ?_
   refine .lc rfl 0 B4 ?_ (V:=.string (bS x.natAbs))
   refine .cR rfl [] Tryz.func266 (fun H=>⟨_,ar1 (H.g 12 1),gWords _ (by first|omega|(simp only [hi_sgn,hi_nat];omega))⟩) ?_
   refine .fz rfl 3 1 E1_1 ?_
   refine .lc rfl 3 B5 ?_ (V:=.string (bS y.natAbs))
   refine .cR rfl [] Tryz.func266 (fun H=>⟨_,ar1 (H.g 15 4),gWords _ (by first|omega|(simp only [hi_sgn,hi_nat];omega))⟩) ?_
   refine .cR rfl [2,5] Tryz.func303 (fun H=>⟨_,ar2 (H.r 13 2) (H.r 16 5),gDivided _ _ (SV.sub [2,5] (H.a 2 rfl) rfl) (SV.sub [2,5] (H.a 5 rfl) rfl) (by first|omega|(simp only [hi_sgn,hi_nat];omega)) (by first|omega|(simp only [hi_sgn,hi_nat];omega))⟩) ?_
   refine .mn rfl 6 [2,5,6] ?_
   refine Go2.fn (i:=8) rfl (G0 rfl) (.val 8 [2,5,6,7] (MagP (x.natAbs/y.natAbs))) (fun u μ ρ H=>by have e10:=H.r 10 7;have h0:=(H.a 7 rfl);obtain⟨x0,x1,h1,h2⟩:=h0;rw [h1] at e10;exact⟨x0,by clear H;go_simp,SP.tupKeep (by decide) (by decide) h2.1⟩) ?_
   refine Go2.fn (i:=9) rfl (G0 rfl) (.val 9 [2,5,6,7] (MagP (x.natAbs%y.natAbs))) (fun u μ ρ H=>by have e10:=H.r 10 7;have h0:=(H.a 7 rfl);obtain⟨x0,x1,h1,h2⟩:=h0;rw [h1] at e10;exact⟨x1,by clear H;go_simp,SP.tupKeep (by decide) (by decide) h2.2⟩) ?_
   refine .mn rfl 8 [2,5,6,7,8] ?_
   refine .mn rfl 9 [2,5,6,7,9] ?_
   refine .dk (fun u=>wV x::wV y::sq u1 0 4 (u 10::u 11::U::U::u 7::sq u 0 7 (u 8::u 9::us 32))) K8 bel fun u2 w2 D bel=>?_
   obtain⟨x9,E2_10,F_x9⟩:∃ x_,(u2 10).v=x_∧(MagP (x.natAbs/y.natAbs)).p (Amb Z0 W) x_ w2:=⟨_,rfl,D.rr 10⟩
   obtain⟨p_x9,m_x9,c_x9,rfl,z_x9,y_x9⟩:=Mag.open F_x9
   obtain⟨x10,E2_11,F_x10⟩:∃ x_,(u2 11).v=x_∧(MagP (x.natAbs%y.natAbs)).p (Amb Z0 W) x_ w2:=⟨_,rfl,D.rr 11⟩
   obtain⟨p_x10,m_x10,c_x10,rfl,z_x10,y_x10⟩:=Mag.open F_x10
   replace B4:=D.k B4
   replace B5:=D.k B5
   replace B6:=D.k B6
   replace B7:=D.k B7
   clear D
   refine gs 13 (Amb Z0 W) fun _ K11=>?_
   refine .fz rfl 2 0 E1_0 ?_
   refine .lc rfl 0 B4 ?_ (V:=.bool true)
   refine .fz rfl 3 0 E1_1 ?_
   refine .lc rfl 2 B5 ?_ (V:=.bool (decide (y<0)))
   refine .e rfl (V:=.bool (true != (decide (y<0)))) (fun H=>x_bne (H.g 21 1) (H.g 23 3)) ?_
   refine .mz rfl 6 E2_10 ?_
   refine .cK rfl Tryz.func264 (fun H=>⟨_,ar2 (H.g 24 4) (H.g 25 5),gMadeZ _ _ (VP.any _ (H.was _ [] F_x9)) (by first|omega|(simp only [hi_sgn,hi_nat];omega))⟩) ?_
   refine .mz rfl 7 E2_11 ?_
   refine .cK rfl Tryz.func264 (fun H=>⟨_,ar2 (H.c (.bool false)) (H.g 27 7),gMadeZ _ _ (VP.any _ (H.was _ [] F_x10)) (by first|omega|(simp only [hi_sgn,hi_nat];omega))⟩) ?_
   refine .al rfl zW ?_
   refine .al rfl zW ?_
   refine .so rfl 9 (fun H=>⟨H.r 8 9,H.g 26 6⟩) ?_
   refine .so rfl 10 (fun H=>⟨H.r 9 10,H.g 28 8⟩) ?_
   refine .dk (fun u=>wV x::wV y::sq u1 0 4 (u2 10::u2 11::u 9::u 10::u2 7::sq u2 0 7 (u2 8::u2 9::sq u 0 9 (us 23)))) K11 bel fun u3 w3 D bel=>?_
   obtain⟨b12,E3_9,A12,B12⟩:=D.st 11
   obtain⟨b13,E3_10,A13,B13⟩:=D.st 12
   have N4_12:=D.n1 9 (lt_of B4) E3_9
   have N5_12:=D.n1 9 (lt_of B5) E3_9
   have N6_12:=D.n1 9 (lt_of B6) E3_9
   have N7_12:=D.n1 9 (lt_of B7) E3_9
   have N6_13:=D.n1 10 (lt_of B6) E3_10
   have N7_13:=D.n1 10 (lt_of B7) E3_10
   have N12_13:=D.n2 9 10 E3_9 E3_10
   replace B4:=D.k B4
   replace B5:=D.k B5
   replace B6:=D.k B6
   replace B7:=D.k B7
   replace F_x10:=D.gr (MagP (x.natAbs%y.natAbs)) F_x10
   clear D
   refine wp_seq_k fun _ K14=>?_
   refine gs 8 (Amb Z0 W) fun _ K15=>?_
   refine .fz rfl 2 0 E1_0 ?_
   refine .lc rfl 0 B4 ?_ (V:=.bool true)
   refine .e rfl (V:=.bool false) (fun H=>x_not (H.g 30 1)) ?_
   refine .mv rfl 2 ?_
   refine .mz rfl 7 E2_11 ?_ (hg:=gq 3 rfl)
   refine .e rfl (V:=.int .i64 (m_x10:Nat)) (fun H=>by have e33:=H.g 33 4;have y_:=y_x10;clear H;go_simp<;>first|(simp_all;done)|omega|exact len_gt z0_) ?_ (hg:=gq 3 rfl)
   refine .e rfl (V:=.bool true) (fun H=>by have e34:=H.g 34 5;have k1:=H.c (.int .i64 0);have z0_:=z_x10;have k_:=c2;clear H;go_simp<;>first|(simp_all;done)|omega|exact len_gt z0_) ?_ (hg:=gq 3 rfl)
   refine .e rfl (fun H=>x_pkF (H.g 32 3) (H.g 35 6)) ?_
   refine .dk (fun u=>wV x::wV y::sq u1 0 4 (u2 10::u2 11::u3 9::u3 10::u2 7::sq u2 0 7 (u2 8::u2 9::sq u3 0 9 (sq u 0 8 (us 15))))) K15 bel fun u4 w4 D bel=>?_
   have E4_7:=D.q 7
   replace B5:=D.k B5
   replace B6:=D.k B6
   replace B7:=D.k B7
   replace B12:=D.k B12
   replace B13:=D.k B13
   clear D
   refine wp_cond_true (by exact E4_7) ?_
   refine wp_seq_k fun _ K16=>?_
   refine go2_drawn (by kernel_rfl) 4 rfl (Amb Z0 W) [(b6,2),(b7,3)] [2,3] (Olds.cons (R0:=fun _=>True) (lt_of B6) (by simp [(Ne.symm N6_7)]) (Olds.one (lt_of B7))) (by kernel_rfl) ?_
   refine .e rfl (fun H=>x_ldr (H.z 8 E3_9) (H.bn B12 (no_cons N6_12 (no_cons N7_12 (no_nil _))))) ?_
   refine .e rfl (fun H=>x_ldr (H.z 9 E3_10) (H.bn B13 (no_cons N6_13 (no_cons N7_13 (no_nil _))))) ?_
   refine .sz rfl 0 B6 (lt_of B6) (by intro y k hy;match y,hy with|0,hy=>rfl|1,hy=>simp at hy;exact absurd hy.1 (Ne.symm N6_7)) (fun H=>⟨(H.z 4 E1_2),(H.g 37 0)⟩) ?_
   refine .sz rfl 1 B7 (lt_of B7) (by intro y k hy;match y,hy with|0,hy=>simp at hy;exact absurd hy.1 N6_7|1,hy=>rfl) (fun H=>⟨(H.z 5 E1_3),(H.g 38 1)⟩) ?_
   refine .dd (fun u=>⟨List.toArray (wV x::wV y::sq u1 0 4 (u2 10::u2 11::u3 9::u3 10::u2 7::sq u2 0 7 (u2 8::u2 9::sq u3 0 9 (sq u4 0 8 (u 0::u 1::us 13))))),[]⟩) bel.size fun u5 w5 D=>?_
   replace B6:=D.ol 2
   replace B7:=D.ol 3
   replace bel:=D.d.base.bel bel bel.size (by simp;omega)
   clear D
   refine K16 _ _ ?_
   refine wp_ret ?_
   refine ret_ok rfl (by exact results_rows2 rfl (by exact E1_2) B6 Tryz.underlying23 rfl (by kernel_rfl) (by exact E1_3) B7 Tryz.underlying23 rfl (by kernel_rfl)) (RetV.mk ?_ bel)
   exact congrArg Ending.returned (dm_neg0 p1 dc1 dc2)
  ·
   have dc2:=of_decide_eq_false c2
   refine gs 4 (Amb Z0 W) fun _ K17=>?_
   refine .bx rfl (fun H=>H.z 0 S0) ?_
   refine .bx rfl (fun H=>H.v 1 (wV y)) ?_
   refine .al rfl zW ?_
   refine .al rfl zW ?_
   refine .dk (fun u=>wV x::wV y::sq u 0 4 (us 46)) K17 bel fun u1 w1 D bel=>?_
   obtain⟨b18,E1_0,A18,B18⟩:=D.nw 0
   obtain⟨b19,E1_1,A19,B19⟩:=D.nw 1
   obtain⟨b20,E1_2,A20,B20⟩:=D.nw 2
   obtain⟨b21,E1_3,A21,B21⟩:=D.nw 3
   have N18_20:=D.n2 0 2 E1_0 E1_2
   have N19_20:=D.n2 1 2 E1_1 E1_2
   have N18_21:=D.n2 0 3 E1_0 E1_3
   have N19_21:=D.n2 1 3 E1_1 E1_3
   have N20_21:=D.n2 2 3 E1_2 E1_3
   clear D
   refine gd 12 (Amb Z0 W) fun _ K22=>?_
   refine .fz rfl 2 1 E1_0 ?_
   refine .lc rfl 0 B18 ?_ (V:=.string (bS x.natAbs))
   refine .cR rfl [] Tryz.func266 (fun H=>⟨_,ar1 (H.g 12 1),gWords _ (by first|omega|(simp only [hi_sgn,hi_nat];omega))⟩) ?_
   refine .fz rfl 3 1 E1_1 ?_
   refine .lc rfl 3 B19 ?_ (V:=.string (bS y.natAbs))
   refine .cR rfl [] Tryz.func266 (fun H=>⟨_,ar1 (H.g 15 4),gWords _ (by first|omega|(simp only [hi_sgn,hi_nat];omega))⟩) ?_
   refine .cR rfl [2,5] Tryz.func303 (fun H=>⟨_,ar2 (H.r 13 2) (H.r 16 5),gDivided _ _ (SV.sub [2,5] (H.a 2 rfl) rfl) (SV.sub [2,5] (H.a 5 rfl) rfl) (by first|omega|(simp only [hi_sgn,hi_nat];omega)) (by first|omega|(simp only [hi_sgn,hi_nat];omega))⟩) ?_
   refine .mn rfl 6 [2,5,6] ?_
   refine Go2.fn (i:=8) rfl (G0 rfl) (.val 8 [2,5,6,7] (MagP (x.natAbs/y.natAbs))) (fun u μ ρ H=>by have e10:=H.r 10 7;have h0:=(H.a 7 rfl);obtain⟨x0,x1,h1,h2⟩:=h0;rw [h1] at e10;exact⟨x0,by clear H;go_simp,SP.tupKeep (by decide) (by decide) h2.1⟩) ?_
   refine Go2.fn (i:=9) rfl (G0 rfl) (.val 9 [2,5,6,7] (MagP (x.natAbs%y.natAbs))) (fun u μ ρ H=>by have e10:=H.r 10 7;have h0:=(H.a 7 rfl);obtain⟨x0,x1,h1,h2⟩:=h0;rw [h1] at e10;exact⟨x1,by clear H;go_simp,SP.tupKeep (by decide) (by decide) h2.2⟩) ?_
   refine .mn rfl 8 [2,5,6,7,8] ?_
   refine .mn rfl 9 [2,5,6,7,9] ?_
   refine .dk (fun u=>wV x::wV y::sq u1 0 4 (u 10::u 11::U::U::u 7::sq u 0 7 (u 8::u 9::us 32))) K22 bel fun u2 w2 D bel=>?_
   obtain⟨x23,E2_10,F_x23⟩:∃ x_,(u2 10).v=x_∧(MagP (x.natAbs/y.natAbs)).p (Amb Z0 W) x_ w2:=⟨_,rfl,D.rr 10⟩
   obtain⟨p_x23,m_x23,c_x23,rfl,z_x23,y_x23⟩:=Mag.open F_x23
   obtain⟨x24,E2_11,F_x24⟩:∃ x_,(u2 11).v=x_∧(MagP (x.natAbs%y.natAbs)).p (Amb Z0 W) x_ w2:=⟨_,rfl,D.rr 11⟩
   obtain⟨p_x24,m_x24,c_x24,rfl,z_x24,y_x24⟩:=Mag.open F_x24
   replace B18:=D.k B18
   replace B19:=D.k B19
   replace B20:=D.k B20
   replace B21:=D.k B21
   clear D
   refine gs 13 (Amb Z0 W) fun _ K25=>?_
   refine .fz rfl 2 0 E1_0 ?_
   refine .lc rfl 0 B18 ?_ (V:=.bool true)
   refine .fz rfl 3 0 E1_1 ?_
   refine .lc rfl 2 B19 ?_ (V:=.bool (decide (y<0)))
   refine .e rfl (V:=.bool (true != (decide (y<0)))) (fun H=>x_bne (H.g 21 1) (H.g 23 3)) ?_
   refine .mz rfl 6 E2_10 ?_
   refine .cK rfl Tryz.func264 (fun H=>⟨_,ar2 (H.g 24 4) (H.g 25 5),gMadeZ _ _ (VP.any _ (H.was _ [] F_x23)) (by first|omega|(simp only [hi_sgn,hi_nat];omega))⟩) ?_
   refine .mz rfl 7 E2_11 ?_
   refine .cK rfl Tryz.func264 (fun H=>⟨_,ar2 (H.c (.bool false)) (H.g 27 7),gMadeZ _ _ (VP.any _ (H.was _ [] F_x24)) (by first|omega|(simp only [hi_sgn,hi_nat];omega))⟩) ?_
   refine .al rfl zW ?_
   refine .al rfl zW ?_
   refine .so rfl 9 (fun H=>⟨H.r 8 9,H.g 26 6⟩) ?_
   refine .so rfl 10 (fun H=>⟨H.r 9 10,H.g 28 8⟩) ?_
   refine .dk (fun u=>wV x::wV y::sq u1 0 4 (u2 10::u2 11::u 9::u 10::u2 7::sq u2 0 7 (u2 8::u2 9::sq u 0 9 (us 23)))) K25 bel fun u3 w3 D bel=>?_
   obtain⟨b26,E3_9,A26,B26⟩:=D.st 11
   obtain⟨b27,E3_10,A27,B27⟩:=D.st 12
   have N18_26:=D.n1 9 (lt_of B18) E3_9
   have N19_26:=D.n1 9 (lt_of B19) E3_9
   have N20_26:=D.n1 9 (lt_of B20) E3_9
   have N21_26:=D.n1 9 (lt_of B21) E3_9
   have N20_27:=D.n1 10 (lt_of B20) E3_10
   have N21_27:=D.n1 10 (lt_of B21) E3_10
   have N26_27:=D.n2 9 10 E3_9 E3_10
   replace B18:=D.k B18
   replace B19:=D.k B19
   replace B20:=D.k B20
   replace B21:=D.k B21
   replace F_x24:=D.gr (MagP (x.natAbs%y.natAbs)) F_x24
   clear D
   refine wp_seq_k fun _ K28=>?_
   refine gs 8 (Amb Z0 W) fun _ K29=>?_
   refine .fz rfl 2 0 E1_0 ?_
   refine .lc rfl 0 B18 ?_ (V:=.bool true)
   refine .e rfl (V:=.bool false) (fun H=>x_not (H.g 30 1)) ?_
   refine .mv rfl 2 ?_
   refine .mz rfl 7 E2_11 ?_ (hg:=gq 3 rfl)
   refine .e rfl (V:=.int .i64 (m_x24:Nat)) (fun H=>by have e33:=H.g 33 4;have y_:=y_x24;clear H;go_simp<;>first|(simp_all;done)|omega|exact len_gt z0_) ?_ (hg:=gq 3 rfl)
   refine .e rfl (V:=.bool false) (fun H=>by have e34:=H.g 34 5;have k1:=H.c (.int .i64 0);have z0_:=z_x24;have k_:=c2;clear H;go_simp<;>first|(simp_all;done)|omega|exact len_gt z0_) ?_ (hg:=gq 3 rfl)
   refine .e rfl (fun H=>x_pkF (H.g 32 3) (H.g 35 6)) ?_
   refine .dk (fun u=>wV x::wV y::sq u1 0 4 (u2 10::u2 11::u3 9::u3 10::u2 7::sq u2 0 7 (u2 8::u2 9::sq u3 0 9 (sq u 0 8 (us 15))))) K29 bel fun u4 w4 D bel=>?_
   have E4_7:=D.q 7
   replace B19:=D.k B19
   replace B20:=D.k B20
   replace B21:=D.k B21
   replace B26:=D.k B26
   replace B27:=D.k B27
   clear D
   refine wp_cond_false (by exact E4_7) ?_
   refine wp_skip ?_
   refine K28 _ _ ?_
   refine wp_seq_k fun _ K30=>?_
   refine gs 2 (Amb Z0 W) fun _ K31=>?_
   refine .fz rfl 3 0 E1_1 ?_
   refine .lc rfl 0 B19 ?_ (V:=.bool (decide (y<0)))
   refine .dk (fun u=>wV x::wV y::sq u1 0 4 (u2 10::u2 11::u3 9::u3 10::u2 7::sq u2 0 7 (u2 8::u2 9::sq u3 0 9 (sq u4 0 8 (U::U::u 0::u 1::us 11))))) K31 bel fun u5 w5 D bel=>?_
   have E5_1:=D.q 1
   replace B19:=D.k B19
   replace B20:=D.k B20
   replace B21:=D.k B21
   replace B26:=D.k B26
   replace B27:=D.k B27
   clear D
   rcases Bool.eq_false_or_eq_true (decide (y<0)) with c32|c32
   ·
    refine wp_cond_true ((E5_1).trans (congrArg Value.bool c32)) ?_
    have dc32:=of_decide_eq_true c32
    refine go2_drawn (by kernel_rfl) 4 rfl (Amb Z0 W) [(b26,3)] [3] (Olds.one (lt_of B26)) (by kernel_rfl) ?_
    refine .e rfl (fun H=>x_ldr (H.z 8 E3_9) (H.bo B26 0 3)) ?_
    refine .cK rfl Tryz.func215 (fun H=>⟨_,ar1 (H.c (.int .i64 1)),rOf _ (by first|omega|(simp only [hi_sgn,hi_nat];omega)) (by first|omega|(simp only [hi_sgn,hi_nat];omega))⟩) ?_
    refine .cK rfl Tryz.func168 (fun H=>⟨_,ar2 (H.g 41 0) (H.g 42 1),rPlus _ _ (by first|omega|(simp only [hi_sgn,hi_nat];omega))⟩) ?_
    refine .s1 rfl B26 (fun H=>⟨H.z 8 E3_9,H.g 43 2⟩) ?_
    refine .dd (fun u=>⟨List.toArray (wV x::wV y::sq u1 0 4 (u2 10::u2 11::u3 9::u3 10::u2 7::sq u2 0 7 (u2 8::u2 9::sq u3 0 9 (sq u4 0 8 (U::U::u5 0::u5 1::sq u 0 3 (us 8)))))),[]⟩) bel.size fun u6 w6 D=>?_
    replace B19:=D.k1 B19 (Ne.symm N19_26)
    replace B20:=D.k1 B20 (Ne.symm N20_26)
    replace B21:=D.k1 B21 (Ne.symm N21_26)
    replace B26:=D.ol 3
    replace B27:=D.k1 B27 N26_27
    replace bel:=D.d.base.bel bel bel.size (by simp;omega)
    clear D
    refine K30 _ _ ?_
    refine wp_seq_k fun _ K33=>?_
    refine go2_drawn (by kernel_rfl) 7 rfl (Amb Z0 W) [(b20,5),(b21,6)] [5,6] (Olds.cons (R0:=fun _=>True) (lt_of B20) (by simp [(Ne.symm N20_21)]) (Olds.one (lt_of B21))) (by kernel_rfl) ?_
    refine .e rfl (fun H=>x_ldr (H.z 8 E3_9) (H.bn B26 (no_cons N20_26 (no_cons N21_26 (no_nil _))))) ?_
    refine .e rfl (fun H=>x_ldr (H.z 3 E1_1) (H.bn B19 (no_cons (Ne.symm N19_20) (no_cons (Ne.symm N19_21) (no_nil _))))) ?_
    refine .cK rfl Tryz.func164 (fun H=>⟨_,ar1 (H.g 48 1),rAbs _⟩) ?_
    refine .e rfl (fun H=>x_ldr (H.z 9 E3_10) (H.bn B27 (no_cons N20_27 (no_cons N21_27 (no_nil _))))) ?_
    refine .cK rfl Tryz.func267 (fun H=>⟨_,ar2 (H.g 49 2) (H.g 50 3),rMinus _ _ (by first|omega|(simp only [hi_sgn,hi_nat];omega))⟩) ?_
    refine .sz rfl 0 B20 (lt_of B20) (by intro y k hy;match y,hy with|0,hy=>rfl|1,hy=>simp at hy;exact absurd hy.1 (Ne.symm N20_21)) (fun H=>⟨(H.z 4 E1_2),(H.g 47 0)⟩) ?_
    refine .sz rfl 1 B21 (lt_of B21) (by intro y k hy;match y,hy with|0,hy=>simp at hy;exact absurd hy.1 N20_21|1,hy=>rfl) (fun H=>⟨(H.z 5 E1_3),(H.g 51 4)⟩) ?_
    refine .dd (fun u=>⟨List.toArray (wV x::wV y::sq u1 0 4 (u2 10::u2 11::u3 9::u3 10::u2 7::sq u2 0 7 (u2 8::u2 9::sq u3 0 9 (sq u4 0 8 (U::U::u5 0::u5 1::sq u6 0 3 (U::U::U::sq u 0 5 [])))))),[]⟩) bel.size fun u7 w7 D=>?_
    replace B20:=D.ol 5
    replace B21:=D.ol 6
    replace bel:=D.d.base.bel bel bel.size (by simp;omega)
    clear D
    refine K33 _ _ ?_
    refine wp_ret ?_
    refine ret_ok rfl (by exact results_rows2 rfl (by exact E1_2) B20 Tryz.underlying23 rfl (by kernel_rfl) (by exact E1_3) B21 Tryz.underlying23 rfl (by kernel_rfl)) (RetV.mk ?_ bel)
    exact congrArg Ending.returned (dm_nn dc1 dc2 dc32)
   ·
    refine wp_cond_false ((E5_1).trans (congrArg Value.bool c32)) ?_
    have dc32:=of_decide_eq_false c32
    refine go2_drawn (by kernel_rfl) 4 rfl (Amb Z0 W) [(b26,3)] [3] (Olds.one (lt_of B26)) (by kernel_rfl) ?_
    refine .e rfl (fun H=>x_ldr (H.z 8 E3_9) (H.bo B26 0 3)) ?_
    refine .cK rfl Tryz.func215 (fun H=>⟨_,ar1 (H.c (.int .i64 1)),rOf _ (by first|omega|(simp only [hi_sgn,hi_nat];omega)) (by first|omega|(simp only [hi_sgn,hi_nat];omega))⟩) ?_
    refine .cK rfl Tryz.func267 (fun H=>⟨_,ar2 (H.g 44 0) (H.g 45 1),rMinus _ _ (by first|omega|(simp only [hi_sgn,hi_nat];omega))⟩) ?_
    refine .s1 rfl B26 (fun H=>⟨H.z 8 E3_9,H.g 46 2⟩) ?_
    refine .dd (fun u=>⟨List.toArray (wV x::wV y::sq u1 0 4 (u2 10::u2 11::u3 9::u3 10::u2 7::sq u2 0 7 (u2 8::u2 9::sq u3 0 9 (sq u4 0 8 (U::U::u5 0::u5 1::U::U::U::sq u 0 3 (us 5)))))),[]⟩) bel.size fun u8 w8 D=>?_
    replace B19:=D.k1 B19 (Ne.symm N19_26)
    replace B20:=D.k1 B20 (Ne.symm N20_26)
    replace B21:=D.k1 B21 (Ne.symm N21_26)
    replace B26:=D.ol 3
    replace B27:=D.k1 B27 N26_27
    replace bel:=D.d.base.bel bel bel.size (by simp;omega)
    clear D
    refine K30 _ _ ?_
    refine wp_seq_k fun _ K34=>?_
    refine go2_drawn (by kernel_rfl) 7 rfl (Amb Z0 W) [(b20,5),(b21,6)] [5,6] (Olds.cons (R0:=fun _=>True) (lt_of B20) (by simp [(Ne.symm N20_21)]) (Olds.one (lt_of B21))) (by kernel_rfl) ?_
    refine .e rfl (fun H=>x_ldr (H.z 8 E3_9) (H.bn B26 (no_cons N20_26 (no_cons N21_26 (no_nil _))))) ?_
    refine .e rfl (fun H=>x_ldr (H.z 3 E1_1) (H.bn B19 (no_cons (Ne.symm N19_20) (no_cons (Ne.symm N19_21) (no_nil _))))) ?_
    refine .cK rfl Tryz.func164 (fun H=>⟨_,ar1 (H.g 48 1),rAbs _⟩) ?_
    refine .e rfl (fun H=>x_ldr (H.z 9 E3_10) (H.bn B27 (no_cons N20_27 (no_cons N21_27 (no_nil _))))) ?_
    refine .cK rfl Tryz.func267 (fun H=>⟨_,ar2 (H.g 49 2) (H.g 50 3),rMinus _ _ (by first|omega|(simp only [hi_sgn,hi_nat];omega))⟩) ?_
    refine .sz rfl 0 B20 (lt_of B20) (by intro y k hy;match y,hy with|0,hy=>rfl|1,hy=>simp at hy;exact absurd hy.1 (Ne.symm N20_21)) (fun H=>⟨(H.z 4 E1_2),(H.g 47 0)⟩) ?_
    refine .sz rfl 1 B21 (lt_of B21) (by intro y k hy;match y,hy with|0,hy=>simp at hy;exact absurd hy.1 N20_21|1,hy=>rfl) (fun H=>⟨(H.z 5 E1_3),(H.g 51 4)⟩) ?_
    refine .dd (fun u=>⟨List.toArray (wV x::wV y::sq u1 0 4 (u2 10::u2 11::u3 9::u3 10::u2 7::sq u2 0 7 (u2 8::u2 9::sq u3 0 9 (sq u4 0 8 (U::U::u5 0::u5 1::U::U::U::sq u8 0 3 (sq u 0 5 [])))))),[]⟩) bel.size fun u9 w9 D=>?_
    replace B20:=D.ol 5
    replace B21:=D.ol 6
    replace bel:=D.d.base.bel bel bel.size (by simp;omega)
    clear D
    refine K34 _ _ ?_
    refine wp_ret ?_
    refine ret_ok rfl (by exact results_rows2 rfl (by exact E1_2) B20 Tryz.underlying23 rfl (by kernel_rfl) (by exact E1_3) B21 Tryz.underlying23 rfl (by kernel_rfl)) (RetV.mk ?_ bel)
    exact congrArg Ending.returned (dm_np dc1 dc2 dc32 p1)
 ·
  have dc1:=of_decide_eq_false c1
  have S0:(wV x:Value)=.agg #[.bool false,.string (bS x.natAbs)]:=by simp only [wV,wC,c1]
  rcases Bool.eq_false_or_eq_true (decide (x.natAbs%y.natAbs=0)) with c35|c35
  ·
   have dc35:=of_decide_eq_true c35
   refine gs 4 (Amb Z0 W) fun _ K36=>?_
   refine .bx rfl (fun H=>H.z 0 S0) ?_
   refine .bx rfl (fun H=>H.v 1 (wV y)) ?_
   refine .al rfl zW ?_
   refine .al rfl zW ?_
   refine .dk (fun u=>wV x::wV y::sq u 0 4 (us 46)) K36 bel fun u1 w1 D bel=>?_
   obtain⟨b37,E1_0,A37,B37⟩:=D.nw 0
   obtain⟨b38,E1_1,A38,B38⟩:=D.nw 1
   obtain⟨b39,E1_2,A39,B39⟩:=D.nw 2
   obtain⟨b40,E1_3,A40,B40⟩:=D.nw 3
   have N37_39:=D.n2 0 2 E1_0 E1_2
   have N38_39:=D.n2 1 2 E1_1 E1_2
   have N37_40:=D.n2 0 3 E1_0 E1_3
   have N38_40:=D.n2 1 3 E1_1 E1_3
   have N39_40:=D.n2 2 3 E1_2 E1_3
   clear D
   refine gd 12 (Amb Z0 W) fun _ K41=>?_
   refine .fz rfl 2 1 E1_0 ?_
   refine .lc rfl 0 B37 ?_ (V:=.string (bS x.natAbs))
   refine .cR rfl [] Tryz.func266 (fun H=>⟨_,ar1 (H.g 12 1),gWords _ (by first|omega|(simp only [hi_sgn,hi_nat];omega))⟩) ?_
   refine .fz rfl 3 1 E1_1 ?_
   refine .lc rfl 3 B38 ?_ (V:=.string (bS y.natAbs))
   refine .cR rfl [] Tryz.func266 (fun H=>⟨_,ar1 (H.g 15 4),gWords _ (by first|omega|(simp only [hi_sgn,hi_nat];omega))⟩) ?_
   refine .cR rfl [2,5] Tryz.func303 (fun H=>⟨_,ar2 (H.r 13 2) (H.r 16 5),gDivided _ _ (SV.sub [2,5] (H.a 2 rfl) rfl) (SV.sub [2,5] (H.a 5 rfl) rfl) (by first|omega|(simp only [hi_sgn,hi_nat];omega)) (by first|omega|(simp only [hi_sgn,hi_nat];omega))⟩) ?_
   refine .mn rfl 6 [2,5,6] ?_
   refine Go2.fn (i:=8) rfl (G0 rfl) (.val 8 [2,5,6,7] (MagP (x.natAbs/y.natAbs))) (fun u μ ρ H=>by have e10:=H.r 10 7;have h0:=(H.a 7 rfl);obtain⟨x0,x1,h1,h2⟩:=h0;rw [h1] at e10;exact⟨x0,by clear H;go_simp,SP.tupKeep (by decide) (by decide) h2.1⟩) ?_
   refine Go2.fn (i:=9) rfl (G0 rfl) (.val 9 [2,5,6,7] (MagP (x.natAbs%y.natAbs))) (fun u μ ρ H=>by have e10:=H.r 10 7;have h0:=(H.a 7 rfl);obtain⟨x0,x1,h1,h2⟩:=h0;rw [h1] at e10;exact⟨x1,by clear H;go_simp,SP.tupKeep (by decide) (by decide) h2.2⟩) ?_
   refine .mn rfl 8 [2,5,6,7,8] ?_
   refine .mn rfl 9 [2,5,6,7,9] ?_
   refine .dk (fun u=>wV x::wV y::sq u1 0 4 (u 10::u 11::U::U::u 7::sq u 0 7 (u 8::u 9::us 32))) K41 bel fun u2 w2 D bel=>?_
   obtain⟨x42,E2_10,F_x42⟩:∃ x_,(u2 10).v=x_∧(MagP (x.natAbs/y.natAbs)).p (Amb Z0 W) x_ w2:=⟨_,rfl,D.rr 10⟩
   obtain⟨p_x42,m_x42,c_x42,rfl,z_x42,y_x42⟩:=Mag.open F_x42
   obtain⟨x43,E2_11,F_x43⟩:∃ x_,(u2 11).v=x_∧(MagP (x.natAbs%y.natAbs)).p (Amb Z0 W) x_ w2:=⟨_,rfl,D.rr 11⟩
   obtain⟨p_x43,m_x43,c_x43,rfl,z_x43,y_x43⟩:=Mag.open F_x43
   replace B37:=D.k B37
   replace B38:=D.k B38
   replace B39:=D.k B39
   replace B40:=D.k B40
   clear D
   refine gs 13 (Amb Z0 W) fun _ K44=>?_
   refine .fz rfl 2 0 E1_0 ?_
   refine .lc rfl 0 B37 ?_ (V:=.bool false)
   refine .fz rfl 3 0 E1_1 ?_
   refine .lc rfl 2 B38 ?_ (V:=.bool (decide (y<0)))
   refine .e rfl (V:=.bool (false != (decide (y<0)))) (fun H=>x_bne (H.g 21 1) (H.g 23 3)) ?_
   refine .mz rfl 6 E2_10 ?_
   refine .cK rfl Tryz.func264 (fun H=>⟨_,ar2 (H.g 24 4) (H.g 25 5),gMadeZ _ _ (VP.any _ (H.was _ [] F_x42)) (by first|omega|(simp only [hi_sgn,hi_nat];omega))⟩) ?_
   refine .mz rfl 7 E2_11 ?_
   refine .cK rfl Tryz.func264 (fun H=>⟨_,ar2 (H.c (.bool false)) (H.g 27 7),gMadeZ _ _ (VP.any _ (H.was _ [] F_x43)) (by first|omega|(simp only [hi_sgn,hi_nat];omega))⟩) ?_
   refine .al rfl zW ?_
   refine .al rfl zW ?_
   refine .so rfl 9 (fun H=>⟨H.r 8 9,H.g 26 6⟩) ?_
   refine .so rfl 10 (fun H=>⟨H.r 9 10,H.g 28 8⟩) ?_
   refine .dk (fun u=>wV x::wV y::sq u1 0 4 (u2 10::u2 11::u 9::u 10::u2 7::sq u2 0 7 (u2 8::u2 9::sq u 0 9 (us 23)))) K44 bel fun u3 w3 D bel=>?_
   obtain⟨b45,E3_9,A45,B45⟩:=D.st 11
   obtain⟨b46,E3_10,A46,B46⟩:=D.st 12
   have N37_45:=D.n1 9 (lt_of B37) E3_9
   have N38_45:=D.n1 9 (lt_of B38) E3_9
   have N39_45:=D.n1 9 (lt_of B39) E3_9
   have N40_45:=D.n1 9 (lt_of B40) E3_9
   have N39_46:=D.n1 10 (lt_of B39) E3_10
   have N40_46:=D.n1 10 (lt_of B40) E3_10
   have N45_46:=D.n2 9 10 E3_9 E3_10
   replace B37:=D.k B37
   replace B38:=D.k B38
   replace B39:=D.k B39
   replace B40:=D.k B40
   replace F_x43:=D.gr (MagP (x.natAbs%y.natAbs)) F_x43
   clear D
   refine wp_seq_k fun _ K47=>?_
   refine gs 8 (Amb Z0 W) fun _ K48=>?_
   refine .fz rfl 2 0 E1_0 ?_
   refine .lc rfl 0 B37 ?_ (V:=.bool false)
   refine .e rfl (V:=.bool true) (fun H=>x_not (H.g 30 1)) ?_
   refine .mv rfl 2 ?_
   refine .sk rfl 3 ?_
   refine .sk rfl 3 ?_
   refine .sk rfl 3 ?_
   refine .e rfl (fun H=>x_pkT (H.g 32 3) (H.c _)) ?_
   refine .dk (fun u=>wV x::wV y::sq u1 0 4 (u2 10::u2 11::u3 9::u3 10::u2 7::sq u2 0 7 (u2 8::u2 9::sq u3 0 9 (sq u 0 8 (us 15))))) K48 bel fun u4 w4 D bel=>?_
   have E4_7:=D.q 7
   replace B38:=D.k B38
   replace B39:=D.k B39
   replace B40:=D.k B40
   replace B45:=D.k B45
   replace B46:=D.k B46
   clear D
   refine wp_cond_true (by exact E4_7) ?_
   refine wp_seq_k fun _ K49=>?_
   refine go2_drawn (by kernel_rfl) 4 rfl (Amb Z0 W) [(b39,2),(b40,3)] [2,3] (Olds.cons (R0:=fun _=>True) (lt_of B39) (by simp [(Ne.symm N39_40)]) (Olds.one (lt_of B40))) (by kernel_rfl) ?_
   refine .e rfl (fun H=>x_ldr (H.z 8 E3_9) (H.bn B45 (no_cons N39_45 (no_cons N40_45 (no_nil _))))) ?_
   refine .e rfl (fun H=>x_ldr (H.z 9 E3_10) (H.bn B46 (no_cons N39_46 (no_cons N40_46 (no_nil _))))) ?_
   refine .sz rfl 0 B39 (lt_of B39) (by intro y k hy;match y,hy with|0,hy=>rfl|1,hy=>simp at hy;exact absurd hy.1 (Ne.symm N39_40)) (fun H=>⟨(H.z 4 E1_2),(H.g 37 0)⟩) ?_
   refine .sz rfl 1 B40 (lt_of B40) (by intro y k hy;match y,hy with|0,hy=>simp at hy;exact absurd hy.1 N39_40|1,hy=>rfl) (fun H=>⟨(H.z 5 E1_3),(H.g 38 1)⟩) ?_
   refine .dd (fun u=>⟨List.toArray (wV x::wV y::sq u1 0 4 (u2 10::u2 11::u3 9::u3 10::u2 7::sq u2 0 7 (u2 8::u2 9::sq u3 0 9 (sq u4 0 8 (u 0::u 1::us 13))))),[]⟩) bel.size fun u5 w5 D=>?_
   replace B39:=D.ol 2
   replace B40:=D.ol 3
   replace bel:=D.d.base.bel bel bel.size (by simp;omega)
   clear D
   refine K49 _ _ ?_
   refine wp_ret ?_
   refine ret_ok rfl (by exact results_rows2 rfl (by exact E1_2) B39 Tryz.underlying23 rfl (by kernel_rfl) (by exact E1_3) B40 Tryz.underlying23 rfl (by kernel_rfl)) (RetV.mk ?_ bel)
   exact congrArg Ending.returned (dm_pos p1 dc1)
  ·
   have dc35:=of_decide_eq_false c35
   refine gs 4 (Amb Z0 W) fun _ K50=>?_
   refine .bx rfl (fun H=>H.z 0 S0) ?_
   refine .bx rfl (fun H=>H.v 1 (wV y)) ?_
   refine .al rfl zW ?_
   refine .al rfl zW ?_
   refine .dk (fun u=>wV x::wV y::sq u 0 4 (us 46)) K50 bel fun u1 w1 D bel=>?_
   obtain⟨b51,E1_0,A51,B51⟩:=D.nw 0
   obtain⟨b52,E1_1,A52,B52⟩:=D.nw 1
   obtain⟨b53,E1_2,A53,B53⟩:=D.nw 2
   obtain⟨b54,E1_3,A54,B54⟩:=D.nw 3
   have N51_53:=D.n2 0 2 E1_0 E1_2
   have N52_53:=D.n2 1 2 E1_1 E1_2
   have N51_54:=D.n2 0 3 E1_0 E1_3
   have N52_54:=D.n2 1 3 E1_1 E1_3
   have N53_54:=D.n2 2 3 E1_2 E1_3
   clear D
   refine gd 12 (Amb Z0 W) fun _ K55=>?_
   refine .fz rfl 2 1 E1_0 ?_
   refine .lc rfl 0 B51 ?_ (V:=.string (bS x.natAbs))
   refine .cR rfl [] Tryz.func266 (fun H=>⟨_,ar1 (H.g 12 1),gWords _ (by first|omega|(simp only [hi_sgn,hi_nat];omega))⟩) ?_
   refine .fz rfl 3 1 E1_1 ?_
   refine .lc rfl 3 B52 ?_ (V:=.string (bS y.natAbs))
   refine .cR rfl [] Tryz.func266 (fun H=>⟨_,ar1 (H.g 15 4),gWords _ (by first|omega|(simp only [hi_sgn,hi_nat];omega))⟩) ?_
   refine .cR rfl [2,5] Tryz.func303 (fun H=>⟨_,ar2 (H.r 13 2) (H.r 16 5),gDivided _ _ (SV.sub [2,5] (H.a 2 rfl) rfl) (SV.sub [2,5] (H.a 5 rfl) rfl) (by first|omega|(simp only [hi_sgn,hi_nat];omega)) (by first|omega|(simp only [hi_sgn,hi_nat];omega))⟩) ?_
   refine .mn rfl 6 [2,5,6] ?_
   refine Go2.fn (i:=8) rfl (G0 rfl) (.val 8 [2,5,6,7] (MagP (x.natAbs/y.natAbs))) (fun u μ ρ H=>by have e10:=H.r 10 7;have h0:=(H.a 7 rfl);obtain⟨x0,x1,h1,h2⟩:=h0;rw [h1] at e10;exact⟨x0,by clear H;go_simp,SP.tupKeep (by decide) (by decide) h2.1⟩) ?_
   refine Go2.fn (i:=9) rfl (G0 rfl) (.val 9 [2,5,6,7] (MagP (x.natAbs%y.natAbs))) (fun u μ ρ H=>by have e10:=H.r 10 7;have h0:=(H.a 7 rfl);obtain⟨x0,x1,h1,h2⟩:=h0;rw [h1] at e10;exact⟨x1,by clear H;go_simp,SP.tupKeep (by decide) (by decide) h2.2⟩) ?_
   refine .mn rfl 8 [2,5,6,7,8] ?_
   refine .mn rfl 9 [2,5,6,7,9] ?_
   refine .dk (fun u=>wV x::wV y::sq u1 0 4 (u 10::u 11::U::U::u 7::sq u 0 7 (u 8::u 9::us 32))) K55 bel fun u2 w2 D bel=>?_
   obtain⟨x56,E2_10,F_x56⟩:∃ x_,(u2 10).v=x_∧(MagP (x.natAbs/y.natAbs)).p (Amb Z0 W) x_ w2:=⟨_,rfl,D.rr 10⟩
   obtain⟨p_x56,m_x56,c_x56,rfl,z_x56,y_x56⟩:=Mag.open F_x56
   obtain⟨x57,E2_11,F_x57⟩:∃ x_,(u2 11).v=x_∧(MagP (x.natAbs%y.natAbs)).p (Amb Z0 W) x_ w2:=⟨_,rfl,D.rr 11⟩
   obtain⟨p_x57,m_x57,c_x57,rfl,z_x57,y_x57⟩:=Mag.open F_x57
   replace B51:=D.k B51
   replace B52:=D.k B52
   replace B53:=D.k B53
   replace B54:=D.k B54
   clear D
   refine gs 13 (Amb Z0 W) fun _ K58=>?_
   refine .fz rfl 2 0 E1_0 ?_
   refine .lc rfl 0 B51 ?_ (V:=.bool false)
   refine .fz rfl 3 0 E1_1 ?_
   refine .lc rfl 2 B52 ?_ (V:=.bool (decide (y<0)))
   refine .e rfl (V:=.bool (false != (decide (y<0)))) (fun H=>x_bne (H.g 21 1) (H.g 23 3)) ?_
   refine .mz rfl 6 E2_10 ?_
   refine .cK rfl Tryz.func264 (fun H=>⟨_,ar2 (H.g 24 4) (H.g 25 5),gMadeZ _ _ (VP.any _ (H.was _ [] F_x56)) (by first|omega|(simp only [hi_sgn,hi_nat];omega))⟩) ?_
   refine .mz rfl 7 E2_11 ?_
   refine .cK rfl Tryz.func264 (fun H=>⟨_,ar2 (H.c (.bool false)) (H.g 27 7),gMadeZ _ _ (VP.any _ (H.was _ [] F_x57)) (by first|omega|(simp only [hi_sgn,hi_nat];omega))⟩) ?_
   refine .al rfl zW ?_
   refine .al rfl zW ?_
   refine .so rfl 9 (fun H=>⟨H.r 8 9,H.g 26 6⟩) ?_
   refine .so rfl 10 (fun H=>⟨H.r 9 10,H.g 28 8⟩) ?_
   refine .dk (fun u=>wV x::wV y::sq u1 0 4 (u2 10::u2 11::u 9::u 10::u2 7::sq u2 0 7 (u2 8::u2 9::sq u 0 9 (us 23)))) K58 bel fun u3 w3 D bel=>?_
   obtain⟨b59,E3_9,A59,B59⟩:=D.st 11
   obtain⟨b60,E3_10,A60,B60⟩:=D.st 12
   have N51_59:=D.n1 9 (lt_of B51) E3_9
   have N52_59:=D.n1 9 (lt_of B52) E3_9
   have N53_59:=D.n1 9 (lt_of B53) E3_9
   have N54_59:=D.n1 9 (lt_of B54) E3_9
   have N53_60:=D.n1 10 (lt_of B53) E3_10
   have N54_60:=D.n1 10 (lt_of B54) E3_10
   have N59_60:=D.n2 9 10 E3_9 E3_10
   replace B51:=D.k B51
   replace B52:=D.k B52
   replace B53:=D.k B53
   replace B54:=D.k B54
   replace F_x57:=D.gr (MagP (x.natAbs%y.natAbs)) F_x57
   clear D
   refine wp_seq_k fun _ K61=>?_
   refine gs 8 (Amb Z0 W) fun _ K62=>?_
   refine .fz rfl 2 0 E1_0 ?_
   refine .lc rfl 0 B51 ?_ (V:=.bool false)
   refine .e rfl (V:=.bool true) (fun H=>x_not (H.g 30 1)) ?_
   refine .mv rfl 2 ?_
   refine .sk rfl 3 ?_
   refine .sk rfl 3 ?_
   refine .sk rfl 3 ?_
   refine .e rfl (fun H=>x_pkT (H.g 32 3) (H.c _)) ?_
   refine .dk (fun u=>wV x::wV y::sq u1 0 4 (u2 10::u2 11::u3 9::u3 10::u2 7::sq u2 0 7 (u2 8::u2 9::sq u3 0 9 (sq u 0 8 (us 15))))) K62 bel fun u4 w4 D bel=>?_
   have E4_7:=D.q 7
   replace B52:=D.k B52
   replace B53:=D.k B53
   replace B54:=D.k B54
   replace B59:=D.k B59
   replace B60:=D.k B60
   clear D
   refine wp_cond_true (by exact E4_7) ?_
   refine wp_seq_k fun _ K63=>?_
   refine go2_drawn (by kernel_rfl) 4 rfl (Amb Z0 W) [(b53,2),(b54,3)] [2,3] (Olds.cons (R0:=fun _=>True) (lt_of B53) (by simp [(Ne.symm N53_54)]) (Olds.one (lt_of B54))) (by kernel_rfl) ?_
   refine .e rfl (fun H=>x_ldr (H.z 8 E3_9) (H.bn B59 (no_cons N53_59 (no_cons N54_59 (no_nil _))))) ?_
   refine .e rfl (fun H=>x_ldr (H.z 9 E3_10) (H.bn B60 (no_cons N53_60 (no_cons N54_60 (no_nil _))))) ?_
   refine .sz rfl 0 B53 (lt_of B53) (by intro y k hy;match y,hy with|0,hy=>rfl|1,hy=>simp at hy;exact absurd hy.1 (Ne.symm N53_54)) (fun H=>⟨(H.z 4 E1_2),(H.g 37 0)⟩) ?_
   refine .sz rfl 1 B54 (lt_of B54) (by intro y k hy;match y,hy with|0,hy=>simp at hy;exact absurd hy.1 N53_54|1,hy=>rfl) (fun H=>⟨(H.z 5 E1_3),(H.g 38 1)⟩) ?_
   refine .dd (fun u=>⟨List.toArray (wV x::wV y::sq u1 0 4 (u2 10::u2 11::u3 9::u3 10::u2 7::sq u2 0 7 (u2 8::u2 9::sq u3 0 9 (sq u4 0 8 (u 0::u 1::us 13))))),[]⟩) bel.size fun u5 w5 D=>?_
   replace B53:=D.ol 2
   replace B54:=D.ol 3
   replace bel:=D.d.base.bel bel bel.size (by simp;omega)
   clear D
   refine K63 _ _ ?_
   refine wp_ret ?_
   refine ret_ok rfl (by exact results_rows2 rfl (by exact E1_2) B53 Tryz.underlying23 rfl (by kernel_rfl) (by exact E1_3) B54 Tryz.underlying23 rfl (by kernel_rfl)) (RetV.mk ?_ bel)
   exact congrArg Ending.returned (dm_pos p1 dc1)
theorem rGcd(x y:Int)(p0:hi x+hi y≤1099511627776):Calls Tryz.prog 263 #[wV x,wV y] W (RetV (wV (Int.gcd x y:Int)) W):=by
 have q0:=hi_bl x
 have q1:=hi_bl y
 have bel:=b0 W
 go_enter Tryz.func263,Tryz.ntmps263
 refine gs 3 (Amb Z0 W) fun _ K1=>?_
 refine .bx rfl (fun H=>H.v 0 (wV x)) ?_
 refine .bx rfl (fun H=>H.v 1 (wV y)) ?_
 refine .al rfl zW ?_
 refine .dk (fun u=>wV x::wV y::sq u 0 3 (us 23)) K1 bel fun u1 w1 D bel=>?_
 obtain⟨b2,E1_0,A2,B2⟩:=D.nw 0
 obtain⟨b3,E1_1,A3,B3⟩:=D.nw 1
 obtain⟨b4,E1_2,A4,B4⟩:=D.nw 2
 have N2_4:=D.n2 0 2 E1_0 E1_2
 have N3_4:=D.n2 1 2 E1_1 E1_2
 clear D
 refine gd 8 (Amb Z0 W) fun _ K5=>?_
 refine .fz rfl 2 1 E1_0 ?_
 refine .lc rfl 0 B2 ?_ (V:=.string (bS x.natAbs))
 refine .cR rfl [] Tryz.func266 (fun H=>⟨_,ar1 (H.g 10 1),gWords _ (by omega)⟩) ?_
 refine .fz rfl 3 1 E1_1 ?_
 refine .lc rfl 3 B3 ?_ (V:=.string (bS y.natAbs))
 refine .cR rfl [] Tryz.func266 (fun H=>⟨_,ar1 (H.g 13 4),gWords _ (by omega)⟩) ?_
 refine .mn rfl 2 [2] ?_
 refine .mn rfl 5 [5] ?_
 refine .dk (fun u=>wV x::wV y::sq u1 0 3 (u 6::u 7::U::U::sq u 0 6 (us 13))) K5 bel fun u2 w2 D bel=>?_
 obtain⟨x6,E2_6,F_x6⟩:∃ x_,(u2 6).v=x_∧(MagP x.natAbs).p (Amb Z0 W) x_ w2:=⟨_,rfl,D.rr 6⟩
 obtain⟨p_x6,m_x6,c_x6,rfl,z_x6,y_x6⟩:=Mag.open F_x6
 obtain⟨x7,E2_7,F_x7⟩:∃ x_,(u2 7).v=x_∧(MagP y.natAbs).p (Amb Z0 W) x_ w2:=⟨_,rfl,D.rr 7⟩
 obtain⟨p_x7,m_x7,c_x7,rfl,z_x7,y_x7⟩:=Mag.open F_x7
 replace B4:=D.k B4
 clear D
 refine wp_seq_k fun _ K8=>?_
 refine wp_block ?_
 refine wp_loop_ghost_k (fun n_ a_ w_=>∃ s5:Value,∃ s6:Value,∃ d7:Value,∃ d8:Value,∃ d15:Value,∃ d16:Value,∃ d17:Value,∃ d18:Value,∃ d19:Value,∃ d20:Value,∃ d21:Value,∃ d22:Value,∃ d23:Value,∃ d24:Value,∃ d25:Value,∃ a:Nat,∃ b:Nat,a_=fr (wV x::wV y::sq u1 0 3 (s5::s6::d7::d8::sq u2 0 6 (d15::d16::d17::d18::d19::d20::d21::d22::d23::d24::d25::U::U::[])))∧n_=b∧Nat.gcd a b=Int.gcd x y∧bl a≤1099511627776∧bl b≤1099511627776∧(MagP a).p (Amb Z0 W) s5 w_∧(MagP b).p (Amb Z0 W) s6 w_∧w_.heap[b4]? = some (.cells #[.bool false,.string ⟨#[]⟩] 23 (0,0))∧RowKit.Below W.heap.size W w_) y.natAbs ⟨_,_,_,_,_,_,_,_,_,_,_,_,_,_,_,x.natAbs,y.natAbs,rfl,rfl,by first|rfl|omega,by first|rfl|omega,by first|rfl|omega,(by rw [E2_6];exact F_x6),(by rw [E2_7];exact F_x7),B4,bel⟩ ?_
 clear B4 F_x6 F_x7 bel
 rintro n_ _ w9 ⟨s5,s6,d7,d8,d15,d16,d17,d18,d19,d20,d21,d22,d23,d24,d25,a,b,rfl,hn12,i0,i1,i2,f5,f6,B4,bel⟩ J10 K11 hJ10 hK11
 have F_s5:=f5
 clear f5
 obtain⟨p_s5,m_s5,c_s5,rfl,z_s5,y_s5⟩:=Mag.open F_s5
 have F_s6:=f6
 clear f6
 obtain⟨p_s6,m_s6,c_s6,rfl,z_s6,y_s6⟩:=Mag.open F_s6
 refine wp_seq_k fun _ K13=>?_
 refine gs 3 (Amb Z0 W) fun _ K14=>?_
 refine .mz rfl 6 (V:=.slice p_s6 m_s6 c_s6) rfl ?_
 refine .e rfl (V:=.int .i64 (m_s6:Nat)) (fun H=>by have e15:=H.g 15 0;have y_:=y_s6;clear H;go_simp<;>first|(simp_all;done)|omega|exact len_gt z0_) ?_
 refine .e rfl (V:=.bool (!decide (b=0))) (fun H=>by have e16:=H.g 16 1;have k1:=H.c (.int .i64 0);have z0_:=z_s6;clear H;go_simp<;>first|(simp_all;done)|omega|exact len_gt z0_) ?_
 refine .dk (fun u=>wV x::wV y::sq u1 0 3 (.slice p_s5 m_s5 c_s5::.slice p_s6 m_s6 c_s6::d7::d8::sq u2 0 6 (sq u 0 3 (d18::d19::d20::d21::d22::d23::d24::d25::U::U::[])))) K14 bel fun u3 w3 D bel=>?_
 have E3_0:=D.q 0
 have E3_1:=D.q 1
 have E3_2:=D.q 2
 replace B4:=D.k B4
 replace F_s5:=D.gr (MagP a) F_s5
 replace F_s6:=D.gr (MagP b) F_s6
 clear D
 rcases Bool.eq_false_or_eq_true (!decide (b=0)) with c15|c15
 ·
  refine wp_cond_true ((E3_2).trans (congrArg Value.bool c15)) ?_
  have dc15:=of_decide_eq_false (by simpa using c15:(decide (b=0))=false)
  refine wp_skip ?_
  refine K13 _ _ ?_
  refine wp_block ?_
  refine gs 8 (Amb Z0 W) fun _ K16=>?_
  refine .mz rfl 5 (V:=.slice p_s5 m_s5 c_s5) rfl ?_
  refine .mz rfl 6 (V:=.slice p_s6 m_s6 c_s6) rfl ?_
  refine .cR rfl [] Tryz.func303 (fun H=>⟨_,ar2 (H.g 19 0) (H.g 20 1),gDivided _ _ (H.was _ [] F_s5) (H.was _ [] F_s6) (by omega) (by omega)⟩) ?_
  refine .mn rfl 2 [2] ?_
  refine Go2.fn (i:=4) rfl (G0 rfl) (.val 4 [2,3] (MagP (a/b))) (fun u μ ρ H=>by have e18:=H.r 18 3;have h0:=(H.a 3 rfl);obtain⟨x0,x1,h1,h2⟩:=h0;rw [h1] at e18;exact⟨x0,by clear H;go_simp,SP.tupKeep (by decide) (by decide) h2.1⟩) ?_
  refine Go2.fn (i:=5) rfl (G0 rfl) (.val 5 [2,3] (MagP (a%b))) (fun u μ ρ H=>by have e18:=H.r 18 3;have h0:=(H.a 3 rfl);obtain⟨x0,x1,h1,h2⟩:=h0;rw [h1] at e18;exact⟨x1,by clear H;go_simp,SP.tupKeep (by decide) (by decide) h2.2⟩) ?_
  refine .mn rfl 4 [2,3,4] ?_
  refine .mn rfl 5 [2,3,5] ?_
  refine .dk (fun u=>wV x::wV y::sq u1 0 3 (.slice p_s5 m_s5 c_s5::.slice p_s6 m_s6 c_s6::u 6::u 7::sq u2 0 6 (sq u3 0 3 (u 3::sq u 0 3 (u 4::u 5::d24::d25::U::U::[]))))) K16 bel fun u4 w4 D bel=>?_
  obtain⟨x17,x18,E4_2,F_x17,F_x18⟩:=(D.rr 2)
  obtain⟨p_x17,m_x17,c_x17,rfl,z_x17,y_x17⟩:=Mag.open F_x17
  obtain⟨p_x18,m_x18,c_x18,rfl,z_x18,y_x18⟩:=Mag.open F_x18
  obtain⟨x19,x20,E4_3,F_x19,F_x20⟩:=(D.rr 3)
  obtain⟨p_x19,m_x19,c_x19,rfl,z_x19,y_x19⟩:=Mag.open F_x19
  obtain⟨p_x20,m_x20,c_x20,rfl,z_x20,y_x20⟩:=Mag.open F_x20
  obtain⟨x21,E4_4,F_x21⟩:∃ x_,(u4 4).v=x_∧(MagP (a/b)).p (Amb Z0 W) x_ w4:=⟨_,rfl,D.rr 4⟩
  obtain⟨p_x21,m_x21,c_x21,rfl,z_x21,y_x21⟩:=Mag.open F_x21
  obtain⟨x22,E4_5,F_x22⟩:∃ x_,(u4 5).v=x_∧(MagP (a%b)).p (Amb Z0 W) x_ w4:=⟨_,rfl,D.rr 5⟩
  obtain⟨p_x22,m_x22,c_x22,rfl,z_x22,y_x22⟩:=Mag.open F_x22
  obtain⟨x23,E4_7,F_x23⟩:∃ x_,(u4 7).v=x_∧(MagP (a%b)).p (Amb Z0 W) x_ w4:=⟨_,rfl,D.rr 7⟩
  obtain⟨p_x23,m_x23,c_x23,rfl,z_x23,y_x23⟩:=Mag.open F_x23
  have E4_0:=D.q 0
  have E4_1:=D.q 1
  replace B4:=D.k B4
  replace F_s5:=D.gr (MagP a) F_s5
  replace F_s6:=D.gr (MagP b) F_s6
  clear D
  refine gs 2 (Amb Z0 W) fun _ K24=>?_
  refine .mz rfl 6 (V:=.slice p_s6 m_s6 c_s6) rfl ?_
  refine .mv rfl 0 ?_
  refine .dk (fun u=>wV x::wV y::sq u1 0 3 (u 1::.slice p_s6 m_s6 c_s6::u4 6::u4 7::sq u2 0 6 (sq u3 0 3 (u4 3::sq u4 0 3 (u4 4::u4 5::u 0::d25::U::U::[]))))) K24 bel fun u5 w5 D bel=>?_
  have E5_0:=D.q 0
  have E5_1:=D.q 1
  replace B4:=D.k B4
  replace F_s5:=D.gr (MagP a) F_s5
  replace F_s6:=D.gr (MagP b) F_s6
  replace F_x17:=D.gr (MagP (a/b)) F_x17
  replace F_x18:=D.gr (MagP (a%b)) F_x18
  replace F_x19:=D.gr (MagP (a/b)) F_x19
  replace F_x20:=D.gr (MagP (a%b)) F_x20
  replace F_x21:=D.gr (MagP (a/b)) F_x21
  replace F_x22:=D.gr (MagP (a%b)) F_x22
  replace F_x23:=D.gr (MagP (a%b)) F_x23
  clear D
  refine go2_seq 2 rfl (Amb Z0 W) [] [] (Olds.nil _) (by kernel_rfl) ?_
  refine .mz rfl 8 E4_7 ?_
  refine .mv rfl 0 ?_
  refine .dd (fun u=>⟨List.toArray (wV x::wV y::sq u1 0 3 (u5 1::u 1::u4 6::u4 7::sq u2 0 6 (sq u3 0 3 (u4 3::sq u4 0 3 (u4 4::u4 5::u5 0::u 0::U::U::[]))))),[]⟩) bel.size fun u6 w6 D=>?_
  have E6_0:=D.q 0
  have E6_1:=D.q 1
  replace B4:=D.k B4
  replace F_s5:=D.gr (MagP a) F_s5
  replace F_s6:=D.gr (MagP b) F_s6
  replace F_x17:=D.gr (MagP (a/b)) F_x17
  replace F_x18:=D.gr (MagP (a%b)) F_x18
  replace F_x19:=D.gr (MagP (a/b)) F_x19
  replace F_x20:=D.gr (MagP (a%b)) F_x20
  replace F_x21:=D.gr (MagP (a/b)) F_x21
  replace F_x22:=D.gr (MagP (a%b)) F_x22
  replace F_x23:=D.gr (MagP (a%b)) F_x23
  replace bel:=D.d.base.bel0 bel bel.size
  clear D
  refine inBlock_normal ?_
  refine hK11 _ _ (Handed.intro (a%b) (by rw [hn12];exact Nat.mod_lt _ (by omega)) (hJ10 _ _ _ ⟨_,_,_,_,_,_,_,_,_,_,_,_,_,_,_,b,a%b,rfl,rfl,by first|exact gcd_step i0 dc15|omega|exact Nat.le_trans (bl_mono (Nat.mod_le a b)) i1,by first|exact gcd_step i0 dc15|omega|exact Nat.le_trans (bl_mono (Nat.mod_le a b)) i1,by first|exact gcd_step i0 dc15|omega|exact Nat.le_trans (bl_mono (Nat.mod_le a b)) i1,(by rw [E5_1];exact F_s6),(by rw [E6_1];exact F_x23),B4,bel⟩))
 ·
  refine wp_cond_false ((E3_2).trans (congrArg Value.bool c15)) ?_
  have dc15:=of_decide_eq_true (by simpa using c15:(decide (b=0))=true)
  refine wp_exit ?_
  refine then_exit ?_
  refine then_exit ?_
  refine inBlock_here ?_
  refine K8 _ _ ?_
  refine gs1 3 (Amb Z0 W) 2 B4 fun _ K25=>?_
  refine .mz rfl 5 (V:=.slice p_s5 m_s5 c_s5) rfl ?_
  refine .cK rfl Tryz.func264 (fun H=>⟨_,ar2 (H.c (.bool false)) (H.g 26 0),gMadeZ _ _ (VP.any _ (H.was _ [] F_s5)) (by omega)⟩) ?_
  refine .s1 rfl B4 (fun H=>⟨H.z 4 E1_2,H.g 27 1⟩) ?_
  refine .d1 (fun u=>wV x::wV y::sq u1 0 3 (.slice p_s5 m_s5 c_s5::.slice p_s6 m_s6 c_s6::d7::d8::sq u2 0 6 (sq u3 0 3 (d18::d19::d20::d21::d22::d23::d24::d25::u 0::u 1::[])))) K25 bel A4 fun u7 w7 D bel=>?_
  replace B4:=D.ol 2
  clear D
  exact wp_ret (rr rfl E1_2 B4 (wh_eq (gcd_end i0 dc15)) bel)
end Go.Proofs.YtcdbmjnipaochaaGreat
namespace Go.Proofs.YtcdbmjnipaochaaGreat
open Go.RowKit Rgn
theorem hi_num(q:Rat):hi q.num≤ht q:=by unfold hi ht;omega
theorem hi_den(q:Rat):hi (q.den:Int)≤ht q:=by
 have h:((q.den:Int)).natAbs=q.den:=rfl
 unfold hi ht;rw [h];omega
theorem hi_gcd{x y:Int}(hy:y≠0):hi (Int.gcd x y:Int)≤hi y:=by
 have h:=Int.gcd_le_natAbs_right x hy
 have h2:((Int.gcd x y:Int)).natAbs=Int.gcd x y:=rfl
 unfold hi;rw [h2];have:=bl_mono h;omega
theorem gcd_ne{x y:Int}(hy:y≠0):(Int.gcd x y:Int)≠0:=by
 intro h
 have:Int.gcd x y=0:=by omega
 exact hy (Int.gcd_eq_zero_iff.1 this).2
abbrev FR(q:Rat):Value:=.agg #[.bool (decide (q.num<0)),.string (bS q.num.natAbs),.bool (decide ((q.den:Int)<0)),.string (bS (q.den:Int).natAbs)]
abbrev WW(a b:Int):Value:=.agg #[.bool (decide (a<0)),.string (bS a.natAbs),.bool (decide (b<0)),.string (bS b.natAbs)]
theorem fr_eq{p q:Rat}(h:p=q):FR p=FR q:=by rw [h]
theorem ww_eq{a b:Int}{q:Rat}(h:a=q.num)(h': b=(q.den:Int)):WW a b=FR q:=by subst h;subst h';rfl
theorem fr_int(n:Int):WW n 1=FR (n:Rat):=ww_eq (Rat.num_intCast n).symm (by rw [Rat.den_intCast];rfl)
theorem fr_of1{x y:Int}(hy:y≠0)(h:y.sign<0):WW (x / -(Int.gcd x y:Int)) (y / -(Int.gcd x y:Int))=FR (Rat.divInt x y):=by
 have hs:y.sign=-1:=by have:=sign3 y;omega
 have hy0:y<0:=by have:=sign3 y;omega
 refine ww_eq ?_ ?_
 ·rw [Rat.num_divInt,hs,Int.gcd_comm y x,Int.ediv_neg,Int.neg_one_mul,Int.neg_ediv_of_dvd (Int.gcd_dvd_left x y)]
 ·rw [Rat.den_divInt,if_neg hy,Int.gcd_comm y x,Int.natCast_ediv,Int.ediv_neg,show ((y.natAbs:Nat):Int)=-y by omega,Int.neg_ediv_of_dvd (Int.gcd_dvd_right x y)]
theorem fr_of2{x y:Int}(hy:y≠0)(h:¬ y.sign<0):WW (x/(Int.gcd x y:Int)) (y/(Int.gcd x y:Int))=FR (Rat.divInt x y):=by
 have hs:y.sign=1:=by have:=sign3 y;omega
 have hy0:0<y:=by have:=sign3 y;omega
 refine ww_eq ?_ ?_
 ·rw [Rat.num_divInt,hs,Int.gcd_comm y x,Int.one_mul]
 ·rw [Rat.den_divInt,if_neg hy,Int.gcd_comm y x,Int.natCast_ediv,show ((y.natAbs:Nat):Int)=y by omega]
theorem fr_plus(x y:Rat):Rat.divInt (x.num*(y.den:Int)+y.num*(x.den:Int)) ((x.den:Int)*(y.den:Int))=x+y:=by
 rw [Rat.add_def', ← Rat.divInt_ofNat,Int.natCast_mul]
theorem fr_times(x y:Rat):Rat.divInt (x.num*y.num) ((x.den:Int)*(y.den:Int))=x*y:=by
 rw [Rat.mul_def', ← Rat.divInt_ofNat,Int.natCast_mul]
theorem fr_over(x y:Rat):Rat.divInt (x.num*(y.den:Int)) ((x.den:Int)*y.num)=x/y:=by
 conv=>rhs;rw [← Rat.num_divInt_den x,← Rat.num_divInt_den y]
 rw [Rat.div_def,Rat.inv_divInt,Rat.divInt_mul_divInt]
theorem fr_neg(x:Rat):WW (-x.num) (x.den:Int)=FR (-x):=ww_eq (by rw [Rat.neg_num]) (by rw [Rat.neg_den])
theorem den_ne(q:Rat):(q.den:Int)≠0:=by have:=q.den_pos;omega
theorem den_mul_ne(p q:Rat):(p.den:Int)*(q.den:Int)≠0:=Int.mul_ne_zero (den_ne p) (den_ne q)
theorem hc_mul(x y:Cx):ht (x.mul y).re≤ht x.re+ht x.im+ht y.re+ht y.im∧ht (x.mul y).im≤ht x.re+ht x.im+ht y.re+ht y.im:=by
 have h1:=ht_mul x.re y.re;have h2:=ht_mul x.im y.im;have h3:=ht_mul x.re y.im;have h4:=ht_mul x.im y.re
 have h5:=ht_sub (x.re*y.re) (x.im*y.im)
 have h6:=ht_add (x.re*y.im) (x.im*y.re)
 exact⟨by show ht (x.re*y.re-x.im*y.im)≤_;omega,by show ht (x.re*y.im+x.im*y.re)≤_;omega⟩
theorem hc_norm(x:Cx):ht x.norm≤2*(ht x.re+ht x.im):=by
 have h1:=ht_mul x.re x.re;have h2:=ht_mul x.im x.im
 have h5:=ht_add (x.re*x.re) (x.im*x.im)
 show ht (x.re*x.re+x.im*x.im)≤_;omega
theorem hc_conj(x:Cx):ht x.conj.re=ht x.re∧ht x.conj.im=ht x.im:=⟨rfl,ht_neg x.im⟩
theorem hc_neg(x:Cx):ht x.neg.re=ht x.re∧ht x.neg.im=ht x.im:=⟨ht_neg x.re,ht_neg x.im⟩
theorem hc_scale(x:Cx)(r:Rat):ht (x.scale r).re≤ht x.re+ht r∧ht (x.scale r).im≤ht x.im+ht r:=⟨ht_mul _ _,ht_mul _ _⟩
theorem hc_add(x y:Cx):ht (x.add y).re≤ht x.re+ht y.re∧ht (x.add y).im≤ht x.im+ht y.im:=⟨ht_add _ _,ht_add _ _⟩
theorem hc_sub(x y:Cx):ht (x.sub y).re≤ht x.re+ht y.re∧ht (x.sub y).im≤ht x.im+ht y.im:=⟨ht_sub _ _,ht_sub _ _⟩
def Cx.zero(x:Cx):Bool:=decide (x.re=0)&&decide (x.im=0)
end Go.Proofs.YtcdbmjnipaochaaGreat
namespace Go.Proofs.YtcdbmjnipaochaaGreat
open Go.RowKit Rgn
variable {S:Nat→Prop} {W:World}
theorem fInt(n:Int)(p0:-9223372036854775808≤n)(p1:n≤9223372036854775807):Calls Tryz.prog 81 #[.int .i64 n] W (RetV (fV (n:Rat)) W):=by
 have bel:=b0 W
 go_enter Tryz.func81,Tryz.ntmps81
 refine gs 1 (Amb Z0 W) fun _ K1=>?_
 refine .al rfl zF ?_
 refine .dk (fun u=>.int .i64 n::U::u 0::us 4) K1 bel fun u1 w1 D bel=>?_
 obtain⟨b2,E1_0,A2,B2⟩:=D.nw 0
 clear D
 refine gs1 5 (Amb Z0 W) 4 B2 fun _ K3=>?_
 refine .mz rfl 0 (V:=.int .i64 n) rfl ?_
 refine .cK rfl Tryz.func215 (fun H=>⟨_,ar1 (H.g 3 0),rOf _ (by omega) (by omega)⟩) ?_
 refine .cK rfl Tryz.func215 (fun H=>⟨_,ar1 (H.c (.int .i64 1)),rOf _ (by omega) (by omega)⟩) ?_
 refine .e rfl (V:=rfV (RF.mk (rw n) (rw (1:Int)))) (fun H=>by have e4:=H.g 4 1;have e5:=H.g 5 2;clear H;go_simp) ?_
 refine .s1 rfl B2 (fun H=>⟨H.z 2 E1_0,H.g 6 3⟩) ?_
 refine .d1 (fun u=>.int .i64 n::U::u1 0::sq u 0 4 []) K3 bel A2 fun u2 w2 D bel=>?_
 replace B2:=D.ol 4
 clear D
 exact wp_ret (rr rfl E1_0 B2 (fr_int n) bel)
theorem fOf(x y:Int)(p0:hi x+hi y+hi y+8≤1099511627776)(p1:y≠0):Calls Tryz.prog 167 #[wV x,wV y] W (RetV (fV (Rat.divInt x y)) W):=by
 have g0:=hi_gcd (x:=x) p1
 have g1:=gcd_ne (x:=x) p1
 have g2:=hi_neg (Int.gcd x y:Int)
 have bel:=b0 W
 go_enter Tryz.func167,Tryz.ntmps167
 refine gs 3 (Amb Z0 W) fun _ K1=>?_
 refine .bx rfl (fun H=>H.v 0 (wV x)) ?_
 refine .bx rfl (fun H=>H.v 1 (wV y)) ?_
 refine .al rfl zF ?_
 refine .dk (fun u=>wV x::wV y::sq u 0 3 (us 28)) K1 bel fun u1 w1 D bel=>?_
 obtain⟨b2,E1_0,A2,B2⟩:=D.nw 0
 obtain⟨b3,E1_1,A3,B3⟩:=D.nw 1
 obtain⟨b4,E1_2,A4,B4⟩:=D.nw 2
 have N2_4:=D.n2 0 2 E1_0 E1_2
 have N3_4:=D.n2 1 2 E1_1 E1_2
 clear D
 refine gs 5 (Amb Z0 W) fun _ K5=>?_
 refine .lr rfl 2 E1_0 B2 ?_
 refine .lr rfl 3 E1_1 B3 ?_
 refine .cK rfl Tryz.func263 (fun H=>⟨_,ar2 (H.g 10 0) (H.g 11 1),rGcd _ _ (by omega)⟩) ?_
 refine .al rfl zW ?_
 refine .so rfl 3 (fun H=>⟨H.r 5 3,H.g 12 2⟩) ?_
 refine .dk (fun u=>wV x::wV y::sq u1 0 3 (u 3::U::U::U::U::sq u 0 3 (us 20))) K5 bel fun u2 w2 D bel=>?_
 obtain⟨b6,E2_3,A6,B6⟩:=D.st 4
 have N2_6:=D.n1 3 (lt_of B2) E2_3
 have N3_6:=D.n1 3 (lt_of B3) E2_3
 have N4_6:=D.n1 3 (lt_of B4) E2_3
 replace B2:=D.k B2
 replace B3:=D.k B3
 replace B4:=D.k B4
 clear D
 refine wp_seq_k fun _ K7=>?_
 refine gs 3 (Amb Z0 W) fun _ K8=>?_
 refine .lr rfl 3 E1_1 B3 ?_
 refine .cK rfl Tryz.func179 (fun H=>⟨_,ar1 (H.g 13 0),rSign _⟩) ?_
 refine .e rfl (V:=.bool (decide (y.sign<0))) (fun H=>x_cmp (H.g 14 1) (H.c _)) ?_
 refine .dk (fun u=>wV x::wV y::sq u1 0 3 (u2 3::U::U::U::U::sq u2 0 3 (sq u 0 3 (us 17)))) K8 bel fun u3 w3 D bel=>?_
 have E3_2:=D.q 2
 replace B2:=D.k B2
 replace B3:=D.k B3
 replace B4:=D.k B4
 replace B6:=D.k B6
 clear D
 rcases Bool.eq_false_or_eq_true (decide (y.sign<0)) with c9|c9
 ·
  refine wp_cond_true ((E3_2).trans (congrArg Value.bool c9)) ?_
  have dc9:=of_decide_eq_true c9
  refine go2_seq 3 rfl (Amb Z0 W) [(b6,2)] [2] (Olds.one (lt_of B6)) (by kernel_rfl) ?_
  refine .e rfl (fun H=>x_ldr (H.z 5 E2_3) (H.bo B6 0 2)) ?_
  refine .cK rfl Tryz.func268 (fun H=>⟨_,ar1 (H.g 16 0),rNeg _⟩) ?_
  refine .s1 rfl B6 (fun H=>⟨H.z 5 E2_3,H.g 17 1⟩) ?_
  refine .dd (fun u=>⟨List.toArray (wV x::wV y::sq u1 0 3 (u2 3::U::U::U::U::sq u2 0 3 (sq u3 0 3 (u 0::u 1::us 15)))),[]⟩) bel.size fun u4 w4 D=>?_
  replace B2:=D.k1 B2 (Ne.symm N2_6)
  replace B3:=D.k1 B3 (Ne.symm N3_6)
  replace B4:=D.k1 B4 (Ne.symm N4_6)
  replace B6:=D.ol 2
  replace bel:=D.d.base.bel bel bel.size (by simp;omega)
  clear D
  refine K7 _ _ ?_
  refine gs 10 (Amb Z0 W) fun _ K10=>?_
  refine .lr rfl 2 E1_0 B2 ?_
  refine .lr rfl 5 E2_3 B6 ?_
  refine .cK rfl Tryz.func269 (fun H=>⟨_,ar2 (H.g 19 0) (H.g 20 1),rDivMod _ _ (by omega) (by omega)⟩) ?_
  refine .mv rfl 2 ?_
  refine .e rfl (V:=wV (x/(-(Int.gcd x y:Int)))) (fun H=>x_ex (H.g 18 3)) ?_
  refine .e rfl (V:=wV (x%(-(Int.gcd x y:Int)))) (fun H=>x_ex (H.g 18 3)) ?_
  refine .al rfl zW ?_
  refine .al rfl zW ?_
  refine .so rfl 6 (fun H=>⟨H.r 6 6,H.g 22 4⟩) ?_
  refine .so rfl 7 (fun H=>⟨H.r 7 7,H.g 23 5⟩) ?_
  refine .dk (fun u=>wV x::wV y::sq u1 0 3 (u2 3::u 6::u 7::U::U::sq u2 0 3 (sq u3 0 3 (u4 0::u4 1::u 3::sq u 0 3 (u 4::u 5::us 9))))) K10 bel fun u5 w5 D bel=>?_
  obtain⟨b11,E5_6,A11,B11⟩:=D.st 8
  have N4_11:=D.n1 6 (lt_of B4) E5_6
  have N6_11:=D.n1 6 (lt_of B6) E5_6
  replace B3:=D.k B3
  replace B4:=D.k B4
  replace B6:=D.k B6
  clear D
  refine gs 10 (Amb Z0 W) fun _ K12=>?_
  refine .lr rfl 3 E1_1 B3 ?_
  refine .lr rfl 5 E2_3 B6 ?_
  refine .cK rfl Tryz.func269 (fun H=>⟨_,ar2 (H.g 25 0) (H.g 26 1),rDivMod _ _ (by omega) (by omega)⟩) ?_
  refine .mv rfl 2 ?_
  refine .e rfl (V:=wV (y/(-(Int.gcd x y:Int)))) (fun H=>x_ex (H.g 24 3)) ?_
  refine .e rfl (V:=wV (y%(-(Int.gcd x y:Int)))) (fun H=>x_ex (H.g 24 3)) ?_
  refine .al rfl zW ?_
  refine .al rfl zW ?_
  refine .so rfl 6 (fun H=>⟨H.r 8 6,H.g 28 4⟩) ?_
  refine .so rfl 7 (fun H=>⟨H.r 9 7,H.g 29 5⟩) ?_
  refine .dk (fun u=>wV x::wV y::sq u1 0 3 (u2 3::u5 6::u5 7::u 6::u 7::sq u2 0 3 (sq u3 0 3 (u4 0::u4 1::u5 3::sq u5 0 3 (u5 4::u5 5::u 3::sq u 0 3 (u 4::u 5::us 3)))))) K12 bel fun u6 w6 D bel=>?_
  obtain⟨b13,E6_6,A13,B13⟩:=D.st 8
  have N4_13:=D.n1 6 (lt_of B4) E6_6
  have N6_13:=D.n1 6 (lt_of B6) E6_6
  replace B4:=D.k B4
  replace B11:=D.k B11
  clear D
  refine gs1 4 (Amb Z0 W) 3 B4 fun _ K14=>?_
  refine .e rfl (fun H=>x_ldr (H.z 6 E5_6) (H.b1 B11 N4_11)) ?_
  refine .e rfl (fun H=>x_ldr (H.z 8 E6_6) (H.b1 B13 N4_13)) ?_
  refine .e rfl (V:=rfV (RF.mk (rw (x/(-(Int.gcd x y:Int)))) (rw (y/(-(Int.gcd x y:Int)))))) (fun H=>by have e30:=H.g 30 0;have e31:=H.g 31 1;clear H;go_simp) ?_
  refine .s1 rfl B4 (fun H=>⟨H.z 4 E1_2,H.g 32 2⟩) ?_
  refine .d1 (fun u=>wV x::wV y::sq u1 0 3 (u2 3::u5 6::u5 7::u6 6::u6 7::sq u2 0 3 (sq u3 0 3 (u4 0::u4 1::u5 3::sq u5 0 3 (u5 4::u5 5::u6 3::sq u6 0 3 (u6 4::u6 5::sq u 0 3 [])))))) K14 bel A4 fun u7 w7 D bel=>?_
  replace B4:=D.ol 3
  clear D
  exact wp_ret (rr rfl E1_2 B4 (fr_of1 p1 dc9) bel)
 ·
  refine wp_cond_false ((E3_2).trans (congrArg Value.bool c9)) ?_
  have dc9:=of_decide_eq_false c9
  refine wp_skip ?_
  refine K7 _ _ ?_
  refine gs 10 (Amb Z0 W) fun _ K15=>?_
  refine .lr rfl 2 E1_0 B2 ?_
  refine .lr rfl 5 E2_3 B6 ?_
  refine .cK rfl Tryz.func269 (fun H=>⟨_,ar2 (H.g 19 0) (H.g 20 1),rDivMod _ _ (by omega) (by omega)⟩) ?_
  refine .mv rfl 2 ?_
  refine .e rfl (V:=wV (x/(Int.gcd x y:Int))) (fun H=>x_ex (H.g 18 3)) ?_
  refine .e rfl (V:=wV (x%(Int.gcd x y:Int))) (fun H=>x_ex (H.g 18 3)) ?_
  refine .al rfl zW ?_
  refine .al rfl zW ?_
  refine .so rfl 6 (fun H=>⟨H.r 6 6,H.g 22 4⟩) ?_
  refine .so rfl 7 (fun H=>⟨H.r 7 7,H.g 23 5⟩) ?_
  refine .dk (fun u=>wV x::wV y::sq u1 0 3 (u2 3::u 6::u 7::U::U::sq u2 0 3 (sq u3 0 3 (U::U::u 3::sq u 0 3 (u 4::u 5::us 9))))) K15 bel fun u8 w8 D bel=>?_
  obtain⟨b16,E8_6,A16,B16⟩:=D.st 8
  have N4_16:=D.n1 6 (lt_of B4) E8_6
  have N6_16:=D.n1 6 (lt_of B6) E8_6
  replace B3:=D.k B3
  replace B4:=D.k B4
  replace B6:=D.k B6
  clear D
  refine gs 10 (Amb Z0 W) fun _ K17=>?_
  refine .lr rfl 3 E1_1 B3 ?_
  refine .lr rfl 5 E2_3 B6 ?_
  refine .cK rfl Tryz.func269 (fun H=>⟨_,ar2 (H.g 25 0) (H.g 26 1),rDivMod _ _ (by omega) (by omega)⟩) ?_
  refine .mv rfl 2 ?_
  refine .e rfl (V:=wV (y/(Int.gcd x y:Int))) (fun H=>x_ex (H.g 24 3)) ?_
  refine .e rfl (V:=wV (y%(Int.gcd x y:Int))) (fun H=>x_ex (H.g 24 3)) ?_
  refine .al rfl zW ?_
  refine .al rfl zW ?_
  refine .so rfl 6 (fun H=>⟨H.r 8 6,H.g 28 4⟩) ?_
  refine .so rfl 7 (fun H=>⟨H.r 9 7,H.g 29 5⟩) ?_
  refine .dk (fun u=>wV x::wV y::sq u1 0 3 (u2 3::u8 6::u8 7::u 6::u 7::sq u2 0 3 (sq u3 0 3 (U::U::u8 3::sq u8 0 3 (u8 4::u8 5::u 3::sq u 0 3 (u 4::u 5::us 3)))))) K17 bel fun u9 w9 D bel=>?_
  obtain⟨b18,E9_6,A18,B18⟩:=D.st 8
  have N4_18:=D.n1 6 (lt_of B4) E9_6
  have N6_18:=D.n1 6 (lt_of B6) E9_6
  replace B4:=D.k B4
  replace B16:=D.k B16
  clear D
  refine gs1 4 (Amb Z0 W) 3 B4 fun _ K19=>?_
  refine .e rfl (fun H=>x_ldr (H.z 6 E8_6) (H.b1 B16 N4_16)) ?_
  refine .e rfl (fun H=>x_ldr (H.z 8 E9_6) (H.b1 B18 N4_18)) ?_
  refine .e rfl (V:=rfV (RF.mk (rw (x/(Int.gcd x y:Int))) (rw (y/(Int.gcd x y:Int))))) (fun H=>by have e30:=H.g 30 0;have e31:=H.g 31 1;clear H;go_simp) ?_
  refine .s1 rfl B4 (fun H=>⟨H.z 4 E1_2,H.g 32 2⟩) ?_
  refine .d1 (fun u=>wV x::wV y::sq u1 0 3 (u2 3::u8 6::u8 7::u9 6::u9 7::sq u2 0 3 (sq u3 0 3 (U::U::u8 3::sq u8 0 3 (u8 4::u8 5::u9 3::sq u9 0 3 (u9 4::u9 5::sq u 0 3 [])))))) K19 bel A4 fun u10 w10 D bel=>?_
  replace B4:=D.ol 3
  clear D
  exact wp_ret (rr rfl E1_2 B4 (fr_of2 p1 dc9) bel)
theorem fPlus(x y:Rat)(p0:ht x+ht y≤68719476736):Calls Tryz.prog 100 #[fV x,fV y] W (RetV (fV (x+y)) W):=by
 have n0:=hi_num x
 have n1:=hi_num y
 have n2:=hi_den x
 have n3:=hi_den y
 have m0:=hi_mul x.num (y.den:Int)
 have m1:=hi_mul y.num (x.den:Int)
 have m2:=hi_mul (x.den:Int) (y.den:Int)
 have m3:=hi_add (x.num*(y.den:Int)) (y.num*(x.den:Int))
 have bel:=b0 W
 go_enter Tryz.func100,Tryz.ntmps100
 refine gs 3 (Amb Z0 W) fun _ K1=>?_
 refine .bx rfl (fun H=>H.v 0 (fV x)) ?_
 refine .bx rfl (fun H=>H.v 1 (fV y)) ?_
 refine .al rfl zF ?_
 refine .dk (fun u=>fV x::fV y::sq u 0 3 (us 21)) K1 bel fun u1 w1 D bel=>?_
 obtain⟨b2,E1_0,A2,B2⟩:=D.nw 0
 obtain⟨b3,E1_1,A3,B3⟩:=D.nw 1
 obtain⟨b4,E1_2,A4,B4⟩:=D.nw 2
 have N2_4:=D.n2 0 2 E1_0 E1_2
 have N3_4:=D.n2 1 2 E1_1 E1_2
 clear D
 refine gs 7 (Amb Z0 W) fun _ K5=>?_
 refine .fz rfl 2 0 E1_0 ?_
 refine .lp rfl 0 (wC x.num) B2 ?_
 refine .fz rfl 3 2 E1_1 ?_
 refine .lp rfl 2 (wC (y.den:Int)) B3 ?_
 refine .cK rfl Tryz.func162 (fun H=>⟨_,ar2 (H.g 8 1) (H.g 10 3),rTimes _ _ (by first|omega|exact den_mul_ne _ _)⟩) ?_
 refine .al rfl zW ?_
 refine .so rfl 5 (fun H=>⟨H.r 5 5,H.g 11 4⟩) ?_
 refine .dk (fun u=>fV x::fV y::sq u1 0 3 (u 5::U::sq u 0 5 (us 14))) K5 bel fun u2 w2 D bel=>?_
 obtain⟨b6,E2_5,A6,B6⟩:=D.st 6
 have N4_6:=D.n1 5 (lt_of B4) E2_5
 replace B2:=D.k B2
 replace B3:=D.k B3
 replace B4:=D.k B4
 clear D
 refine gs 7 (Amb Z0 W) fun _ K7=>?_
 refine .fz rfl 3 0 E1_1 ?_
 refine .lp rfl 0 (wC y.num) B3 ?_
 refine .fz rfl 2 2 E1_0 ?_
 refine .lp rfl 2 (wC (x.den:Int)) B2 ?_
 refine .cK rfl Tryz.func162 (fun H=>⟨_,ar2 (H.g 13 1) (H.g 15 3),rTimes _ _ (by first|omega|exact den_mul_ne _ _)⟩) ?_
 refine .al rfl zW ?_
 refine .so rfl 5 (fun H=>⟨H.r 6 5,H.g 16 4⟩) ?_
 refine .dk (fun u=>fV x::fV y::sq u1 0 3 (u2 5::u 5::sq u2 0 5 (sq u 0 5 (us 9)))) K7 bel fun u3 w3 D bel=>?_
 obtain⟨b8,E3_5,A8,B8⟩:=D.st 6
 have N4_8:=D.n1 5 (lt_of B4) E3_5
 replace B2:=D.k B2
 replace B3:=D.k B3
 replace B4:=D.k B4
 replace B6:=D.k B6
 clear D
 refine gd1 10 (Amb Z0 W) 9 B4 fun _ K9=>?_
 refine .e rfl (fun H=>x_ldr (H.z 5 E2_5) (H.b1 B6 N4_6)) ?_
 refine .e rfl (fun H=>x_ldr (H.z 6 E3_5) (H.b1 B8 N4_8)) ?_
 refine .cK rfl Tryz.func168 (fun H=>⟨_,ar2 (H.g 17 0) (H.g 18 1),rPlus _ _ (by first|omega|exact den_mul_ne _ _)⟩) ?_
 refine .fz rfl 2 2 E1_0 ?_
 refine .e rfl (V:=wV (x.den:Int)) (fun H=>x_ldp (H.g 20 3) (H.b1 B2 (Ne.symm N2_4))) ?_
 refine .fz rfl 3 2 E1_1 ?_
 refine .e rfl (V:=wV (y.den:Int)) (fun H=>x_ldp (H.g 22 5) (H.b1 B3 (Ne.symm N3_4))) ?_
 refine .cK rfl Tryz.func162 (fun H=>⟨_,ar2 (H.g 21 4) (H.g 23 6),rTimes _ _ (by first|omega|exact den_mul_ne _ _)⟩) ?_
 refine .cK rfl Tryz.func167 (fun H=>⟨_,ar2 (H.g 19 2) (H.g 24 7),fOf _ _ (by first|omega|exact den_mul_ne _ _) (by first|omega|exact den_mul_ne _ _)⟩) ?_
 refine .s1 rfl B4 (fun H=>⟨H.z 4 E1_2,H.g 25 8⟩) ?_
 refine .d1 (fun u=>fV x::fV y::sq u1 0 3 (u2 5::u3 5::sq u2 0 5 (sq u3 0 5 (sq u 0 9 [])))) K9 bel A4 fun u4 w4 D bel=>?_
 replace B4:=D.ol 9
 clear D
 exact wp_ret (rr rfl E1_2 B4 (fr_eq (fr_plus x y)) bel)
theorem fNeg(x:Rat):Calls Tryz.prog 248 #[fV x] W (RetV (fV (-x)) W):=by
 have bel:=b0 W
 go_enter Tryz.func248,Tryz.ntmps248
 refine gs 2 (Amb Z0 W) fun _ K1=>?_
 refine .bx rfl (fun H=>H.v 0 (fV x)) ?_
 refine .al rfl zF ?_
 refine .dk (fun u=>fV x::u 0::u 1::us 6) K1 bel fun u1 w1 D bel=>?_
 obtain⟨b2,E1_0,A2,B2⟩:=D.nw 0
 obtain⟨b3,E1_1,A3,B3⟩:=D.nw 1
 have N2_3:=D.n2 0 1 E1_0 E1_1
 clear D
 refine gd1 7 (Amb Z0 W) 6 B3 fun _ K4=>?_
 refine .fz rfl 1 0 E1_0 ?_
 refine .e rfl (V:=wV x.num) (fun H=>x_ldp (H.g 3 0) (H.b1 B2 (Ne.symm N2_3))) ?_
 refine .cK rfl Tryz.func268 (fun H=>⟨_,ar1 (H.g 4 1),rNeg _⟩) ?_
 refine .fz rfl 1 2 E1_0 ?_
 refine .e rfl (V:=wV (x.den:Int)) (fun H=>x_ldp (H.g 6 3) (H.b1 B2 (Ne.symm N2_3))) ?_
 refine .e rfl (V:=rfV (RF.mk (rw (-x.num)) (rw (x.den:Int)))) (fun H=>by have e5:=H.g 5 2;have e7:=H.g 7 4;clear H;go_simp) ?_
 refine .s1 rfl B3 (fun H=>⟨H.z 2 E1_1,H.g 8 5⟩) ?_
 refine .d1 (fun u=>fV x::u1 0::u1 1::sq u 0 6 []) K4 bel A3 fun u2 w2 D bel=>?_
 replace B3:=D.ol 6
 clear D
 exact wp_ret (rr rfl E1_1 B3 (fr_neg x) bel)
theorem fMinus(x y:Rat)(p0:ht x+ht y≤68719476736):Calls Tryz.prog 156 #[fV x,fV y] W (RetV (fV (x-y)) W):=by
 have n0:=ht_neg y
 have bel:=b0 W
 go_enter Tryz.func156,Tryz.ntmps156
 refine gs 3 (Amb Z0 W) fun _ K1=>?_
 refine .bx rfl (fun H=>H.v 0 (fV x)) ?_
 refine .bx rfl (fun H=>H.v 1 (fV y)) ?_
 refine .al rfl zF ?_
 refine .dk (fun u=>fV x::fV y::sq u 0 3 (us 4)) K1 bel fun u1 w1 D bel=>?_
 obtain⟨b2,E1_0,A2,B2⟩:=D.nw 0
 obtain⟨b3,E1_1,A3,B3⟩:=D.nw 1
 obtain⟨b4,E1_2,A4,B4⟩:=D.nw 2
 have N2_4:=D.n2 0 2 E1_0 E1_2
 have N3_4:=D.n2 1 2 E1_1 E1_2
 clear D
 refine gd1 5 (Amb Z0 W) 4 B4 fun _ K5=>?_
 refine .e rfl (fun H=>x_ldr (H.z 2 E1_0) (H.b1 B2 (Ne.symm N2_4))) ?_
 refine .e rfl (fun H=>x_ldr (H.z 3 E1_1) (H.b1 B3 (Ne.symm N3_4))) ?_
 refine .cK rfl Tryz.func248 (fun H=>⟨_,ar1 (H.g 6 1),fNeg _⟩) ?_
 refine .cK rfl Tryz.func100 (fun H=>⟨_,ar2 (H.g 5 0) (H.g 7 2),fPlus _ _ (by omega)⟩) ?_
 refine .s1 rfl B4 (fun H=>⟨H.z 4 E1_2,H.g 8 3⟩) ?_
 refine .d1 (fun u=>fV x::fV y::sq u1 0 3 (sq u 0 4 [])) K5 bel A4 fun u2 w2 D bel=>?_
 replace B4:=D.ol 4
 clear D
 exact wp_ret (rr rfl E1_2 B4 (fr_eq (Rat.sub_eq_add_neg x y).symm) bel)
theorem fTimes(x y:Rat)(p0:ht x+ht y≤68719476736):Calls Tryz.prog 101 #[fV x,fV y] W (RetV (fV (x*y)) W):=by
 have n0:=hi_num x
 have n1:=hi_num y
 have n2:=hi_den x
 have n3:=hi_den y
 have m0:=hi_mul x.num y.num
 have m2:=hi_mul (x.den:Int) (y.den:Int)
 have bel:=b0 W
 go_enter Tryz.func101,Tryz.ntmps101
 refine gs 3 (Amb Z0 W) fun _ K1=>?_
 refine .bx rfl (fun H=>H.v 0 (fV x)) ?_
 refine .bx rfl (fun H=>H.v 1 (fV y)) ?_
 refine .al rfl zF ?_
 refine .dk (fun u=>fV x::fV y::sq u 0 3 (us 11)) K1 bel fun u1 w1 D bel=>?_
 obtain⟨b2,E1_0,A2,B2⟩:=D.nw 0
 obtain⟨b3,E1_1,A3,B3⟩:=D.nw 1
 obtain⟨b4,E1_2,A4,B4⟩:=D.nw 2
 have N2_4:=D.n2 0 2 E1_0 E1_2
 have N3_4:=D.n2 1 2 E1_1 E1_2
 clear D
 refine gd1 12 (Amb Z0 W) 11 B4 fun _ K5=>?_
 refine .fz rfl 2 0 E1_0 ?_
 refine .e rfl (V:=wV x.num) (fun H=>x_ldp (H.g 5 0) (H.b1 B2 (Ne.symm N2_4))) ?_
 refine .fz rfl 3 0 E1_1 ?_
 refine .e rfl (V:=wV y.num) (fun H=>x_ldp (H.g 7 2) (H.b1 B3 (Ne.symm N3_4))) ?_
 refine .cK rfl Tryz.func162 (fun H=>⟨_,ar2 (H.g 6 1) (H.g 8 3),rTimes _ _ (by first|omega|exact den_mul_ne _ _)⟩) ?_
 refine .fz rfl 2 2 E1_0 ?_
 refine .e rfl (V:=wV (x.den:Int)) (fun H=>x_ldp (H.g 10 5) (H.b1 B2 (Ne.symm N2_4))) ?_
 refine .fz rfl 3 2 E1_1 ?_
 refine .e rfl (V:=wV (y.den:Int)) (fun H=>x_ldp (H.g 12 7) (H.b1 B3 (Ne.symm N3_4))) ?_
 refine .cK rfl Tryz.func162 (fun H=>⟨_,ar2 (H.g 11 6) (H.g 13 8),rTimes _ _ (by first|omega|exact den_mul_ne _ _)⟩) ?_
 refine .cK rfl Tryz.func167 (fun H=>⟨_,ar2 (H.g 9 4) (H.g 14 9),fOf _ _ (by first|omega|exact den_mul_ne _ _) (by first|omega|exact den_mul_ne _ _)⟩) ?_
 refine .s1 rfl B4 (fun H=>⟨H.z 4 E1_2,H.g 15 10⟩) ?_
 refine .d1 (fun u=>fV x::fV y::sq u1 0 3 (sq u 0 11 [])) K5 bel A4 fun u2 w2 D bel=>?_
 replace B4:=D.ol 11
 clear D
 exact wp_ret (rr rfl E1_2 B4 (fr_eq (fr_times x y)) bel)
theorem cInt(a b:Int)(p0:-9223372036854775808≤a)(p1:a≤9223372036854775807)(p2:-9223372036854775808≤b)(p3:b≤9223372036854775807):Calls Tryz.prog 99 #[.int .i64 a,.int .i64 b] W (RetV (gV (Cx.ofInt a b)) W):=by
 have bel:=b0 W
 go_enter Tryz.func99,Tryz.ntmps99
 refine gs 1 (Amb Z0 W) fun _ K1=>?_
 refine .al rfl zG ?_
 refine .dk (fun u=>.int .i64 a::.int .i64 b::U::U::u 0::us 5) K1 bel fun u1 w1 D bel=>?_
 obtain⟨b2,E1_0,A2,B2⟩:=D.nw 0
 clear D
 refine gs1 6 (Amb Z0 W) 5 B2 fun _ K3=>?_
 refine .mz rfl 0 (V:=.int .i64 a) rfl ?_
 refine .cK rfl Tryz.func81 (fun H=>⟨_,ar1 (H.g 5 0),fInt _ (by omega) (by omega)⟩) ?_
 refine .mz rfl 1 (V:=.int .i64 b) rfl ?_
 refine .cK rfl Tryz.func81 (fun H=>⟨_,ar1 (H.g 7 2),fInt _ (by omega) (by omega)⟩) ?_
 refine .e rfl (V:=gV ⟨(a:Rat),(b:Rat)⟩) (fun H=>by have e6:=H.g 6 1;have e8:=H.g 8 3;clear H;go_simp) ?_
 refine .s1 rfl B2 (fun H=>⟨H.z 4 E1_0,H.g 9 4⟩) ?_
 refine .d1 (fun u=>.int .i64 a::.int .i64 b::U::U::u1 0::sq u 0 5 []) K3 bel A2 fun u2 w2 D bel=>?_
 replace B2:=D.ol 5
 clear D
 exact wp_ret (rr rfl E1_0 B2 rfl bel)
end Go.Proofs.YtcdbmjnipaochaaGreat
namespace Go.Proofs.YtcdbmjnipaochaaGreat
open Go.RowKit Rgn
theorem reV{P:Program}{f:FuncId}{args:Array Value}{w w': World}{v v': Value}(h:v=v')(g:Calls P f args w (RetV v w')):Calls P f args w (RetV v' w'):=h ▸ g
def wformed(r:RW):Bool:=match r.s.data.toList with
 | []=>!r.n
 | c::_=>c != 0
theorem wformed_ex{r:RW}(h:wformed r=true):∃ z,r=rw z:=by
 obtain⟨n,s⟩:=r
 refine⟨sgn n (natB s.data.toList),?_⟩
 have hf:formB s.data.toList:=by
  unfold wformed at h
  unfold formB
  cases e:s.data.toList with
  | nil=>simp
  | cons c t=>simp only [e] at h;simpa using h
 have hs:bS (sgn n (natB s.data.toList)).natAbs=s:=by
  rw [sgn_abs,bS,bytesOf_natB hf,Array.toArray_toList]
 rw [rw,hs,← sgn_neg]
 congr 1
 cases n
 ·rfl
 ·unfold wformed at h
  cases e:s.data.toList with
  | nil=>simp only [e] at h;exact absurd h (by decide)
  | cons c t =>
   have:=natB_ge hf (by rw [e];simp)
   rw [e] at this
   have h2:0<256^((c::t).length-1):=Nat.pow_pos (by decide)
   rw [Bool.true_and,eq_comm,bne_iff_ne];omega
theorem wformed_rw(z:Int):wformed (rw z)=true:=by
 unfold wformed
 have h:(rw z).s.data.toList=bytesOf z.natAbs:=by simp [rw,bS]
 rw [h]
 cases e:bytesOf z.natAbs with
 | nil =>
  have:z.natAbs=0:=by rw [← natB_bytesOf z.natAbs,e];rfl
  simp [rw];omega
 | cons c t =>
  have:=formB_bytesOf z.natAbs
  rw [e] at this
  unfold formB at this
  simpa using this
theorem rFormed{W:World}(r:RW):Calls Tryz.prog 262 #[.agg #[.bool r.n,.string r.s]] W (RetV (.bool (wformed r)) W):=by
 obtain⟨n,⟨⟨l⟩⟩⟩:=r
 have hb:Below W.heap.size W (W.alloc (.cells #[.bool n,.string ⟨⟨l⟩⟩] 23)):=Below.alloc (Below.refl _ _) (Nat.le_refl _) _
 cases l with
 | nil =>
  go_enter Tryz.func262,Tryz.ntmps262
  go_wp2_with fail
  refine ret_ok rfl (by exact results_tmp' rfl rfl) (RetV.mk ?_ hb)
  rfl
 | cons c t =>
  go_enter Tryz.func262,Tryz.ntmps262
  go_wp2_with fail
  refine ret_ok rfl (by exact results_tmp' rfl rfl) (RetV.mk ?_ hb)
  refine congrArg (fun b=>Ending.returned (.bool b)) ?_
  show ((c.toNat:Int) != 0)=(c != 0)
  by_cases h:c=0
  ·subst h;rfl
  ·have h2:c.toNat≠0:=fun e=>h (UInt8.toNat_inj.1 e)
   rw [bne_iff_ne.2 h,bne_iff_ne];omega
theorem rw_inj{x y:Int}(h:rw x=rw y):x=y:=by
 have h1:decide (x<0)=decide (y<0):=congrArg RW.n h
 have h2:bS x.natAbs=bS y.natAbs:=congrArg RW.s h
 have h3:x.natAbs=y.natAbs:=by
  have:bytesOf x.natAbs=bytesOf y.natAbs:=by
   have:=congrArg (fun b:ByteArray=>b.data.toList) h2
   simpa [bS] using this
  rw [← natB_bytesOf x.natAbs,this,natB_bytesOf]
 by_cases hx:x<0<;>by_cases hy:y<0<;>simp [hx,hy] at h1<;>omega
theorem rf_inj{p q:Rat}(h:rf p=rf q):p=q:=by
 have h1:=rw_inj (congrArg RF.a h)
 have h2:=rw_inj (congrArg RF.b h)
 exact Rat.ext h1 (by omega)
theorem rg_inj{p q:Cx}(h:rg p=rg q):p=q:=Cx.ext' (rf_inj (congrArg RG.re h)) (rf_inj (congrArg RG.im h))
theorem frac_ex{x y:Int}(h:0<y)(h': Int.gcd x y=1):∃ q:Rat,x=q.num∧y=(q.den:Int) :=
 ⟨⟨x,y.natAbs,by omega,h'⟩,rfl,(by show y=((y.natAbs:Nat):Int);omega)⟩
open Classical in
noncomputable def fformed(r:RF):Bool:=decide (∃ q,r=rf q)
theorem fformed_a{r:RF}(h:wformed r.a=false):fformed r=false:=by
 unfold fformed;rw [decide_eq_false_iff_not]
 rintro⟨q,rfl⟩
 rw [wformed_rw] at h;exact absurd h (by decide)
theorem fformed_b{r:RF}(h:wformed r.b=false):fformed r=false:=by
 unfold fformed;rw [decide_eq_false_iff_not]
 rintro⟨q,rfl⟩
 rw [wformed_rw] at h;exact absurd h (by decide)
open Classical in
theorem fformed_rf(q:Rat):fformed (rf q)=true:=by
 unfold fformed;exact @decide_eq_true _ _ ⟨q,rfl⟩
open Classical in
theorem fformed_ex{r:RF}(h:fformed r=true):∃ q,r=rf q:=by
 unfold fformed at h;exact @of_decide_eq_true _ _ h
theorem fformed_ww(x y:Int):fformed ⟨rw x,rw y⟩=(!decide (y.sign≤0)&&decide ((Int.gcd x y:Int)=1)):=by
 have hs:=sign3 y
 by_cases h:y.sign≤0
 ·rw [decide_eq_true h,Bool.not_true,Bool.false_and]
  unfold fformed;rw [decide_eq_false_iff_not]
  rintro⟨q,hq⟩
  have:=rw_inj (congrArg RF.b hq)
  have:=q.den_pos
  omega
 ·rw [decide_eq_false h,Bool.not_false,Bool.true_and]
  by_cases g:(Int.gcd x y:Int)=1
  ·rw [decide_eq_true g]
   obtain⟨q,rfl,h2⟩:=frac_ex (x:=x) (y:=y) (by omega) (by omega)
   rw [h2];exact fformed_rf q
  ·rw [decide_eq_false g]
   unfold fformed;rw [decide_eq_false_iff_not]
   rintro⟨q,hq⟩
   have h1:=rw_inj (congrArg RF.a hq)
   have h2:=rw_inj (congrArg RF.b hq)
   refine g ?_
   rw [h1,h2]
   have:=q.reduced
   show ((Nat.gcd q.num.natAbs q.den:Nat):Int)=1
   rw [Nat.Coprime] at this;omega
def fits(r:RF):Bool:=decide (r.a.s.size≤1024)&&decide (r.b.s.size≤1024)
theorem fFits{W:World}(r:RF):Calls Tryz.prog 159 #[.agg #[.bool r.a.n,.string r.a.s,.bool r.b.n,.string r.b.s]] W (RetV (.bool (fits r)) W):=by
 obtain⟨⟨n,s⟩,⟨m,t⟩⟩:=r
 have hb:Below W.heap.size W (W.alloc (.cells #[.bool n,.string s,.bool m,.string t] 25)):=Below.alloc (Below.refl _ _) (Nat.le_refl _) _
 by_cases h1:s.size≤1024
 ·have h1' : decide ((s.size:Int)≤1024)=true:=decide_eq_true (by omega)
  by_cases h2:t.size≤1024
  ·have h2' : decide ((t.size:Int)≤1024)=true:=decide_eq_true (by omega)
   go_enter Tryz.func159,Tryz.ntmps159
   go_wp2_with fail
   refine ret_ok rfl (by exact results_tmp' rfl rfl) (RetV.mk ?_ hb)
   simp [fits,h1,h2]
  ·have h2' : decide ((t.size:Int)≤1024)=false:=decide_eq_false (by omega)
   go_enter Tryz.func159,Tryz.ntmps159
   go_wp2_with fail
   refine ret_ok rfl (by exact results_tmp' rfl rfl) (RetV.mk ?_ hb)
   simp [fits,h1,h2]
 ·have h1' : decide ((s.size:Int)≤1024)=false:=decide_eq_false (by omega)
  go_enter Tryz.func159,Tryz.ntmps159
  go_wp2_with fail
  refine ret_ok rfl (by exact results_tmp' rfl rfl) (RetV.mk ?_ hb)
  simp [fits,h1]
theorem toList_inj{s t:ByteArray}:s.toList=t.toList↔s=t:=by
 constructor
 ·intro h;rw [ByteArray.toList_eq,ByteArray.toList_eq] at h
  cases s;cases t;congr 1;exact Array.toList_inj.1 h
 ·intro h;rw [h]
theorem rw_dec(x y:Int):decide (rw x=rw y)=decide (x=y):=by
 by_cases h:x=y
 ·subst h;simp
 ·rw [decide_eq_false h,decide_eq_false (fun e=>h (rw_inj e))]
theorem rf_dec(x y:Rat):decide (rf x=rf y)=decide (x=y):=by
 by_cases h:x=y
 ·subst h;simp
 ·rw [decide_eq_false h,decide_eq_false (fun e=>h (rf_inj e))]
theorem ex_eql_whole{ρ:Operand→Value}{o:Oper}{w:World}{k:TypeId}(a b:Operand)(ho:o.op=.binOp .eql 23 a b k){r q:RW}(ha:ρ a=.agg #[.bool r.n,.string r.s])(hb:ρ b=.agg #[.bool q.n,.string q.s]){c:Bool}(hc:decide (r=q)=c):(execOp ρ o).run Tryz.prog w=.ok (.value (.bool (c))) w:=by
 subst hc
 obtain⟨n,s⟩:=r
 obtain⟨m,t⟩:=q
 have e:decide ((⟨n,s⟩:RW)=⟨m,t⟩)=((n == m)&&decide (s=t)):=by
  by_cases h1:n=m<;>by_cases h2:s=t<;>simp [h1,h2]
 rw [e]
 unfold execOp
 simp only [ho,ha,hb]
 cases n<;>cases m<;>by_cases h:s=t<;>simp [h,go_sem,toList_inj]
theorem ex_eql_frac{ρ:Operand→Value}{o:Oper}{w:World}{k:TypeId}(a b:Operand)(ho:o.op=.binOp .eql 25 a b k){r q:RF}(ha:ρ a=.agg #[.bool r.a.n,.string r.a.s,.bool r.b.n,.string r.b.s])(hb:ρ b=.agg #[.bool q.a.n,.string q.a.s,.bool q.b.n,.string q.b.s]){c:Bool}(hc:decide (r=q)=c):(execOp ρ o).run Tryz.prog w=.ok (.value (.bool (c))) w:=by
 subst hc
 obtain⟨⟨n1,s1⟩,⟨n2,s2⟩⟩:=r
 obtain⟨⟨m1,t1⟩,⟨m2,t2⟩⟩:=q
 unfold execOp
 simp only [ho,ha,hb]
 by_cases h1:n1=m1<;>by_cases h2:s1=t1<;>by_cases h3:n2=m2<;>by_cases h4:s2=t2<;>simp [h1,h2,h3,h4,go_sem,toList_inj]
theorem ex_neq_frac{ρ:Operand→Value}{o:Oper}{w:World}{k:TypeId}(a b:Operand)(ho:o.op=.binOp .neq 25 a b k){r q:RF}(ha:ρ a=.agg #[.bool r.a.n,.string r.a.s,.bool r.b.n,.string r.b.s])(hb:ρ b=.agg #[.bool q.a.n,.string q.a.s,.bool q.b.n,.string q.b.s]){c:Bool}(hc:decide (r=q)=c):(execOp ρ o).run Tryz.prog w=.ok (.value (.bool (!c))) w:=by
 subst hc
 obtain⟨⟨n1,s1⟩,⟨n2,s2⟩⟩:=r
 obtain⟨⟨m1,t1⟩,⟨m2,t2⟩⟩:=q
 unfold execOp
 simp only [ho,ha,hb]
 by_cases h1:n1=m1<;>by_cases h2:s1=t1<;>by_cases h3:n2=m2<;>by_cases h4:s2=t2<;>simp [h1,h2,h3,h4,go_sem,toList_inj]
end Go.Proofs.YtcdbmjnipaochaaGreat
namespace Go.Proofs.YtcdbmjnipaochaaGreat
open Go.RowKit Rgn
variable {S:Nat→Prop} {W:World}
theorem fFormedA(r:RF)(p0:wformed r.a=false):Calls Tryz.prog 160 #[rfV r] W (RetV (.bool false) W):=by
 have bel:=b0 W
 go_enter Tryz.func160,Tryz.ntmps160
 refine gs 2 (Amb Z0 W) fun _ K1=>?_
 refine .bx rfl (fun H=>H.v 0 (rfV r)) ?_
 refine .mc rfl ?_
 refine .dk (fun u=>rfV r::u 0::u 1::us 23) K1 bel fun u1 w1 D bel=>?_
 obtain⟨b2,E1_0,A2,B2⟩:=D.nw 0
 have E1_1:=D.q 1
 clear D
 refine wp_seq_k fun _ K3=>?_
 refine gs 16 (Amb Z0 W) fun _ K4=>?_
 refine .fz rfl 1 0 E1_0 ?_
 refine .lp rfl 0 (rwC r.a) B2 ?_
 refine .cK rfl (V:=.bool false) Tryz.func262 (fun H=>⟨_,ar1 (H.g 4 1),reV (congrArg Value.bool p0) (rFormed _)⟩) ?_
 refine .e rfl (V:=.bool true) (fun H=>x_not (H.g 5 2)) ?_
 refine .mv rfl 3 ?_
 refine .sk rfl 4 ?_
 refine .sk rfl 4 ?_
 refine .sk rfl 4 ?_
 refine .sk rfl 4 ?_
 refine .e rfl (fun H=>x_pkT (H.g 7 4) (H.c _)) ?_
 refine .mv rfl 9 ?_
 refine .sk rfl 10 ?_
 refine .sk rfl 10 ?_
 refine .sk rfl 10 ?_
 refine .sk rfl 10 ?_
 refine .e rfl (fun H=>x_pkT (H.g 13 10) (H.c _)) ?_
 refine .dk (fun u=>rfV r::u1 0::u1 1::sq u 0 16 (us 7)) K4 bel fun u2 w2 D bel=>?_
 have E2_15:=D.q 15
 replace B2:=D.k B2
 clear D
 refine wp_cond_true (by exact E2_15) ?_
 refine gs 1 (Amb Z0 W) fun _ K5=>?_
 refine .mc rfl ?_
 refine .dk (fun u=>rfV r::u1 0::u 0::sq u2 0 16 (us 7)) K5 bel fun u3 w3 D bel=>?_
 have E3_0:=D.q 0
 clear D
 exact wp_ret (rt rfl E3_0 rfl bel)
theorem fFormedB(r:RF)(p0:wformed r.a=true)(p1:wformed r.b=false):Calls Tryz.prog 160 #[rfV r] W (RetV (.bool false) W):=by
 have bel:=b0 W
 go_enter Tryz.func160,Tryz.ntmps160
 refine gs 2 (Amb Z0 W) fun _ K1=>?_
 refine .bx rfl (fun H=>H.v 0 (rfV r)) ?_
 refine .mc rfl ?_
 refine .dk (fun u=>rfV r::u 0::u 1::us 23) K1 bel fun u1 w1 D bel=>?_
 obtain⟨b2,E1_0,A2,B2⟩:=D.nw 0
 have E1_1:=D.q 1
 clear D
 refine wp_seq_k fun _ K3=>?_
 refine gs 16 (Amb Z0 W) fun _ K4=>?_
 refine .fz rfl 1 0 E1_0 ?_
 refine .lp rfl 0 (rwC r.a) B2 ?_
 refine .cK rfl (V:=.bool true) Tryz.func262 (fun H=>⟨_,ar1 (H.g 4 1),reV (congrArg Value.bool p0) (rFormed _)⟩) ?_
 refine .e rfl (V:=.bool false) (fun H=>x_not (H.g 5 2)) ?_
 refine .mv rfl 3 ?_
 refine .fz rfl 1 2 E1_0 ?_ (hg:=gq 4 rfl)
 refine .lp rfl 5 (rwC r.b) B2 ?_ (hg:=gq 4 rfl)
 refine .cK rfl (V:=.bool false) Tryz.func262 (fun H=>⟨_,ar1 (H.g 9 6),reV (congrArg Value.bool p1) (rFormed _)⟩) ?_ (hg:=gq 4 rfl)
 refine .e rfl (V:=.bool true) (fun H=>x_not (H.g 10 7)) ?_ (hg:=gq 4 rfl)
 refine .e rfl (fun H=>x_pkF (H.g 7 4) (H.g 11 8)) ?_
 refine .mv rfl 9 ?_
 refine .sk rfl 10 ?_
 refine .sk rfl 10 ?_
 refine .sk rfl 10 ?_
 refine .sk rfl 10 ?_
 refine .e rfl (fun H=>x_pkT (H.g 13 10) (H.c _)) ?_
 refine .dk (fun u=>rfV r::u1 0::u1 1::sq u 0 16 (us 7)) K4 bel fun u2 w2 D bel=>?_
 have E2_15:=D.q 15
 replace B2:=D.k B2
 clear D
 refine wp_cond_true (by exact E2_15) ?_
 refine gs 1 (Amb Z0 W) fun _ K5=>?_
 refine .mc rfl ?_
 refine .dk (fun u=>rfV r::u1 0::u 0::sq u2 0 16 (us 7)) K5 bel fun u3 w3 D bel=>?_
 have E3_0:=D.q 0
 clear D
 exact wp_ret (rt rfl E3_0 rfl bel)
theorem fFormedC(g:Int×Int)(p0:hi g.1+hi g.2≤1099511627776):Calls Tryz.prog 160 #[wwV g] W (RetV (.bool (!decide (g.2.sign≤0)&&decide ((Int.gcd g.1 g.2:Int)=1))) W):=by
 have k1:=wformed_rw g.1
 have k2:=wformed_rw g.2
 have bel:=b0 W
 go_enter Tryz.func160,Tryz.ntmps160
 rcases Bool.eq_false_or_eq_true (decide (g.2.sign≤0)) with c1|c1
 ·
  have dc1:=of_decide_eq_true c1
  rcases Bool.eq_false_or_eq_true (decide ((Int.gcd g.1 g.2:Int)=1)) with c2|c2
  ·
   have dc2:=of_decide_eq_true c2
   refine gs 2 (Amb Z0 W) fun _ K3=>?_
   refine .bx rfl (fun H=>H.v 0 (wwV g)) ?_
   refine .mc rfl ?_
   refine .dk (fun u=>wwV g::u 0::u 1::us 23) K3 bel fun u1 w1 D bel=>?_
   obtain⟨b4,E1_0,A4,B4⟩:=D.nw 0
   have E1_1:=D.q 1
   clear D
   refine wp_seq_k fun _ K5=>?_
   refine gs 16 (Amb Z0 W) fun _ K6=>?_
   refine .fz rfl 1 0 E1_0 ?_
   refine .lp rfl 0 (wC g.1) B4 ?_
   refine .cK rfl (V:=.bool true) Tryz.func262 (fun H=>⟨_,ar1 (H.g 4 1),reV (congrArg Value.bool k1) (rFormed (rw g.1))⟩) ?_
   refine .e rfl (V:=.bool false) (fun H=>x_not (H.g 5 2)) ?_
   refine .mv rfl 3 ?_
   refine .fz rfl 1 2 E1_0 ?_ (hg:=gq 4 rfl)
   refine .lp rfl 5 (wC g.2) B4 ?_ (hg:=gq 4 rfl)
   refine .cK rfl (V:=.bool true) Tryz.func262 (fun H=>⟨_,ar1 (H.g 9 6),reV (congrArg Value.bool k2) (rFormed (rw g.2))⟩) ?_ (hg:=gq 4 rfl)
   refine .e rfl (V:=.bool false) (fun H=>x_not (H.g 10 7)) ?_ (hg:=gq 4 rfl)
   refine .e rfl (fun H=>x_pkF (H.g 7 4) (H.g 11 8)) ?_
   refine .mv rfl 9 ?_
   refine .fz rfl 1 2 E1_0 ?_ (hg:=gq 10 rfl)
   refine .lp rfl 11 (wC g.2) B4 ?_ (hg:=gq 10 rfl)
   refine .cK rfl Tryz.func179 (fun H=>⟨_,ar1 (H.g 15 12),rSign _⟩) ?_ (hg:=gq 10 rfl)
   refine .e rfl (V:=.bool true) (fun H=>x_cm (H.g 16 13) (H.c _) c1) ?_ (hg:=gq 10 rfl)
   refine .e rfl (fun H=>x_pkF (H.g 13 10) (H.g 17 14)) ?_
   refine .dk (fun u=>wwV g::u1 0::u1 1::sq u 0 16 (us 7)) K6 bel fun u2 w2 D bel=>?_
   have E2_15:=D.q 15
   replace B4:=D.k B4
   clear D
   refine wp_cond_true (by exact E2_15) ?_
   refine gs 1 (Amb Z0 W) fun _ K7=>?_
   refine .mc rfl ?_
   refine .dk (fun u=>wwV g::u1 0::u 0::sq u2 0 16 (us 7)) K7 bel fun u3 w3 D bel=>?_
   have E3_0:=D.q 0
   clear D
   exact wp_ret (rt rfl E3_0 (by rw [c1,c2];rfl) bel)
  ·
   have dc2:=of_decide_eq_false c2
   refine gs 2 (Amb Z0 W) fun _ K8=>?_
   refine .bx rfl (fun H=>H.v 0 (wwV g)) ?_
   refine .mc rfl ?_
   refine .dk (fun u=>wwV g::u 0::u 1::us 23) K8 bel fun u1 w1 D bel=>?_
   obtain⟨b9,E1_0,A9,B9⟩:=D.nw 0
   have E1_1:=D.q 1
   clear D
   refine wp_seq_k fun _ K10=>?_
   refine gs 16 (Amb Z0 W) fun _ K11=>?_
   refine .fz rfl 1 0 E1_0 ?_
   refine .lp rfl 0 (wC g.1) B9 ?_
   refine .cK rfl (V:=.bool true) Tryz.func262 (fun H=>⟨_,ar1 (H.g 4 1),reV (congrArg Value.bool k1) (rFormed (rw g.1))⟩) ?_
   refine .e rfl (V:=.bool false) (fun H=>x_not (H.g 5 2)) ?_
   refine .mv rfl 3 ?_
   refine .fz rfl 1 2 E1_0 ?_ (hg:=gq 4 rfl)
   refine .lp rfl 5 (wC g.2) B9 ?_ (hg:=gq 4 rfl)
   refine .cK rfl (V:=.bool true) Tryz.func262 (fun H=>⟨_,ar1 (H.g 9 6),reV (congrArg Value.bool k2) (rFormed (rw g.2))⟩) ?_ (hg:=gq 4 rfl)
   refine .e rfl (V:=.bool false) (fun H=>x_not (H.g 10 7)) ?_ (hg:=gq 4 rfl)
   refine .e rfl (fun H=>x_pkF (H.g 7 4) (H.g 11 8)) ?_
   refine .mv rfl 9 ?_
   refine .fz rfl 1 2 E1_0 ?_ (hg:=gq 10 rfl)
   refine .lp rfl 11 (wC g.2) B9 ?_ (hg:=gq 10 rfl)
   refine .cK rfl Tryz.func179 (fun H=>⟨_,ar1 (H.g 15 12),rSign _⟩) ?_ (hg:=gq 10 rfl)
   refine .e rfl (V:=.bool true) (fun H=>x_cm (H.g 16 13) (H.c _) c1) ?_ (hg:=gq 10 rfl)
   refine .e rfl (fun H=>x_pkF (H.g 13 10) (H.g 17 14)) ?_
   refine .dk (fun u=>wwV g::u1 0::u1 1::sq u 0 16 (us 7)) K11 bel fun u2 w2 D bel=>?_
   have E2_15:=D.q 15
   replace B9:=D.k B9
   clear D
   refine wp_cond_true (by exact E2_15) ?_
   refine gs 1 (Amb Z0 W) fun _ K12=>?_
   refine .mc rfl ?_
   refine .dk (fun u=>wwV g::u1 0::u 0::sq u2 0 16 (us 7)) K12 bel fun u3 w3 D bel=>?_
   have E3_0:=D.q 0
   clear D
   exact wp_ret (rt rfl E3_0 (by rw [c1,c2];rfl) bel)
 ·
  have dc1:=of_decide_eq_false c1
  rcases Bool.eq_false_or_eq_true (decide ((Int.gcd g.1 g.2:Int)=1)) with c13|c13
  ·
   have dc13:=of_decide_eq_true c13
   refine gs 2 (Amb Z0 W) fun _ K14=>?_
   refine .bx rfl (fun H=>H.v 0 (wwV g)) ?_
   refine .mc rfl ?_
   refine .dk (fun u=>wwV g::u 0::u 1::us 23) K14 bel fun u1 w1 D bel=>?_
   obtain⟨b15,E1_0,A15,B15⟩:=D.nw 0
   have E1_1:=D.q 1
   clear D
   refine wp_seq_k fun _ K16=>?_
   refine gs 16 (Amb Z0 W) fun _ K17=>?_
   refine .fz rfl 1 0 E1_0 ?_
   refine .lp rfl 0 (wC g.1) B15 ?_
   refine .cK rfl (V:=.bool true) Tryz.func262 (fun H=>⟨_,ar1 (H.g 4 1),reV (congrArg Value.bool k1) (rFormed (rw g.1))⟩) ?_
   refine .e rfl (V:=.bool false) (fun H=>x_not (H.g 5 2)) ?_
   refine .mv rfl 3 ?_
   refine .fz rfl 1 2 E1_0 ?_ (hg:=gq 4 rfl)
   refine .lp rfl 5 (wC g.2) B15 ?_ (hg:=gq 4 rfl)
   refine .cK rfl (V:=.bool true) Tryz.func262 (fun H=>⟨_,ar1 (H.g 9 6),reV (congrArg Value.bool k2) (rFormed (rw g.2))⟩) ?_ (hg:=gq 4 rfl)
   refine .e rfl (V:=.bool false) (fun H=>x_not (H.g 10 7)) ?_ (hg:=gq 4 rfl)
   refine .e rfl (fun H=>x_pkF (H.g 7 4) (H.g 11 8)) ?_
   refine .mv rfl 9 ?_
   refine .fz rfl 1 2 E1_0 ?_ (hg:=gq 10 rfl)
   refine .lp rfl 11 (wC g.2) B15 ?_ (hg:=gq 10 rfl)
   refine .cK rfl Tryz.func179 (fun H=>⟨_,ar1 (H.g 15 12),rSign _⟩) ?_ (hg:=gq 10 rfl)
   refine .e rfl (V:=.bool false) (fun H=>x_cm (H.g 16 13) (H.c _) c1) ?_ (hg:=gq 10 rfl)
   refine .e rfl (fun H=>x_pkF (H.g 13 10) (H.g 17 14)) ?_
   refine .dk (fun u=>wwV g::u1 0::u1 1::sq u 0 16 (us 7)) K17 bel fun u2 w2 D bel=>?_
   have E2_15:=D.q 15
   replace B15:=D.k B15
   clear D
   refine wp_cond_false (by exact E2_15) ?_
   refine wp_skip ?_
   refine K16 _ _ ?_
   refine gs 8 (Amb Z0 W) fun _ K18=>?_
   refine .fz rfl 1 0 E1_0 ?_
   refine .lp rfl 0 (wC g.1) B15 ?_
   refine .fz rfl 1 2 E1_0 ?_
   refine .lp rfl 2 (wC g.2) B15 ?_
   refine .cK rfl Tryz.func263 (fun H=>⟨_,ar2 (H.g 20 1) (H.g 22 3),rGcd _ _ (by omega)⟩) ?_
   refine .cK rfl Tryz.func215 (fun H=>⟨_,ar1 (H.c (.int .i64 1)),rOf _ (by omega) (by omega)⟩) ?_
   refine .e rfl (V:=.bool ((decide ((Int.gcd g.1 g.2:Int)=(1:Int))))) (fun H=>ex_eql_whole (r:=rw (Int.gcd g.1 g.2:Int)) (q:=rw (1:Int)) _ _ rfl (H.g 23 4) (H.g 24 5) (rw_dec (Int.gcd g.1 g.2:Int) (1:Int))) ?_
   refine .mv rfl 6 ?_
   refine .dk (fun u=>wwV g::u1 0::u 7::sq u2 0 16 (sq u 0 7 [])) K18 bel fun u3 w3 D bel=>?_
   have E3_7:=D.q 7
   clear D
   exact wp_ret (rt rfl E3_7 (by rw [c1,c13];rfl) bel)
  ·
   have dc13:=of_decide_eq_false c13
   refine gs 2 (Amb Z0 W) fun _ K19=>?_
   refine .bx rfl (fun H=>H.v 0 (wwV g)) ?_
   refine .mc rfl ?_
   refine .dk (fun u=>wwV g::u 0::u 1::us 23) K19 bel fun u1 w1 D bel=>?_
   obtain⟨b20,E1_0,A20,B20⟩:=D.nw 0
   have E1_1:=D.q 1
   clear D
   refine wp_seq_k fun _ K21=>?_
   refine gs 16 (Amb Z0 W) fun _ K22=>?_
   refine .fz rfl 1 0 E1_0 ?_
   refine .lp rfl 0 (wC g.1) B20 ?_
   refine .cK rfl (V:=.bool true) Tryz.func262 (fun H=>⟨_,ar1 (H.g 4 1),reV (congrArg Value.bool k1) (rFormed (rw g.1))⟩) ?_
   refine .e rfl (V:=.bool false) (fun H=>x_not (H.g 5 2)) ?_
   refine .mv rfl 3 ?_
   refine .fz rfl 1 2 E1_0 ?_ (hg:=gq 4 rfl)
   refine .lp rfl 5 (wC g.2) B20 ?_ (hg:=gq 4 rfl)
   refine .cK rfl (V:=.bool true) Tryz.func262 (fun H=>⟨_,ar1 (H.g 9 6),reV (congrArg Value.bool k2) (rFormed (rw g.2))⟩) ?_ (hg:=gq 4 rfl)
   refine .e rfl (V:=.bool false) (fun H=>x_not (H.g 10 7)) ?_ (hg:=gq 4 rfl)
   refine .e rfl (fun H=>x_pkF (H.g 7 4) (H.g 11 8)) ?_
   refine .mv rfl 9 ?_
   refine .fz rfl 1 2 E1_0 ?_ (hg:=gq 10 rfl)
   refine .lp rfl 11 (wC g.2) B20 ?_ (hg:=gq 10 rfl)
   refine .cK rfl Tryz.func179 (fun H=>⟨_,ar1 (H.g 15 12),rSign _⟩) ?_ (hg:=gq 10 rfl)
   refine .e rfl (V:=.bool false) (fun H=>x_cm (H.g 16 13) (H.c _) c1) ?_ (hg:=gq 10 rfl)
   refine .e rfl (fun H=>x_pkF (H.g 13 10) (H.g 17 14)) ?_
   refine .dk (fun u=>wwV g::u1 0::u1 1::sq u 0 16 (us 7)) K22 bel fun u2 w2 D bel=>?_
   have E2_15:=D.q 15
   replace B20:=D.k B20
   clear D
   refine wp_cond_false (by exact E2_15) ?_
   refine wp_skip ?_
   refine K21 _ _ ?_
   refine gs 8 (Amb Z0 W) fun _ K23=>?_
   refine .fz rfl 1 0 E1_0 ?_
   refine .lp rfl 0 (wC g.1) B20 ?_
   refine .fz rfl 1 2 E1_0 ?_
   refine .lp rfl 2 (wC g.2) B20 ?_
   refine .cK rfl Tryz.func263 (fun H=>⟨_,ar2 (H.g 20 1) (H.g 22 3),rGcd _ _ (by omega)⟩) ?_
   refine .cK rfl Tryz.func215 (fun H=>⟨_,ar1 (H.c (.int .i64 1)),rOf _ (by omega) (by omega)⟩) ?_
   refine .e rfl (V:=.bool ((decide ((Int.gcd g.1 g.2:Int)=(1:Int))))) (fun H=>ex_eql_whole (r:=rw (Int.gcd g.1 g.2:Int)) (q:=rw (1:Int)) _ _ rfl (H.g 23 4) (H.g 24 5) (rw_dec (Int.gcd g.1 g.2:Int) (1:Int))) ?_
   refine .mv rfl 6 ?_
   refine .dk (fun u=>wwV g::u1 0::u 7::sq u2 0 16 (sq u 0 7 [])) K23 bel fun u3 w3 D bel=>?_
   have E3_7:=D.q 7
   clear D
   exact wp_ret (rt rfl E3_7 (by rw [c1,c13];rfl) bel)
end Go.Proofs.YtcdbmjnipaochaaGreat
namespace Go.Proofs.YtcdbmjnipaochaaGreat
open Go.RowKit Rgn
theorem bl_bytes(n:Nat):bl n≤8*(bS n).size:=by
 have h:(bS n).size=(leB n).length:=by
  show (bytesOf n).toArray.size=_
  simp [bytesOf]
 rw [h]
 apply bl_le.2
 rw [Nat.pow_mul]
 exact leB_len_le.1 (Nat.le_refl _)
theorem hi_bytes(z:Int):hi z≤8*(rw z).s.size+1:=by
 have:=bl_bytes z.natAbs
 show bl z.natAbs+1≤8*(bS z.natAbs).size+1
 omega
theorem two_hi{x y:Int}(p0:(rw x).s.size+(rw y).s.size≤1073741824):hi x+hi y≤1099511627776:=by
 have h1:=hi_bytes x;have h2:=hi_bytes y
 generalize (rw x).s.size=a at *
 generalize (rw y).s.size=b at *
 omega
theorem fFormed{W:World}(r:RF)(p0:r.a.s.size+r.b.s.size≤1073741824):Calls Tryz.prog 160 #[.agg #[.bool r.a.n,.string r.a.s,.bool r.b.n,.string r.b.s]] W (RetV (.bool (fformed r)) W):=by
 cases ha:wformed r.a with
 | false=>rw [fformed_a ha];exact fFormedA r ha
 | true =>
  cases hb:wformed r.b with
  | false=>rw [fformed_b hb];exact fFormedB r ha hb
  | true =>
   obtain⟨x,hx⟩:=wformed_ex ha
   obtain⟨y,hy⟩:=wformed_ex hb
   obtain⟨a,b⟩:=r
   have hx:a=rw x:=hx
   have hy:b=rw y:=hy
   subst hx;subst hy
   rw [fformed_ww]
   exact fFormedC (x,y) (by show hi x+hi y≤_;exact two_hi p0)
theorem fits_le{r:RF}(h:fits r=true):r.a.s.size+r.b.s.size≤1073741824:=by
 unfold fits at h
 simp only [Bool.and_eq_true,decide_eq_true_eq] at h
 omega
noncomputable def fmay(r:RF):Bool:=fits r&&fformed r
def gfits(r:RG):Bool:=fits r.re&&fits r.im
noncomputable def gmay(r:RG):Bool:=fmay r.re&&fmay r.im
theorem and_b{x y b c:Bool}(h:x=b)(h': y=c):Value.bool (b&&c)=.bool (x&&y):=by rw [h,h']
theorem and_tt{a b:Bool}(h:(a&&b)=true):a=true∧b=true:=by cases a<;>cases b<;>simp_all
theorem fmay_ex{r:RF}(h:fmay r=true):∃ q,r=rf q:=by
 unfold fmay at h;exact fformed_ex (and_tt h).2
theorem gmay_ex{r:RG}(h:gmay r=true):∃ c,r=rg c:=by
 unfold gmay at h
 obtain⟨p,hp⟩:=fmay_ex (and_tt h).1
 obtain⟨q,hq⟩:=fmay_ex (and_tt h).2
 obtain⟨a,b⟩:=r
 have hp:a=rf p:=hp
 have hq:b=rf q:=hq
 exact⟨⟨p,q⟩,by rw [hp,hq]⟩
theorem gmay_rg(c:Cx):gmay (rg c)=gfits (rg c):=by
 show ((fits (rf c.re)&&fformed (rf c.re))&&(fits (rf c.im)&&fformed (rf c.im)))=(fits (rf c.re)&&fits (rf c.im))
 rw [fformed_rf,fformed_rf,Bool.and_true,Bool.and_true]
end Go.Proofs.YtcdbmjnipaochaaGreat
namespace Go.Proofs.YtcdbmjnipaochaaGreat
open Go.RowKit Rgn
variable {S:Nat→Prop} {W:World}
theorem fMay(r:RF):Calls Tryz.prog 51 #[rfV r] W (RetV (.bool (fmay r)) W):=by
 have bel:=b0 W
 go_enter Tryz.func51,Tryz.ntmps51
 rcases Bool.eq_false_or_eq_true (fits r) with c1|c1
 ·
  rcases Bool.eq_false_or_eq_true (fformed r) with c2|c2
  ·
   refine gs 2 (Amb Z0 W) fun _ K3=>?_
   refine .bx rfl (fun H=>H.v 0 (rfV r)) ?_
   refine .mc rfl ?_
   refine .dk (fun u=>rfV r::u 0::u 1::us 6) K3 bel fun u1 w1 D bel=>?_
   obtain⟨b4,E1_0,A4,B4⟩:=D.nw 0
   have E1_1:=D.q 1
   clear D
   refine gs 7 (Amb Z0 W) fun _ K5=>?_
   refine .lr rfl 1 E1_0 B4 ?_
   refine .cK rfl (V:=.bool true) Tryz.func159 (fun H=>⟨_,ar1 (H.g 3 0),reV (congrArg Value.bool c1) (fFits _)⟩) ?_
   refine .mv rfl 1 ?_
   refine .lr rfl 1 E1_0 B4 ?_ (hg:=gq 2 rfl)
   refine .cK rfl (V:=.bool true) Tryz.func160 (fun H=>⟨_,ar1 (H.g 6 3),reV (congrArg Value.bool c2) (fFormed _ (by exact fits_le c1))⟩) ?_ (hg:=gq 2 rfl)
   refine .e rfl (fun H=>x_pkT (H.g 5 2) (H.g 7 4)) ?_
   refine .mv rfl 5 ?_
   refine .dk (fun u=>rfV r::u1 0::u 6::sq u 0 6 []) K5 bel fun u2 w2 D bel=>?_
   have E2_6:=D.q 6
   clear D
   exact wp_ret (rt rfl E2_6 (and_b c1 c2) bel)
  ·
   refine gs 2 (Amb Z0 W) fun _ K6=>?_
   refine .bx rfl (fun H=>H.v 0 (rfV r)) ?_
   refine .mc rfl ?_
   refine .dk (fun u=>rfV r::u 0::u 1::us 6) K6 bel fun u1 w1 D bel=>?_
   obtain⟨b7,E1_0,A7,B7⟩:=D.nw 0
   have E1_1:=D.q 1
   clear D
   refine gs 7 (Amb Z0 W) fun _ K8=>?_
   refine .lr rfl 1 E1_0 B7 ?_
   refine .cK rfl (V:=.bool true) Tryz.func159 (fun H=>⟨_,ar1 (H.g 3 0),reV (congrArg Value.bool c1) (fFits _)⟩) ?_
   refine .mv rfl 1 ?_
   refine .lr rfl 1 E1_0 B7 ?_ (hg:=gq 2 rfl)
   refine .cK rfl (V:=.bool false) Tryz.func160 (fun H=>⟨_,ar1 (H.g 6 3),reV (congrArg Value.bool c2) (fFormed _ (by exact fits_le c1))⟩) ?_ (hg:=gq 2 rfl)
   refine .e rfl (fun H=>x_pkT (H.g 5 2) (H.g 7 4)) ?_
   refine .mv rfl 5 ?_
   refine .dk (fun u=>rfV r::u1 0::u 6::sq u 0 6 []) K8 bel fun u2 w2 D bel=>?_
   have E2_6:=D.q 6
   clear D
   exact wp_ret (rt rfl E2_6 (and_b c1 c2) bel)
 ·
  rcases Bool.eq_false_or_eq_true (fformed r) with c9|c9
  ·
   refine gs 2 (Amb Z0 W) fun _ K10=>?_
   refine .bx rfl (fun H=>H.v 0 (rfV r)) ?_
   refine .mc rfl ?_
   refine .dk (fun u=>rfV r::u 0::u 1::us 6) K10 bel fun u1 w1 D bel=>?_
   obtain⟨b11,E1_0,A11,B11⟩:=D.nw 0
   have E1_1:=D.q 1
   clear D
   refine gs 7 (Amb Z0 W) fun _ K12=>?_
   refine .lr rfl 1 E1_0 B11 ?_
   refine .cK rfl (V:=.bool false) Tryz.func159 (fun H=>⟨_,ar1 (H.g 3 0),reV (congrArg Value.bool c1) (fFits _)⟩) ?_
   refine .mv rfl 1 ?_
   refine .sk rfl 2 ?_
   refine .sk rfl 2 ?_
   refine .e rfl (fun H=>x_pkF (H.g 5 2) (H.c _)) ?_
   refine .mv rfl 5 ?_
   refine .dk (fun u=>rfV r::u1 0::u 6::sq u 0 6 []) K12 bel fun u2 w2 D bel=>?_
   have E2_6:=D.q 6
   clear D
   exact wp_ret (rt rfl E2_6 (and_b c1 c9) bel)
  ·
   refine gs 2 (Amb Z0 W) fun _ K13=>?_
   refine .bx rfl (fun H=>H.v 0 (rfV r)) ?_
   refine .mc rfl ?_
   refine .dk (fun u=>rfV r::u 0::u 1::us 6) K13 bel fun u1 w1 D bel=>?_
   obtain⟨b14,E1_0,A14,B14⟩:=D.nw 0
   have E1_1:=D.q 1
   clear D
   refine gs 7 (Amb Z0 W) fun _ K15=>?_
   refine .lr rfl 1 E1_0 B14 ?_
   refine .cK rfl (V:=.bool false) Tryz.func159 (fun H=>⟨_,ar1 (H.g 3 0),reV (congrArg Value.bool c1) (fFits _)⟩) ?_
   refine .mv rfl 1 ?_
   refine .sk rfl 2 ?_
   refine .sk rfl 2 ?_
   refine .e rfl (fun H=>x_pkF (H.g 5 2) (H.c _)) ?_
   refine .mv rfl 5 ?_
   refine .dk (fun u=>rfV r::u1 0::u 6::sq u 0 6 []) K15 bel fun u2 w2 D bel=>?_
   have E2_6:=D.q 6
   clear D
   exact wp_ret (rt rfl E2_6 (and_b c1 c9) bel)
end Go.Proofs.YtcdbmjnipaochaaGreat
namespace Go.Proofs.YtcdbmjnipaochaaGreat
open Go.RowKit Rgn
theorem Rgn.Only.growF{z:Nat}{w w': World}(h:Only z w w')(hz:Soft w z∨Local w z):GrowS (fun _=>False) w w' :=
 ⟨h.os,h.tape,h.output,h.size,fun k hk=>by
  by_cases e:k=z
  ·subst e
   rcases hz with hz|hz
   ·exact .inr (.inr ⟨hz,fun x=>x⟩)
   ·exact .inr (.inl hz)
  ·exact .inl (h.block k hk e)⟩
theorem cut_mag{w:World}{v:Value}{l:List Nat}(h:Words w v l):Mag w (cutV l v) (val l):=⟨trim l,h.cut,trim_canon l,val_trim l⟩
theorem bIs{W:World}{z:Nat}{v2:Value}(neg:Bool)(n:Nat)(hz:IntBlk W z){S:Nat→Prop}(t2:(RawP n).p S v2 W):Calls Tryz.prog 279 #[.pointer (some ⟨z,0,none⟩),.bool neg,v2] W (RetOwn z (IntO (sgn neg n)) W):=by
 obtain⟨l,hw,rfl⟩:=t2
 obtain⟨x,y,hB⟩:=hz
 have hcut:=bigcut_any v2 l W hw
 have hM:=cut_mag hw
 obtain⟨p,m,c,hp,hm0,hm1⟩:=Mag.open hM
 rw [hp] at hcut hM
 have hb1:(neg&&val l != 0)=(neg && !decide (val l=0)):=by cases neg<;>simp [bne];try (by_cases h:val l=0<;>simp [h])
 have hO:Only z W ((W.setCell ⟨z,1,none⟩ (.slice p m c)).setCell ⟨z,0,none⟩ (.bool (neg&&val l != 0))):=(setCell_only W ⟨z,1,none⟩ _).trans (setCell_only _ ⟨z,0,none⟩ _)
 have hB1:=setCell_at (o:=1) (v:=.slice p m c) hB
 have hB2:=setCell_at (o:=0) (v:=.bool (neg&&val l != 0)) hB1
 have hMag:=MagP (val l) |>.grow (hO.growF (.inl ⟨_,_,hB,rfl⟩)) (S:=fun _=>False) hM
 have HR:RetOwn z (IntO (sgn neg (val l))) W (.returned (.pointer (some ⟨z,0,none⟩))) ((W.setCell ⟨z,1,none⟩ (.slice p m c)).setCell ⟨z,0,none⟩ (.bool (neg&&val l != 0))):=by
  refine⟨rfl,⟨z,rfl,rfl,.slice p m c,?_,by rw [sgn_abs];exact hMag⟩,hO⟩
  rw [hB2,← sgn_neg];rfl
 have HR:=Lib.hid HR
 have hf1:W.frozen? ⟨z,1,none⟩=false:=frozen_of hB
 have hf2:=frozen_of (off:=0) hB1
 have hcc1:=cell_of (off:=1) hB rfl
 have hcc2:=cell_of (off:=0) hB1 rfl
 have hcc3:=cell_of (off:=1) hB1 rfl
 have hmI:decide ((0:Int)<(m:Int)) = !decide (val l=0):=by rw [← len_gt hm0];simp
 have hm2:=len_gt hm0
 have hcc1' : W.cell? ⟨z,1,none⟩=some y:=hcc1
 have hcc2' : (W.setCell ⟨z,1,none⟩ (.slice p m c)).cell? ⟨z,0,none⟩=some x:=hcc2
 have hcc3' : (W.setCell ⟨z,1,none⟩ (.slice p m c)).cell? ⟨z,1,none⟩=some (.slice p m c):=hcc3
 clear hcc1 hcc2 hcc3 hB1 hp hm0 hB2 hM hMag hO hw
 cases neg with
 | false =>
  simp only [Bool.false_and] at HR
  clear hb1 hm2 hmI
  go_enter Tryz.func279,Tryz.ntmps279
  go_wp2_with fail
  go_call hcut as _ _ ⟨rfl,rfl⟩
  go_wp2_with fail
  exact ret_ok rfl (by exact results_tmp' rfl rfl) HR.out
 | true =>
  simp only [Bool.true_and] at HR hb1
  rw [hb1,← hm2] at HR
  clear hb1 hm2 hmI
  generalize sgn true (val l)=sg at *
  go_enter Tryz.func279,Tryz.ntmps279
  go_wp2_with fail
  go_call hcut as _ _ ⟨rfl,rfl⟩
  go_wp2_with fail
  exact ret_ok rfl (by exact results_tmp' rfl rfl) HR.out
theorem IntP.c0{n:Int}{b o k:Nat}{S:Nat→Prop}{w:World}(h:(IntP n).p S (.pointer (some ⟨b,o,none⟩)) w)(hk:k=o):w.cell? ⟨b,k,none⟩=some (.bool (decide (n<0))):=by
 subst hk
 obtain⟨c,T,v,h1,h2,h3,h4,h5⟩:=IntP.in h
 simp [World.cell?,h1,h3]
theorem IntP.c1{n:Int}{b o k:Nat}{S:Nat→Prop}{w:World}(h:(IntP n).p S (.pointer (some ⟨b,o,none⟩)) w)(hk:k=o+1):∃ v,w.cell? ⟨b,k,none⟩=some v∧Mag w v n.natAbs:=by
 subst hk
 obtain⟨c,T,v,h1,h2,h3,h4,h5⟩:=IntP.in h
 exact⟨v,by simp [World.cell?,h1,h4],h5⟩
theorem Rgn.SP.magVal{B0:Nat}{R0:Nat→Prop}{olds:List (Nat×Nat)}{i:Nat}{near:List Nat}{n a b:Nat}{u:Nat→Got}{w:World}{v:Value}(h:Mag w v n):(SP.val (B0:=B0) (R0:=R0) (olds:=olds) i near (MagP n)).p (upd u i ⟨v,a,b⟩) w:=by
 show Mag w (upd u i _ i).v n
 rw [upd_same];exact h
theorem len_eq{m n:Nat}(h:m=0↔n=0):((m:Int) == 0)=decide (n=0):=by
 by_cases e:n=0
 ·have:=h.2 e;subst this;simp [e]
 ·have:m≠0:=fun x=>e (h.1 x)
  rw [decide_eq_false e,beq_eq_false_iff_ne];omega
def LenP(n:Nat):VP:=⟨fun _ v _=>∃ m:Nat,v=.int .i64 m∧(m=0↔n=0),fun _ h=>h,fun _ h=>h⟩
theorem Rgn.SP.lenVal{B0:Nat}{R0:Nat→Prop}{olds:List (Nat×Nat)}{i:Nat}{near:List Nat}{n a b m:Nat}{u:Nat→Got}{w:World}(h:m=0↔n=0):(SP.val (B0:=B0) (R0:=R0) (olds:=olds) i near (LenP n)).p (upd u i ⟨.int .i64 m,a,b⟩) w:=by
 show ∃ m' : Nat,(upd u i _ i).v=.int .i64 m'∧_
 rw [upd_same];exact⟨m,rfl,h⟩
theorem into_eq{a b:Int}(h:a=b){S:Nat→Prop}{v:Value}{w:World}(F:(IntO a).p S v w):(IntO b).p S v w:=h ▸ F
theorem rat_eq{a b:Rat}(h:a=b){S:Nat→Prop}{v:Value}{w:World}(F:(RatP a).p S v w):(RatP b).p S v w:=h ▸ F
theorem icmp_nn{x y:Int}(h:x<0)(h': y<0):Value.int .i64 (cmp3 y.natAbs x.natAbs)=.int .i64 (icmp x y):=by
 congr 1
 rcases Nat.lt_trichotomy y.natAbs x.natAbs with h3|h3|h3
 ·rw [cmp3_lt h3,icmp_lt (by omega)]
 ·rw [cmp3_eq h3,icmp_eq (by omega)]
 ·rw [cmp3_gt h3,icmp_gt (by omega)]
theorem icmp_np{x y:Int}(h:x<0)(h': ¬ y<0):Value.int .i64 (-1)=.int .i64 (icmp x y):=by rw [icmp_lt (by omega)]
theorem icmp_pn{x y:Int}(h:¬ x<0)(h': y<0):Value.int .i64 1=.int .i64 (icmp x y):=by rw [icmp_gt (by omega)]
theorem icmp_pp{x y:Int}(h:¬ x<0)(h': ¬ y<0):Value.int .i64 (cmp3 x.natAbs y.natAbs)=.int .i64 (icmp x y):=by
 congr 1
 rcases Nat.lt_trichotomy x.natAbs y.natAbs with h3|h3|h3
 ·rw [cmp3_lt h3,icmp_lt (by omega)]
 ·rw [cmp3_eq h3,icmp_eq (by omega)]
 ·rw [cmp3_gt h3,icmp_gt (by omega)]
theorem add_1{x y:Int}{s:Bool}(h:(decide (x<0) == s)=true):sgn s (x.natAbs+y.natAbs)=x+sgn s y.natAbs:=by
 have h:decide (x<0)=s:=by simpa using h
 subst h
 unfold sgn;by_cases h1:x<0<;>simp [h1]<;>omega
theorem add_2{x y:Int}{s:Bool}(h:(decide (x<0) == s)=false)(h': (0:Int)≤cmp3 x.natAbs y.natAbs):sgn (decide (x<0)) (x.natAbs-y.natAbs)=x+sgn s y.natAbs:=by
 have h2:=cmp3_ge_le h'
 have h:decide (x<0)≠s:=by simpa using h
 cases s<;>unfold sgn<;>by_cases h1:x<0<;>simp [h1] at h ⊢<;>omega
theorem add_3{x y:Int}{s:Bool}(h:(decide (x<0) == s)=false)(h': ¬ (0:Int)≤cmp3 x.natAbs y.natAbs):sgn s (y.natAbs-x.natAbs)=x+sgn s y.natAbs:=by
 have h2:=cmp3_nge_le h'
 have h:decide (x<0)≠s:=by simpa using h
 cases s<;>unfold sgn<;>by_cases h1:x<0<;>simp [h1] at h ⊢<;>omega
theorem add_p(x y:Int):x+sgn (decide (y<0)) y.natAbs=x+y:=by rw [sgn_self]
theorem add_m(x y:Int):x+sgn (!decide (y<0)) y.natAbs=x-y:=by
 unfold sgn;by_cases h1:y<0<;>simp [h1]<;>omega
section
variable {S:Nat→Prop} {W:World}
theorem Ret.raw{S:Nat→Prop}{n:Nat}{W:World}{e:Ending}{w': World}(h:RawRet n W e w'):Ret (RawP n) S W e w' := by
 obtain⟨v,l,h1,h2,h3,h4⟩:=h;exact⟨v,h1,⟨l,h2,h3⟩,h4⟩
theorem bProduct{v0 v1:Value}(a b:Nat)(t0:(MagP a).p S v0 W)(t1:(MagP b).p S v1 W)(p0:bl a≤1099511627776)(p1:bl b≤1099511627776):Calls Tryz.prog 291 #[v0,v1] W (Ret (RawP (a*b)) S W):=by
 obtain⟨l,h1,h2,h3,h4⟩:=Mag.words t0 p0
 obtain⟨m,g1,g2,g3,g4⟩:=Mag.words t1 p1
 subst h3;subst g3
 exact (bigproduct_any v0 v1 l m W h1 g1 (by omega) (by omega)).mono fun e w' h=>Ret.raw h
theorem bMore{v0 v1:Value}(a b:Nat)(t0:(MagP a).p S v0 W)(t1:(MagP b).p S v1 W)(p0:bl a≤1099511627776)(p1:bl b≤1099511627776):Calls Tryz.prog 298 #[v0,v1] W (Ret (RawP (a+b)) S W):=by
 obtain⟨l,h1,h2,h3,h4⟩:=Mag.words t0 p0
 obtain⟨m,g1,g2,g3,g4⟩:=Mag.words t1 p1
 subst h3;subst g3
 exact (bigmore_any v0 v1 l m W h1 g1 (by omega) (by omega)).mono fun e w' h=>Ret.raw h
theorem bLess{v0 v1:Value}(a b:Nat)(t0:(MagP a).p S v0 W)(t1:(MagP b).p S v1 W)(p0:bl a≤1099511627776)(p1:b≤a):Calls Tryz.prog 299 #[v0,v1] W (Ret (RawP (a-b)) S W):=by
 obtain⟨l,h1,h2,h3,h4⟩:=Mag.words t0 p0
 obtain⟨m,g1,g2,g3,g4⟩:=Mag.words t1 (Nat.le_trans (bl_mono p1) p0)
 subst h3;subst g3
 exact (bigless_any v0 v1 l m W h1 g1 g2 (by omega) p1).mono fun e w' h=>Ret.raw h
theorem bUnder{v0 v1:Value}(a b:Nat)(t0:(MagP a).p S v0 W)(t1:(MagP b).p S v1 W):Calls Tryz.prog 255 #[v0,v1] W (RetV (.int .i64 (cmp3 a b)) W):=by
 obtain⟨l,h1,h2,h3⟩:=t0
 obtain⟨m,g1,g2,g3⟩:=t1
 subst h3;subst g3
 exact (bigunder_any v0 v1 l m W h1 g1 h2 g2).mono fun e w' ⟨h1,n,h2⟩=>RetV.mk h1 (by subst h2;exact below_drewN (Below.refl _ _) n)
theorem bDivide{v0 v1:Value}(a b:Nat)(t0:(MagP a).p S v0 W)(t1:(MagP b).p S v1 W)(p0:bl a≤1099511627776)(p1:b≠0):Calls Tryz.prog 300 #[v0,v1] W (Ret (VP.tup (MagP (a/b)) (MagP (a%b))) S W):=by
 obtain⟨l,h1,h2,h3,h4⟩:=Mag.words t0 p0
 obtain⟨m,g1,g2,g3⟩:=t1
 subst h3;subst g3
 exact (bigdivide_any v0 v1 l m W h1 g1 h2 g2 (fun e=>p1 (by subst e;rfl)) (by omega)).mono fun e w' ⟨q,r,h1,h2,h3,h4⟩=>⟨_,h1,⟨q,r,rfl,h2,h3⟩,h4⟩
end
def Byts(w:World)(v:Value)(l:List UInt8):Prop :=
 ∃ b off cap cur fr,v=.slice (some ⟨b,off,none⟩) l.length cap∧w.heap[b]? = some (.cells cur 5 fr)∧l.length≤cap∧cap≤9223372036854775807 ∧
  ∀ i x,l[i]? = some x→cur[off+i]? = some (.int .u8 (x.toNat:Int))
theorem Byts.grow{S:Nat→Prop}{w w': World}{v:Value}{l:List UInt8}(hw:Byts w v l)(h:GrowS S w w'):Byts w' v l:=by
 obtain⟨b,off,cap,cur,fr,h1,h2,h3,h4,h5⟩:=hw
 refine⟨b,off,cap,cur,fr,h1,?_,h3,h4,h5⟩
 rcases h.block b (lt_of h2) with hb|⟨c,T,fr', hb,hT⟩|⟨⟨c,T,hb,hT⟩,_⟩
 ·rw [hb];exact h2
 ·rw [h2] at hb;cases hb;exact absurd hT (by decide)
 ·rw [h2] at hb;cases hb;simp at hT
theorem Byts.low{w w': World}{v:Value}{l:List UInt8}(h:Byts w v l)(hb:Below w.heap.size w w'):Byts w' v l:=by
 obtain⟨b,off,cap,cur,fr,h1,h2,h3⟩:=h
 exact⟨b,off,cap,cur,fr,h1,by rw [hb.block b (lt_of h2)];exact h2,h3⟩
theorem BBlk.byts{w:World}{b:Nat}{l:List UInt8}(h:BBlk w b l){n cap:Nat}(hn:n=l.length)(hc:l.length≤cap)(hc': cap≤9223372036854775807):Byts w (.slice (some ⟨b,0,none⟩) n cap) l:=by
 subst hn
 refine⟨b,0,cap,_,_,rfl,h,hc,hc', fun i x hx=>?_⟩
 obtain⟨hi,hx⟩:=List.getElem?_eq_some_iff.1 hx
 subst hx
 simp [bcells,hi]
theorem Byts.str{w:World}{v:Value}{l:List UInt8}(h:Byts w v l):(convert 243 9 v).run Tryz.prog w=.ok (.string ⟨l.toArray⟩) w:=by
 obtain⟨b,off,cap,cur,fr,rfl,h2,h3,h4,h5⟩:=h
 refine run_convert_bytes_back w _ _ 5 ⟨b,off,none⟩ cap l Tryz.underlying243 Tryz.underlying5 Tryz.underlying9 fun j hj=>?_
 have e:(⟨b,off,none⟩:Addr).add j=⟨b,off+j,none⟩:=Addr.add_lit _ _ _
 rw [e]
 simp [World.cell?,h2,h5 j _ (List.getElem?_eq_getElem hj)]
def BytP(n:Nat):VP:=⟨fun _ v w=>Byts w v (bytesOf n),fun _ h=>h,fun h hp=>hp.grow h⟩
theorem conv_bytes(s:ByteArray)(w:World)(hs:s.size≤1099511627776):∃ v w', (convert 9 243 (.string s)).run Tryz.prog w=.ok v w'∧Byts w' v s.data.toList∧Below w.heap.size w w' := by
 have h:=run_bytes_of_string w 9 243 5 s Tryz.underlying9 Tryz.underlying243 Tryz.underlying5
 have hg:=grownCap_ge w s.size 0 5
 have hm:=grownCap_le_maxLen w s.size 0 5 (Nat.le_trans hs (by unfold maxLen;omega))
 have hsz:s.data.toList.length=s.size:=Array.length_toList
 generalize grownCap w s.size 0 5=cap at *
 refine⟨_,_,h,⟨w.heap.size,0,cap,_,_,by rw [hsz],(MapKept.heap_alloc w.drew _).1,by omega,Nat.le_trans hm (by unfold maxLen;omega),fun i x hx=>?_⟩,Below.alloc (Below.drew (Below.refl _ _)) (Nat.le_refl _) _⟩
 obtain⟨hi,hx⟩:=List.getElem?_eq_some_iff.1 hx
 subst hx
 have hi' : i<s.data.size:=by rw [hsz] at hi;exact hi
 simp only [Nat.zero_add,bytesRow]
 rw [Array.getElem?_append_left (by simpa using hi')]
 simp only [Array.getElem?_map,Array.getElem?_eq_getElem hi', Option.map_some,Array.getElem_toList]
theorem conv_byt(n:Nat)(w:World)(hs:bl n≤1099511627776):∃ v w', (convert 9 243 (.string (bS n))).run Tryz.prog w=.ok v w'∧(BytP n).p Any v w'∧Below w.heap.size w w' := by
 obtain⟨v,w', h1,h2,h3⟩:=conv_bytes (bS n) w (by
  have:(bS n).size=(leB n).length:=by
   show (bytesOf n).toArray.size=_
   simp [bytesOf]
  rw [this,← bytesOf_len]
  exact bytes_len_le hs)
 refine⟨v,w', h1,?_,h3⟩
 have e:(bS n).data.toList=bytesOf n:=by simp [bS]
 rw [e] at h2;exact h2
theorem bl_div(V m:Nat):bl (V/2^m)=bl V-m:=by
 have h:∀ j,bl (V/2^m)≤j↔bl V≤j+m:=fun j=>by
  rw [bl_le,bl_le,Nat.div_lt_iff_lt_mul (Nat.pow_pos (by decide)),Nat.pow_add]
 have h1:=(h (bl (V/2^m))).1 (Nat.le_refl _)
 have h2:=(h (bl V-m)).2 (by omega)
 omega
theorem bl_two{t:Nat}(h:0<t):bl (2*t)=bl t+1:=by
 have e:bl t=bl (2*t)-1:=by
  have:=bl_div (2*t) 1
  rwa [Nat.pow_one,Nat.mul_div_cancel_left t (by decide)] at this
 have:bl (2*t)≠0:=fun h0=>by
  have:=bl_le.1 (Nat.le_of_eq h0)
  rw [Nat.pow_zero] at this;omega
 omega
theorem bl_top{t:Nat}(h:2147483648≤t)(h': t<4294967296):bl t=32:=by
 have h1:bl t≤32:=bl_le.2 (by omega)
 have h2:¬ bl t≤31:=fun h2=>by have:=bl_le.1 h2;omega
 omega
theorem top_bl{l:List Nat}{k:Nat}(hb:Bd l)(hc:Canon l)(hk:l.length=k+1):0<l.getD k 0∧l.getD k 0<4294967296∧bl (l.getD k 0)+32*(k+1)=bl (val l)+32:=by
 have h1:=canon_ge hc (fun e=>by rw [e] at hk;simp at hk)
 have h2:=val_div hb k
 rw [val_drop,List.drop_eq_nil_of_le (by omega)] at h2
 have h3:val ([]:List Nat)=0:=rfl
 rw [h3,Nat.mul_zero,Nat.add_zero] at h2
 have h4:(4294967296:Nat)^k=2^(32*k):=by rw [Nat.pow_mul]
 have h5:=bl_div (val l) (32*k)
 rw [hk,Nat.add_sub_cancel] at h1
 have h6:0<val l/4294967296^k:=Nat.div_pos h1 (Nat.pow_pos (by decide))
 rw [h2] at h6
 rw [← h4,h2] at h5
 have h7:bl (l.getD k 0)≠0:=fun h0=>by
  have:=bl_le.1 (Nat.le_of_eq h0)
  rw [Nat.pow_zero] at this;omega
 exact⟨h6,hb.getD k,by omega⟩
theorem bBitLen{S:Nat→Prop}{W:World}{v0:Value}(x:Int)(t0:(IntP x).p S v0 W)(p0:hi x≤1099511627776):Calls Tryz.prog 296 #[v0] W (RetV (.int .i64 (bl x.natAbs:Nat)) W):=by
 obtain⟨b,ob,rfl,L_b,F_b⟩:=IntP.elim t0
 obtain⟨v,hc1,hM⟩:=IntP.c1 (k:=ob+1) F_b rfl
 have q0:=hi_bl x
 obtain⟨l,hW,hC,hv,hl⟩:=hM.words (by omega)
 rw [← hv]
 have Hb:=hW.bd
 clear hM hv q0 p0 t0 F_b L_b
 obtain⟨a,c,rfl,h1,h2⟩:=hW.len
 by_cases hz:l.length=0
 ·have e:l=[]:=List.length_eq_zero_iff.1 hz
  subst e
  go_enter Tryz.func296,Tryz.ntmps296
  go_wp2_with fail
  exact ret_ok rfl (by exact results_tmp' rfl rfl) (RetV.mk rfl (Below.refl _ _))
 ·obtain⟨k,hk⟩:∃ k,l.length=k+1:=⟨l.length-1,by omega⟩
  obtain⟨b', off,rfl,hca⟩:=hW.at (k:=k) (by omega)
  obtain⟨g1,g2,g3⟩:=top_bl Hb hC hk
  have hkI:(l.length:Int)-1=(k:Int):=by omega
  have h32:(0:Int)<32*(l.length:Int):=by omega
  have hmu:IntKind.i64.wrap (32*(l.length:Int))=32*(l.length:Int):=IntWalk.i64_in _ (by omega)
  generalize l.getD k 0=T at *
  generalize bl (val l)=B at *
  clear hW hC Hb
  have hca2:∀ n:Nat,(W.drewN n).cell? ⟨b', off+k,none⟩=some (.int .u32 (T:Int)):=fun _=>hca
  go_enter Tryz.func296,Tryz.ntmps296
  go_wp2_with fail
  go_quiet (fail)
  go_wp2_with fail
  go_loop [3,4] (fun v3 v4=>∃ m t:Nat,v3=.int .i64 m∧v4=.int .u32 t∧0<t∧t<4294967296∧bl t+m=B+32∧m≤32*l.length) (fun _ v4=>4294967296-(intOf v4).toNat)
  case atStart=>exact⟨32*l.length,T,by go_num,rfl,g1,g2,by omega,Nat.le_refl _⟩
  case round =>
   obtain⟨m,t,rfl,rfl,e1,e2,e3,e4⟩:=hrel
   by_cases ht:t<2147483648
   ·have hc:((t:Int)/2147483648 == 0)=true:=by rw [beq_iff_eq];omega
    have hb2:=bl_two e1
    have hm1:1≤m:=by
     have:bl t≤31:=bl_le.2 (by omega)
     omega
    have hw:IntKind.u32.wrap ((t:Int)*2)=(t:Int)*2:=IntWalk.u32_in _ (by omega)
    have hw2:IntKind.i64.wrap ((m:Int)-1)=(m:Int)-1:=IntWalk.i64_in _ (by omega)
    go_wp2_with fail
    exact⟨⟨m-1,2*t,by go_num,by go_num,by omega,by omega,by omega,by omega⟩,by simp [intOf];omega⟩
   ·have hc:((t:Int)/2147483648 == 0)=false:=by rw [beq_eq_false_iff_ne];omega
    have hB:=bl_top (by omega) e2
    have hmB:m=B:=by omega
    subst hmB
    go_wp2_with fail
    exact ret_ok rfl (by exact results_tmp' rfl rfl) (RetV.mk rfl (below_drewN (Below.refl _ _) _))
theorem SetBytes_or{x c r:Nat}(hx:x<256^r)(hr:r<4)(h:x+c*256^r<4294967296):bits .or .u32 (x:Int) ((c:Int)*(256:Int)^r)=(x:Int)+(c:Int)*(256:Int)^r:=by
 have h1:((256^r:Nat):Int)=(256:Int)^r:=by simp
 have h2:((2:Int)^(8*r))=(256:Int)^r:=by rw [Int.pow_mul];rfl
 have h3:((c*256^r:Nat):Int)=(c:Int)*(256:Int)^r:=by rw [Int.natCast_mul,h1]
 rw [← h3]
 refine bits_join_low .u32 32 (by decide) wraps_u32 (8*r) _ _ (by omega) ?_ (by omega) (by omega) ?_ (by omega)
 ·rw [h2,← h1];omega
 ·rw [h2,h3];exact Int.mul_emod_left _ _
theorem bSetBytes{S:Nat→Prop}{W:World}{z:Nat}{v1:Value}(n:Nat)(hz:IntBlk W z)(t1:(BytP n).p S v1 W)(p0:bl n≤1099511627000):Calls Tryz.prog 177 #[.pointer (some ⟨z,0,none⟩),v1] W (RetOwn z (IntO (n:Int)) W):=by
 have hlen:=bytes_len_le p0
 have hnat:natB (bytesOf n)=n:=natB_bytesOf n
 have HT:=Lib.hid (show Byts W v1 (bytesOf n) from t1)
 generalize bytesOf n=l at *
 obtain⟨bb,bo,cap,cur,fr,rfl,hB,hc1,hc2,hcl⟩:=HT.out
 clear t1
 obtain⟨N,hN⟩:∃ N,N=(l.length+3)/4:=⟨_,rfl⟩
 have hmk:=make_words (((l.length:Int)+3)/4) N (by omega) (by omega)
 have HN:=Lib.hid hN
 have HC:=Lib.hid hcl
 have hI:=fun (w' : World) (v:Value) (hb:Below W.heap.size W w') (hv:(RawP n).p (fun _=>False) v w') =>
  bIs (W:=w') (z:=z) (v2:=v) false n (by obtain⟨x,y,h⟩:=hz;exact⟨x,y,by rw [hb.block z (lt_of h)];exact h⟩) (S:=fun _=>False) hv
 clear hN hcl
 go_enter Tryz.func177,Tryz.ntmps177
 go_wp2_with fail
 go_loopw [15] (fun v4 wr=>∃ (i:Nat) (L:List Nat),v4=.int .i64 i∧i≤l.length∧L.length=N∧Hid (Bd L)∧Hid (val L=natL (l.reverse.take i))∧Hid (Blk wr W.heap.size L)∧Hid (Below W.heap.size W wr)) (fun v4 _=>l.length-(intOf v4).toNat)
 case atStart =>
  refine⟨0,List.replicate N 0,rfl,by omega,by simp,Bd.replicate _,?_,Blk.alloc _ _,?_⟩
  ·show _=_;simp [val_replicate,natL]
  ·show Below _ _ _;go_grown
 case round =>
  obtain⟨i,L,rfl,hi,hL,HB,HS,HK,HW⟩:=hrel
  by_cases hin:i<l.length
  ·have hin' : (i:Int)<(l.length:Int):=by omega
   have hN:=HN.out
   obtain⟨k,hk⟩:∃ k,l.length-1-i=k:=⟨_,rfl⟩
   have hks:k<l.length:=by omega
   have hkI:(l.length:Int)-1-(i:Int)=(k:Int):=by omega
   obtain⟨c,hc⟩:∃ c,l[k]? = some c:=⟨_,List.getElem?_eq_getElem hks⟩
   have hrg:l.reverse[i]'(by simpa using hin)=c:=by
    have h1:=List.getElem?_eq_getElem (l:=l.reverse) (i:=i) (by simpa using hin)
    rw [List.getElem?_reverse hin,hk,hc] at h1
    exact (Option.some.inj h1).symm
   have hcell:wr.cell? ⟨bb,bo+k,none⟩=some (.int .u8 (c.toNat:Int)):=by
    have hB' : wr.heap[bb]? = some (.cells cur 5 fr):=by rw [HW.out.block bb (lt_of hB)];exact hB
    simp [World.cell?,hB', HC.out k c hc]
   have hb:=c.toNat_lt
   have hlt:val L<256^i:=by
    rw [HS.out]
    have:=natL_lt (l.reverse.take i)
    rw [List.length_take,List.length_reverse,Nat.min_eq_left (by omega)] at this
    exact this
   obtain⟨hp1,hp2⟩:=val_put_byte HB.out (i:=i) (c:=c.toNat) (by omega) hlt (by omega)
   have HS' : Hid (val (L.set (i/4) (L.getD (i/4) 0+c.toNat*256^(i%4)))=natL (l.reverse.take (i+1))):=show _=_ by
    rw [hp2,HS.out,natL_take_succ _ _ (by simpa using hin),hrg]
   obtain⟨q,hq⟩:∃ q,q=i/4:=⟨_,rfl⟩
   have hqI:(i:Int)/4=(q:Int):=by omega
   have hqN:q<N:=by omega
   have hx4:L.getD (i/4) 0<256^(i%4):=by
    have h1:=val_div HB.out (i/4)
    rw [val_drop] at h1
    have h2:val L/4294967296^(i/4)<256^(i%4):=by
     rw [pow_words,Nat.div_lt_iff_lt_mul (Nat.pow_pos (by decide)),← Nat.pow_add,show i%4+4*(i/4)=i by omega]
     exact hlt
    omega
   rw [← hq] at hp1 HS' hx4
   have hcl:=HK.out.cell (i:=q) (by omega)
   have hfl:=HK.out.free q
   have HB' := Lib.hid (fun x hx=>HB.out.set (x:=x) hx q)
   generalize L.getD q 0=x at *
   have hqw:IntKind.i64.wrap (q:Int)=(q:Int):=IntWalk.i64_in _ (by omega)
   have hbw:=IntWalk.u32_in (c.toNat:Int) (by omega)
   obtain⟨r,hr⟩:∃ r,i%4=r:=⟨_,rfl⟩
   have hr4:r<4:=by omega
   rw [hr] at hp1 HS' hx4
   have hrI:(i:Int).tmod 4=(r:Int):=by rw [Int.tmod_eq_emod_of_nonneg (by omega)];omega
   have hor:=SetBytes_or (c:=c.toNat) hx4 hr4 hp1
   clear hq hr hp2 hlt HS hN hk
   rcases (by omega:r=0∨r=1∨r=2∨r=3) with h|h|h|h
   ·subst h
    simp only [Int.natCast_zero] at hrI
    simp only [Nat.reducePow,Int.reducePow,Nat.mul_one,Int.mul_one] at hp1 HS' hor
    have hw8:=IntWalk.i64_in 0 (by decide)
    have hsh:=IntWalk.u32_in ((c.toNat:Int)) (by omega)
    go_wp2_with fail
    go_still_tail 16,(by kernel_rfl)
    clear hsh hw8 hrI hqw hbw hqI hkI
    go_wp2_with fail
    refine⟨?_,?_⟩
    ·refine⟨i+1,L.set q (x+c.toNat),by go_num,by omega,by simp [hL],Lib.hid (HB'.out _ (by omega)),HS', ?_,Lib.hid (Below.setCell (Below.drew HW.out) (Nat.le_refl _) _)⟩
     have:=Blk.set (w:=wr.drew) HK.out q (x+c.toNat)
     rw [show ((x+c.toNat:Nat):Int)=(x:Int)+(c.toNat:Int) by omega] at this
     exact Lib.hid this
    ·simp [intOf];omega
   ·subst h
    simp only [Int.natCast_one] at hrI
    simp only [Nat.reducePow,Int.reducePow,Nat.mul_one,Int.mul_one] at hp1 HS' hor
    have hw8:=IntWalk.i64_in 8 (by decide)
    have hsh:=IntWalk.u32_in ((c.toNat:Int)*256) (by omega)
    go_wp2_with fail
    go_still_tail 16,(by kernel_rfl)
    clear hsh hw8 hrI hqw hbw hqI hkI
    go_wp2_with fail
    refine⟨?_,?_⟩
    ·refine⟨i+1,L.set q (x+c.toNat*256),by go_num,by omega,by simp [hL],Lib.hid (HB'.out _ (by omega)),HS', ?_,Lib.hid (Below.setCell (Below.drew HW.out) (Nat.le_refl _) _)⟩
     have:=Blk.set (w:=wr.drew) HK.out q (x+c.toNat*256)
     rw [show ((x+c.toNat*256:Nat):Int)=(x:Int)+(c.toNat:Int)*256 by omega] at this
     exact Lib.hid this
    ·simp [intOf];omega
   ·subst h
    simp only [Int.cast_ofNat_Int] at hrI
    simp only [Nat.reducePow,Int.reducePow,Nat.mul_one,Int.mul_one] at hp1 HS' hor
    have hw8:=IntWalk.i64_in 16 (by decide)
    have hsh:=IntWalk.u32_in ((c.toNat:Int)*65536) (by omega)
    go_wp2_with fail
    go_still_tail 16,(by kernel_rfl)
    clear hsh hw8 hrI hqw hbw hqI hkI
    go_wp2_with fail
    refine⟨?_,?_⟩
    ·refine⟨i+1,L.set q (x+c.toNat*65536),by go_num,by omega,by simp [hL],Lib.hid (HB'.out _ (by omega)),HS', ?_,Lib.hid (Below.setCell (Below.drew HW.out) (Nat.le_refl _) _)⟩
     have:=Blk.set (w:=wr.drew) HK.out q (x+c.toNat*65536)
     rw [show ((x+c.toNat*65536:Nat):Int)=(x:Int)+(c.toNat:Int)*65536 by omega] at this
     exact Lib.hid this
    ·simp [intOf];omega
   ·subst h
    simp only [Int.cast_ofNat_Int] at hrI
    simp only [Nat.reducePow,Int.reducePow,Nat.mul_one,Int.mul_one] at hp1 HS' hor
    have hw8:=IntWalk.i64_in 24 (by decide)
    have hsh:=IntWalk.u32_in ((c.toNat:Int)*16777216) (by omega)
    go_wp2_with fail
    go_still_tail 16,(by kernel_rfl)
    clear hsh hw8 hrI hqw hbw hqI hkI
    go_wp2_with fail
    refine⟨?_,?_⟩
    ·refine⟨i+1,L.set q (x+c.toNat*16777216),by go_num,by omega,by simp [hL],Lib.hid (HB'.out _ (by omega)),HS', ?_,Lib.hid (Below.setCell (Below.drew HW.out) (Nat.le_refl _) _)⟩
     have:=Blk.set (w:=wr.drew) HK.out q (x+c.toNat*16777216)
     rw [show ((x+c.toNat*16777216:Nat):Int)=(x:Int)+(c.toNat:Int)*16777216 by omega] at this
     exact Lib.hid this
    ·simp [intOf];omega
  ·have e:i=l.length:=by omega
   have hin' : ¬ (i:Int)<(l.length:Int):=by omega
   have hw:=HK.out.all HB.out (cap:=N) (by omega) (by have:=HN.out;omega)
   rw [hL] at hw
   have HV:Hid (val L=n):=show _=_ by
    rw [HS.out,e,List.take_of_length_le (by simp),← hnat,natB]
   clear HS
   go_wp2_with fail
   go_call (hI wr _ HW.out ⟨L,hw,HV.out⟩) as _ w2 ⟨rfl,hf,ho⟩
   go_wp2_with fail
   exact ret_ok rfl (by exact results_tmp' rfl rfl) ⟨rfl,hf,(Only.below HW.out).trans ho⟩
theorem leB_bl(n:Nat):(leB n).length=(bl n+7)/8:=by
 have h:∀ k,(leB n).length≤k↔bl n≤8*k:=fun k=>by
  rw [leB_len_le,bl_le,Nat.pow_mul]
 have h1:=(h (leB n).length).1 (Nat.le_refl _)
 have h2:=(h ((bl n+7)/8)).2 (by omega)
 omega
theorem bBytes{S:Nat→Prop}{W:World}{v0:Value}(x:Int)(t0:(IntP x).p S v0 W)(p0:hi x≤1099511627776):Calls Tryz.prog 253 #[v0] W (Ret (BytP x.natAbs) S W):=by
 have hBL:=bBitLen x t0 p0
 obtain⟨b,ob,rfl,L_b,F_b⟩:=IntP.elim t0
 obtain⟨v,hc1,hM⟩:=IntP.c1 (k:=ob+1) F_b rfl
 have q0:=hi_bl x
 obtain⟨l,hW,hC,hv,hl⟩:=hM.words (by omega)
 have Hb:=hW.bd
 have hblt:=IntP.lt F_b
 obtain⟨n,hn⟩:∃ n,n=(leB (val l)).length:=⟨_,rfl⟩
 have hn2:(((bl x.natAbs:Nat):Int)+7)/8=(n:Int):=by rw [hn,leB_bl,hv];omega
 have hn3:n≤137438953472:=by rw [hn,leB_bl,hv];omega
 have hbl:((bl x.natAbs:Nat):Int)≤1099511627776:=by omega
 rw [← hv] at hBL hn2 hbl ⊢
 have HL:Hid ((leB (val l)).length=n):=show _=_ from hn.symm
 have hval:n≤4*l.length:=by
  rw [hn];exact leB_len_le.2 (by rw [← pow_words];exact val_lt Hb)
 clear hn hM t0 F_b hv q0 p0 hC
 obtain⟨a,c,rfl,h1,h2⟩:=hW.len
 have hcA:∀ w', Below W.heap.size W w'→w'.cell? ⟨b,ob+1,none⟩=some (.slice a l.length c):=fun w' h=>by
  rw [← hc1];unfold World.cell?;rw [h.block b hblt]
 have HcA:=Lib.hid hcA
 have HWW:=Lib.hid hW
 clear hcA hc1 hblt hW
 generalize hB:bl (val l)=B at *
 clear hB
 go_enter Tryz.func253,Tryz.ntmps253
 go_wp2_with fail
 go_call hBL as _ w1 hr
 obtain⟨rfl,hb1⟩:=hr.is
 have hmk:=make_bytes (n:Int) n rfl (by omega)
 go_wp2_with fail
 go_loopw [14] (fun v7 wr=>∃ i:Nat,v7=.int .i64 i∧i≤n∧Hid (BBlk wr w1.heap.size (laid (leB (val l)) n i))∧Hid (Below w1.heap.size w1 wr)) (fun v7 _=>n-(intOf v7).toNat)
 case atStart =>
  refine⟨0,rfl,by omega,?_,?_⟩
  ·rw [laid_none];exact BBlk.alloc _ _
  ·exact Lib.hid (Below.alloc (Below.refl _ _) (Nat.le_refl _) _)
 case round =>
 obtain⟨i,rfl,hi,HK,HW⟩:=hrel
 by_cases him:i<n
 ·have him' : (i:Int)<(n:Int):=by omega
  obtain⟨k,hk⟩:∃ k,k=n-1-i:=⟨_,rfl⟩
  have hkI:(n:Int)-1-(i:Int)=(k:Int):=by omega
  obtain⟨q,hq⟩:∃ q,q=i/4:=⟨_,rfl⟩
  obtain⟨r,hr⟩:∃ r,r=i%4:=⟨_,rfl⟩
  have hqI:(i:Int)/4=(q:Int):=by omega
  have hrI:(i:Int)%4=(r:Int):=by omega
  have hgb:=get_byte Hb i
  rw [← hq,← hr] at hgb
  obtain⟨t,ht⟩:∃ t,t=r*8:=⟨_,rfl⟩
  have htI:(r:Int)*8=(t:Int):=by omega
  obtain⟨p,hp⟩:∃ p,p=256^r:=⟨_,rfl⟩
  have hpI:(2:Int)^t=(p:Int):=by
   have h2:(2:Nat)^(8*r)=256^r:=by rw [Nat.pow_mul]
   rw [ht,hp,← h2,Nat.mul_comm r 8];simp
  have hlen:=HL.out
  have hWr:Below W.heap.size W wr:=hb1.trans (HW.out.mono hb1.size)
  have hcx:=HcA.out wr hWr
  obtain⟨b', off,rfl,hca⟩:=(HWW.out.low hWr).at (k:=q) (by omega)
  have hx:=Hb.getD q
  rw [← hp] at hgb
  generalize l.getD q 0=y at *
  have eq:(y:Int)/(p:Int)=((y/p:Nat):Int):=by simp
  have hxp:y/p≤y:=Nat.div_le_self _ _
  generalize y/p=y2 at *
  obtain⟨d,hd,hbyte⟩:∃ d,(leB (val l))[i]? = some d∧d.toNat=y2%256:=⟨_,List.getElem?_eq_getElem (by omega),by rw [leB_get,hgb]⟩
  have HE:=Lib.hid (laid_step' (k:=k) hlen him (by omega) hd)
  have HX:=Lib.hid (HK.out.set k d)
  have hkl:(laid (leB (val l)) n i).length=n:=by
   have:=laid_len (R:=leB (val l)) (i:=i) (by omega)
   rwa [hlen] at this
  have hfr:=HK.out.free k
  have hcl:=HK.out.cell (i:=k) (by omega)
  generalize ((laid (leB (val l)) n i)[k]'(by omega)).toNat=z at *
  rw [hbyte] at HX
  clear hgb hp hq hr ht hk hlen hbyte hd hWr
  go_wp2_with fail
  refine⟨?_,?_⟩
  ·refine⟨i+1,by go_num,by omega,?_,Lib.hid (HW.out.setCell (Nat.le_refl _) _)⟩
   rw [← HE.out]
   have:=HX.out
   rw [show ((y2%256:Nat):Int)=(y2:Int)%256 by omega] at this
   exact Lib.hid this
  ·simp [intOf];omega
 ·have him' : ¬ (i:Int)<(n:Int):=by omega
  have e:i=n:=by omega
  subst e
  have HF:Hid (Byts wr (.slice (some ⟨w1.heap.size,0,none⟩) i i) (bytesOf (val l))):=by
   have h1:=laid_all (leB (val l))
   rw [HL.out] at h1
   have h2:=HK.out
   rw [h1] at h2
   exact h2.byts (by simp [HL.out]) (by simp [HL.out]) (by omega)
  have HB2:Hid (Below W.heap.size W wr):=Lib.hid (hb1.trans (HW.out.mono hb1.size))
  go_wp2_with fail
  exact ret_ok rfl (by exact results_tmp' rfl rfl) ⟨_,rfl,HF.out,HB2.out⟩
end Go.Proofs.YtcdbmjnipaochaaGreat
namespace Go.Proofs.YtcdbmjnipaochaaGreat
open Go.RowKit Rgn
variable {S:Nat→Prop} {W:World}
theorem bMul{z:Nat}{v1 v2:Value}(x y:Int)(hz:IntBlk W z)(t1:(IntP x).p S v1 W)(t2:(IntP y).p S v2 W)(p0:hi x+hi y≤1099511627776):Calls Tryz.prog 221 #[.pointer (some ⟨z,0,none⟩),v1,v2] W (RetOwn z (IntO (x*y)) W):=by
 have hS_:∃ S' : Nat→Prop,S' z∧(IntP x).p S' v1 W∧(IntP y).p S' v2 W:=⟨fun k=>S k∨k=z,.inr rfl,(IntP x).mono (fun _ _ h=>.inl h) t1,(IntP y).mono (fun _ _ h=>.inl h) t2⟩
 clear t1 t2
 obtain⟨S,L_z,t1,t2⟩:=hS_
 replace L_z:Amb S W z:=.inl L_z
 obtain⟨z_0,z_1,B_z⟩:=hz
 obtain⟨b1,ob1,rfl,L1,F1⟩:=IntP.elim t1
 replace L1:Amb S W b1:=.inl L1
 obtain⟨b2,ob2,rfl,L2,F2⟩:=IntP.elim t2
 replace L2:Amb S W b2:=.inl L2
 have q0:=hi_bl x
 have q1:=hi_bl y
 have bel:Only z W W:=Only.refl _ _
 go_enter Tryz.func221,Tryz.ntmps221
 refine gs 1 (Amb S W) fun _ K3=>?_
 refine .mc rfl ?_
 refine .dg (fun u=>pt z::.pointer (some ⟨b1,ob1,none⟩)::.pointer (some ⟨b2,ob2,none⟩)::U::U::U::u 0::us 20) K3 bel.size fun u1 w1 D=>?_
 have E1_0:=D.q 0
 replace B_z:=D.k B_z
 replace F1:=D.o L1 F1
 replace F2:=D.o L2 F2
 replace bel:=D.d.base.only0 bel
 clear D
 refine wp_seq_k fun _ K4=>?_
 refine go2_drawnT (by kernel_rfl) 19 2 rfl (by decide) (by kernel_rfl) (Amb S W) [] [] (Olds.nil _) (by kernel_rfl) ?_
 refine .mz rfl 0 (V:=pt z) rfl ?_
 refine .mz rfl 1 (V:=.pointer (some ⟨b1,ob1,none⟩)) rfl ?_
 refine .nc rfl 1 ?_
 refine .fj rfl 2 ob1 ?_
 refine .e rfl (V:=.bool (decide (x<0))) (fun H=>by have e10:=H.g 10 3;have c1:=IntP.c0 (k:=ob1) (VP.any _ (H.was _ [] (VP.at F1 L1))) rfl;clear H;go_simp) ?_
 refine .mz rfl 2 (V:=.pointer (some ⟨b2,ob2,none⟩)) rfl ?_
 refine .nc rfl 5 ?_
 refine .fj rfl 6 ob2 ?_
 refine .e rfl (V:=.bool (decide (y<0))) (fun H=>by have e14:=H.g 14 7;have c1:=IntP.c0 (k:=ob2) (VP.any _ (H.was _ [] (VP.at F2 L2))) rfl;clear H;go_simp) ?_
 refine .e rfl (V:=.bool ((decide (x<0)) != (decide (y<0)))) (fun H=>x_bne (H.g 11 4) (H.g 15 8)) ?_
 refine .mz rfl 1 (V:=.pointer (some ⟨b1,ob1,none⟩)) rfl ?_
 refine .nc rfl 10 ?_
 refine .fj rfl 11 (ob1+1) ?_
 refine Go2.fn (i:=13) rfl (G0 rfl) (.val 13 [] (MagP x.natAbs)) (fun u μ ρ H=>by have e19:=H.g 19 12;obtain⟨v_,c1,hm_⟩:=IntP.c1 (k:=ob1+1) (VP.any _ (H.was _ [] (VP.at F1 L1))) rfl;exact⟨v_,by clear H hm_;go_simp,SP.magVal hm_⟩) ?_
 refine .mz rfl 2 (V:=.pointer (some ⟨b2,ob2,none⟩)) rfl ?_
 refine .nc rfl 14 ?_
 refine .fj rfl 15 (ob2+1) ?_
 refine Go2.fn (i:=17) rfl (G0 rfl) (.val 17 [] (MagP y.natAbs)) (fun u μ ρ H=>by have e23:=H.g 23 16;obtain⟨v_,c1,hm_⟩:=IntP.c1 (k:=ob2+1) (VP.any _ (H.was _ [] (VP.at F2 L2))) rfl;exact⟨v_,by clear H hm_;go_simp,SP.magVal hm_⟩) ?_
 refine .cR rfl [13,17] Tryz.func291 (fun H=>⟨_,ar2 (H.r 20 13) (H.r 24 17),bProduct _ _ (SV.sub [13,17] (H.a 13 rfl) rfl) (SV.sub [13,17] (H.a 17 rfl) rfl) (by omega) (by omega)⟩) ?_
 refine .dT (fun u=>pt z::.pointer (some ⟨b1,ob1,none⟩)::.pointer (some ⟨b2,ob2,none⟩)::U::U::U::u 20::sq u 0 20 []) bel.size _ rfl fun u2 w2 D=>?_
 obtain⟨x5,E2_18,F_x5⟩:∃ x_,(u2 18).v=x_∧(RawP (x.natAbs*y.natAbs)).p (Amb S W) x_ w2:=⟨_,rfl,D.rr 18⟩
 have E2_0:=D.q 0
 have E2_9:=D.q 9
 replace B_z:=D.k B_z
 replace bel:=D.d.base.only0 bel
 clear D
 refine wpT_callO (args:=#[pt z,.bool ((decide (x<0)) != (decide (y<0))),x5]) rfl (ex_call rfl rfl Tryz.func279 (by kernel_rfl) (by kernel_rfl) (by simp only [List.map_toArray,List.map_cons,List.map_nil];show #[(u2 0).v,(u2 9).v,(u2 18).v]=#[pt z,.bool ((decide (x<0)) != (decide (y<0))),x5];rw [E2_0,E2_9,E2_18])) (bIs (z:=z) (neg:=((decide (x<0)) != (decide (y<0)))) (n:=x.natAbs*y.natAbs) (IntBlk.of B_z) (VP.any _ F_x5) ) fun w6 fw6 ow6=>?_
 have sw6:Soft w2 z∨Local w2 z:=.inl ⟨_,_,B_z,rfl⟩
 replace F_x5:(RawP (x.natAbs*y.natAbs)).p (Amb S W) x5 w6:=(RawP (x.natAbs*y.natAbs)).grow (S:=fun _=>False) (Rgn.Only.growF ow6 sw6) F_x5
 have F_z:=fw6
 replace bel:=bel.trans ow6
 refine wpT_val rfl (ex_assign rfl) ?_
 refine wpList_nil ?_
 show _
 refine K4 _ _ ?_
 refine wp_ret ?_
 refine ret_ok rfl (by exact results_tmp' rfl rfl) ⟨rfl,?_,bel⟩
 exact into_eq (sgn_times x y) F_z
theorem bSign{v0:Value}(x:Int)(t0:(IntP x).p S v0 W):Calls Tryz.prog 220 #[v0] W (RetV (.int .i64 x.sign) W):=by
 obtain⟨b1,ob1,rfl,L1,F1⟩:=IntP.elim t0
 replace L1:Amb S W b1:=.inl L1
 have bel:=b0 W
 go_enter Tryz.func220,Tryz.ntmps220
 refine gs 1 (Amb S W) fun _ K2=>?_
 refine .mc rfl ?_
 refine .dk (fun u=>.pointer (some ⟨b1,ob1,none⟩)::U::u 0::us 12) K2 bel fun u1 w1 D bel=>?_
 have E1_0:=D.q 0
 replace F1:=D.o L1 F1
 clear D
 refine wp_seq_k fun _ K3=>?_
 refine wp_block ?_
 refine gs 7 (Amb S W) fun _ K4=>?_
 refine .mz rfl 0 (V:=.pointer (some ⟨b1,ob1,none⟩)) rfl ?_
 refine .nc rfl 0 ?_
 refine .fj rfl 1 (ob1+1) ?_
 refine Go2.fn (i:=3) rfl (G0 rfl) (.val 3 [] (MagP x.natAbs)) (fun u μ ρ H=>by have e6:=H.g 6 2;obtain⟨v_,c1,hm_⟩:=IntP.c1 (k:=ob1+1) (VP.any _ (H.was _ [] (VP.at F1 L1))) rfl;exact⟨v_,by clear H hm_;go_simp,SP.magVal hm_⟩) ?_
 refine Go2.fn (i:=4) rfl (G0 rfl) (.val 4 [] (LenP x.natAbs)) (fun u μ ρ H=>by have e7:=H.r 7 3;obtain⟨p_,m_,c_,hv_,hz_,hy_⟩:=Mag.open (show Mag _ _ _ from (H.a 3 rfl));rw [hv_] at e7;exact⟨_,by clear H;go_simp,SP.lenVal hz_⟩) ?_
 refine Go2.eq (i:=5) rfl (G0 rfl) (V:=.bool (decide (x.natAbs=0))) (by intro u μ ρ H;have e8:=H.r 8 4;have k1:=H.c (.int .i64 0);obtain⟨m_,hm_,z0_⟩:=(show ∃ m:Nat,_=Value.int .i64 m∧_ from (H.a 4 rfl));rw [hm_] at e8;clear H;(try generalize (x.natAbs)=n_ at *);go_simp<;>first|(simp_all;done)|omega|exact len_gt z0_|exact len_eq z0_) ?_
 refine .mv rfl 5 ?_
 refine .dk (fun u=>.pointer (some ⟨b1,ob1,none⟩)::U::u1 0::u 6::sq u 0 6 (us 5)) K4 bel fun u2 w2 D bel=>?_
 have E2_6:=D.q 6
 replace F1:=D.o L1 F1
 clear D
 rcases Bool.eq_false_or_eq_true (decide (x.natAbs=0)) with c5|c5
 ·
  refine wp_cond_true ((E2_6).trans (congrArg Value.bool c5)) ?_
  have dc5:=of_decide_eq_true c5
  refine gs 1 (Amb S W) fun _ K6=>?_
  refine .mc rfl ?_
  refine .dk (fun u=>.pointer (some ⟨b1,ob1,none⟩)::U::u 0::u2 6::sq u2 0 6 (us 5)) K6 bel fun u3 w3 D bel=>?_
  have E3_0:=D.q 0
  clear D
  exact wp_ret (rt rfl E3_0 (sign_0 dc5) bel)
 ·
  refine wp_cond_false ((E2_6).trans (congrArg Value.bool c5)) ?_
  have dc5:=of_decide_eq_false c5
  refine gs 5 (Amb S W) fun _ K7=>?_
  refine .mz rfl 0 (V:=.pointer (some ⟨b1,ob1,none⟩)) rfl ?_
  refine .nc rfl 0 ?_
  refine .fj rfl 1 ob1 ?_
  refine .e rfl (V:=.bool (decide (x<0))) (fun H=>by have e13:=H.g 13 2;have c1:=IntP.c0 (k:=ob1) (VP.any _ (H.was _ [] (VP.at F1 L1))) rfl;clear H;go_simp) ?_
  refine .mv rfl 3 ?_
  refine .dk (fun u=>.pointer (some ⟨b1,ob1,none⟩)::U::u1 0::u2 6::sq u2 0 6 (u 4::sq u 0 4 [])) K7 bel fun u4 w4 D bel=>?_
  have E4_4:=D.q 4
  clear D
  rcases Bool.eq_false_or_eq_true (decide (x<0)) with c8|c8
  ·
   refine wp_cond_true ((E4_4).trans (congrArg Value.bool c8)) ?_
   have dc8:=of_decide_eq_true c8
   refine gs 1 (Amb S W) fun _ K9=>?_
   refine .mc rfl ?_
   refine .dk (fun u=>.pointer (some ⟨b1,ob1,none⟩)::U::u 0::u2 6::sq u2 0 6 (u4 4::sq u4 0 4 [])) K9 bel fun u5 w5 D bel=>?_
   have E5_0:=D.q 0
   clear D
   exact wp_ret (rt rfl E5_0 (sign_n dc8) bel)
  ·
   refine wp_cond_false ((E4_4).trans (congrArg Value.bool c8)) ?_
   have dc8:=of_decide_eq_false c8
   refine wp_skip ?_
   refine inBlock_normal ?_
   refine K3 _ _ ?_
   refine gs 1 (Amb S W) fun _ K10=>?_
   refine .mc rfl ?_
   refine .dk (fun u=>.pointer (some ⟨b1,ob1,none⟩)::U::u 0::u2 6::sq u2 0 6 (u4 4::sq u4 0 4 [])) K10 bel fun u6 w6 D bel=>?_
   have E6_0:=D.q 0
   clear D
   exact wp_ret (rt rfl E6_0 (sign_p dc5 dc8) bel)
theorem bCmp{v0 v1:Value}(x y:Int)(t0:(IntP x).p S v0 W)(t1:(IntP y).p S v1 W)(p0:hi x+hi y≤1099511627776):Calls Tryz.prog 210 #[v0,v1] W (RetV (.int .i64 (icmp x y)) W):=by
 obtain⟨b1,ob1,rfl,L1,F1⟩:=IntP.elim t0
 replace L1:Amb S W b1:=.inl L1
 obtain⟨b2,ob2,rfl,L2,F2⟩:=IntP.elim t1
 replace L2:Amb S W b2:=.inl L2
 have q0:=hi_bl x
 have q1:=hi_bl y
 have bel:=b0 W
 go_enter Tryz.func210,Tryz.ntmps210
 rcases Bool.eq_false_or_eq_true (decide (x<0)) with c3|c3
 ·
  have dc3:=of_decide_eq_true c3
  rcases Bool.eq_false_or_eq_true (decide (y<0)) with c4|c4
  ·
   have dc4:=of_decide_eq_true c4
   refine gs 1 (Amb S W) fun _ K5=>?_
   refine .mc rfl ?_
   refine .dk (fun u=>.pointer (some ⟨b1,ob1,none⟩)::.pointer (some ⟨b2,ob2,none⟩)::U::U::u 0::us 39) K5 bel fun u1 w1 D bel=>?_
   have E1_0:=D.q 0
   replace F1:=D.o L1 F1
   replace F2:=D.o L2 F2
   clear D
   refine wp_seq_k fun _ K6=>?_
   refine wp_block ?_
   refine gs 11 (Amb S W) fun _ K7=>?_
   refine .mz rfl 0 (V:=.pointer (some ⟨b1,ob1,none⟩)) rfl ?_
   refine .nc rfl 0 ?_
   refine .fj rfl 1 ob1 ?_
   refine .e rfl (V:=.bool true) (fun H=>by have e8:=H.g 8 2;have c1:=IntP.c0 (k:=ob1) (VP.any _ (H.was _ [] (VP.at F1 L1))) rfl;have k_:=c3;clear H;go_simp) ?_
   refine .mv rfl 3 ?_
   refine .mz rfl 1 (V:=.pointer (some ⟨b2,ob2,none⟩)) rfl ?_ (hg:=gq 4 rfl)
   refine .nc rfl 5 ?_ (hg:=gq 4 rfl)
   refine .fj rfl 6 ob2 ?_ (hg:=gq 4 rfl)
   refine .e rfl (V:=.bool true) (fun H=>by have e13:=H.g 13 7;have c1:=IntP.c0 (k:=ob2) (VP.any _ (H.was _ [] (VP.at F2 L2))) rfl;have k_:=c4;clear H;go_simp) ?_ (hg:=gq 4 rfl)
   refine .e rfl (fun H=>x_pkT (H.g 10 4) (H.g 14 8)) ?_
   refine .mv rfl 9 ?_
   refine .dk (fun u=>.pointer (some ⟨b1,ob1,none⟩)::.pointer (some ⟨b2,ob2,none⟩)::U::U::u1 0::u 10::sq u 0 10 (us 28)) K7 bel fun u2 w2 D bel=>?_
   have E2_10:=D.q 10
   replace F1:=D.o L1 F1
   replace F2:=D.o L2 F2
   clear D
   refine wp_cond_true (by exact E2_10) ?_
   refine gd 10 (Amb S W) fun _ K8=>?_
   refine .mz rfl 1 (V:=.pointer (some ⟨b2,ob2,none⟩)) rfl ?_
   refine .nc rfl 0 ?_
   refine .fj rfl 1 (ob2+1) ?_
   refine Go2.fn (i:=3) rfl (G0 rfl) (.val 3 [] (MagP y.natAbs)) (fun u μ ρ H=>by have e18:=H.g 18 2;obtain⟨v_,c1,hm_⟩:=IntP.c1 (k:=ob2+1) (VP.any _ (H.was _ [] (VP.at F2 L2))) rfl;exact⟨v_,by clear H hm_;go_simp,SP.magVal hm_⟩) ?_
   refine .mz rfl 0 (V:=.pointer (some ⟨b1,ob1,none⟩)) rfl ?_
   refine .nc rfl 4 ?_
   refine .fj rfl 5 (ob1+1) ?_
   refine Go2.fn (i:=7) rfl (G0 rfl) (.val 7 [] (MagP x.natAbs)) (fun u μ ρ H=>by have e22:=H.g 22 6;obtain⟨v_,c1,hm_⟩:=IntP.c1 (k:=ob1+1) (VP.any _ (H.was _ [] (VP.at F1 L1))) rfl;exact⟨v_,by clear H hm_;go_simp,SP.magVal hm_⟩) ?_
   refine .cK rfl Tryz.func255 (fun H=>⟨_,ar2 (H.r 19 3) (H.r 23 7),bUnder _ _ (SV.any (H.a 3 rfl)) (SV.any (H.a 7 rfl))⟩) ?_
   refine .mv rfl 8 ?_
   refine .dk (fun u=>.pointer (some ⟨b1,ob1,none⟩)::.pointer (some ⟨b2,ob2,none⟩)::U::U::u 9::u2 10::sq u2 0 10 (sq u 0 9 (us 19))) K8 bel fun u3 w3 D bel=>?_
   have E3_9:=D.q 9
   clear D
   exact wp_ret (rt rfl E3_9 (icmp_nn dc3 dc4) bel)
  ·
   have dc4:=of_decide_eq_false c4
   refine gs 1 (Amb S W) fun _ K9=>?_
   refine .mc rfl ?_
   refine .dk (fun u=>.pointer (some ⟨b1,ob1,none⟩)::.pointer (some ⟨b2,ob2,none⟩)::U::U::u 0::us 39) K9 bel fun u1 w1 D bel=>?_
   have E1_0:=D.q 0
   replace F1:=D.o L1 F1
   replace F2:=D.o L2 F2
   clear D
   refine wp_seq_k fun _ K10=>?_
   refine wp_block ?_
   refine gs 11 (Amb S W) fun _ K11=>?_
   refine .mz rfl 0 (V:=.pointer (some ⟨b1,ob1,none⟩)) rfl ?_
   refine .nc rfl 0 ?_
   refine .fj rfl 1 ob1 ?_
   refine .e rfl (V:=.bool true) (fun H=>by have e8:=H.g 8 2;have c1:=IntP.c0 (k:=ob1) (VP.any _ (H.was _ [] (VP.at F1 L1))) rfl;have k_:=c3;clear H;go_simp) ?_
   refine .mv rfl 3 ?_
   refine .mz rfl 1 (V:=.pointer (some ⟨b2,ob2,none⟩)) rfl ?_ (hg:=gq 4 rfl)
   refine .nc rfl 5 ?_ (hg:=gq 4 rfl)
   refine .fj rfl 6 ob2 ?_ (hg:=gq 4 rfl)
   refine .e rfl (V:=.bool false) (fun H=>by have e13:=H.g 13 7;have c1:=IntP.c0 (k:=ob2) (VP.any _ (H.was _ [] (VP.at F2 L2))) rfl;have k_:=c4;clear H;go_simp) ?_ (hg:=gq 4 rfl)
   refine .e rfl (fun H=>x_pkT (H.g 10 4) (H.g 14 8)) ?_
   refine .mv rfl 9 ?_
   refine .dk (fun u=>.pointer (some ⟨b1,ob1,none⟩)::.pointer (some ⟨b2,ob2,none⟩)::U::U::u1 0::u 10::sq u 0 10 (us 28)) K11 bel fun u2 w2 D bel=>?_
   have E2_10:=D.q 10
   replace F1:=D.o L1 F1
   replace F2:=D.o L2 F2
   clear D
   refine wp_cond_false (by exact E2_10) ?_
   refine gs 5 (Amb S W) fun _ K12=>?_
   refine .mz rfl 0 (V:=.pointer (some ⟨b1,ob1,none⟩)) rfl ?_
   refine .nc rfl 0 ?_
   refine .fj rfl 1 ob1 ?_
   refine .e rfl (V:=.bool true) (fun H=>by have e28:=H.g 28 2;have c1:=IntP.c0 (k:=ob1) (VP.any _ (H.was _ [] (VP.at F1 L1))) rfl;have k_:=c3;clear H;go_simp) ?_
   refine .mv rfl 3 ?_
   refine .dk (fun u=>.pointer (some ⟨b1,ob1,none⟩)::.pointer (some ⟨b2,ob2,none⟩)::U::U::u1 0::u2 10::sq u2 0 10 (U::U::U::U::U::U::U::U::U::u 4::sq u 0 4 (us 14))) K12 bel fun u3 w3 D bel=>?_
   have E3_4:=D.q 4
   replace F1:=D.o L1 F1
   replace F2:=D.o L2 F2
   clear D
   refine wp_cond_true (by exact E3_4) ?_
   refine gs 1 (Amb S W) fun _ K13=>?_
   refine .mc rfl ?_
   refine .dk (fun u=>.pointer (some ⟨b1,ob1,none⟩)::.pointer (some ⟨b2,ob2,none⟩)::U::U::u 0::u2 10::sq u2 0 10 (U::U::U::U::U::U::U::U::U::u3 4::sq u3 0 4 (us 14))) K13 bel fun u4 w4 D bel=>?_
   have E4_0:=D.q 0
   clear D
   exact wp_ret (rt rfl E4_0 (icmp_np dc3 dc4) bel)
 ·
  have dc3:=of_decide_eq_false c3
  rcases Bool.eq_false_or_eq_true (decide (y<0)) with c14|c14
  ·
   have dc14:=of_decide_eq_true c14
   refine gs 1 (Amb S W) fun _ K15=>?_
   refine .mc rfl ?_
   refine .dk (fun u=>.pointer (some ⟨b1,ob1,none⟩)::.pointer (some ⟨b2,ob2,none⟩)::U::U::u 0::us 39) K15 bel fun u1 w1 D bel=>?_
   have E1_0:=D.q 0
   replace F1:=D.o L1 F1
   replace F2:=D.o L2 F2
   clear D
   refine wp_seq_k fun _ K16=>?_
   refine wp_block ?_
   refine gs 11 (Amb S W) fun _ K17=>?_
   refine .mz rfl 0 (V:=.pointer (some ⟨b1,ob1,none⟩)) rfl ?_
   refine .nc rfl 0 ?_
   refine .fj rfl 1 ob1 ?_
   refine .e rfl (V:=.bool false) (fun H=>by have e8:=H.g 8 2;have c1:=IntP.c0 (k:=ob1) (VP.any _ (H.was _ [] (VP.at F1 L1))) rfl;have k_:=c3;clear H;go_simp) ?_
   refine .mv rfl 3 ?_
   refine .sk rfl 4 ?_
   refine .sk rfl 4 ?_
   refine .sk rfl 4 ?_
   refine .sk rfl 4 ?_
   refine .e rfl (fun H=>x_pkF (H.g 10 4) (H.c _)) ?_
   refine .mv rfl 9 ?_
   refine .dk (fun u=>.pointer (some ⟨b1,ob1,none⟩)::.pointer (some ⟨b2,ob2,none⟩)::U::U::u1 0::u 10::sq u 0 10 (us 28)) K17 bel fun u2 w2 D bel=>?_
   have E2_10:=D.q 10
   replace F1:=D.o L1 F1
   replace F2:=D.o L2 F2
   clear D
   refine wp_cond_false (by exact E2_10) ?_
   refine gs 5 (Amb S W) fun _ K18=>?_
   refine .mz rfl 0 (V:=.pointer (some ⟨b1,ob1,none⟩)) rfl ?_
   refine .nc rfl 0 ?_
   refine .fj rfl 1 ob1 ?_
   refine .e rfl (V:=.bool false) (fun H=>by have e28:=H.g 28 2;have c1:=IntP.c0 (k:=ob1) (VP.any _ (H.was _ [] (VP.at F1 L1))) rfl;have k_:=c3;clear H;go_simp) ?_
   refine .mv rfl 3 ?_
   refine .dk (fun u=>.pointer (some ⟨b1,ob1,none⟩)::.pointer (some ⟨b2,ob2,none⟩)::U::U::u1 0::u2 10::sq u2 0 10 (U::U::U::U::U::U::U::U::U::u 4::sq u 0 4 (us 14))) K18 bel fun u3 w3 D bel=>?_
   have E3_4:=D.q 4
   replace F1:=D.o L1 F1
   replace F2:=D.o L2 F2
   clear D
   refine wp_cond_false (by exact E3_4) ?_
   refine gs 5 (Amb S W) fun _ K19=>?_
   refine .mz rfl 1 (V:=.pointer (some ⟨b2,ob2,none⟩)) rfl ?_
   refine .nc rfl 0 ?_
   refine .fj rfl 1 ob2 ?_
   refine .e rfl (V:=.bool true) (fun H=>by have e33:=H.g 33 2;have c1:=IntP.c0 (k:=ob2) (VP.any _ (H.was _ [] (VP.at F2 L2))) rfl;have k_:=c14;clear H;go_simp) ?_
   refine .mv rfl 3 ?_
   refine .dk (fun u=>.pointer (some ⟨b1,ob1,none⟩)::.pointer (some ⟨b2,ob2,none⟩)::U::U::u1 0::u2 10::sq u2 0 10 (U::U::U::U::U::U::U::U::U::u3 4::sq u3 0 4 (u 4::sq u 0 4 (us 9)))) K19 bel fun u4 w4 D bel=>?_
   have E4_4:=D.q 4
   replace F1:=D.o L1 F1
   replace F2:=D.o L2 F2
   clear D
   refine wp_cond_true (by exact E4_4) ?_
   refine gs 1 (Amb S W) fun _ K20=>?_
   refine .mc rfl ?_
   refine .dk (fun u=>.pointer (some ⟨b1,ob1,none⟩)::.pointer (some ⟨b2,ob2,none⟩)::U::U::u 0::u2 10::sq u2 0 10 (U::U::U::U::U::U::U::U::U::u3 4::sq u3 0 4 (u4 4::sq u4 0 4 (us 9)))) K20 bel fun u5 w5 D bel=>?_
   have E5_0:=D.q 0
   clear D
   exact wp_ret (rt rfl E5_0 (icmp_pn dc3 dc14) bel)
  ·
   have dc14:=of_decide_eq_false c14
   refine gs 1 (Amb S W) fun _ K21=>?_
   refine .mc rfl ?_
   refine .dk (fun u=>.pointer (some ⟨b1,ob1,none⟩)::.pointer (some ⟨b2,ob2,none⟩)::U::U::u 0::us 39) K21 bel fun u1 w1 D bel=>?_
   have E1_0:=D.q 0
   replace F1:=D.o L1 F1
   replace F2:=D.o L2 F2
   clear D
   refine wp_seq_k fun _ K22=>?_
   refine wp_block ?_
   refine gs 11 (Amb S W) fun _ K23=>?_
   refine .mz rfl 0 (V:=.pointer (some ⟨b1,ob1,none⟩)) rfl ?_
   refine .nc rfl 0 ?_
   refine .fj rfl 1 ob1 ?_
   refine .e rfl (V:=.bool false) (fun H=>by have e8:=H.g 8 2;have c1:=IntP.c0 (k:=ob1) (VP.any _ (H.was _ [] (VP.at F1 L1))) rfl;have k_:=c3;clear H;go_simp) ?_
   refine .mv rfl 3 ?_
   refine .sk rfl 4 ?_
   refine .sk rfl 4 ?_
   refine .sk rfl 4 ?_
   refine .sk rfl 4 ?_
   refine .e rfl (fun H=>x_pkF (H.g 10 4) (H.c _)) ?_
   refine .mv rfl 9 ?_
   refine .dk (fun u=>.pointer (some ⟨b1,ob1,none⟩)::.pointer (some ⟨b2,ob2,none⟩)::U::U::u1 0::u 10::sq u 0 10 (us 28)) K23 bel fun u2 w2 D bel=>?_
   have E2_10:=D.q 10
   replace F1:=D.o L1 F1
   replace F2:=D.o L2 F2
   clear D
   refine wp_cond_false (by exact E2_10) ?_
   refine gs 5 (Amb S W) fun _ K24=>?_
   refine .mz rfl 0 (V:=.pointer (some ⟨b1,ob1,none⟩)) rfl ?_
   refine .nc rfl 0 ?_
   refine .fj rfl 1 ob1 ?_
   refine .e rfl (V:=.bool false) (fun H=>by have e28:=H.g 28 2;have c1:=IntP.c0 (k:=ob1) (VP.any _ (H.was _ [] (VP.at F1 L1))) rfl;have k_:=c3;clear H;go_simp) ?_
   refine .mv rfl 3 ?_
   refine .dk (fun u=>.pointer (some ⟨b1,ob1,none⟩)::.pointer (some ⟨b2,ob2,none⟩)::U::U::u1 0::u2 10::sq u2 0 10 (U::U::U::U::U::U::U::U::U::u 4::sq u 0 4 (us 14))) K24 bel fun u3 w3 D bel=>?_
   have E3_4:=D.q 4
   replace F1:=D.o L1 F1
   replace F2:=D.o L2 F2
   clear D
   refine wp_cond_false (by exact E3_4) ?_
   refine gs 5 (Amb S W) fun _ K25=>?_
   refine .mz rfl 1 (V:=.pointer (some ⟨b2,ob2,none⟩)) rfl ?_
   refine .nc rfl 0 ?_
   refine .fj rfl 1 ob2 ?_
   refine .e rfl (V:=.bool false) (fun H=>by have e33:=H.g 33 2;have c1:=IntP.c0 (k:=ob2) (VP.any _ (H.was _ [] (VP.at F2 L2))) rfl;have k_:=c14;clear H;go_simp) ?_
   refine .mv rfl 3 ?_
   refine .dk (fun u=>.pointer (some ⟨b1,ob1,none⟩)::.pointer (some ⟨b2,ob2,none⟩)::U::U::u1 0::u2 10::sq u2 0 10 (U::U::U::U::U::U::U::U::U::u3 4::sq u3 0 4 (u 4::sq u 0 4 (us 9)))) K25 bel fun u4 w4 D bel=>?_
   have E4_4:=D.q 4
   replace F1:=D.o L1 F1
   replace F2:=D.o L2 F2
   clear D
   refine wp_cond_false (by exact E4_4) ?_
   refine wp_skip ?_
   refine inBlock_normal ?_
   refine K22 _ _ ?_
   refine gd 10 (Amb S W) fun _ K26=>?_
   refine .mz rfl 0 (V:=.pointer (some ⟨b1,ob1,none⟩)) rfl ?_
   refine .nc rfl 0 ?_
   refine .fj rfl 1 (ob1+1) ?_
   refine Go2.fn (i:=3) rfl (G0 rfl) (.val 3 [] (MagP x.natAbs)) (fun u μ ρ H=>by have e37:=H.g 37 2;obtain⟨v_,c1,hm_⟩:=IntP.c1 (k:=ob1+1) (VP.any _ (H.was _ [] (VP.at F1 L1))) rfl;exact⟨v_,by clear H hm_;go_simp,SP.magVal hm_⟩) ?_
   refine .mz rfl 1 (V:=.pointer (some ⟨b2,ob2,none⟩)) rfl ?_
   refine .nc rfl 4 ?_
   refine .fj rfl 5 (ob2+1) ?_
   refine Go2.fn (i:=7) rfl (G0 rfl) (.val 7 [] (MagP y.natAbs)) (fun u μ ρ H=>by have e41:=H.g 41 6;obtain⟨v_,c1,hm_⟩:=IntP.c1 (k:=ob2+1) (VP.any _ (H.was _ [] (VP.at F2 L2))) rfl;exact⟨v_,by clear H hm_;go_simp,SP.magVal hm_⟩) ?_
   refine .cK rfl Tryz.func255 (fun H=>⟨_,ar2 (H.r 38 3) (H.r 42 7),bUnder _ _ (SV.any (H.a 3 rfl)) (SV.any (H.a 7 rfl))⟩) ?_
   refine .mv rfl 8 ?_
   refine .dk (fun u=>.pointer (some ⟨b1,ob1,none⟩)::.pointer (some ⟨b2,ob2,none⟩)::U::U::u 9::u2 10::sq u2 0 10 (U::U::U::U::U::U::U::U::U::u3 4::sq u3 0 4 (u4 4::sq u4 0 4 (sq u 0 9 [])))) K26 bel fun u5 w5 D bel=>?_
   have E5_9:=D.q 9
   clear D
   exact wp_ret (rt rfl E5_9 (icmp_pp dc3 dc14) bel)
theorem badd{z:Nat}{v1 v2:Value}(x y:Int)(s:Bool)(hz:IntBlk W z)(t1:(IntP x).p S v1 W)(t2:(IntP y).p S v2 W)(p0:hi x+hi y≤1099511627776):Calls Tryz.prog 257 #[.pointer (some ⟨z,0,none⟩),v1,v2,.bool s] W (RetOwn z (IntO (x+sgn s y.natAbs)) W):=by
 have hS_:∃ S' : Nat→Prop,S' z∧(IntP x).p S' v1 W∧(IntP y).p S' v2 W:=⟨fun k=>S k∨k=z,.inr rfl,(IntP x).mono (fun _ _ h=>.inl h) t1,(IntP y).mono (fun _ _ h=>.inl h) t2⟩
 clear t1 t2
 obtain⟨S,L_z,t1,t2⟩:=hS_
 replace L_z:Amb S W z:=.inl L_z
 obtain⟨z_0,z_1,B_z⟩:=hz
 obtain⟨b1,ob1,rfl,L1,F1⟩:=IntP.elim t1
 replace L1:Amb S W b1:=.inl L1
 obtain⟨b2,ob2,rfl,L2,F2⟩:=IntP.elim t2
 replace L2:Amb S W b2:=.inl L2
 have q0:=hi_bl x
 have q1:=hi_bl y
 have bel:Only z W W:=Only.refl _ _
 go_enter Tryz.func257,Tryz.ntmps257
 refine gs 1 (Amb S W) fun _ K3=>?_
 refine .mc rfl ?_
 refine .dg (fun u=>pt z::.pointer (some ⟨b1,ob1,none⟩)::.pointer (some ⟨b2,ob2,none⟩)::.bool s::U::U::U::U::u 0::us 57) K3 bel.size fun u1 w1 D=>?_
 have E1_0:=D.q 0
 replace B_z:=D.k B_z
 replace F1:=D.o L1 F1
 replace F2:=D.o L2 F2
 replace bel:=D.d.base.only0 bel
 clear D
 refine wp_seq_k fun _ K4=>?_
 refine wp_block ?_
 refine gs 7 (Amb S W) fun _ K5=>?_
 refine .mz rfl 1 (V:=.pointer (some ⟨b1,ob1,none⟩)) rfl ?_
 refine .nc rfl 0 ?_
 refine .fj rfl 1 ob1 ?_
 refine .e rfl (V:=.bool (decide (x<0))) (fun H=>by have e12:=H.g 12 2;have c1:=IntP.c0 (k:=ob1) (VP.any _ (H.was _ [] (VP.at F1 L1))) rfl;clear H;go_simp) ?_
 refine .mz rfl 3 (V:=.bool s) rfl ?_
 refine .e rfl (V:=.bool ((decide (x<0)) == s)) (fun H=>x_beq (H.g 13 3) (H.g 14 4)) ?_
 refine .mv rfl 5 ?_
 refine .dg (fun u=>pt z::.pointer (some ⟨b1,ob1,none⟩)::.pointer (some ⟨b2,ob2,none⟩)::.bool s::U::U::U::U::u1 0::u 6::sq u 0 6 (us 50)) K5 bel.size fun u2 w2 D=>?_
 have E2_6:=D.q 6
 replace B_z:=D.k B_z
 replace F1:=D.o L1 F1
 replace F2:=D.o L2 F2
 replace bel:=D.d.base.only0 bel
 clear D
 rcases Bool.eq_false_or_eq_true ((decide (x<0)) == s) with c6|c6
 ·
  refine wp_cond_true ((E2_6).trans (congrArg Value.bool c6)) ?_
  refine wp_seq_k fun _ K7=>?_
  refine go2_drawnT (by kernel_rfl) 11 2 rfl (by decide) (by kernel_rfl) (Amb S W) [] [] (Olds.nil _) (by kernel_rfl) ?_
  refine .mz rfl 0 (V:=pt z) rfl ?_
  refine .mz rfl 3 (V:=.bool s) rfl ?_
  refine .mz rfl 1 (V:=.pointer (some ⟨b1,ob1,none⟩)) rfl ?_
  refine .nc rfl 2 ?_
  refine .fj rfl 3 (ob1+1) ?_
  refine Go2.fn (i:=5) rfl (G0 rfl) (.val 5 [] (MagP x.natAbs)) (fun u μ ρ H=>by have e20:=H.g 20 4;obtain⟨v_,c1,hm_⟩:=IntP.c1 (k:=ob1+1) (VP.any _ (H.was _ [] (VP.at F1 L1))) rfl;exact⟨v_,by clear H hm_;go_simp,SP.magVal hm_⟩) ?_
  refine .mz rfl 2 (V:=.pointer (some ⟨b2,ob2,none⟩)) rfl ?_
  refine .nc rfl 6 ?_
  refine .fj rfl 7 (ob2+1) ?_
  refine Go2.fn (i:=9) rfl (G0 rfl) (.val 9 [] (MagP y.natAbs)) (fun u μ ρ H=>by have e24:=H.g 24 8;obtain⟨v_,c1,hm_⟩:=IntP.c1 (k:=ob2+1) (VP.any _ (H.was _ [] (VP.at F2 L2))) rfl;exact⟨v_,by clear H hm_;go_simp,SP.magVal hm_⟩) ?_
  refine .cR rfl [5,9] Tryz.func298 (fun H=>⟨_,ar2 (H.r 21 5) (H.r 25 9),bMore _ _ (SV.sub [5,9] (H.a 5 rfl) rfl) (SV.sub [5,9] (H.a 9 rfl) rfl) (by first|omega|exact cmp3_ge_le dx_x|exact cmp3_nge_le dx_x) (by first|omega|exact cmp3_ge_le dx_x|exact cmp3_nge_le dx_x)⟩) ?_
  refine .dT (fun u=>pt z::.pointer (some ⟨b1,ob1,none⟩)::.pointer (some ⟨b2,ob2,none⟩)::.bool s::U::U::U::U::u 12::u2 6::sq u2 0 6 (sq u 0 12 (us 38))) bel.size _ rfl fun u3 w3 D=>?_
  obtain⟨x8,E3_10,F_x8⟩:∃ x_,(u3 10).v=x_∧(RawP (x.natAbs+y.natAbs)).p (Amb S W) x_ w3:=⟨_,rfl,D.rr 10⟩
  have E3_0:=D.q 0
  have E3_1:=D.q 1
  replace B_z:=D.k B_z
  replace bel:=D.d.base.only0 bel
  clear D
  refine wpT_callO (args:=#[pt z,.bool s,x8]) rfl (ex_call rfl rfl Tryz.func279 (by kernel_rfl) (by kernel_rfl) (by simp only [List.map_toArray,List.map_cons,List.map_nil];show #[(u3 0).v,(u3 1).v,(u3 10).v]=#[pt z,.bool s,x8];rw [E3_0,E3_1,E3_10])) (bIs (z:=z) (neg:=s) (n:=x.natAbs+y.natAbs) (IntBlk.of B_z) (VP.any _ F_x8) ) fun w9 fw9 ow9=>?_
  have sw9:Soft w3 z∨Local w3 z:=.inl ⟨_,_,B_z,rfl⟩
  replace F_x8:(RawP (x.natAbs+y.natAbs)).p (Amb S W) x8 w9:=(RawP (x.natAbs+y.natAbs)).grow (S:=fun _=>False) (Rgn.Only.growF ow9 sw9) F_x8
  have F_z:=fw9
  replace bel:=bel.trans ow9
  refine wpT_val rfl (ex_assign rfl) ?_
  refine wpList_nil ?_
  show _
  refine K7 _ _ ?_
  refine wp_ret ?_
  refine ret_ok rfl (by exact results_tmp' rfl rfl) ⟨rfl,?_,bel⟩
  exact into_eq (add_1 c6) F_z
 ·
  refine wp_cond_false ((E2_6).trans (congrArg Value.bool c6)) ?_
  refine gd 11 (Amb S W) fun _ K10=>?_
  refine .mz rfl 1 (V:=.pointer (some ⟨b1,ob1,none⟩)) rfl ?_
  refine .nc rfl 0 ?_
  refine .fj rfl 1 (ob1+1) ?_
  refine Go2.fn (i:=3) rfl (G0 rfl) (.val 3 [] (MagP x.natAbs)) (fun u μ ρ H=>by have e31:=H.g 31 2;obtain⟨v_,c1,hm_⟩:=IntP.c1 (k:=ob1+1) (VP.any _ (H.was _ [] (VP.at F1 L1))) rfl;exact⟨v_,by clear H hm_;go_simp,SP.magVal hm_⟩) ?_
  refine .mz rfl 2 (V:=.pointer (some ⟨b2,ob2,none⟩)) rfl ?_
  refine .nc rfl 4 ?_
  refine .fj rfl 5 (ob2+1) ?_
  refine Go2.fn (i:=7) rfl (G0 rfl) (.val 7 [] (MagP y.natAbs)) (fun u μ ρ H=>by have e35:=H.g 35 6;obtain⟨v_,c1,hm_⟩:=IntP.c1 (k:=ob2+1) (VP.any _ (H.was _ [] (VP.at F2 L2))) rfl;exact⟨v_,by clear H hm_;go_simp,SP.magVal hm_⟩) ?_
  refine .cK rfl Tryz.func255 (fun H=>⟨_,ar2 (H.r 32 3) (H.r 36 7),bUnder _ _ (SV.any (H.a 3 rfl)) (SV.any (H.a 7 rfl))⟩) ?_
  refine .e rfl (V:=.bool (decide (0≤(cmp3 x.natAbs y.natAbs)))) (fun H=>x_cmp (H.g 37 8) (H.c _)) ?_
  refine .mv rfl 9 ?_
  refine .dg (fun u=>pt z::.pointer (some ⟨b1,ob1,none⟩)::.pointer (some ⟨b2,ob2,none⟩)::.bool s::U::U::U::U::u1 0::u2 6::sq u2 0 6 (U::U::U::U::U::U::U::U::U::U::U::U::u 10::sq u 0 10 (us 27))) K10 bel.size fun u4 w4 D=>?_
  have E4_10:=D.q 10
  replace B_z:=D.k B_z
  replace F1:=D.o L1 F1
  replace F2:=D.o L2 F2
  replace bel:=D.d.base.only0 bel
  clear D
  rcases Bool.eq_false_or_eq_true (decide (0≤(cmp3 x.natAbs y.natAbs))) with c11|c11
  ·
   refine wp_cond_true ((E4_10).trans (congrArg Value.bool c11)) ?_
   have dc11:=of_decide_eq_true c11
   refine wp_seq_k fun _ K12=>?_
   refine go2_drawnT (by kernel_rfl) 14 2 rfl (by decide) (by kernel_rfl) (Amb S W) [] [] (Olds.nil _) (by kernel_rfl) ?_
   refine .mz rfl 0 (V:=pt z) rfl ?_
   refine .mz rfl 1 (V:=.pointer (some ⟨b1,ob1,none⟩)) rfl ?_
   refine .nc rfl 1 ?_
   refine .fj rfl 2 ob1 ?_
   refine .e rfl (V:=.bool (decide (x<0))) (fun H=>by have e42:=H.g 42 3;have c1:=IntP.c0 (k:=ob1) (VP.any _ (H.was _ [] (VP.at F1 L1))) rfl;clear H;go_simp) ?_
   refine .mz rfl 1 (V:=.pointer (some ⟨b1,ob1,none⟩)) rfl ?_
   refine .nc rfl 5 ?_
   refine .fj rfl 6 (ob1+1) ?_
   refine Go2.fn (i:=8) rfl (G0 rfl) (.val 8 [] (MagP x.natAbs)) (fun u μ ρ H=>by have e46:=H.g 46 7;obtain⟨v_,c1,hm_⟩:=IntP.c1 (k:=ob1+1) (VP.any _ (H.was _ [] (VP.at F1 L1))) rfl;exact⟨v_,by clear H hm_;go_simp,SP.magVal hm_⟩) ?_
   refine .mz rfl 2 (V:=.pointer (some ⟨b2,ob2,none⟩)) rfl ?_
   refine .nc rfl 9 ?_
   refine .fj rfl 10 (ob2+1) ?_
   refine Go2.fn (i:=12) rfl (G0 rfl) (.val 12 [] (MagP y.natAbs)) (fun u μ ρ H=>by have e50:=H.g 50 11;obtain⟨v_,c1,hm_⟩:=IntP.c1 (k:=ob2+1) (VP.any _ (H.was _ [] (VP.at F2 L2))) rfl;exact⟨v_,by clear H hm_;go_simp,SP.magVal hm_⟩) ?_
   refine .cR rfl [8,12] Tryz.func299 (fun H=>⟨_,ar2 (H.r 47 8) (H.r 51 12),bLess _ _ (SV.sub [8,12] (H.a 8 rfl) rfl) (SV.sub [8,12] (H.a 12 rfl) rfl) (by first|omega|exact cmp3_ge_le dc11|exact cmp3_nge_le dc11) (by first|omega|exact cmp3_ge_le dc11|exact cmp3_nge_le dc11)⟩) ?_
   refine .dT (fun u=>pt z::.pointer (some ⟨b1,ob1,none⟩)::.pointer (some ⟨b2,ob2,none⟩)::.bool s::U::U::U::U::u 15::u2 6::sq u2 0 6 (U::U::U::U::U::U::U::U::U::U::U::U::u4 10::sq u4 0 10 (sq u 0 15 (us 12)))) bel.size _ rfl fun u5 w5 D=>?_
   obtain⟨x13,E5_13,F_x13⟩:∃ x_,(u5 13).v=x_∧(RawP (x.natAbs-y.natAbs)).p (Amb S W) x_ w5:=⟨_,rfl,D.rr 13⟩
   have E5_0:=D.q 0
   have E5_4:=D.q 4
   replace B_z:=D.k B_z
   replace bel:=D.d.base.only0 bel
   clear D
   refine wpT_callO (args:=#[pt z,.bool (decide (x<0)),x13]) rfl (ex_call rfl rfl Tryz.func279 (by kernel_rfl) (by kernel_rfl) (by simp only [List.map_toArray,List.map_cons,List.map_nil];show #[(u5 0).v,(u5 4).v,(u5 13).v]=#[pt z,.bool (decide (x<0)),x13];rw [E5_0,E5_4,E5_13])) (bIs (z:=z) (neg:=(decide (x<0))) (n:=x.natAbs-y.natAbs) (IntBlk.of B_z) (VP.any _ F_x13) ) fun w14 fw14 ow14=>?_
   have sw14:Soft w5 z∨Local w5 z:=.inl ⟨_,_,B_z,rfl⟩
   replace F_x13:(RawP (x.natAbs-y.natAbs)).p (Amb S W) x13 w14:=(RawP (x.natAbs-y.natAbs)).grow (S:=fun _=>False) (Rgn.Only.growF ow14 sw14) F_x13
   have F_z:=fw14
   replace bel:=bel.trans ow14
   refine wpT_val rfl (ex_assign rfl) ?_
   refine wpList_nil ?_
   show _
   refine K12 _ _ ?_
   refine wp_ret ?_
   refine ret_ok rfl (by exact results_tmp' rfl rfl) ⟨rfl,?_,bel⟩
   exact into_eq (add_2 c6 dc11) F_z
  ·
   refine wp_cond_false ((E4_10).trans (congrArg Value.bool c11)) ?_
   have dc11:=of_decide_eq_false c11
   refine wp_skip ?_
   refine inBlock_normal ?_
   refine K4 _ _ ?_
   refine wp_seq_k fun _ K15=>?_
   refine go2_drawnT (by kernel_rfl) 11 2 rfl (by decide) (by kernel_rfl) (Amb S W) [] [] (Olds.nil _) (by kernel_rfl) ?_
   refine .mz rfl 0 (V:=pt z) rfl ?_
   refine .mz rfl 3 (V:=.bool s) rfl ?_
   refine .mz rfl 2 (V:=.pointer (some ⟨b2,ob2,none⟩)) rfl ?_
   refine .nc rfl 2 ?_
   refine .fj rfl 3 (ob2+1) ?_
   refine Go2.fn (i:=5) rfl (G0 rfl) (.val 5 [] (MagP y.natAbs)) (fun u μ ρ H=>by have e58:=H.g 58 4;obtain⟨v_,c1,hm_⟩:=IntP.c1 (k:=ob2+1) (VP.any _ (H.was _ [] (VP.at F2 L2))) rfl;exact⟨v_,by clear H hm_;go_simp,SP.magVal hm_⟩) ?_
   refine .mz rfl 1 (V:=.pointer (some ⟨b1,ob1,none⟩)) rfl ?_
   refine .nc rfl 6 ?_
   refine .fj rfl 7 (ob1+1) ?_
   refine Go2.fn (i:=9) rfl (G0 rfl) (.val 9 [] (MagP x.natAbs)) (fun u μ ρ H=>by have e62:=H.g 62 8;obtain⟨v_,c1,hm_⟩:=IntP.c1 (k:=ob1+1) (VP.any _ (H.was _ [] (VP.at F1 L1))) rfl;exact⟨v_,by clear H hm_;go_simp,SP.magVal hm_⟩) ?_
   refine .cR rfl [5,9] Tryz.func299 (fun H=>⟨_,ar2 (H.r 59 5) (H.r 63 9),bLess _ _ (SV.sub [5,9] (H.a 5 rfl) rfl) (SV.sub [5,9] (H.a 9 rfl) rfl) (by first|omega|exact cmp3_ge_le dc11|exact cmp3_nge_le dc11) (by first|omega|exact cmp3_ge_le dc11|exact cmp3_nge_le dc11)⟩) ?_
   refine .dT (fun u=>pt z::.pointer (some ⟨b1,ob1,none⟩)::.pointer (some ⟨b2,ob2,none⟩)::.bool s::U::U::U::U::u 12::u2 6::sq u2 0 6 (U::U::U::U::U::U::U::U::U::U::U::U::u4 10::sq u4 0 10 (U::U::U::U::U::U::U::U::U::U::U::U::U::U::U::sq u 0 12 []))) bel.size _ rfl fun u6 w6 D=>?_
   obtain⟨x16,E6_10,F_x16⟩:∃ x_,(u6 10).v=x_∧(RawP (y.natAbs-x.natAbs)).p (Amb S W) x_ w6:=⟨_,rfl,D.rr 10⟩
   have E6_0:=D.q 0
   have E6_1:=D.q 1
   replace B_z:=D.k B_z
   replace bel:=D.d.base.only0 bel
   clear D
   refine wpT_callO (args:=#[pt z,.bool s,x16]) rfl (ex_call rfl rfl Tryz.func279 (by kernel_rfl) (by kernel_rfl) (by simp only [List.map_toArray,List.map_cons,List.map_nil];show #[(u6 0).v,(u6 1).v,(u6 10).v]=#[pt z,.bool s,x16];rw [E6_0,E6_1,E6_10])) (bIs (z:=z) (neg:=s) (n:=y.natAbs-x.natAbs) (IntBlk.of B_z) (VP.any _ F_x16) ) fun w17 fw17 ow17=>?_
   have sw17:Soft w6 z∨Local w6 z:=.inl ⟨_,_,B_z,rfl⟩
   replace F_x16:(RawP (y.natAbs-x.natAbs)).p (Amb S W) x16 w17:=(RawP (y.natAbs-x.natAbs)).grow (S:=fun _=>False) (Rgn.Only.growF ow17 sw17) F_x16
   have F_z:=fw17
   replace bel:=bel.trans ow17
   refine wpT_val rfl (ex_assign rfl) ?_
   refine wpList_nil ?_
   show _
   refine K15 _ _ ?_
   refine wp_ret ?_
   refine ret_ok rfl (by exact results_tmp' rfl rfl) ⟨rfl,?_,bel⟩
   exact into_eq (add_3 c6 dc11) F_z
theorem bAdd{z:Nat}{v1 v2:Value}(x y:Int)(hz:IntBlk W z)(t1:(IntP x).p S v1 W)(t2:(IntP y).p S v2 W)(p0:hi x+hi y≤1099511627776):Calls Tryz.prog 149 #[.pointer (some ⟨z,0,none⟩),v1,v2] W (RetOwn z (IntO (x+y)) W):=by
 have hS_:∃ S' : Nat→Prop,S' z∧(IntP x).p S' v1 W∧(IntP y).p S' v2 W:=⟨fun k=>S k∨k=z,.inr rfl,(IntP x).mono (fun _ _ h=>.inl h) t1,(IntP y).mono (fun _ _ h=>.inl h) t2⟩
 clear t1 t2
 obtain⟨S,L_z,t1,t2⟩:=hS_
 replace L_z:Amb S W z:=.inl L_z
 obtain⟨z_0,z_1,B_z⟩:=hz
 obtain⟨b1,ob1,rfl,L1,F1⟩:=IntP.elim t1
 replace L1:Amb S W b1:=.inl L1
 obtain⟨b2,ob2,rfl,L2,F2⟩:=IntP.elim t2
 replace L2:Amb S W b2:=.inl L2
 have bel:Only z W W:=Only.refl _ _
 go_enter Tryz.func149,Tryz.ntmps149
 refine gs 1 (Amb S W) fun _ K3=>?_
 refine .mc rfl ?_
 refine .dg (fun u=>pt z::.pointer (some ⟨b1,ob1,none⟩)::.pointer (some ⟨b2,ob2,none⟩)::U::U::U::u 0::us 8) K3 bel.size fun u1 w1 D=>?_
 have E1_0:=D.q 0
 replace B_z:=D.k B_z
 replace F1:=D.o L1 F1
 replace F2:=D.o L2 F2
 replace bel:=D.d.base.only0 bel
 clear D
 refine wp_seq_k fun _ K4=>?_
 refine go2_seqT 7 2 rfl (Amb S W) [] [] (Olds.nil _) (by kernel_rfl) ?_
 refine .mz rfl 0 (V:=pt z) rfl ?_
 refine .mz rfl 1 (V:=.pointer (some ⟨b1,ob1,none⟩)) rfl ?_
 refine .mz rfl 2 (V:=.pointer (some ⟨b2,ob2,none⟩)) rfl ?_
 refine .mz rfl 2 (V:=.pointer (some ⟨b2,ob2,none⟩)) rfl ?_
 refine .nc rfl 3 ?_
 refine .fj rfl 4 ob2 ?_
 refine .e rfl (V:=.bool (decide (y<0))) (fun H=>by have e12:=H.g 12 5;have c1:=IntP.c0 (k:=ob2) (VP.any _ (H.was _ [] (VP.at F2 L2))) rfl;clear H;go_simp) ?_
 refine .dT (fun u=>pt z::.pointer (some ⟨b1,ob1,none⟩)::.pointer (some ⟨b2,ob2,none⟩)::U::U::U::u 8::sq u 0 8 []) bel.size _ rfl fun u2 w2 D=>?_
 have E2_0:=D.q 0
 have E2_1:=D.q 1
 have E2_2:=D.q 2
 have E2_6:=D.q 6
 replace B_z:=D.k B_z
 replace F1:=D.o L1 F1
 replace F2:=D.o L2 F2
 replace bel:=D.d.base.only0 bel
 clear D
 refine wpT_callO (args:=#[pt z,.pointer (some ⟨b1,ob1,none⟩),.pointer (some ⟨b2,ob2,none⟩),.bool (decide (y<0))]) rfl (ex_call rfl rfl Tryz.func257 (by kernel_rfl) (by kernel_rfl) (by simp only [List.map_toArray,List.map_cons,List.map_nil];show #[(u2 0).v,(u2 1).v,(u2 2).v,(u2 6).v]=#[pt z,.pointer (some ⟨b1,ob1,none⟩),.pointer (some ⟨b2,ob2,none⟩),.bool (decide (y<0))];rw [E2_0,E2_1,E2_2,E2_6])) (badd (z:=z) (x:=x) (y:=y) (s:=(decide (y<0))) (IntBlk.of B_z) (VP.any _ F1) (VP.any _ F2) (by omega)) fun w5 fw5 ow5=>?_
 have sw5:Soft w2 z∨Local w2 z:=.inl ⟨_,_,B_z,rfl⟩
 have F_z:=fw5
 replace bel:=bel.trans ow5
 refine wpT_val rfl (ex_assign rfl) ?_
 refine wpList_nil ?_
 show _
 refine K4 _ _ ?_
 refine wp_ret ?_
 refine ret_ok rfl (by exact results_tmp' rfl rfl) ⟨rfl,?_,bel⟩
 exact into_eq (add_p x y) F_z
theorem bSub{z:Nat}{v1 v2:Value}(x y:Int)(hz:IntBlk W z)(t1:(IntP x).p S v1 W)(t2:(IntP y).p S v2 W)(p0:hi x+hi y≤1099511627776):Calls Tryz.prog 254 #[.pointer (some ⟨z,0,none⟩),v1,v2] W (RetOwn z (IntO (x-y)) W):=by
 have hS_:∃ S' : Nat→Prop,S' z∧(IntP x).p S' v1 W∧(IntP y).p S' v2 W:=⟨fun k=>S k∨k=z,.inr rfl,(IntP x).mono (fun _ _ h=>.inl h) t1,(IntP y).mono (fun _ _ h=>.inl h) t2⟩
 clear t1 t2
 obtain⟨S,L_z,t1,t2⟩:=hS_
 replace L_z:Amb S W z:=.inl L_z
 obtain⟨z_0,z_1,B_z⟩:=hz
 obtain⟨b1,ob1,rfl,L1,F1⟩:=IntP.elim t1
 replace L1:Amb S W b1:=.inl L1
 obtain⟨b2,ob2,rfl,L2,F2⟩:=IntP.elim t2
 replace L2:Amb S W b2:=.inl L2
 have bel:Only z W W:=Only.refl _ _
 go_enter Tryz.func254,Tryz.ntmps254
 refine gs 1 (Amb S W) fun _ K3=>?_
 refine .mc rfl ?_
 refine .dg (fun u=>pt z::.pointer (some ⟨b1,ob1,none⟩)::.pointer (some ⟨b2,ob2,none⟩)::U::U::U::u 0::us 9) K3 bel.size fun u1 w1 D=>?_
 have E1_0:=D.q 0
 replace B_z:=D.k B_z
 replace F1:=D.o L1 F1
 replace F2:=D.o L2 F2
 replace bel:=D.d.base.only0 bel
 clear D
 refine wp_seq_k fun _ K4=>?_
 refine go2_seqT 8 2 rfl (Amb S W) [] [] (Olds.nil _) (by kernel_rfl) ?_
 refine .mz rfl 0 (V:=pt z) rfl ?_
 refine .mz rfl 1 (V:=.pointer (some ⟨b1,ob1,none⟩)) rfl ?_
 refine .mz rfl 2 (V:=.pointer (some ⟨b2,ob2,none⟩)) rfl ?_
 refine .mz rfl 2 (V:=.pointer (some ⟨b2,ob2,none⟩)) rfl ?_
 refine .nc rfl 3 ?_
 refine .fj rfl 4 ob2 ?_
 refine .e rfl (V:=.bool (decide (y<0))) (fun H=>by have e12:=H.g 12 5;have c1:=IntP.c0 (k:=ob2) (VP.any _ (H.was _ [] (VP.at F2 L2))) rfl;clear H;go_simp) ?_
 refine .e rfl (V:=.bool (!(decide (y<0)))) (fun H=>x_not (H.g 13 6)) ?_
 refine .dT (fun u=>pt z::.pointer (some ⟨b1,ob1,none⟩)::.pointer (some ⟨b2,ob2,none⟩)::U::U::U::u 9::sq u 0 9 []) bel.size _ rfl fun u2 w2 D=>?_
 have E2_0:=D.q 0
 have E2_1:=D.q 1
 have E2_2:=D.q 2
 have E2_7:=D.q 7
 replace B_z:=D.k B_z
 replace F1:=D.o L1 F1
 replace F2:=D.o L2 F2
 replace bel:=D.d.base.only0 bel
 clear D
 refine wpT_callO (args:=#[pt z,.pointer (some ⟨b1,ob1,none⟩),.pointer (some ⟨b2,ob2,none⟩),.bool (!(decide (y<0)))]) rfl (ex_call rfl rfl Tryz.func257 (by kernel_rfl) (by kernel_rfl) (by simp only [List.map_toArray,List.map_cons,List.map_nil];show #[(u2 0).v,(u2 1).v,(u2 2).v,(u2 7).v]=#[pt z,.pointer (some ⟨b1,ob1,none⟩),.pointer (some ⟨b2,ob2,none⟩),.bool (!(decide (y<0)))];rw [E2_0,E2_1,E2_2,E2_7])) (badd (z:=z) (x:=x) (y:=y) (s:=(!(decide (y<0)))) (IntBlk.of B_z) (VP.any _ F1) (VP.any _ F2) (by omega)) fun w5 fw5 ow5=>?_
 have sw5:Soft w2 z∨Local w2 z:=.inl ⟨_,_,B_z,rfl⟩
 have F_z:=fw5
 replace bel:=bel.trans ow5
 refine wpT_val rfl (ex_assign rfl) ?_
 refine wpList_nil ?_
 show _
 refine K4 _ _ ?_
 refine wp_ret ?_
 refine ret_ok rfl (by exact results_tmp' rfl rfl) ⟨rfl,?_,bel⟩
 exact into_eq (add_m x y) F_z
end Go.Proofs.YtcdbmjnipaochaaGreat
namespace Go.Proofs.YtcdbmjnipaochaaGreat
open Go.RowKit Rgn
theorem append_words(ty:TypeId){w:World}{v:Value}{l:List Nat}(h:Words w v l)(hl:l.length≤34359738368):∃ v' w', (Builtin.append_ #[208,208] ty #[.slice none 0 0,v]).run Tryz.prog w=.ok v' w'∧Words w' v' l∧Below w.heap.size w w' := by
 obtain⟨i0,hi,hz0,hz1,hz2⟩:=info_parts info_u32
 rcases h with⟨rfl,rfl⟩|⟨b,off,cap,cur,fr,rfl,h2,h3,h4,h5⟩
 ·refine⟨.slice none 0 0,w,?_,.inl ⟨rfl,rfl⟩,Below.refl _ _⟩
  simp [Builtin.append_,run_underlying Tryz.underlying208,sizeOf,typeInfo,hi,Builtin.lenOf,Builtin.firstCells]
 ·have hnews:∀ j u,(l.map fun (x:Nat)=>Value.int .u32 (x:Int))[j]? = some u→w.cell? ((⟨b,off,none⟩:Addr).add j)=some u:=by
   intro j u hj
   rw [List.getElem?_map] at hj
   cases hx:l[j]? with
   | none=>rw [hx] at hj;simp at hj
   | some x =>
    rw [hx] at hj
    simp only [Option.map_some,Option.some.injEq] at hj
    subst hj
    rw [Addr.add_lit]
    simp [World.cell?,h2,(h5 j x hx).1]
  obtain⟨v', w', hrun,⟨e1,r1⟩,r2,_⟩:=run_append_own (P:=Tryz.prog) w w.heap.size 208 ty 315 i0 (.int .u32 0) 1 4 Tryz.underlying208 hi hz0 hz1 hz2 rfl (by decide) (.slice none 0 0) 0 [] (World.ownsRow_nil w _ _ _)
   ⟨b,off,none⟩ l.length cap (l.map fun (x:Nat)=>Value.int .u32 (x:Int)) (by simp) hnews (by intro u hu;simp only [List.mem_map] at hu;obtain⟨x,_,rfl⟩:=hu;rfl) (by simp only [maxLen];omega) (by omega) (Nat.le_refl _)
  refine⟨v', w', hrun,?_,⟨r2.os,r2.tape,r2.output,r2.size,fun k hk=>r2.block k hk (by simp [Value.ownBlock])⟩⟩
  rcases r1 with⟨rfl,hn⟩|⟨g,cap', cur', rfl,hg,hh,hn,hc,hs,ht⟩
  ·have:l=[]:=List.length_eq_zero_iff.1 (by omega)
   subst this
   exact .inl ⟨rfl,rfl⟩
  ·refine .inr ⟨g,0,cap', cur', (0,0),by simp,hh,by omega,by simp only [maxLen] at hc;omega,fun i x hx=>⟨?_,(h5 i x hx).2⟩⟩
   have hlt:i<l.length:=(List.getElem?_eq_some_iff.1 hx).1
   have e2:(cur'.toList.take ((0+l.length)*1))[i]? = some (.int .u32 (x:Int)):=by
    rw [ht];simp [hx]
   rw [List.getElem?_take,if_pos (by omega)] at e2
   simpa using e2
theorem append_mag(ty:TypeId){w:World}{v:Value}{n:Nat}(h:Mag w v n)(hn:bl n≤1099511627776):∃ v' w', (Builtin.append_ #[208,208] ty #[.slice none 0 0,v]).run Tryz.prog w=.ok v' w'∧Mag w' v' n∧Below w.heap.size w w' := by
 obtain⟨l,h1,h2,h3,h4⟩:=h.words hn
 obtain⟨v', w', g1,g2,g3⟩:=append_words ty h1 h4
 exact⟨v', w', g1,⟨l,g2,h2,h3⟩,g3⟩
theorem MagP.raw{n:Nat}{S:Nat→Prop}{v:Value}{w:World}(h:(MagP n).p S v w):(RawP n).p S v w:=by
 obtain⟨l,h1,h2,h3⟩:=h;exact⟨l,h1,h3⟩
end Go.Proofs.YtcdbmjnipaochaaGreat
namespace Go.Proofs.YtcdbmjnipaochaaGreat.Rgn
open Go.RowKit
variable {P:Program} {ops:Array Oper} {a0:Act} {w0:World} {B0:Nat} {R0:Nat→Prop} {olds:List (Nat×Nat)} {F:List (Pl B0 R0 olds)→Prop}
theorem ex_append{ρ:Operand→Value}{o:Oper}{w w': World}{s x:Operand}{t:TypeId}(ho:o.op=Op.call { callee:=Callee.builtin Builtin.append,args:=#[s,x],argTypes:=#[t,t] }){vs vx v': Value}(hs:ρ s=vs)(hx:ρ x=vx)(hr:(Builtin.append_ #[t,t] o.type #[vs,vx]).run P w=.ok v' w'):(execOp ρ o).run P w=.ok (.value v') w' := by
 subst hs;subst hx
 simp [execOp,ho,resolve,invoke,builtin,hr,Result.andThen]
theorem TodoG.grow{k:Nat}{plan:List (Pl B0 R0 olds)}(i:Nat)(hi:plan.length=i)(o:Oper)(ho:ops[i]? = some o)(hg:Gd ops a0 w0 plan i o)(s:SP B0 R0 olds)(h:∀ u w ρ,Here ops a0 olds w0 plan i u w ρ→∃ v w', (execOp ρ o).run P w=.ok (.value v) w'∧s.p (upd u i ⟨v,w.heap.size,w'.heap.size⟩) w'∧Below w.heap.size w w')(rest:TodoG P ops a0 w0 F k (plan++[.op none s])):TodoG P ops a0 w0 F (k+1) plan:=by
 subst hi
 refine⟨.op none s,fun o' ho' u w ρ hE hB hO hf _=>?_,rest⟩
 rw [ho] at ho';cases ho'
 obtain⟨v,w', h1,h2,h3⟩:=h u w ρ ⟨hE,hB,hO,hf⟩
 exact .inr ⟨hg u w ρ ⟨hE,hB,hO,hf⟩,.inl ⟨v,w', h1,h2,Does.below h3⟩⟩
theorem Go2.grow{k i:Nat}{rp:List (Nat×Pl B0 R0 olds)}{o:Oper}(ho:ops[i]? = some o)(hg:Gd2 ops a0 w0 rp i o)(s:SP B0 R0 olds)(h:∀ u w ρ,Here2 ops a0 olds w0 rp i u w ρ→∃ v w', (execOp ρ o).run P w=.ok (.value v) w'∧s.p (upd u i ⟨v,w.heap.size,w'.heap.size⟩) w'∧Below w.heap.size w w')(rest:Go2 P ops a0 w0 F k (i+1) ((i,.op none s)::rp)):Go2 P ops a0 w0 F (k+1) i rp:=fun hwf =>
 TodoG.grow i hwf.len o ho (fun u w ρ H=>hg u w ρ ⟨H,hwf⟩) s (fun u w ρ H=>h u w ρ ⟨H,hwf⟩) (Go2.next hwf rest)
end Go.Proofs.YtcdbmjnipaochaaGreat.Rgn
namespace Go.Proofs.YtcdbmjnipaochaaGreat
open Go.RowKit Rgn
variable {S:Nat→Prop} {W:World}
theorem bSet{z:Nat}{v1:Value}(x:Int)(hz:IntBlk W z)(t1:(IntP x).p S v1 W)(p0:hi x≤1099511627776):Calls Tryz.prog 252 #[.pointer (some ⟨z,0,none⟩),v1] W (RetOwn z (IntO x) W):=by
 have hS_:∃ S' : Nat→Prop,S' z∧(IntP x).p S' v1 W:=⟨fun k=>S k∨k=z,.inr rfl,(IntP x).mono (fun _ _ h=>.inl h) t1⟩
 clear t1
 obtain⟨S,L_z,t1⟩:=hS_
 replace L_z:Amb S W z:=.inl L_z
 obtain⟨z_0,z_1,B_z⟩:=hz
 obtain⟨b1,ob1,rfl,L1,F1⟩:=IntP.elim t1
 replace L1:Amb S W b1:=.inl L1
 have q0:=hi_bl x
 have bel:Only z W W:=Only.refl _ _
 go_enter Tryz.func252,Tryz.ntmps252
 refine gs 1 (Amb S W) fun _ K2=>?_
 refine .mc rfl ?_
 refine .dg (fun u=>pt z::.pointer (some ⟨b1,ob1,none⟩)::U::U::u 0::us 11) K2 bel.size fun u1 w1 D=>?_
 have E1_0:=D.q 0
 replace B_z:=D.k B_z
 replace F1:=D.o L1 F1
 replace bel:=D.d.base.only0 bel
 clear D
 refine wp_seq_k fun _ K3=>?_
 refine go2_drawnT (by kernel_rfl) 10 2 rfl (by decide) (by kernel_rfl) (Amb S W) [] [] (Olds.nil _) (by kernel_rfl) ?_
 refine .mz rfl 0 (V:=pt z) rfl ?_
 refine .mz rfl 1 (V:=.pointer (some ⟨b1,ob1,none⟩)) rfl ?_
 refine .nc rfl 1 ?_
 refine .fj rfl 2 ob1 ?_
 refine .e rfl (V:=.bool (decide (x<0))) (fun H=>by have e8:=H.g 8 3;have c1:=IntP.c0 (k:=ob1) (VP.any _ (H.was _ [] (VP.at F1 L1))) rfl;clear H;go_simp) ?_
 refine .mz rfl 1 (V:=.pointer (some ⟨b1,ob1,none⟩)) rfl ?_
 refine .nc rfl 5 ?_
 refine .fj rfl 6 (ob1+1) ?_
 refine Go2.fn (i:=8) rfl (G0 rfl) (.val 8 [] (MagP x.natAbs)) (fun u μ ρ H=>by have e12:=H.g 12 7;obtain⟨v_,c1,hm_⟩:=IntP.c1 (k:=ob1+1) (VP.any _ (H.was _ [] (VP.at F1 L1))) rfl;exact⟨v_,by clear H hm_;go_simp,SP.magVal hm_⟩) ?_
 refine Go2.grow (i:=9) rfl (G0 rfl) (.val 9 [] (MagP x.natAbs)) (fun u μ ρ H=>by have k0:=H.c (.slice none 0 0);have e13:=H.r 13 8;obtain⟨v_,w_,hr_,hm_,hb_⟩:=append_mag 208 (n:=x.natAbs) (show Mag _ (u 8).v _ from (SV.any (H.a 8 rfl))) (by omega);exact⟨v_,w_,ex_append rfl (H.const _) e13 hr_,SP.magVal hm_,hb_⟩) ?_
 refine .dT (fun u=>pt z::.pointer (some ⟨b1,ob1,none⟩)::U::U::u 11::sq u 0 11 []) bel.size _ rfl fun u2 w2 D=>?_
 obtain⟨x4,E2_9,F_x4⟩:∃ x_,(u2 9).v=x_∧(MagP x.natAbs).p (Amb S W) x_ w2:=⟨_,rfl,D.rr 9⟩
 have E2_0:=D.q 0
 have E2_4:=D.q 4
 replace B_z:=D.k B_z
 replace bel:=D.d.base.only0 bel
 clear D
 refine wpT_callO (args:=#[pt z,.bool (decide (x<0)),x4]) rfl (ex_call rfl rfl Tryz.func279 (by kernel_rfl) (by kernel_rfl) (by simp only [List.map_toArray,List.map_cons,List.map_nil];show #[(u2 0).v,(u2 4).v,(u2 9).v]=#[pt z,.bool (decide (x<0)),x4];rw [E2_0,E2_4,E2_9])) (bIs (z:=z) (neg:=(decide (x<0))) (n:=x.natAbs) (IntBlk.of B_z) (MagP.raw (VP.any _ F_x4)) ) fun w5 fw5 ow5=>?_
 have sw5:Soft w2 z∨Local w2 z:=.inl ⟨_,_,B_z,rfl⟩
 replace F_x4:(MagP x.natAbs).p (Amb S W) x4 w5:=(MagP x.natAbs).grow (S:=fun _=>False) (Rgn.Only.growF ow5 sw5) F_x4
 have F_z:=fw5
 replace bel:=bel.trans ow5
 refine wpT_val rfl (ex_assign rfl) ?_
 refine wpList_nil ?_
 show _
 refine K3 _ _ ?_
 refine wp_ret ?_
 refine ret_ok rfl (by exact results_tmp' rfl rfl) ⟨rfl,?_,bel⟩
 exact into_eq (sgn_self x) F_z
theorem bGCD{z:Nat}{v3 v4:Value}(x y:Int)(hz:IntBlk W z)(t3:(IntP x).p S v3 W)(t4:(IntP y).p S v4 W)(p0:hi x+hi y≤1099511627776):Calls Tryz.prog 258 #[.pointer (some ⟨z,0,none⟩),.pointer none,.pointer none,v3,v4] W (RetOwn z (IntO (Int.gcd x y:Int)) W):=by
 have hS_:∃ S' : Nat→Prop,S' z∧(IntP x).p S' v3 W∧(IntP y).p S' v4 W:=⟨fun k=>S k∨k=z,.inr rfl,(IntP x).mono (fun _ _ h=>.inl h) t3,(IntP y).mono (fun _ _ h=>.inl h) t4⟩
 clear t3 t4
 obtain⟨S,L_z,t3,t4⟩:=hS_
 replace L_z:Amb S W z:=.inl L_z
 obtain⟨z_0,z_1,B_z⟩:=hz
 obtain⟨b1,ob1,rfl,L1,F1⟩:=IntP.elim t3
 replace L1:Amb S W b1:=.inl L1
 obtain⟨b2,ob2,rfl,L2,F2⟩:=IntP.elim t4
 replace L2:Amb S W b2:=.inl L2
 have q0:=hi_bl x
 have q1:=hi_bl y
 have bel:Only z W W:=Only.refl _ _
 go_enter Tryz.func258,Tryz.ntmps258
 refine gs 1 (Amb S W) fun _ K3=>?_
 refine .mc rfl ?_
 refine .dg (fun u=>pt z::.pointer none::.pointer none::.pointer (some ⟨b1,ob1,none⟩)::.pointer (some ⟨b2,ob2,none⟩)::U::U::U::U::U::u 0::us 27) K3 bel.size fun u1 w1 D=>?_
 have E1_0:=D.q 0
 replace B_z:=D.k B_z
 replace F1:=D.o L1 F1
 replace F2:=D.o L2 F2
 replace bel:=D.d.base.only0 bel
 clear D
 refine gd 10 (Amb S W) fun _ K4=>?_
 refine .mz rfl 3 (V:=.pointer (some ⟨b1,ob1,none⟩)) rfl ?_
 refine .nc rfl 0 ?_
 refine .fj rfl 1 (ob1+1) ?_
 refine Go2.fn (i:=3) rfl (G0 rfl) (.val 3 [] (MagP x.natAbs)) (fun u μ ρ H=>by have e17:=H.g 17 2;obtain⟨v_,c1,hm_⟩:=IntP.c1 (k:=ob1+1) (VP.any _ (H.was _ [] (VP.at F1 L1))) rfl;exact⟨v_,by clear H hm_;go_simp,SP.magVal hm_⟩) ?_
 refine .mz rfl 4 (V:=.pointer (some ⟨b2,ob2,none⟩)) rfl ?_
 refine .nc rfl 4 ?_
 refine .fj rfl 5 (ob2+1) ?_
 refine Go2.fn (i:=7) rfl (G0 rfl) (.val 7 [] (MagP y.natAbs)) (fun u μ ρ H=>by have e21:=H.g 21 6;obtain⟨v_,c1,hm_⟩:=IntP.c1 (k:=ob2+1) (VP.any _ (H.was _ [] (VP.at F2 L2))) rfl;exact⟨v_,by clear H hm_;go_simp,SP.magVal hm_⟩) ?_
 refine .mn rfl 3 [3] ?_
 refine .mn rfl 7 [7] ?_
 refine .dg (fun u=>pt z::.pointer none::.pointer none::.pointer (some ⟨b1,ob1,none⟩)::.pointer (some ⟨b2,ob2,none⟩)::U::U::U::U::U::u1 0::u 8::u 9::U::U::sq u 0 8 (us 15)) K4 bel.size fun u2 w2 D=>?_
 obtain⟨x5,E2_8,F_x5⟩:∃ x_,(u2 8).v=x_∧(MagP x.natAbs).p (Amb S W) x_ w2:=⟨_,rfl,D.rr 8⟩
 obtain⟨p_x5,m_x5,c_x5,rfl,z_x5,y_x5⟩:=Mag.open F_x5
 obtain⟨x6,E2_9,F_x6⟩:∃ x_,(u2 9).v=x_∧(MagP y.natAbs).p (Amb S W) x_ w2:=⟨_,rfl,D.rr 9⟩
 obtain⟨p_x6,m_x6,c_x6,rfl,z_x6,y_x6⟩:=Mag.open F_x6
 replace B_z:=D.k B_z
 replace bel:=D.d.base.only0 bel
 clear D
 refine wp_seq_k fun _ K7=>?_
 refine wp_block ?_
 refine wp_loop_ghost_k (fun n_ a_ w_=>∃ s11:Value,∃ s12:Value,∃ d13:Value,∃ d14:Value,∃ d23:Value,∃ d24:Value,∃ d25:Value,∃ d26:Value,∃ d27:Value,∃ d28:Value,∃ d29:Value,∃ d30:Value,∃ d31:Value,∃ d32:Value,∃ d33:Value,∃ a:Nat,∃ b:Nat,a_=fr (pt z::.pointer none::.pointer none::.pointer (some ⟨b1,ob1,none⟩)::.pointer (some ⟨b2,ob2,none⟩)::U::U::U::U::U::u1 0::s11::s12::d13::d14::sq u2 0 8 (d23::d24::d25::d26::d27::d28::d29::d30::d31::d32::d33::us 4))∧n_=b∧Nat.gcd a b=Int.gcd x y∧bl a≤1099511627776∧bl b≤1099511627776∧(MagP a).p (Amb S W) s11 w_∧(MagP b).p (Amb S W) s12 w_∧w_.heap[z]? = some (.cells #[z_0,z_1] 210 (0,0))∧Only z W w_) y.natAbs ⟨_,_,_,_,_,_,_,_,_,_,_,_,_,_,_,x.natAbs,y.natAbs,rfl,rfl,by first|rfl|omega,by first|rfl|omega,by first|rfl|omega,(by rw [E2_8];exact F_x5),(by rw [E2_9];exact F_x6),B_z,bel⟩ ?_
 clear B_z F_x5 F_x6 bel
 rintro n_ _ w8 ⟨s11,s12,d13,d14,d23,d24,d25,d26,d27,d28,d29,d30,d31,d32,d33,a,b,rfl,hn11,i0,i1,i2,f11,f12,B_z,bel⟩ J9 K10 hJ9 hK10
 have F_s11:=f11
 clear f11
 obtain⟨p_s11,m_s11,c_s11,rfl,z_s11,y_s11⟩:=Mag.open F_s11
 have F_s12:=f12
 clear f12
 obtain⟨p_s12,m_s12,c_s12,rfl,z_s12,y_s12⟩:=Mag.open F_s12
 refine wp_seq_k fun _ K12=>?_
 refine gs 3 (Amb S W) fun _ K13=>?_
 refine .mz rfl 12 (V:=.slice p_s12 m_s12 c_s12) rfl ?_
 refine .e rfl (V:=.int .i64 (m_s12:Nat)) (fun H=>by have e23:=H.g 23 0;have y_:=y_s12;clear H;go_simp<;>first|(simp_all;done)|omega|exact len_gt z0_) ?_
 refine .e rfl (V:=.bool (!decide (b=0))) (fun H=>by have e24:=H.g 24 1;have k1:=H.c (.int .i64 0);have z0_:=z_s12;clear H;go_simp<;>first|(simp_all;done)|omega|exact len_gt z0_) ?_
 refine .dg (fun u=>pt z::.pointer none::.pointer none::.pointer (some ⟨b1,ob1,none⟩)::.pointer (some ⟨b2,ob2,none⟩)::U::U::U::U::U::u1 0::.slice p_s11 m_s11 c_s11::.slice p_s12 m_s12 c_s12::d13::d14::sq u2 0 8 (sq u 0 3 (d26::d27::d28::d29::d30::d31::d32::d33::us 4))) K13 bel.size fun u3 w3 D=>?_
 have E3_0:=D.q 0
 have E3_1:=D.q 1
 have E3_2:=D.q 2
 replace B_z:=D.k B_z
 replace F_s11:=D.gr (MagP a) F_s11
 replace F_s12:=D.gr (MagP b) F_s12
 replace bel:=D.d.base.only0 bel
 clear D
 rcases Bool.eq_false_or_eq_true (!decide (b=0)) with c14|c14
 ·
  refine wp_cond_true ((E3_2).trans (congrArg Value.bool c14)) ?_
  have dc14:=of_decide_eq_false (by simpa using c14:(decide (b=0))=false)
  refine wp_skip ?_
  refine K12 _ _ ?_
  refine wp_block ?_
  refine gs 8 (Amb S W) fun _ K15=>?_
  refine .mz rfl 11 (V:=.slice p_s11 m_s11 c_s11) rfl ?_
  refine .mz rfl 12 (V:=.slice p_s12 m_s12 c_s12) rfl ?_
  refine .cR rfl [] Tryz.func300 (fun H=>⟨_,ar2 (H.g 27 0) (H.g 28 1),bDivide _ _ (H.was _ [] F_s11) (H.was _ [] F_s12) (by omega) (by omega)⟩) ?_
  refine .mn rfl 2 [2] ?_
  refine Go2.fn (i:=4) rfl (G0 rfl) (.val 4 [2,3] (MagP (a/b))) (fun u μ ρ H=>by have e26:=H.r 26 3;have h0:=(H.a 3 rfl);obtain⟨x0,x1,h1,h2⟩:=h0;rw [h1] at e26;exact⟨x0,by clear H;go_simp,SP.tupKeep (by decide) (by decide) h2.1⟩) ?_
  refine Go2.fn (i:=5) rfl (G0 rfl) (.val 5 [2,3] (MagP (a%b))) (fun u μ ρ H=>by have e26:=H.r 26 3;have h0:=(H.a 3 rfl);obtain⟨x0,x1,h1,h2⟩:=h0;rw [h1] at e26;exact⟨x1,by clear H;go_simp,SP.tupKeep (by decide) (by decide) h2.2⟩) ?_
  refine .mn rfl 4 [2,3,4] ?_
  refine .mn rfl 5 [2,3,5] ?_
  refine .dg (fun u=>pt z::.pointer none::.pointer none::.pointer (some ⟨b1,ob1,none⟩)::.pointer (some ⟨b2,ob2,none⟩)::U::U::U::U::U::u1 0::.slice p_s11 m_s11 c_s11::.slice p_s12 m_s12 c_s12::u 6::u 7::sq u2 0 8 (sq u3 0 3 (u 3::sq u 0 3 (u 4::u 5::d32::d33::us 4)))) K15 bel.size fun u4 w4 D=>?_
  obtain⟨x16,x17,E4_2,F_x16,F_x17⟩:=(D.rr 2)
  obtain⟨p_x16,m_x16,c_x16,rfl,z_x16,y_x16⟩:=Mag.open F_x16
  obtain⟨p_x17,m_x17,c_x17,rfl,z_x17,y_x17⟩:=Mag.open F_x17
  obtain⟨x18,x19,E4_3,F_x18,F_x19⟩:=(D.rr 3)
  obtain⟨p_x18,m_x18,c_x18,rfl,z_x18,y_x18⟩:=Mag.open F_x18
  obtain⟨p_x19,m_x19,c_x19,rfl,z_x19,y_x19⟩:=Mag.open F_x19
  obtain⟨x20,E4_4,F_x20⟩:∃ x_,(u4 4).v=x_∧(MagP (a/b)).p (Amb S W) x_ w4:=⟨_,rfl,D.rr 4⟩
  obtain⟨p_x20,m_x20,c_x20,rfl,z_x20,y_x20⟩:=Mag.open F_x20
  obtain⟨x21,E4_5,F_x21⟩:∃ x_,(u4 5).v=x_∧(MagP (a%b)).p (Amb S W) x_ w4:=⟨_,rfl,D.rr 5⟩
  obtain⟨p_x21,m_x21,c_x21,rfl,z_x21,y_x21⟩:=Mag.open F_x21
  obtain⟨x22,E4_7,F_x22⟩:∃ x_,(u4 7).v=x_∧(MagP (a%b)).p (Amb S W) x_ w4:=⟨_,rfl,D.rr 7⟩
  obtain⟨p_x22,m_x22,c_x22,rfl,z_x22,y_x22⟩:=Mag.open F_x22
  have E4_0:=D.q 0
  have E4_1:=D.q 1
  replace B_z:=D.k B_z
  replace F_s11:=D.gr (MagP a) F_s11
  replace F_s12:=D.gr (MagP b) F_s12
  replace bel:=D.d.base.only0 bel
  clear D
  refine wp_region_list ?_
  refine wpT_val rfl (ex_move rfl) ?_
  refine wpT_val rfl (ex_move rfl) ?_
  refine wpT_val rfl (ex_assign rfl) ?_
  refine wpT_val rfl (ex_assign rfl) ?_
  refine wpList_nil ?_
  show _
  refine inBlock_normal ?_
  refine hK10 _ _ (Handed.intro (a%b) (by rw [hn11];exact Nat.mod_lt _ (by omega)) (hJ9 _ _ _ ⟨_,_,_,_,_,_,_,_,_,_,_,_,_,_,_,b,a%b,rfl,rfl,by first|exact gcd_step i0 dc14|omega|exact Nat.le_trans (bl_mono (Nat.mod_le a b)) i1,by first|exact gcd_step i0 dc14|omega|exact Nat.le_trans (bl_mono (Nat.mod_le a b)) i1,by first|exact gcd_step i0 dc14|omega|exact Nat.le_trans (bl_mono (Nat.mod_le a b)) i1,F_s12,(by rw [E4_7];exact F_x22),B_z,bel⟩))
 ·
  refine wp_cond_false ((E3_2).trans (congrArg Value.bool c14)) ?_
  have dc14:=of_decide_eq_true (by simpa using c14:(decide (b=0))=true)
  refine wp_exit ?_
  refine then_exit ?_
  refine then_exit ?_
  refine inBlock_here ?_
  refine K7 _ _ ?_
  refine wp_seq_k fun _ K23=>?_
  refine go2_seqT 3 2 rfl (Amb S W) [] [] (Olds.nil _) (by kernel_rfl) ?_
  refine .mz rfl 0 (V:=pt z) rfl ?_
  refine .mz rfl 11 (V:=.slice p_s11 m_s11 c_s11) rfl ?_
  refine Go2.grow (i:=2) rfl (G0 rfl) (.val 2 [] (MagP a)) (fun u μ ρ H=>by have k0:=H.c (.slice none 0 0);have e35:=H.g 35 1;obtain⟨v_,w_,hr_,hm_,hb_⟩:=append_mag 208 (n:=a) (show Mag _ (.slice p_s11 m_s11 c_s11) _ from (VP.any _ (H.was _ [] F_s11))) (by omega);exact⟨v_,w_,ex_append rfl (H.const _) e35 hr_,SP.magVal hm_,hb_⟩) ?_
  refine .dT (fun u=>pt z::.pointer none::.pointer none::.pointer (some ⟨b1,ob1,none⟩)::.pointer (some ⟨b2,ob2,none⟩)::U::U::U::U::U::u 4::.slice p_s11 m_s11 c_s11::.slice p_s12 m_s12 c_s12::d13::d14::sq u2 0 8 (sq u3 0 3 (d26::d27::d28::d29::d30::d31::d32::d33::sq u 0 4 []))) bel.size _ rfl fun u6 w6 D=>?_
  obtain⟨x24,E6_2,F_x24⟩:∃ x_,(u6 2).v=x_∧(MagP a).p (Amb S W) x_ w6:=⟨_,rfl,D.rr 2⟩
  obtain⟨p_x24,m_x24,c_x24,rfl,z_x24,y_x24⟩:=Mag.open F_x24
  have E6_0:=D.q 0
  replace B_z:=D.k B_z
  replace bel:=D.d.base.only0 bel
  clear D
  refine wpT_callO (args:=#[pt z,.bool false,.slice p_x24 m_x24 c_x24]) rfl (ex_call rfl rfl Tryz.func279 (by kernel_rfl) (by kernel_rfl) (by simp only [List.map_toArray,List.map_cons,List.map_nil];show #[(u6 0).v,.bool false,(u6 2).v]=#[pt z,.bool false,.slice p_x24 m_x24 c_x24];rw [E6_0,E6_2])) (bIs (z:=z) (neg:=false) (n:=a) (IntBlk.of B_z) (MagP.raw (VP.any _ F_x24)) ) fun w25 fw25 ow25=>?_
  have sw25:Soft w6 z∨Local w6 z:=.inl ⟨_,_,B_z,rfl⟩
  replace F_x24:(MagP a).p (Amb S W) (.slice p_x24 m_x24 c_x24) w25:=(MagP a).grow (S:=fun _=>False) (Rgn.Only.growF ow25 sw25) F_x24
  have F_z:=fw25
  replace bel:=bel.trans ow25
  refine wpT_val rfl (ex_assign rfl) ?_
  refine wpList_nil ?_
  show _
  refine K23 _ _ ?_
  refine wp_ret ?_
  refine ret_ok rfl (by exact results_tmp' rfl rfl) ⟨rfl,?_,bel⟩
  exact into_eq (gcd_end i0 dc14) F_z
end Go.Proofs.YtcdbmjnipaochaaGreat
namespace Go.Proofs.YtcdbmjnipaochaaGreat
open Go.RowKit Rgn
theorem bOf{S:Nat→Prop}{W:World}(N:Nat)(hN:N<18446744073709551616):Calls Tryz.prog 297 #[.int .u64 (N:Int)] W (Ret (MagP N) S W):=by
 obtain⟨hb2,hv2⟩:=two_words N hN
 have hlo:(N:Int)%4294967296=((N%4294967296:Nat):Int):=by omega
 have hhi:(N:Int)/4294967296=((N/4294967296:Nat):Int):=by omega
 have hlo4:N%4294967296<4294967296:=by omega
 have hhi4:N/4294967296<4294967296:=by omega
 have hw0:IntKind.wrap .u32 (N:Int)=((N%4294967296:Nat):Int):=by rw [IntKind.wrap_u32];omega
 have hw2:IntKind.wrap .u32 ((N/4294967296:Nat):Int)=((N/4294967296:Nat):Int):=IntWalk.u32_in _ (by omega)
 generalize N%4294967296=lo at *
 generalize N/4294967296=hi at *
 have hW:=Words.two (w:=W) hlo4 hhi4
 have HC:=bigcut_any _ _ _ hW
 have HM:=cut_mag hW
 rw [hv2] at HM
 have HM:=Lib.hid HM
 have hbel:Hid (Below W.heap.size W (W.alloc (.cells #[.int .u32 lo,.int .u32 hi] 315))):=Lib.hid ((Below.refl _ _).alloc (Nat.le_refl _) _)
 generalize hcv:cutV [lo,hi] (.slice (some ⟨W.heap.size,0,none⟩) 2 2)=cv at *
 clear hcv hW hb2 hv2 hlo
 go_enter Tryz.func297,Tryz.ntmps297
 go_wp2_with fail
 go_call HC as _ _ ⟨rfl,rfl⟩
 go_wp2_with fail
 exact ret_ok rfl (by exact results_tmp' rfl rfl) ⟨_,rfl,HM.out,hbel.out⟩
theorem bSetInt64{W:World}{z:Nat}(hz:IntBlk W z)(n:Int)(h1:-9223372036854775808≤n)(h2:n≤9223372036854775807):Calls Tryz.prog 256 #[.pointer (some ⟨z,0,none⟩),.int .i64 n] W (RetOwn z (IntO n) W):=by
 have hO:=bOf (S:=fun _=>False) (W:=W) n.natAbs (by omega)
 have hI:=fun (w' : World) (v:Value) (hb:Below W.heap.size W w') (hv:Mag w' v n.natAbs) =>
  bIs (W:=w') (z:=z) (v2:=v) (decide (n<0)) n.natAbs (by obtain⟨x,y,h⟩:=hz;exact⟨x,y,by rw [hb.block z (lt_of h)];exact h⟩) (S:=fun _=>False) (MagP.raw (n:=n.natAbs) hv)
 rw [sgn_self] at hI
 by_cases hn:n<0
 ·have hc1:IntKind.wrap .u64 n=n+18446744073709551616:=by rw [IntKind.wrap_u64];omega
  have hc2:IntKind.wrap .u64 (-(n+18446744073709551616))=(n.natAbs:Int):=by rw [IntKind.wrap_u64];omega
  have hlt:decide (n<0)=true:=decide_eq_true hn
  rw [hlt] at hI
  clear h1 h2
  generalize n.natAbs=N at *
  go_enter Tryz.func256,Tryz.ntmps256
  go_wp2_with fail
  go_call hO as _ w1 ⟨v,rfl,hm,hb⟩
  go_wp2_with fail
  go_call (hI w1 v hb hm) as _ w2 ⟨rfl,hf,ho⟩
  go_wp2_with fail
  exact ret_ok rfl (by exact results_tmp' rfl rfl) ⟨rfl,hf,(Only.below hb).trans ho⟩
 ·have hc1:IntKind.wrap .u64 n=(n.natAbs:Int):=by rw [IntKind.wrap_u64];omega
  have hlt:decide (n<0)=false:=decide_eq_false hn
  rw [hlt] at hI
  clear h1 h2
  generalize n.natAbs=N at *
  go_enter Tryz.func256,Tryz.ntmps256
  go_wp2_with fail
  go_call hO as _ w1 ⟨v,rfl,hm,hb⟩
  go_wp2_with fail
  go_call (hI w1 v hb hm) as _ w2 ⟨rfl,hf,ho⟩
  go_wp2_with fail
  exact ret_ok rfl (by exact results_tmp' rfl rfl) ⟨rfl,hf,(Only.below hb).trans ho⟩
theorem neg_cell(x:Int):((!decide (x<0)) && !decide (x.natAbs=0))=decide (-x<0):=by
 rcases Int.lt_trichotomy x 0 with h|h|h
 ·rw [decide_eq_true h,decide_eq_false (show ¬ -x<0 by omega)];rfl
 ·subst h;rfl
 ·rw [decide_eq_false (show ¬ x<0 by omega),decide_eq_false (show ¬ x.natAbs=0 by omega),decide_eq_true (show -x<0 by omega)];rfl
theorem bNeg{W:World}{z:Nat}{S:Nat→Prop}{v1:Value}(hz:IntBlk W z)(x:Int)(t1:(IntP x).p S v1 W)(p0:hi x≤1099511627776):Calls Tryz.prog 207 #[.pointer (some ⟨z,0,none⟩),v1] W (RetOwn z (IntO (-x)) W):=by
 have hS:=bSet x hz t1 p0
 have hT:=fun (w1:World) (h:(IntO x).p (·=z) (.pointer (some ⟨z,0,none⟩)) w1)=>IntO.at h
 have hN:=neg_cell x
 have hA:=Int.natAbs_neg x
 go_enter Tryz.func207,Tryz.ntmps207
 go_wp2_with fail
 go_call hS as _ w1 ⟨rfl,hf,ho⟩
 obtain⟨v,hB,hM⟩:=hT w1 hf
 obtain⟨p,m,c,rfl,hm0,hm1⟩:=Mag.open hM
 have hm:=len_gt hm0
 have hO:Only z w1 (w1.setCell ⟨z,0,none⟩ (.bool (decide (-x<0)))):=setCell_only _ ⟨z,0,none⟩ _
 have hB2:=setCell_at (o:=0) (v:=.bool (decide (-x<0))) hB
 have hMag:=MagP x.natAbs |>.grow (hO.growF (.inl ⟨_,_,hB,rfl⟩)) (S:=fun _=>False) hM
 have HR:RetOwn z (IntO (-x)) W (.returned (.pointer (some ⟨z,0,none⟩))) (w1.setCell ⟨z,0,none⟩ (.bool (decide (-x<0)))) :=
  ⟨rfl,⟨z,rfl,rfl,.slice p m c,hB2,by rw [Int.natAbs_neg];exact hMag⟩,ho.trans hO⟩
 rw [← hN,← hm] at HR
 have HR:=Lib.hid HR
 have hf1:w1.frozen? ⟨z,0,none⟩=false:=frozen_of hB
 have hcc0:w1.cell? ⟨z,0,none⟩=some (.bool (decide (x<0))):=cell_of (off:=0) hB rfl
 have hcc1:w1.cell? ⟨z,1,none⟩=some (.slice p m c):=cell_of (off:=1) hB rfl
 clear hO hB2 hMag hB hM hT hN hA hm0 hm1 hm hf ho hS p0 t1 hz
 generalize decide (x<0)=q at *
 cases q with
 | true =>
  go_wp2_with fail
  exact ret_ok rfl (by exact results_tmp' rfl rfl) HR.out
 | false =>
  go_wp2_with fail
  exact ret_ok rfl (by exact results_tmp' rfl rfl) HR.out
theorem bAbs{W:World}{z:Nat}{S:Nat→Prop}{v1:Value}(hz:IntBlk W z)(x:Int)(t1:(IntP x).p S v1 W)(p0:hi x≤1099511627776):Calls Tryz.prog 317 #[.pointer (some ⟨z,0,none⟩),v1] W (RetOwn z (IntO (x.natAbs:Int)) W):=by
 have hS:=bSet x hz t1 p0
 have hT:=fun (w1:World) (h:(IntO x).p (·=z) (.pointer (some ⟨z,0,none⟩)) w1)=>IntO.at h
 go_enter Tryz.func317,Tryz.ntmps317
 go_wp2_with fail
 go_call hS as _ w1 ⟨rfl,hf,ho⟩
 obtain⟨v,hB,hM⟩:=hT w1 hf
 have hO:Only z w1 (w1.setCell ⟨z,0,none⟩ (.bool false)):=setCell_only _ ⟨z,0,none⟩ _
 have hB2:=setCell_at (o:=0) (v:=.bool false) hB
 have hMag:=MagP x.natAbs |>.grow (hO.growF (.inl ⟨_,_,hB,rfl⟩)) (S:=fun _=>False) hM
 have hd:decide ((x.natAbs:Int)<0)=false:=decide_eq_false (by omega)
 have HR:RetOwn z (IntO (x.natAbs:Int)) W (.returned (.pointer (some ⟨z,0,none⟩))) (w1.setCell ⟨z,0,none⟩ (.bool false)) :=
  ⟨rfl,⟨z,rfl,rfl,v,by rw [hd];exact hB2,hMag⟩,ho.trans hO⟩
 have HR:=Lib.hid HR
 have hf1:w1.frozen? ⟨z,0,none⟩=false:=frozen_of hB
 have hcc0:w1.cell? ⟨z,0,none⟩=some (.bool (decide (x<0))):=cell_of (off:=0) hB rfl
 clear hO hB2 hMag hB hM hT hd hf ho hS p0 t1 hz
 go_wp2_with fail
 exact ret_ok rfl (by exact results_tmp' rfl rfl) HR.out
end Go.Proofs.YtcdbmjnipaochaaGreat
namespace Go.Proofs.YtcdbmjnipaochaaGreat
open Go.RowKit Rgn
variable {S:Nat→Prop} {W:World}
theorem bNewInt(n:Int)(p0:-9223372036854775808≤n)(p1:n≤9223372036854775807):Calls Tryz.prog 148 #[.int .i64 n] W (Ret (IntO n) S W):=by
 have bel:=b0 W
 go_enter Tryz.func148,Tryz.ntmps148
 refine gs 1 (Amb S W) fun _ K1=>?_
 refine .mc rfl ?_
 refine .dk (fun u=>.int .i64 n::U::u 0::us 3) K1 bel fun u1 w1 D bel=>?_
 have E1_0:=D.q 0
 clear D
 refine gs 4 (Amb S W) fun _ K2=>?_
 refine .al rfl zI ?_
 refine .mz rfl 0 (V:=.int .i64 n) rfl ?_
 refine .cO rfl 0 Tryz.func256 (fun H h0 hz=>⟨_,ar2 (H.p 3 0 h0) (H.g 4 1),bSetInt64 (n:=_) (IntBlk.of hz) (by omega) (by omega)⟩) ?_
 refine .mo rfl 2 ?_
 refine .dk (fun u=>.int .i64 n::U::u 3::sq u 0 3 []) K2 bel fun u2 w2 D bel=>?_
 obtain⟨b3,E2_3,A3,F3⟩:=D.ow 3
 have L3:Amb S W b3:=.inr A3
 clear D
 refine wp_ret ?_
 refine ret_ok rfl (by exact results_tmp' rfl (by exact E2_3)) ⟨_,rfl,?_,bel⟩
 exact (VP.at F3 L3)
end Go.Proofs.YtcdbmjnipaochaaGreat
namespace Go.Proofs.YtcdbmjnipaochaaGreat
open Go.RowKit Rgn
theorem bDen{S:Nat→Prop}{W:World}{v0:Value}(q:Rat)(t0:(RatP q).p S v0 W):Calls Tryz.prog 222 #[v0] W (Ret (IntP (q.den:Int)) S W):=by
 obtain⟨b,rfl,hS,F⟩:=RatP.elim t0
 rcases RatP.in F with⟨v1,v2,hB,hM1,hM2⟩|⟨rfl,hZ⟩
 ·obtain⟨p,m,c,rfl,hm0,hm1⟩:=Mag.open hM2
  have hm:((m:Int) == 0)=false:=by
   have:=q.den_pos
   rw [beq_eq_false_iff_ne];omega
  have hc3:W.cell? ⟨b,3,none⟩=some (.slice p m c):=cell_of (off:=3) hB rfl
  have hF:(IntP (q.den:Int)).p (fun k=>S k∨W.heap.size≤k) (.pointer (some ⟨b,2,none⟩)) W :=
   ⟨b,2,rfl,.inl hS,_,_,_,hB,rfl,(by rw [decide_eq_false (show ¬ (q.den:Int)<0 by omega)];rfl),rfl,hM2⟩
  have hF:=Lib.hid hF
  clear hB hM1 hM2 hm0 F t0
  go_enter Tryz.func222,Tryz.ntmps222
  go_wp2_with fail
  exact ret_ok rfl (by exact results_tmp' rfl rfl) ⟨_,rfl,hF.out,Below.refl _ _⟩
 ·have hc3:W.cell? ⟨b,3,none⟩=some (.slice none 0 0):=cell_of (off:=3) hZ rfl
  have hN:=bNewInt (S:=S) (W:=W) 1 (by omega) (by omega)
  clear hZ F t0
  go_enter Tryz.func222,Tryz.ntmps222
  go_wp2_with fail
  go_call hN as _ w1 ⟨v,rfl,hf,hb⟩
  go_wp2_with fail
  exact ret_ok rfl (by exact results_tmp' rfl rfl) ⟨_,rfl,IntO.p hf,hb⟩
structure Only2 (z r:Nat) (w w' : World):Prop where
 os:w'.os=w.os
 tape:w'.tape=w.tape
 output:w'.output=w.output
 size:w.heap.size≤w'.heap.size
 block:∀ k,k<w.heap.size→k≠z→k≠r→w'.heap[k]? = w.heap[k]?
theorem Only2.refl(z r:Nat)(w:World):Only2 z r w w:=⟨rfl,rfl,rfl,Nat.le_refl _,fun _ _ _ _=>rfl⟩
theorem Only2.trans{z r:Nat}{a b c:World}(h:Only2 z r a b)(g:Only2 z r b c):Only2 z r a c :=
 ⟨g.os.trans h.os,g.tape.trans h.tape,g.output.trans h.output,Nat.le_trans h.size g.size,fun k hk h1 h2=>(g.block k (Nat.lt_of_lt_of_le hk h.size) h1 h2).trans (h.block k hk h1 h2)⟩
theorem Only2.base{z r:Nat}{a b c:World}(h:Only2 z r a b)(h1:c.os=b.os)(h2:c.tape=b.tape)(h3:c.output=b.output)(h4:b.heap.size≤c.heap.size)(h5:∀ k,k<b.heap.size→k≠z→k≠r→c.heap[k]? = b.heap[k]?):Only2 z r a c :=
 h.trans ⟨h1,h2,h3,h4,h5⟩
theorem Only2.left{z r:Nat}{a b c:World}(h:Only2 z r a b)(g:Only z b c):Only2 z r a c:=h.trans ⟨g.os,g.tape,g.output,g.size,fun k hk h1 _=>g.block k hk h1⟩
theorem Only2.right{z r:Nat}{a b c:World}(h:Only2 z r a b)(g:Only r b c):Only2 z r a c:=h.trans ⟨g.os,g.tape,g.output,g.size,fun k hk _ h2=>g.block k hk h2⟩
theorem Only2.other{z r n:Nat}{a b c:World}(h:Only2 z r a b)(g:Only n b c)(hn:a.heap.size≤n)(hs:a.heap.size≤b.heap.size):Only2 z r a c :=
 ⟨g.os.trans h.os,g.tape.trans h.tape,g.output.trans h.output,Nat.le_trans h.size g.size,fun k hk h1 h2=>(g.block k (Nat.lt_of_lt_of_le hk h.size) (by omega)).trans (h.block k hk h1 h2)⟩
theorem Only2.drop{z r:Nat}{a b c:World}(g:Only2 z r b c)(h:Only z a b)(hn:a.heap.size≤r):Only z a c :=
 ⟨g.os.trans h.os,g.tape.trans h.tape,g.output.trans h.output,Nat.le_trans h.size g.size,fun k hk h1=>(g.block k (Nat.lt_of_lt_of_le hk h.size) h1 (by omega)).trans (h.block k hk h1)⟩
theorem Only2.keep{z r b:Nat}{w w': World}{o:Obj}(h:Only2 z r w w')(hb:w.heap[b]? = some o)(h1:b≠z)(h2:b≠r):w'.heap[b]? = some o:=by
 rw [h.block b (lt_of hb) h1 h2];exact hb
theorem Only2.one{z r b:Nat}{w w': World}(h:Only2 z r w w')(hz:Soft w z∨Local w z)(hr:Soft w r∨Local w r)(φ:VP){v:Value}(h1:b≠z)(h2:b≠r)(h0:φ.p (·=b) v w):φ.p (·=b) v w' := by
 refine φ.grow ⟨h.os,h.tape,h.output,h.size,fun k hk=>?_⟩ h0
 by_cases e:k=z
 ·subst e
  rcases hz with hz|hz
  ·exact .inr (.inr ⟨hz,fun e=>h1 e.symm⟩)
  ·exact .inr (.inl hz)
 ·by_cases e' : k=r
  ·subst e'
   rcases hr with hz|hz
   ·exact .inr (.inr ⟨hz,fun e=>h2 e.symm⟩)
   ·exact .inr (.inl hz)
  ·exact .inl (h.block k hk e e')
def RetOwn2(z:Nat)(φ:VP)(r:Nat)(ψ:VP)(W:World)(e:Ending)(w': World):Prop :=
 e=.returned (.tuple #[.pointer (some ⟨z,0,none⟩),.pointer (some ⟨r,0,none⟩)])∧φ.p (·=z) (.pointer (some ⟨z,0,none⟩)) w'∧ψ.p (·=r) (.pointer (some ⟨r,0,none⟩)) w'∧Only2 z r W w'
theorem wpT_callO2{P:Program}{ops:Array Oper}{Q:Exit→Act→World→Prop}{o:Oper}{rest:List Oper}{a:Act}{w:World}{f:FuncId}{args:Array Value}{z r:Nat}{φ ψ:VP}(hg:o.guard=none)(hr:(execOp a.eval o).run P w=.ok (.enter f args) w)(hc:Calls P f args w (RetOwn2 z φ r ψ w))(h:∀ w', φ.p (·=z) (.pointer (some ⟨z,0,none⟩)) w'→ψ.p (·=r) (.pointer (some ⟨r,0,none⟩)) w'→Only2 z r w w'→wpList P ops Q rest (a.put o.dst (.tuple #[.pointer (some ⟨z,0,none⟩),.pointer (some ⟨r,0,none⟩)])) w'):wpList P ops Q (o::rest) a w:=by
 refine wpList_plain hg fun K hK=>?_
 simp only [Oper.wp,hr,Oper.upon]
 refine hc.mono fun e w' ⟨he,h1,h2,h3⟩=>?_
 subst he
 exact hK _ _ (h w' h1 h2 h3)
theorem sgn_tdiv{x y:Int}:sgn (decide (x<0) != decide (y<0)) (x.natAbs/y.natAbs)=x.tdiv y:=by
 have h1:=sgn_self x
 have h2:=sgn_self y
 generalize x.natAbs=a at *
 generalize y.natAbs=b at *
 generalize decide (x<0)=c at *
 generalize decide (y<0)=d at *
 subst h1;subst h2
 cases c<;>cases d<;>simp [sgn,Int.neg_tdiv,Int.tdiv_neg]
theorem sgn_tmod{x y:Int}:sgn (decide (x<0)) (x.natAbs%y.natAbs)=x.tmod y:=by
 have h1:=sgn_self x
 have h2:=sgn_self y
 generalize x.natAbs=a at *
 generalize y.natAbs=b at *
 generalize decide (x<0)=c at *
 generalize decide (y<0)=d at *
 subst h1;subst h2
 cases c<;>cases d<;>simp only [sgn,if_true,Bool.false_eq_true,if_false,Int.neg_tmod,Int.tmod_neg,Int.ofNat_tmod]
end Go.Proofs.YtcdbmjnipaochaaGreat
namespace Go.Proofs.YtcdbmjnipaochaaGreat
open Go.RowKit Rgn
variable {S:Nat→Prop} {W:World}
theorem bQuoRem{z:Nat}{v1 v2:Value}{r:Nat}(x y:Int)(hz:IntBlk W z)(t1:(IntP x).p S v1 W)(t2:(IntP y).p S v2 W)(hz_r:IntBlk W r)(N_z_r:z≠r)(p0:hi x+hi y≤1099511627776)(p1:y≠0):Calls Tryz.prog 301 #[.pointer (some ⟨z,0,none⟩),v1,v2,.pointer (some ⟨r,0,none⟩)] W (RetOwn2 z (IntO (x.tdiv y)) r (IntO (x.tmod y)) W):=by
 have hS_:∃ S' : Nat→Prop,S' z∧S' r∧(IntP x).p S' v1 W∧(IntP y).p S' v2 W:=⟨fun k=>S k∨k=z∨k=r,.inr (.inl rfl),.inr (.inr rfl),(IntP x).mono (fun _ _ h=>.inl h) t1,(IntP y).mono (fun _ _ h=>.inl h) t2⟩
 clear t1 t2
 obtain⟨S,L_z,L_r,t1,t2⟩:=hS_
 replace L_z:Amb S W z:=.inl L_z;replace L_r:Amb S W r:=.inl L_r
 obtain⟨z_0,z_1,B_z⟩:=hz
 obtain⟨b1,ob1,rfl,L1,F1⟩:=IntP.elim t1
 replace L1:Amb S W b1:=.inl L1
 obtain⟨b2,ob2,rfl,L2,F2⟩:=IntP.elim t2
 replace L2:Amb S W b2:=.inl L2
 obtain⟨r_0,r_1,B_r⟩:=hz_r
 have q0:=hi_bl x
 have q1:=hi_bl y
 have q2:=bl_mono (Nat.mod_le x.natAbs y.natAbs)
 have bel:Only2 z r W W:=Only2.refl _ _ _
 go_enter Tryz.func301,Tryz.ntmps301
 refine gs 2 (Amb S W) fun _ K3=>?_
 refine .mc rfl ?_
 refine .mc rfl ?_
 refine .dg (fun u=>pt z::.pointer (some ⟨b1,ob1,none⟩)::.pointer (some ⟨b2,ob2,none⟩)::pt r::U::U::U::U::u 0::u 1::us 40) K3 bel.size fun u1 w1 D=>?_
 have E1_0:=D.q 0
 have E1_1:=D.q 1
 replace B_z:=D.k B_z
 replace B_r:=D.k B_r
 replace F1:=D.o L1 F1
 replace F2:=D.o L2 F2
 replace bel:=bel.base D.d.base.grow.os D.d.base.grow.tape D.d.base.grow.output D.d.base.grow.size (fun k hk h1 h2=>D.d.base.block k (by omega) (by simp))
 clear D
 refine gd 14 (Amb S W) fun _ K4=>?_
 refine .mz rfl 1 (V:=.pointer (some ⟨b1,ob1,none⟩)) rfl ?_
 refine .nc rfl 0 ?_
 refine .fj rfl 1 (ob1+1) ?_
 refine Go2.fn (i:=3) rfl (G0 rfl) (.val 3 [] (MagP x.natAbs)) (fun u μ ρ H=>by have e17:=H.g 17 2;obtain⟨v_,c1,hm_⟩:=IntP.c1 (k:=ob1+1) (VP.any _ (H.was _ [] (VP.at F1 L1))) rfl;exact⟨v_,by clear H hm_;go_simp,SP.magVal hm_⟩) ?_
 refine .mz rfl 2 (V:=.pointer (some ⟨b2,ob2,none⟩)) rfl ?_
 refine .nc rfl 4 ?_
 refine .fj rfl 5 (ob2+1) ?_
 refine Go2.fn (i:=7) rfl (G0 rfl) (.val 7 [] (MagP y.natAbs)) (fun u μ ρ H=>by have e21:=H.g 21 6;obtain⟨v_,c1,hm_⟩:=IntP.c1 (k:=ob2+1) (VP.any _ (H.was _ [] (VP.at F2 L2))) rfl;exact⟨v_,by clear H hm_;go_simp,SP.magVal hm_⟩) ?_
 refine .cR rfl [3,7] Tryz.func300 (fun H=>⟨_,ar2 (H.r 18 3) (H.r 22 7),bDivide _ _ (SV.sub [3,7] (H.a 3 rfl) rfl) (SV.sub [3,7] (H.a 7 rfl) rfl) (by omega) (by omega)⟩) ?_
 refine .mn rfl 8 [3,7,8] ?_
 refine Go2.fn (i:=10) rfl (G0 rfl) (.val 10 [3,7,8,9] (MagP (x.natAbs/y.natAbs))) (fun u μ ρ H=>by have e14:=H.r 14 9;have h0:=(H.a 9 rfl);obtain⟨x0,x1,h1,h2⟩:=h0;rw [h1] at e14;exact⟨x0,by clear H;go_simp,SP.tupKeep (by decide) (by decide) h2.1⟩) ?_
 refine Go2.fn (i:=11) rfl (G0 rfl) (.val 11 [3,7,8,9] (MagP (x.natAbs%y.natAbs))) (fun u μ ρ H=>by have e14:=H.r 14 9;have h0:=(H.a 9 rfl);obtain⟨x0,x1,h1,h2⟩:=h0;rw [h1] at e14;exact⟨x1,by clear H;go_simp,SP.tupKeep (by decide) (by decide) h2.2⟩) ?_
 refine .mn rfl 10 [3,7,8,9,10] ?_
 refine .mn rfl 11 [3,7,8,9,11] ?_
 refine .dg (fun u=>pt z::.pointer (some ⟨b1,ob1,none⟩)::.pointer (some ⟨b2,ob2,none⟩)::pt r::U::U::U::U::u1 0::u1 1::u 12::u 13::U::U::u 9::sq u 0 9 (u 10::u 11::us 24)) K4 bel.size fun u2 w2 D=>?_
 obtain⟨x5,E2_12,F_x5⟩:∃ x_,(u2 12).v=x_∧(MagP (x.natAbs/y.natAbs)).p (Amb S W) x_ w2:=⟨_,rfl,D.rr 12⟩
 obtain⟨x6,E2_13,F_x6⟩:∃ x_,(u2 13).v=x_∧(MagP (x.natAbs%y.natAbs)).p (Amb S W) x_ w2:=⟨_,rfl,D.rr 13⟩
 replace B_z:=D.k B_z
 replace B_r:=D.k B_r
 replace F1:=D.o L1 F1
 replace F2:=D.o L2 F2
 replace bel:=bel.base D.d.base.grow.os D.d.base.grow.tape D.d.base.grow.output D.d.base.grow.size (fun k hk h1 h2=>D.d.base.block k (by omega) (by simp))
 clear D
 refine gd 15 (Amb S W) fun _ K7=>?_
 refine .mz rfl 1 (V:=.pointer (some ⟨b1,ob1,none⟩)) rfl ?_
 refine .nc rfl 0 ?_
 refine .fj rfl 1 ob1 ?_
 refine .e rfl (V:=.bool (decide (x<0))) (fun H=>by have e28:=H.g 28 2;have c1:=IntP.c0 (k:=ob1) (VP.any _ (H.was _ [] (VP.at F1 L1))) rfl;clear H;go_simp) ?_
 refine .mz rfl 2 (V:=.pointer (some ⟨b2,ob2,none⟩)) rfl ?_
 refine .nc rfl 4 ?_
 refine .fj rfl 5 ob2 ?_
 refine .e rfl (V:=.bool (decide (y<0))) (fun H=>by have e32:=H.g 32 6;have c1:=IntP.c0 (k:=ob2) (VP.any _ (H.was _ [] (VP.at F2 L2))) rfl;clear H;go_simp) ?_
 refine .e rfl (V:=.bool ((decide (x<0)) != (decide (y<0)))) (fun H=>x_bne (H.g 29 3) (H.g 33 7)) ?_
 refine .mz rfl 1 (V:=.pointer (some ⟨b1,ob1,none⟩)) rfl ?_
 refine .nc rfl 9 ?_
 refine .fj rfl 10 ob1 ?_
 refine .e rfl (V:=.bool (decide (x<0))) (fun H=>by have e37:=H.g 37 11;have c1:=IntP.c0 (k:=ob1) (VP.any _ (H.was _ [] (VP.at F1 L1))) rfl;clear H;go_simp) ?_
 refine .mv rfl 8 ?_
 refine .mv rfl 12 ?_
 refine .dg (fun u=>pt z::.pointer (some ⟨b1,ob1,none⟩)::.pointer (some ⟨b2,ob2,none⟩)::pt r::U::U::U::U::u1 0::u1 1::u2 12::u2 13::u 13::u 14::u2 9::sq u2 0 9 (u2 10::u2 11::sq u 0 13 (us 11))) K7 bel.size fun u3 w3 D=>?_
 have E3_13:=D.q 13
 have E3_14:=D.q 14
 replace B_z:=D.k B_z
 replace B_r:=D.k B_r
 replace F_x5:=D.gr (MagP (x.natAbs/y.natAbs)) F_x5
 replace F_x6:=D.gr (MagP (x.natAbs%y.natAbs)) F_x6
 replace bel:=bel.base D.d.base.grow.os D.d.base.grow.tape D.d.base.grow.output D.d.base.grow.size (fun k hk h1 h2=>D.d.base.block k (by omega) (by simp))
 clear D
 refine wp_seq_k fun _ K8=>?_
 refine go2_seqT 4 1 rfl (Amb S W) [] [] (Olds.nil _) (by kernel_rfl) ?_
 refine .mz rfl 3 (V:=pt r) rfl ?_
 refine .mz rfl 13 E3_14 ?_
 refine .mz rfl 11 E2_13 ?_
 refine Go2.grow (i:=3) rfl (G0 rfl) (.val 3 [] (MagP (x.natAbs%y.natAbs))) (fun u μ ρ H=>by have k0:=H.c (.slice none 0 0);have e41:=H.g 41 2;obtain⟨v_,w_,hr_,hm_,hb_⟩:=append_mag 208 (n:=x.natAbs%y.natAbs) (show Mag _ x6 _ from (VP.any _ (H.was _ [] F_x6))) (by omega);exact⟨v_,w_,ex_append rfl (H.const _) e41 hr_,SP.magVal hm_,hb_⟩) ?_
 refine .dT (fun u=>pt z::.pointer (some ⟨b1,ob1,none⟩)::.pointer (some ⟨b2,ob2,none⟩)::pt r::U::U::U::U::u1 0::u1 1::u2 12::u2 13::u3 13::u3 14::u2 9::sq u2 0 9 (u2 10::u2 11::sq u3 0 13 (sq u 0 5 (us 6)))) bel.size _ rfl fun u4 w4 D=>?_
 obtain⟨x9,E4_3,F_x9⟩:∃ x_,(u4 3).v=x_∧(MagP (x.natAbs%y.natAbs)).p (Amb S W) x_ w4:=⟨_,rfl,D.rr 3⟩
 have E4_0:=D.q 0
 have E4_1:=D.q 1
 replace B_z:=D.k B_z
 replace B_r:=D.k B_r
 replace F_x5:=D.gr (MagP (x.natAbs/y.natAbs)) F_x5
 replace bel:=bel.base D.d.base.grow.os D.d.base.grow.tape D.d.base.grow.output D.d.base.grow.size (fun k hk h1 h2=>D.d.base.block k (by omega) (by simp))
 clear D
 refine wpT_callO (args:=#[pt r,.bool (decide (x<0)),x9]) rfl (ex_call rfl rfl Tryz.func279 (by kernel_rfl) (by kernel_rfl) (by simp only [List.map_toArray,List.map_cons,List.map_nil];show #[(u4 0).v,(u4 1).v,(u4 3).v]=#[pt r,.bool (decide (x<0)),x9];rw [E4_0,E4_1,E4_3])) (bIs (z:=r) (neg:=(decide (x<0))) (n:=x.natAbs%y.natAbs) (IntBlk.of B_r) (MagP.raw (VP.any _ F_x9)) ) fun w10 fw10 ow10=>?_
 have sw10:Soft w4 r∨Local w4 r:=.inl ⟨_,_,B_r,rfl⟩
 replace B_z:=ow10.keep B_z N_z_r
 replace F_x5:(MagP (x.natAbs/y.natAbs)).p (Amb S W) x5 w10:=(MagP (x.natAbs/y.natAbs)).grow (S:=fun _=>False) (Rgn.Only.growF ow10 sw10) F_x5
 replace F_x9:(MagP (x.natAbs%y.natAbs)).p (Amb S W) x9 w10:=(MagP (x.natAbs%y.natAbs)).grow (S:=fun _=>False) (Rgn.Only.growF ow10 sw10) F_x9
 have F_r:=fw10
 replace bel:=bel.right ow10
 refine wpList_nil ?_
 show _
 refine K8 _ _ ?_
 refine wp_seq_k fun _ K11=>?_
 refine go2_seqT 3 1 rfl (Amb S W) [] [] (Olds.nil _) (by kernel_rfl) ?_
 refine .mz rfl 0 (V:=pt z) rfl ?_
 refine .mz rfl 12 E3_13 ?_
 refine .mz rfl 10 E2_12 ?_
 refine .dT (fun u=>pt z::.pointer (some ⟨b1,ob1,none⟩)::.pointer (some ⟨b2,ob2,none⟩)::pt r::U::U::U::U::u1 0::u1 1::u2 12::u2 13::u3 13::u3 14::u2 9::sq u2 0 9 (u2 10::u2 11::sq u3 0 13 (sq u4 0 4 (.pointer (some ⟨r,0,none⟩)::sq u 0 4 (U::U::[]))))) bel.size _ rfl fun u5 w5 D=>?_
 have E5_0:=D.q 0
 have E5_1:=D.q 1
 have E5_2:=D.q 2
 replace B_z:=D.k B_z
 replace F_r:=D.o L_r F_r
 replace F_x5:=D.gr (MagP (x.natAbs/y.natAbs)) F_x5
 replace bel:=bel.base D.d.base.grow.os D.d.base.grow.tape D.d.base.grow.output D.d.base.grow.size (fun k hk h1 h2=>D.d.base.block k (by omega) (by simp))
 clear D
 refine wpT_callO (args:=#[pt z,.bool ((decide (x<0)) != (decide (y<0))),x5]) rfl (ex_call rfl rfl Tryz.func279 (by kernel_rfl) (by kernel_rfl) (by simp only [List.map_toArray,List.map_cons,List.map_nil];show #[(u5 0).v,(u5 1).v,(u5 2).v]=#[pt z,.bool ((decide (x<0)) != (decide (y<0))),x5];rw [E5_0,E5_1,E5_2])) (bIs (z:=z) (neg:=((decide (x<0)) != (decide (y<0)))) (n:=x.natAbs/y.natAbs) (IntBlk.of B_z) (MagP.raw (VP.any _ F_x5)) ) fun w12 fw12 ow12=>?_
 have sw12:Soft w5 z∨Local w5 z:=.inl ⟨_,_,B_z,rfl⟩
 replace F_r:=ow12.one sw12 _ (Ne.symm N_z_r) F_r
 replace F_x5:(MagP (x.natAbs/y.natAbs)).p (Amb S W) x5 w12:=(MagP (x.natAbs/y.natAbs)).grow (S:=fun _=>False) (Rgn.Only.growF ow12 sw12) F_x5
 have F_z:=fw12
 replace bel:=bel.left ow12
 refine wpList_nil ?_
 show _
 refine K11 _ _ ?_
 refine gs 4 (Amb S W) fun _ K13=>?_
 refine .mz rfl 0 (V:=pt z) rfl ?_
 refine .mz rfl 3 (V:=pt r) rfl ?_
 refine .mv rfl 0 ?_
 refine .mv rfl 1 ?_
 refine .dg (fun u=>pt z::.pointer (some ⟨b1,ob1,none⟩)::.pointer (some ⟨b2,ob2,none⟩)::pt r::U::U::U::U::u 2::u 3::u2 12::u2 13::u3 13::u3 14::u2 9::sq u2 0 9 (u2 10::u2 11::sq u3 0 13 (sq u4 0 4 (.pointer (some ⟨r,0,none⟩)::sq u5 0 3 (.pointer (some ⟨z,0,none⟩)::u 0::u 1::[]))))) K13 bel.size fun u6 w6 D=>?_
 have E6_2:=D.q 2
 have E6_3:=D.q 3
 replace F_r:=D.o L_r F_r
 replace F_z:=D.o L_z F_z
 replace bel:=bel.base D.d.base.grow.os D.d.base.grow.tape D.d.base.grow.output D.d.base.grow.size (fun k hk h1 h2=>D.d.base.block k (by omega) (by simp))
 clear D
 refine wp_ret ?_
 exact ret_ok rfl (by exact results_two rfl (by exact E6_2) (by exact E6_3)) ⟨rfl,(into_eq (sgn_tdiv) F_z),(into_eq (sgn_tmod) F_r),bel⟩
theorem bQuo{z:Nat}{v1 v2:Value}(x y:Int)(hz:IntBlk W z)(t1:(IntP x).p S v1 W)(t2:(IntP y).p S v2 W)(p0:hi x+hi y≤1099511627776)(p1:y≠0):Calls Tryz.prog 259 #[.pointer (some ⟨z,0,none⟩),v1,v2] W (RetOwn z (IntO (x.tdiv y)) W):=by
 have hS_:∃ S' : Nat→Prop,S' z∧(IntP x).p S' v1 W∧(IntP y).p S' v2 W:=⟨fun k=>S k∨k=z,.inr rfl,(IntP x).mono (fun _ _ h=>.inl h) t1,(IntP y).mono (fun _ _ h=>.inl h) t2⟩
 clear t1 t2
 obtain⟨S,L_z,t1,t2⟩:=hS_
 replace L_z:Amb S W z:=.inl L_z
 obtain⟨z_0,z_1,B_z⟩:=hz
 obtain⟨b1,ob1,rfl,L1,F1⟩:=IntP.elim t1
 replace L1:Amb S W b1:=.inl L1
 obtain⟨b2,ob2,rfl,L2,F2⟩:=IntP.elim t2
 replace L2:Amb S W b2:=.inl L2
 have bel:Only z W W:=Only.refl _ _
 go_enter Tryz.func259,Tryz.ntmps259
 refine gs 1 (Amb S W) fun _ K3=>?_
 refine .mc rfl ?_
 refine .dg (fun u=>pt z::.pointer (some ⟨b1,ob1,none⟩)::.pointer (some ⟨b2,ob2,none⟩)::U::U::U::u 0::us 6) K3 bel.size fun u1 w1 D=>?_
 have E1_0:=D.q 0
 replace B_z:=D.k B_z
 replace F1:=D.o L1 F1
 replace F2:=D.o L2 F2
 replace bel:=D.d.base.only0 bel
 clear D
 refine wp_seq_k fun _ K4=>?_
 refine go2_seqT 4 1 rfl (Amb S W) [] [] (Olds.nil _) (by kernel_rfl) ?_
 refine .mz rfl 0 (V:=pt z) rfl ?_
 refine .mz rfl 1 (V:=.pointer (some ⟨b1,ob1,none⟩)) rfl ?_
 refine .mz rfl 2 (V:=.pointer (some ⟨b2,ob2,none⟩)) rfl ?_
 refine .al rfl zI ?_
 refine .dT (fun u=>pt z::.pointer (some ⟨b1,ob1,none⟩)::.pointer (some ⟨b2,ob2,none⟩)::U::U::U::u1 0::sq u 0 5 (U::[])) bel.size _ rfl fun u2 w2 D=>?_
 obtain⟨b5,E2_3,A5,B5⟩:=D.nw 3
 have E2_0:=D.q 0
 have E2_1:=D.q 1
 have E2_2:=D.q 2
 have N_z_b5:=D.n1 3 (lt_of B_z) E2_3
 replace B_z:=D.k B_z
 replace F1:=D.o L1 F1
 replace F2:=D.o L2 F2
 replace bel:=D.d.base.only0 bel
 clear D
 refine wpT_callO2 (args:=#[pt z,.pointer (some ⟨b1,ob1,none⟩),.pointer (some ⟨b2,ob2,none⟩),pt b5]) rfl (ex_call rfl rfl Tryz.func301 (by kernel_rfl) (by kernel_rfl) (by simp only [List.map_toArray,List.map_cons,List.map_nil];show #[(u2 0).v,(u2 1).v,(u2 2).v,(u2 3).v]=#[pt z,.pointer (some ⟨b1,ob1,none⟩),.pointer (some ⟨b2,ob2,none⟩),pt b5];rw [E2_0,E2_1,E2_2,E2_3])) (bQuoRem (z:=z) (x:=x) (y:=y) (r:=b5) (IntBlk.of B_z) (VP.any _ F1) (VP.any _ F2) (IntBlk.of B5) N_z_b5 (by first|omega|exact p1) (by first|omega|exact p1)) fun w6 fw6a fw6b ow6=>?_
 have sw6_z:Soft w2 z∨Local w2 z:=.inl ⟨_,_,B_z,rfl⟩
 have sw6_b5:Soft w2 b5∨Local w2 b5:=.inl ⟨_,_,B5,rfl⟩
 have F_z:=fw6a
 have F5:=fw6b
 have L5:Amb S W b5:=.inr A5
 replace bel:=ow6.drop bel A5
 refine wpList_nil ?_
 show _
 refine K4 _ _ ?_
 refine gs 2 (Amb S W) fun _ K7=>?_
 refine .mz rfl 0 (V:=pt z) rfl ?_
 refine .mv rfl 0 ?_
 refine .dg (fun u=>pt z::.pointer (some ⟨b1,ob1,none⟩)::.pointer (some ⟨b2,ob2,none⟩)::U::U::U::u 1::sq u2 0 4 (.tuple #[pt z,pt b5]::u 0::[])) K7 bel.size fun u3 w3 D=>?_
 have E3_1:=D.q 1
 replace F_z:=D.o L_z F_z
 replace bel:=D.d.base.only0 bel
 clear D
 refine wp_ret ?_
 refine ret_ok rfl (by exact results_tmp' rfl (by exact E3_1)) ⟨rfl,?_,bel⟩
 exact F_z
end Go.Proofs.YtcdbmjnipaochaaGreat
namespace Go.Proofs.YtcdbmjnipaochaaGreat
open Go.RowKit Rgn
theorem hi_tdiv(x y:Int):hi (x.tdiv y)≤hi x:=by
 rw [← sgn_tdiv,hi_sgn];unfold hi
 have:=bl_mono (Nat.div_le_self x.natAbs y.natAbs);omega
theorem hi_tmod(x y:Int):hi (x.tmod y)≤hi x:=by
 rw [← sgn_tmod,hi_sgn];unfold hi
 have:=bl_mono (Nat.mod_le x.natAbs y.natAbs);omega
theorem hi_natAbs(x:Int):hi (x.natAbs:Int)=hi x:=rfl
theorem tmod_lt{x y:Int}(hy:y≠0):-(y.natAbs:Int)<x.tmod y∧x.tmod y<(y.natAbs:Int):=by
 have h:=Nat.mod_lt x.natAbs (show 0<y.natAbs by omega)
 rw [← sgn_tmod]
 unfold sgn
 split<;>omega
theorem dm_a{x y:Int}(hy:y≠0)(h:x.tmod y<0)(hn:y<0):x.tdiv y+1=x/y∧x.tmod y+(y.natAbs:Int)=x%y:=by
 have h1:=tmod_lt (x:=x) hy
 have h2:=Int.mul_tdiv_add_tmod x y
 refine em_unique hy ?_ (by omega) (by omega)
 rw [Int.mul_add];omega
theorem dm_b{x y:Int}(hy:y≠0)(h:x.tmod y<0)(hn:¬ y<0):x.tdiv y-1=x/y∧x.tmod y+(y.natAbs:Int)=x%y:=by
 have h1:=tmod_lt (x:=x) hy
 have h2:=Int.mul_tdiv_add_tmod x y
 refine em_unique hy ?_ (by omega) (by omega)
 rw [Int.mul_sub];omega
theorem dm_c{x y:Int}(hy:y≠0)(h:¬ x.tmod y<0):x.tdiv y=x/y∧x.tmod y=x%y:=by
 have h1:=tmod_lt (x:=x) hy
 have h2:=Int.mul_tdiv_add_tmod x y
 exact em_unique hy h2 (by omega) h1.2
end Go.Proofs.YtcdbmjnipaochaaGreat
namespace Go.Proofs.YtcdbmjnipaochaaGreat
open Go.RowKit Rgn
variable {S:Nat→Prop} {W:World}
theorem bDivMod{z:Nat}{v1 v2:Value}{r:Nat}(x y:Int)(hz:IntBlk W z)(t1:(IntP x).p S v1 W)(t2:(IntP y).p S v2 W)(hz_r:IntBlk W r)(N_z_r:z≠r)(p0:hi x+hi y+4≤1099511627776)(p1:y≠0):Calls Tryz.prog 289 #[.pointer (some ⟨z,0,none⟩),v1,v2,.pointer (some ⟨r,0,none⟩)] W (RetOwn2 z (IntO (x/y)) r (IntO (x%y)) W):=by
 have hS_:∃ S' : Nat→Prop,S' z∧S' r∧(IntP x).p S' v1 W∧(IntP y).p S' v2 W:=⟨fun k=>S k∨k=z∨k=r,.inr (.inl rfl),.inr (.inr rfl),(IntP x).mono (fun _ _ h=>.inl h) t1,(IntP y).mono (fun _ _ h=>.inl h) t2⟩
 clear t1 t2
 obtain⟨S,L_z,L_r,t1,t2⟩:=hS_
 replace L_z:Amb S W z:=.inl L_z;replace L_r:Amb S W r:=.inl L_r
 obtain⟨z_0,z_1,B_z⟩:=hz
 obtain⟨b1,ob1,rfl,L1,F1⟩:=IntP.elim t1
 replace L1:Amb S W b1:=.inl L1
 obtain⟨b2,ob2,rfl,L2,F2⟩:=IntP.elim t2
 replace L2:Amb S W b2:=.inl L2
 obtain⟨r_0,r_1,B_r⟩:=hz_r
 have h1:=hi_tdiv x y
 have h2:=hi_tmod x y
 have h3:=hi_natAbs y
 have h4:hi 1=2:=by decide
 have bel:Only2 z r W W:=Only2.refl _ _ _
 go_enter Tryz.func289,Tryz.ntmps289
 refine gs 2 (Amb S W) fun _ K3=>?_
 refine .mc rfl ?_
 refine .mc rfl ?_
 refine .dg (fun u=>pt z::.pointer (some ⟨b1,ob1,none⟩)::.pointer (some ⟨b2,ob2,none⟩)::pt r::U::U::U::U::u 0::u 1::us 33) K3 bel.size fun u1 w1 D=>?_
 have E1_0:=D.q 0
 have E1_1:=D.q 1
 replace B_z:=D.k B_z
 replace B_r:=D.k B_r
 replace F1:=D.o L1 F1
 replace F2:=D.o L2 F2
 replace bel:=bel.base D.d.base.grow.os D.d.base.grow.tape D.d.base.grow.output D.d.base.grow.size (fun k hk h1 h2=>D.d.base.block k (by omega) (by simp))
 clear D
 refine gs 4 (Amb S W) fun _ K4=>?_
 refine .al rfl zI ?_
 refine .mz rfl 2 (V:=.pointer (some ⟨b2,ob2,none⟩)) rfl ?_
 refine .cO rfl 0 Tryz.func252 (fun H h0 hz=>⟨_,ar2 (H.p 11 0 h0) (H.g 12 1),bSet _ (IntBlk.of hz) (VP.any _ (H.was _ [] (VP.at F2 L2))) (by first|omega|exact p1)⟩) ?_
 refine .mo rfl 2 ?_
 refine .dg (fun u=>pt z::.pointer (some ⟨b1,ob1,none⟩)::.pointer (some ⟨b2,ob2,none⟩)::pt r::U::U::U::U::u1 0::u1 1::u 3::sq u 0 3 (us 29)) K4 bel.size fun u2 w2 D=>?_
 obtain⟨b5,E2_3,A5,F5⟩:=D.ow 3
 have N_z_b5:=D.n1 0 (lt_of B_z) ((D.a 3 rfl).1.symm.trans E2_3)
 have N_r_b5:=D.n1 0 (lt_of B_r) ((D.a 3 rfl).1.symm.trans E2_3)
 replace B_z:=D.k B_z
 replace B_r:=D.k B_r
 replace F1:=D.o L1 F1
 replace F2:=D.o L2 F2
 have L5:Amb S W b5:=.inr A5
 replace bel:=bel.base D.d.base.grow.os D.d.base.grow.tape D.d.base.grow.output D.d.base.grow.size (fun k hk h1 h2=>D.d.base.block k (by omega) (by simp))
 clear D
 refine wp_seq_k fun _ K6=>?_
 refine go2_seqT 4 1 rfl (Amb S W) [] [] (Olds.nil _) (by kernel_rfl) ?_
 refine .mz rfl 0 (V:=pt z) rfl ?_
 refine .mz rfl 1 (V:=.pointer (some ⟨b1,ob1,none⟩)) rfl ?_
 refine .mz rfl 2 (V:=.pointer (some ⟨b2,ob2,none⟩)) rfl ?_
 refine .mz rfl 3 (V:=pt r) rfl ?_
 refine .dT (fun u=>pt z::.pointer (some ⟨b1,ob1,none⟩)::.pointer (some ⟨b2,ob2,none⟩)::pt r::U::U::U::U::u1 0::u1 1::u2 3::sq u2 0 3 (sq u 0 5 (us 24))) bel.size _ rfl fun u3 w3 D=>?_
 have E3_0:=D.q 0
 have E3_1:=D.q 1
 have E3_2:=D.q 2
 have E3_3:=D.q 3
 replace B_z:=D.k B_z
 replace B_r:=D.k B_r
 replace F1:=D.o L1 F1
 replace F2:=D.o L2 F2
 replace F5:=D.o L5 F5
 replace bel:=bel.base D.d.base.grow.os D.d.base.grow.tape D.d.base.grow.output D.d.base.grow.size (fun k hk h1 h2=>D.d.base.block k (by omega) (by simp))
 clear D
 refine wpT_callO2 (args:=#[pt z,.pointer (some ⟨b1,ob1,none⟩),.pointer (some ⟨b2,ob2,none⟩),pt r]) rfl (ex_call rfl rfl Tryz.func301 (by kernel_rfl) (by kernel_rfl) (by simp only [List.map_toArray,List.map_cons,List.map_nil];show #[(u3 0).v,(u3 1).v,(u3 2).v,(u3 3).v]=#[pt z,.pointer (some ⟨b1,ob1,none⟩),.pointer (some ⟨b2,ob2,none⟩),pt r];rw [E3_0,E3_1,E3_2,E3_3])) (bQuoRem (z:=z) (x:=x) (y:=y) (r:=r) (IntBlk.of B_z) (VP.any _ F1) (VP.any _ F2) (IntBlk.of B_r) N_z_r (by first|omega|exact p1) (by first|omega|exact p1)) fun w7 fw7a fw7b ow7=>?_
 have sw7_z:Soft w3 z∨Local w3 z:=.inl ⟨_,_,B_z,rfl⟩
 have sw7_r:Soft w3 r∨Local w3 r:=.inl ⟨_,_,B_r,rfl⟩
 replace F5:=ow7.one sw7_z sw7_r _ (Ne.symm N_z_b5) (Ne.symm N_r_b5) F5
 have F_z:=fw7a
 have F_r:=fw7b
 replace bel:=bel.trans ow7
 refine wpList_nil ?_
 show _
 refine K6 _ _ ?_
 refine wp_seq_k fun _ K8=>?_
 refine gs 4 (Amb S W) fun _ K9=>?_
 refine .mz rfl 3 (V:=pt r) rfl ?_
 refine .nc rfl 0 ?_
 refine .fj rfl 1 0 ?_
 refine .e rfl (V:=.bool (decide ((x.tmod y)<0))) (fun H=>by have e21:=H.g 21 2;have c1:=IntP.c0 (k:=0) (VP.any _ (IntO.p (H.was _ [] (VP.at F_r L_r)))) rfl;clear H;go_simp) ?_
 refine .dg (fun u=>pt z::.pointer (some ⟨b1,ob1,none⟩)::.pointer (some ⟨b2,ob2,none⟩)::pt r::U::U::U::U::u1 0::u1 1::u2 3::sq u2 0 3 (sq u3 0 4 (.tuple #[pt z,pt r]::sq u 0 4 (us 20)))) K9 bel.size fun u4 w4 D=>?_
 have E4_3:=D.q 3
 replace F5:=D.o L5 F5
 replace F_z:=D.o L_z F_z
 replace F_r:=D.o L_r F_r
 replace bel:=bel.base D.d.base.grow.os D.d.base.grow.tape D.d.base.grow.output D.d.base.grow.size (fun k hk h1 h2=>D.d.base.block k (by omega) (by simp))
 clear D
 rcases Bool.eq_false_or_eq_true (decide ((x.tmod y)<0)) with c10|c10
 ·
  refine wp_cond_true ((E4_3).trans (congrArg Value.bool c10)) ?_
  have dc10:=of_decide_eq_true c10
  refine wp_seq_k fun _ K11=>?_
  refine gs 4 (Amb S W) fun _ K12=>?_
  refine .mz rfl 10 E2_3 ?_
  refine .nc rfl 0 ?_
  refine .fj rfl 1 0 ?_
  refine .e rfl (V:=.bool (decide (y<0))) (fun H=>by have e25:=H.g 25 2;have c1:=IntP.c0 (k:=0) (VP.any _ (IntO.p (H.was _ [] (VP.at F5 L5)))) rfl;clear H;go_simp) ?_
  refine .dg (fun u=>pt z::.pointer (some ⟨b1,ob1,none⟩)::.pointer (some ⟨b2,ob2,none⟩)::pt r::U::U::U::U::u1 0::u1 1::u2 3::sq u2 0 3 (sq u3 0 4 (.tuple #[pt z,pt r]::sq u4 0 4 (sq u 0 4 (us 16))))) K12 bel.size fun u5 w5 D=>?_
  have E5_3:=D.q 3
  replace F5:=D.o L5 F5
  replace F_z:=D.o L_z F_z
  replace F_r:=D.o L_r F_r
  replace bel:=bel.base D.d.base.grow.os D.d.base.grow.tape D.d.base.grow.output D.d.base.grow.size (fun k hk h1 h2=>D.d.base.block k (by omega) (by simp))
  clear D
  rcases Bool.eq_false_or_eq_true (decide (y<0)) with c13|c13
  ·
   refine wp_cond_true ((E5_3).trans (congrArg Value.bool c13)) ?_
   have dc13:=of_decide_eq_true c13
   refine go2_seqT 3 1 rfl (Amb S W) [] [] (Olds.nil _) (by kernel_rfl) ?_
   refine .mz rfl 0 (V:=pt z) rfl ?_
   refine .mz rfl 0 (V:=pt z) rfl ?_
   refine .cR rfl [] Tryz.func148 (fun H=>⟨_,ar1 (H.c (.int .i64 1)),bNewInt _ (by first|omega|exact p1) (by first|omega|exact p1)⟩) ?_
   refine .dT (fun u=>pt z::.pointer (some ⟨b1,ob1,none⟩)::.pointer (some ⟨b2,ob2,none⟩)::pt r::U::U::U::U::u1 0::u1 1::u2 3::sq u2 0 3 (sq u3 0 4 (.tuple #[pt z,pt r]::sq u4 0 4 (sq u5 0 4 (sq u 0 4 (us 12)))))) bel.size _ rfl fun u6 w6 D=>?_
   obtain⟨b14,E6_2,L14,F14⟩:=IntO.elim (D.rr 2)
   have E6_0:=D.q 0
   have E6_1:=D.q 1
   replace F5:=D.o L5 F5
   replace F_z:=D.o L_z F_z
   replace F_r:=D.o L_r F_r
   replace bel:=bel.base D.d.base.grow.os D.d.base.grow.tape D.d.base.grow.output D.d.base.grow.size (fun k hk h1 h2=>D.d.base.block k (by omega) (by simp))
   clear D
   refine wpT_callO (args:=#[pt z,pt z,pt b14]) rfl (ex_call rfl rfl Tryz.func149 (by kernel_rfl) (by kernel_rfl) (by simp only [List.map_toArray,List.map_cons,List.map_nil];show #[(u6 0).v,(u6 1).v,(u6 2).v]=#[pt z,pt z,pt b14];rw [E6_0,E6_1,E6_2])) (bAdd (z:=z) (x:=x.tdiv y) (y:=(1:Int)) (IntO.blk F_z) (IntO.p (VP.any _ F_z)) (IntO.p (VP.any _ F14)) (by first|omega|exact p1)) fun w15 fw15 ow15=>?_
   have sw15:Soft w6 z∨Local w6 z:=.inl (IntO.soft F_z)
   replace F5:=ow15.one sw15 _ (Ne.symm N_z_b5) F5
   replace F_r:=ow15.one sw15 _ (Ne.symm N_z_r) F_r
   have F_z:=fw15
   replace bel:=bel.left ow15
   refine wpList_nil ?_
   show _
   refine K11 _ _ ?_
   refine go2_seqT 5 1 rfl (Amb S W) [] [] (Olds.nil _) (by kernel_rfl) ?_
   refine .mz rfl 3 (V:=pt r) rfl ?_
   refine .mz rfl 3 (V:=pt r) rfl ?_
   refine .al rfl zI ?_
   refine .mz rfl 10 E2_3 ?_
   refine .cO rfl 2 Tryz.func317 (fun H h0 hz=>⟨_,ar2 (H.p 37 2 h0) (H.g 38 3),bAbs (x:=_) (IntBlk.of hz) (IntO.p (VP.any _ (H.was _ [] (VP.at F5 L5)))) (by first|omega|exact p1)⟩) ?_
   refine .dT (fun u=>pt z::.pointer (some ⟨b1,ob1,none⟩)::.pointer (some ⟨b2,ob2,none⟩)::pt r::U::U::U::U::u1 0::u1 1::u2 3::sq u2 0 3 (sq u3 0 4 (.tuple #[pt z,pt r]::sq u4 0 4 (sq u5 0 4 (sq u6 0 3 (.pointer (some ⟨z,0,none⟩)::U::U::U::U::sq u 0 6 (U::U::[]))))))) bel.size _ rfl fun u7 w7 D=>?_
   obtain⟨b16,E7_4,A16,F16⟩:=D.ow 4
   have E7_0:=D.q 0
   have E7_1:=D.q 1
   have N_z_b16:=D.n1 2 (IntO.lt F_z) ((D.a 4 rfl).1.symm.trans E7_4)
   have N_r_b16:=D.n1 2 (IntO.lt F_r) ((D.a 4 rfl).1.symm.trans E7_4)
   replace F_z:=D.o L_z F_z
   replace F_r:=D.o L_r F_r
   have L16:Amb S W b16:=.inr A16
   replace bel:=bel.base D.d.base.grow.os D.d.base.grow.tape D.d.base.grow.output D.d.base.grow.size (fun k hk h1 h2=>D.d.base.block k (by omega) (by simp))
   clear D
   refine wpT_callO (args:=#[pt r,pt r,pt b16]) rfl (ex_call rfl rfl Tryz.func149 (by kernel_rfl) (by kernel_rfl) (by simp only [List.map_toArray,List.map_cons,List.map_nil];show #[(u7 0).v,(u7 1).v,(u7 4).v]=#[pt r,pt r,pt b16];rw [E7_0,E7_1,E7_4])) (bAdd (z:=r) (x:=x.tmod y) (y:=(y.natAbs:Int)) (IntO.blk F_r) (IntO.p (VP.any _ F_r)) (IntO.p (VP.any _ F16)) (by first|omega|exact p1)) fun w17 fw17 ow17=>?_
   have sw17:Soft w7 r∨Local w7 r:=.inl (IntO.soft F_r)
   replace F_z:=ow17.one sw17 _ N_z_r F_z
   replace F16:=ow17.one sw17 _ (Ne.symm N_r_b16) F16
   have F_r:=fw17
   replace bel:=bel.right ow17
   refine wpList_nil ?_
   show _
   refine K8 _ _ ?_
   refine gs 4 (Amb S W) fun _ K18=>?_
   refine .mz rfl 0 (V:=pt z) rfl ?_
   refine .mz rfl 3 (V:=pt r) rfl ?_
   refine .mv rfl 0 ?_
   refine .mv rfl 1 ?_
   refine .dg (fun u=>pt z::.pointer (some ⟨b1,ob1,none⟩)::.pointer (some ⟨b2,ob2,none⟩)::pt r::U::U::U::U::u 2::u 3::u2 3::sq u2 0 3 (sq u3 0 4 (.tuple #[pt z,pt r]::sq u4 0 4 (sq u5 0 4 (sq u6 0 3 (.pointer (some ⟨z,0,none⟩)::U::U::U::U::sq u7 0 5 (.pointer (some ⟨r,0,none⟩)::u 0::u 1::[]))))))) K18 bel.size fun u8 w8 D=>?_
   have E8_2:=D.q 2
   have E8_3:=D.q 3
   replace F_z:=D.o L_z F_z
   replace F_r:=D.o L_r F_r
   replace bel:=bel.base D.d.base.grow.os D.d.base.grow.tape D.d.base.grow.output D.d.base.grow.size (fun k hk h1 h2=>D.d.base.block k (by omega) (by simp))
   clear D
   refine wp_ret ?_
   exact ret_ok rfl (by exact results_two rfl (by exact E8_2) (by exact E8_3)) ⟨rfl,(into_eq ((dm_a p1 dc10 dc13).1) F_z),(into_eq ((dm_a p1 dc10 dc13).2) F_r),bel⟩
  ·
   refine wp_cond_false ((E5_3).trans (congrArg Value.bool c13)) ?_
   have dc13:=of_decide_eq_false c13
   refine go2_seqT 3 1 rfl (Amb S W) [] [] (Olds.nil _) (by kernel_rfl) ?_
   refine .mz rfl 0 (V:=pt z) rfl ?_
   refine .mz rfl 0 (V:=pt z) rfl ?_
   refine .cR rfl [] Tryz.func148 (fun H=>⟨_,ar1 (H.c (.int .i64 1)),bNewInt _ (by first|omega|exact p1) (by first|omega|exact p1)⟩) ?_
   refine .dT (fun u=>pt z::.pointer (some ⟨b1,ob1,none⟩)::.pointer (some ⟨b2,ob2,none⟩)::pt r::U::U::U::U::u1 0::u1 1::u2 3::sq u2 0 3 (sq u3 0 4 (.tuple #[pt z,pt r]::sq u4 0 4 (sq u5 0 4 (U::U::U::U::sq u 0 4 (us 8)))))) bel.size _ rfl fun u9 w9 D=>?_
   obtain⟨b19,E9_2,L19,F19⟩:=IntO.elim (D.rr 2)
   have E9_0:=D.q 0
   have E9_1:=D.q 1
   replace F5:=D.o L5 F5
   replace F_z:=D.o L_z F_z
   replace F_r:=D.o L_r F_r
   replace bel:=bel.base D.d.base.grow.os D.d.base.grow.tape D.d.base.grow.output D.d.base.grow.size (fun k hk h1 h2=>D.d.base.block k (by omega) (by simp))
   clear D
   refine wpT_callO (args:=#[pt z,pt z,pt b19]) rfl (ex_call rfl rfl Tryz.func254 (by kernel_rfl) (by kernel_rfl) (by simp only [List.map_toArray,List.map_cons,List.map_nil];show #[(u9 0).v,(u9 1).v,(u9 2).v]=#[pt z,pt z,pt b19];rw [E9_0,E9_1,E9_2])) (bSub (z:=z) (x:=x.tdiv y) (y:=(1:Int)) (IntO.blk F_z) (IntO.p (VP.any _ F_z)) (IntO.p (VP.any _ F19)) (by first|omega|exact p1)) fun w20 fw20 ow20=>?_
   have sw20:Soft w9 z∨Local w9 z:=.inl (IntO.soft F_z)
   replace F5:=ow20.one sw20 _ (Ne.symm N_z_b5) F5
   replace F_r:=ow20.one sw20 _ (Ne.symm N_z_r) F_r
   have F_z:=fw20
   replace bel:=bel.left ow20
   refine wpList_nil ?_
   show _
   refine K11 _ _ ?_
   refine go2_seqT 5 1 rfl (Amb S W) [] [] (Olds.nil _) (by kernel_rfl) ?_
   refine .mz rfl 3 (V:=pt r) rfl ?_
   refine .mz rfl 3 (V:=pt r) rfl ?_
   refine .al rfl zI ?_
   refine .mz rfl 10 E2_3 ?_
   refine .cO rfl 2 Tryz.func317 (fun H h0 hz=>⟨_,ar2 (H.p 37 2 h0) (H.g 38 3),bAbs (x:=_) (IntBlk.of hz) (IntO.p (VP.any _ (H.was _ [] (VP.at F5 L5)))) (by first|omega|exact p1)⟩) ?_
   refine .dT (fun u=>pt z::.pointer (some ⟨b1,ob1,none⟩)::.pointer (some ⟨b2,ob2,none⟩)::pt r::U::U::U::U::u1 0::u1 1::u2 3::sq u2 0 3 (sq u3 0 4 (.tuple #[pt z,pt r]::sq u4 0 4 (sq u5 0 4 (U::U::U::U::sq u9 0 3 (.pointer (some ⟨z,0,none⟩)::sq u 0 6 (U::U::[]))))))) bel.size _ rfl fun u10 w10 D=>?_
   obtain⟨b21,E10_4,A21,F21⟩:=D.ow 4
   have E10_0:=D.q 0
   have E10_1:=D.q 1
   have N_z_b21:=D.n1 2 (IntO.lt F_z) ((D.a 4 rfl).1.symm.trans E10_4)
   have N_r_b21:=D.n1 2 (IntO.lt F_r) ((D.a 4 rfl).1.symm.trans E10_4)
   replace F_z:=D.o L_z F_z
   replace F_r:=D.o L_r F_r
   have L21:Amb S W b21:=.inr A21
   replace bel:=bel.base D.d.base.grow.os D.d.base.grow.tape D.d.base.grow.output D.d.base.grow.size (fun k hk h1 h2=>D.d.base.block k (by omega) (by simp))
   clear D
   refine wpT_callO (args:=#[pt r,pt r,pt b21]) rfl (ex_call rfl rfl Tryz.func149 (by kernel_rfl) (by kernel_rfl) (by simp only [List.map_toArray,List.map_cons,List.map_nil];show #[(u10 0).v,(u10 1).v,(u10 4).v]=#[pt r,pt r,pt b21];rw [E10_0,E10_1,E10_4])) (bAdd (z:=r) (x:=x.tmod y) (y:=(y.natAbs:Int)) (IntO.blk F_r) (IntO.p (VP.any _ F_r)) (IntO.p (VP.any _ F21)) (by first|omega|exact p1)) fun w22 fw22 ow22=>?_
   have sw22:Soft w10 r∨Local w10 r:=.inl (IntO.soft F_r)
   replace F_z:=ow22.one sw22 _ N_z_r F_z
   replace F21:=ow22.one sw22 _ (Ne.symm N_r_b21) F21
   have F_r:=fw22
   replace bel:=bel.right ow22
   refine wpList_nil ?_
   show _
   refine K8 _ _ ?_
   refine gs 4 (Amb S W) fun _ K23=>?_
   refine .mz rfl 0 (V:=pt z) rfl ?_
   refine .mz rfl 3 (V:=pt r) rfl ?_
   refine .mv rfl 0 ?_
   refine .mv rfl 1 ?_
   refine .dg (fun u=>pt z::.pointer (some ⟨b1,ob1,none⟩)::.pointer (some ⟨b2,ob2,none⟩)::pt r::U::U::U::U::u 2::u 3::u2 3::sq u2 0 3 (sq u3 0 4 (.tuple #[pt z,pt r]::sq u4 0 4 (sq u5 0 4 (U::U::U::U::sq u9 0 3 (.pointer (some ⟨z,0,none⟩)::sq u10 0 5 (.pointer (some ⟨r,0,none⟩)::u 0::u 1::[]))))))) K23 bel.size fun u11 w11 D=>?_
   have E11_2:=D.q 2
   have E11_3:=D.q 3
   replace F_z:=D.o L_z F_z
   replace F_r:=D.o L_r F_r
   replace bel:=bel.base D.d.base.grow.os D.d.base.grow.tape D.d.base.grow.output D.d.base.grow.size (fun k hk h1 h2=>D.d.base.block k (by omega) (by simp))
   clear D
   refine wp_ret ?_
   exact ret_ok rfl (by exact results_two rfl (by exact E11_2) (by exact E11_3)) ⟨rfl,(into_eq ((dm_b p1 dc10 dc13).1) F_z),(into_eq ((dm_b p1 dc10 dc13).2) F_r),bel⟩
 ·
  refine wp_cond_false ((E4_3).trans (congrArg Value.bool c10)) ?_
  have dc10:=of_decide_eq_false c10
  refine wp_skip ?_
  refine K8 _ _ ?_
  refine gs 4 (Amb S W) fun _ K24=>?_
  refine .mz rfl 0 (V:=pt z) rfl ?_
  refine .mz rfl 3 (V:=pt r) rfl ?_
  refine .mv rfl 0 ?_
  refine .mv rfl 1 ?_
  refine .dg (fun u=>pt z::.pointer (some ⟨b1,ob1,none⟩)::.pointer (some ⟨b2,ob2,none⟩)::pt r::U::U::U::U::u 2::u 3::u2 3::sq u2 0 3 (sq u3 0 4 (.tuple #[pt z,pt r]::sq u4 0 4 (U::U::U::U::U::U::U::U::U::U::U::U::U::U::U::U::U::U::u 0::u 1::[])))) K24 bel.size fun u12 w12 D=>?_
  have E12_2:=D.q 2
  have E12_3:=D.q 3
  replace F_z:=D.o L_z F_z
  replace F_r:=D.o L_r F_r
  replace bel:=bel.base D.d.base.grow.os D.d.base.grow.tape D.d.base.grow.output D.d.base.grow.size (fun k hk h1 h2=>D.d.base.block k (by omega) (by simp))
  clear D
  refine wp_ret ?_
  exact ret_ok rfl (by exact results_two rfl (by exact E12_2) (by exact E12_3)) ⟨rfl,(into_eq ((dm_c p1 dc10).1) F_z),(into_eq ((dm_c p1 dc10).2) F_r),bel⟩
theorem bDiv{z:Nat}{v1 v2:Value}(x y:Int)(hz:IntBlk W z)(t1:(IntP x).p S v1 W)(t2:(IntP y).p S v2 W)(p0:hi x+hi y+4≤1099511627776)(p1:y≠0):Calls Tryz.prog 211 #[.pointer (some ⟨z,0,none⟩),v1,v2] W (RetOwn z (IntO (x/y)) W):=by
 have hS_:∃ S' : Nat→Prop,S' z∧(IntP x).p S' v1 W∧(IntP y).p S' v2 W:=⟨fun k=>S k∨k=z,.inr rfl,(IntP x).mono (fun _ _ h=>.inl h) t1,(IntP y).mono (fun _ _ h=>.inl h) t2⟩
 clear t1 t2
 obtain⟨S,L_z,t1,t2⟩:=hS_
 replace L_z:Amb S W z:=.inl L_z
 obtain⟨z_0,z_1,B_z⟩:=hz
 obtain⟨b1,ob1,rfl,L1,F1⟩:=IntP.elim t1
 replace L1:Amb S W b1:=.inl L1
 obtain⟨b2,ob2,rfl,L2,F2⟩:=IntP.elim t2
 replace L2:Amb S W b2:=.inl L2
 have bel:Only z W W:=Only.refl _ _
 go_enter Tryz.func211,Tryz.ntmps211
 refine gs 1 (Amb S W) fun _ K3=>?_
 refine .mc rfl ?_
 refine .dg (fun u=>pt z::.pointer (some ⟨b1,ob1,none⟩)::.pointer (some ⟨b2,ob2,none⟩)::U::U::U::u 0::us 6) K3 bel.size fun u1 w1 D=>?_
 have E1_0:=D.q 0
 replace B_z:=D.k B_z
 replace F1:=D.o L1 F1
 replace F2:=D.o L2 F2
 replace bel:=D.d.base.only0 bel
 clear D
 refine wp_seq_k fun _ K4=>?_
 refine go2_seqT 4 1 rfl (Amb S W) [] [] (Olds.nil _) (by kernel_rfl) ?_
 refine .mz rfl 0 (V:=pt z) rfl ?_
 refine .mz rfl 1 (V:=.pointer (some ⟨b1,ob1,none⟩)) rfl ?_
 refine .mz rfl 2 (V:=.pointer (some ⟨b2,ob2,none⟩)) rfl ?_
 refine .al rfl zI ?_
 refine .dT (fun u=>pt z::.pointer (some ⟨b1,ob1,none⟩)::.pointer (some ⟨b2,ob2,none⟩)::U::U::U::u1 0::sq u 0 5 (U::[])) bel.size _ rfl fun u2 w2 D=>?_
 obtain⟨b5,E2_3,A5,B5⟩:=D.nw 3
 have E2_0:=D.q 0
 have E2_1:=D.q 1
 have E2_2:=D.q 2
 have N_z_b5:=D.n1 3 (lt_of B_z) E2_3
 replace B_z:=D.k B_z
 replace F1:=D.o L1 F1
 replace F2:=D.o L2 F2
 replace bel:=D.d.base.only0 bel
 clear D
 refine wpT_callO2 (args:=#[pt z,.pointer (some ⟨b1,ob1,none⟩),.pointer (some ⟨b2,ob2,none⟩),pt b5]) rfl (ex_call rfl rfl Tryz.func289 (by kernel_rfl) (by kernel_rfl) (by simp only [List.map_toArray,List.map_cons,List.map_nil];show #[(u2 0).v,(u2 1).v,(u2 2).v,(u2 3).v]=#[pt z,.pointer (some ⟨b1,ob1,none⟩),.pointer (some ⟨b2,ob2,none⟩),pt b5];rw [E2_0,E2_1,E2_2,E2_3])) (bDivMod (z:=z) (x:=x) (y:=y) (r:=b5) (IntBlk.of B_z) (VP.any _ F1) (VP.any _ F2) (IntBlk.of B5) N_z_b5 (by first|omega|exact p1) (by first|omega|exact p1)) fun w6 fw6a fw6b ow6=>?_
 have sw6_z:Soft w2 z∨Local w2 z:=.inl ⟨_,_,B_z,rfl⟩
 have sw6_b5:Soft w2 b5∨Local w2 b5:=.inl ⟨_,_,B5,rfl⟩
 have F_z:=fw6a
 have F5:=fw6b
 have L5:Amb S W b5:=.inr A5
 replace bel:=ow6.drop bel A5
 refine wpList_nil ?_
 show _
 refine K4 _ _ ?_
 refine gs 2 (Amb S W) fun _ K7=>?_
 refine .mz rfl 0 (V:=pt z) rfl ?_
 refine .mv rfl 0 ?_
 refine .dg (fun u=>pt z::.pointer (some ⟨b1,ob1,none⟩)::.pointer (some ⟨b2,ob2,none⟩)::U::U::U::u 1::sq u2 0 4 (.tuple #[pt z,pt b5]::u 0::[])) K7 bel.size fun u3 w3 D=>?_
 have E3_1:=D.q 1
 replace F_z:=D.o L_z F_z
 replace bel:=D.d.base.only0 bel
 clear D
 refine wp_ret ?_
 refine ret_ok rfl (by exact results_tmp' rfl (by exact E3_1)) ⟨rfl,?_,bel⟩
 exact F_z
theorem qNum{v0:Value}(q:Rat)(t0:(RatP q).p S v0 W)(p0:ht q≤68719476736):Calls Tryz.prog 138 #[v0] W (Ret (IntO q.num) S W):=by
 obtain⟨b1,rfl,L1,F1⟩:=RatP.elim t0
 replace L1:Amb S W b1:=.inl L1
 have n0:=hi_num q
 have bel:=b0 W
 go_enter Tryz.func138,Tryz.ntmps138
 refine gs 1 (Amb S W) fun _ K2=>?_
 refine .mc rfl ?_
 refine .dk (fun u=>pt b1::U::u 0::us 5) K2 bel fun u1 w1 D bel=>?_
 have E1_0:=D.q 0
 replace F1:=D.o L1 F1
 clear D
 refine gs 6 (Amb S W) fun _ K3=>?_
 refine .al rfl zI ?_
 refine .mz rfl 0 (V:=pt b1) rfl ?_
 refine .nc rfl 1 ?_
 refine .fj rfl 2 0 ?_
 refine .cO rfl 0 Tryz.func252 (fun H h0 hz=>⟨_,ar2 (H.p 3 0 h0) (H.g 6 3),bSet _ (IntBlk.of hz) (RatP.num (VP.any _ (H.was _ [] (VP.at F1 L1)))) (by omega)⟩) ?_
 refine .mo rfl 4 ?_
 refine .dk (fun u=>pt b1::U::u 5::sq u 0 5 []) K3 bel fun u2 w2 D bel=>?_
 obtain⟨b4,E2_5,A4,F4⟩:=D.ow 5
 have L4:Amb S W b4:=.inr A4
 clear D
 refine wp_ret ?_
 refine ret_ok rfl (by exact results_tmp' rfl (by exact E2_5)) ⟨_,rfl,?_,bel⟩
 exact (VP.at F4 L4)
theorem qDenom{v0:Value}(q:Rat)(t0:(RatP q).p S v0 W)(p0:ht q≤68719476736):Calls Tryz.prog 139 #[v0] W (Ret (IntO (q.den:Int)) S W):=by
 obtain⟨b1,rfl,L1,F1⟩:=RatP.elim t0
 replace L1:Amb S W b1:=.inl L1
 have n0:=hi_den q
 have bel:=b0 W
 go_enter Tryz.func139,Tryz.ntmps139
 refine gs 1 (Amb S W) fun _ K2=>?_
 refine .mc rfl ?_
 refine .dk (fun u=>pt b1::U::u 0::us 4) K2 bel fun u1 w1 D bel=>?_
 have E1_0:=D.q 0
 replace F1:=D.o L1 F1
 clear D
 refine gs 5 (Amb S W) fun _ K3=>?_
 refine .al rfl zI ?_
 refine .mz rfl 0 (V:=pt b1) rfl ?_
 refine .cR rfl [] Tryz.func222 (fun H=>⟨_,ar1 (H.g 4 1),bDen _ (H.was _ [] (VP.at F1 L1))⟩) ?_
 refine .cO rfl 0 Tryz.func252 (fun H h0 hz=>⟨_,ar2 (H.p 3 0 h0) (H.r 5 2),bSet _ (IntBlk.of hz) (SV.any (H.a 2 rfl)) (by omega)⟩) ?_
 refine .mo rfl 3 ?_
 refine .dk (fun u=>pt b1::U::u 4::sq u 0 4 []) K3 bel fun u2 w2 D bel=>?_
 obtain⟨b4,E2_4,A4,F4⟩:=D.ow 4
 have L4:Amb S W b4:=.inr A4
 clear D
 refine wp_ret ?_
 refine ret_ok rfl (by exact results_tmp' rfl (by exact E2_4)) ⟨_,rfl,?_,bel⟩
 exact (VP.at F4 L4)
theorem qSign{v0:Value}(q:Rat)(t0:(RatP q).p S v0 W):Calls Tryz.prog 91 #[v0] W (RetV (.int .i64 q.num.sign) W):=by
 obtain⟨b1,rfl,L1,F1⟩:=RatP.elim t0
 replace L1:Amb S W b1:=.inl L1
 have bel:=b0 W
 go_enter Tryz.func91,Tryz.ntmps91
 refine gs 1 (Amb S W) fun _ K2=>?_
 refine .mc rfl ?_
 refine .dk (fun u=>pt b1::U::u 0::us 4) K2 bel fun u1 w1 D bel=>?_
 have E1_0:=D.q 0
 replace F1:=D.o L1 F1
 clear D
 refine gs 5 (Amb S W) fun _ K3=>?_
 refine .mz rfl 0 (V:=pt b1) rfl ?_
 refine .nc rfl 0 ?_
 refine .fj rfl 1 0 ?_
 refine .cK rfl Tryz.func220 (fun H=>⟨_,ar1 (H.g 5 2),bSign _ (RatP.num (VP.any _ (H.was _ [] (VP.at F1 L1))))⟩) ?_
 refine .mv rfl 3 ?_
 refine .dk (fun u=>pt b1::U::u 4::sq u 0 4 []) K3 bel fun u2 w2 D bel=>?_
 have E2_4:=D.q 4
 clear D
 exact wp_ret (rt rfl E2_4 rfl bel)
theorem qCmp{v0 v1:Value}(x y:Rat)(t0:(RatP x).p S v0 W)(t1:(RatP y).p S v1 W)(p0:ht x+ht y≤68719476736):Calls Tryz.prog 92 #[v0,v1] W (RetV (.int .i64 (icmp (x.num*(y.den:Int)) (y.num*(x.den:Int)))) W):=by
 obtain⟨b1,rfl,L1,F1⟩:=RatP.elim t0
 replace L1:Amb S W b1:=.inl L1
 obtain⟨b2,rfl,L2,F2⟩:=RatP.elim t1
 replace L2:Amb S W b2:=.inl L2
 have n0:=hi_num x
 have n1:=hi_num y
 have n2:=hi_den x
 have n3:=hi_den y
 have m0:=hi_mul x.num (y.den:Int)
 have m1:=hi_mul y.num (x.den:Int)
 have bel:=b0 W
 go_enter Tryz.func92,Tryz.ntmps92
 refine gs 1 (Amb S W) fun _ K3=>?_
 refine .mc rfl ?_
 refine .dk (fun u=>pt b1::pt b2::U::U::u 0::us 15) K3 bel fun u1 w1 D bel=>?_
 have E1_0:=D.q 0
 replace F1:=D.o L1 F1
 replace F2:=D.o L2 F2
 clear D
 refine gd 16 (Amb S W) fun _ K4=>?_
 refine .al rfl zI ?_
 refine .mz rfl 0 (V:=pt b1) rfl ?_
 refine .nc rfl 1 ?_
 refine .fj rfl 2 0 ?_
 refine .mz rfl 1 (V:=pt b2) rfl ?_
 refine .cR rfl [] Tryz.func222 (fun H=>⟨_,ar1 (H.g 9 4),bDen _ (H.was _ [] (VP.at F2 L2))⟩) ?_
 refine .cO rfl 0 Tryz.func221 (fun H h0 hz=>⟨_,ar3 (H.p 5 0 h0) (H.g 8 3) (H.r 10 5),bMul _ _ (IntBlk.of hz) (RatP.num (VP.any _ (H.was _ [] (VP.at F1 L1)))) (SV.any (H.a 5 rfl)) (by omega)⟩) ?_
 refine .al rfl zI ?_
 refine .mz rfl 1 (V:=pt b2) rfl ?_
 refine .nc rfl 8 ?_
 refine .fj rfl 9 0 ?_
 refine .mz rfl 0 (V:=pt b1) rfl ?_
 refine .cR rfl [] Tryz.func222 (fun H=>⟨_,ar1 (H.g 16 11),bDen _ (H.was _ [] (VP.at F1 L1))⟩) ?_
 refine .cO rfl 7 Tryz.func221 (fun H h0 hz=>⟨_,ar3 (H.p 12 7 h0) (H.g 15 10) (H.r 17 12),bMul _ _ (IntBlk.of hz) (RatP.num (VP.any _ (H.was _ [] (VP.at F2 L2)))) (SV.any (H.a 12 rfl)) (by omega)⟩) ?_
 refine .cK rfl Tryz.func210 (fun H=>⟨_,ar2 (H.r 11 6) (H.r 18 13),bCmp _ _ (IntO.p (Own.any (H.a 6 rfl))) (IntO.p (Own.any (H.a 13 rfl))) (by omega)⟩) ?_
 refine .mv rfl 14 ?_
 refine .dk (fun u=>pt b1::pt b2::U::U::u 15::sq u 0 15 []) K4 bel fun u2 w2 D bel=>?_
 have E2_15:=D.q 15
 clear D
 exact wp_ret (rt rfl E2_15 rfl bel)
end Go.Proofs.YtcdbmjnipaochaaGreat
namespace Go.Proofs.YtcdbmjnipaochaaGreat.Rgn
open Go.RowKit
variable {P:Program} {ops:Array Oper} {a0:Act} {w0:World} {B0:Nat} {R0:Nat→Prop} {olds:List (Nat×Nat)} {F:List (Pl B0 R0 olds)→Prop}
theorem TodoG.storeSoft{k:Nat}{plan:List (Pl B0 R0 olds)}(i x z:Nat)(hi:plan.length=i)(o:Oper)(ho:ops[i]? = some o)(hg:o.guard=none)(hx:olds[x]? = some (z,i))(hl:Soft w0 z)(hR:¬ R0 z)(s:SP B0 R0 olds)(h:∀ u w ρ,Here ops a0 olds w0 plan i u w ρ→∃ w', (execOp ρ o).run P w=.ok .skip w'∧(∀ g,s.p (upd u i g) w')∧Only z w w')(rest:TodoG P ops a0 w0 F k (plan++[.op none s])):TodoG P ops a0 w0 F (k+1) plan:=by
 subst hi
 refine⟨.op none s,fun o' ho' u w ρ hE hB hO hf hbl=>.inr ⟨?_,?_⟩,rest⟩
 ·rw [ho] at ho';cases ho';exact wanted_none hg _
 ·rw [ho] at ho';cases ho'
  obtain⟨w', h1,h2,h3⟩:=h u w ρ ⟨hE,hB,hO,hf⟩
  refine .inr (.inl ⟨w', h1,h2 _,⟨h3.os,h3.tape,h3.output,h3.size,fun k hk=>?_⟩⟩)
  by_cases hkb:k=z
  ·subst hkb
   refine .inr (.inr ⟨⟨x,hx⟩,.inr ⟨?_,hR⟩⟩)
   unfold Soft
   rw [hO x k _ hx (.inl rfl)]
   exact hl
  ·exact .inl (h3.block k hk hkb)
theorem Go2.storeSoft{k i:Nat}{rp:List (Nat×Pl B0 R0 olds)}(x z:Nat){o:Oper}(ho:ops[i]? = some o)(hg:o.guard=none)(hx:olds[x]? = some (z,i))(hl:Soft w0 z)(hR:¬ R0 z)(s:SP B0 R0 olds)(h:∀ u w ρ,Here2 ops a0 olds w0 rp i u w ρ→∃ w', (execOp ρ o).run P w=.ok .skip w'∧(∀ g,s.p (upd u i g) w')∧Only z w w')(rest:Go2 P ops a0 w0 F k (i+1) ((i,.op none s)::rp)):Go2 P ops a0 w0 F (k+1) i rp:=fun hwf =>
 TodoG.storeSoft i x z hwf.len o ho hg hx hl hR s (fun u w ρ H=>h u w ρ ⟨H,hwf⟩) (Go2.next hwf rest)
end Go.Proofs.YtcdbmjnipaochaaGreat.Rgn
namespace Go.Proofs.YtcdbmjnipaochaaGreat
open Go.RowKit Rgn
def IntV(n:Int):VP:=VP.two (.is (.bool (decide (n<0)))) (MagP n.natAbs)
theorem Rgn.SP.intV{B0:Nat}{R0:Nat→Prop}{olds:List (Nat×Nat)}{i:Nat}{near:List Nat}{n:Int}{a b:Nat}{u:Nat→Got}{w:World}{v:Value}(h:Mag w v n.natAbs):(SP.val (B0:=B0) (R0:=R0) (olds:=olds) i near (IntV n)).p (upd u i ⟨.agg #[.bool (decide (n<0)),v],a,b⟩) w:=by
 show (IntV n).p _ (upd u i _ i).v w
 rw [upd_same];exact⟨_,v,rfl,rfl,h⟩
theorem RatP.of{a b:Int}{q:Rat}(h:a=q.num)(h': b=(q.den:Int)){z:Nat}{w:World}{v1 v2:Value}(hB:w.heap[z]? = some (.cells #[.bool (decide (a<0)),v1,.bool (decide (b<0)),v2] 212 (0,0)))(h1:Mag w v1 a.natAbs)(h2:Mag w v2 b.natAbs):(RatP q).p (·=z) (.pointer (some ⟨z,0,none⟩)) w:=by
 subst h;subst h'
 rw [decide_eq_false (show ¬ (q.den:Int)<0 by omega)] at hB
 exact⟨z,rfl,rfl,.inl ⟨v1,v2,hB,h1,h2⟩⟩
theorem sf_1{a b:Int}(h:b<0):a.tdiv (-(Int.gcd a b:Int))=(Rat.divInt a b).num∧b.tdiv (-(Int.gcd a b:Int))=((Rat.divInt a b).den:Int):=by
 have hy:b≠0:=by omega
 have ha:(-(Int.gcd a b:Int)) ∣ a:=Int.neg_dvd.2 (Int.gcd_dvd_left a b)
 have hb:(-(Int.gcd a b:Int)) ∣ b:=Int.neg_dvd.2 (Int.gcd_dvd_right a b)
 rw [Int.tdiv_eq_ediv_of_dvd ha,Int.tdiv_eq_ediv_of_dvd hb]
 have hs:b.sign=-1:=by have:=sign3 b;omega
 constructor
 ·rw [Rat.num_divInt,hs,Int.gcd_comm b a,Int.ediv_neg,Int.neg_one_mul,Int.neg_ediv_of_dvd (Int.gcd_dvd_left a b)]
 ·rw [Rat.den_divInt,if_neg hy,Int.gcd_comm b a,Int.natCast_ediv,Int.ediv_neg,show ((b.natAbs:Nat):Int)=-b by omega,Int.neg_ediv_of_dvd (Int.gcd_dvd_right a b)]
theorem sf_2{a b:Int}(hy:b≠0)(h:¬ b<0):a.tdiv (Int.gcd a b:Int)=(Rat.divInt a b).num∧b.tdiv (Int.gcd a b:Int)=((Rat.divInt a b).den:Int):=by
 rw [Int.tdiv_eq_ediv_of_dvd (Int.gcd_dvd_left a b),Int.tdiv_eq_ediv_of_dvd (Int.gcd_dvd_right a b)]
 have hs:b.sign=1:=by have:=sign3 b;omega
 constructor
 ·rw [Rat.num_divInt,hs,Int.gcd_comm b a,Int.one_mul]
 ·rw [Rat.den_divInt,if_neg hy,Int.gcd_comm b a,Int.natCast_ediv,show ((b.natAbs:Nat):Int)=b by omega]
end Go.Proofs.YtcdbmjnipaochaaGreat
