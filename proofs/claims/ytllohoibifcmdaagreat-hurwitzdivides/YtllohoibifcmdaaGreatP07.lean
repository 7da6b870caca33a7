/- tracerylaw24.HurwitzDivides returns true for every two numbers, and changes nothing that it was handed. No condition. -/
import Derived.Test.YtllohoibifcmdaaGreatP06
import Derived.ProofKit
import Derived.OpenShut
import Derived.JoinedCond
import Derived.Deep.Slices
import Derived.Test.YtllohoibifcmdaaGreatRows
import Derived.WalkKit
import Derived.Below
import Derived.ChangeSame
import Derived.WideKeyArgs
import Derived.JoinedOf
import Derived.JoinedAt
set_option linter.unusedVariables false
set_option linter.unusedSimpArgs false
namespace Go.Proofs.YtllohoibifcmdaaGreat
open Go.RowKit Rgn
set_option maxHeartbeats 4000000
set_option maxRecDepth 100000
variable {S:Nat → Prop} {W:World}
theorem lDivV4 {N:Nat} {r:Cx × Cx × Cx} (x:Cx) (y:Cx) (p0:wideU (40:Int) ([rg x,rg y]) = false) (p1:gwhole (rg x) = true) (p2:gwhole (rg y) = true) (p3:ht x.re + ht x.im ≤ 20000) (p4:ht y.re + ht y.im ≤ 20000) (p5:gfits (rg (x.mul (unitC (firstC x).toNat))) = true) (p6:combC N x (Cx.ofInt (1:Int) (0:Int)) (Cx.ofInt (0:Int) (0:Int)) y (Cx.ofInt (0:Int) (0:Int)) (Cx.ofInt (1:Int) (0:Int)) = some r) (p7:gfits (rg (r.1.mul (unitC (firstC r.1).toNat))) = true) (p8:gfits (rg (r.2.1.mul (unitC (firstC r.1).toNat))) = true) (p9:gfits (rg (r.2.2.mul (unitC (firstC r.1).toNat))) = true) (p10:y.zero = true) :
  Calls Tryz.prog 5 #[gV x,gV y] W (RetV (.bool true) W):=by
 have kf:=firstC_cases x
 have ku:=ht_unit (firstC x).toNat
 have bel:=b0 W
 go_enter Tryz.func5,Tryz.ntmps5
 refine gs 3 (Amb Z0 W) fun _ K1=>?_
 refine .bx rfl (fun H=>H.v 0 (gV x)) ?_
 refine .bx rfl (fun H=>H.v 1 (gV y)) ?_
 refine .mc rfl ?_
 refine .dk (fun u=>gV x::gV y::sq u 0 3 (us 228)) K1 bel fun u1 w1 D bel=>?_
 obtain ⟨b2,E1_0,A2,B2⟩:=D.nw 0
 obtain ⟨b3,E1_1,A3,B3⟩:=D.nw 1
 have E1_2:=D.q 2
 clear D
 refine wp_seq_k fun _ K4=>?_
 refine wp_seq_k fun _ K5=>?_
 refine wp_region_list ?_
 refine wpT_val (v:=gV x) rfl (ex_load_row 30 _ rfl (by exact E1_0) B2 Tryz.underlying30 rfl (by kernel_rfl)) ?_
 refine wpList_as (fr (gV x::gV y::sq u1 0 3 (sq uu 0 20 (gV x::us 207)))) (by kernel_rfl) ?_
 refine wpT_val (v:=gV y) rfl (ex_load_row 30 _ rfl (by exact E1_1) B3 Tryz.underlying30 rfl (by kernel_rfl)) ?_
 refine wpList_as (fr (gV x::gV y::sq u1 0 3 (sq uu 0 20 (gV x::gV y::us 206)))) (by kernel_rfl) ?_
 refine wpT_lit2 (r0:=rg x) (r1:=rg y) rfl rfl rfl rfl fun v7 w6 tw6 mw6 ow6=>?_
 obtain ⟨p_q,c_q,cur_q,T_q,fr_q,rfl,y_q,z_q,P_q,B_q,Q_q⟩:=GSl.open tw6
 replace mw6:=mw6 _ _ _ rfl
 have N_q_b2:=Nat.ne_of_lt (Nat.lt_of_lt_of_le (lt_of B2) mw6)
 have N_q_b3:=Nat.ne_of_lt (Nat.lt_of_lt_of_le (lt_of B3) mw6)
 replace B2:=(ow6.block b2 (lt_of B2)).trans B2
 replace B3:=(ow6.block b3 (lt_of B3)).trans B3
 replace bel:=bel.trans (ow6.mono bel.size)
 replace P_q:=Lib.hid P_q
 have X_q:=GSl.lt B_q
 refine wpList_as (fr (gV x::gV y::sq u1 0 3 (sq uu 0 20 (gV x::gV y::.slice p_q ([rg x,rg y]).length c_q::us 205)))) (by kernel_rfl) ?_
 refine wpT_callKW (V:=.bool false) (wanted_none rfl _) (ex_call rfl rfl Tryz.func8 (by kernel_rfl) (by kernel_rfl) (by simp only [List.map_toArray,List.map_cons,List.map_nil]; rfl)) (reV (congrArg Value.bool p0) (lWide (most:=(40:Int)) (l:=[rg x,rg y]) (GSl.mk y_q z_q P_q.out B_q Q_q) (by first | omega | exact len2_le | exact p1 | exact p2 | exact p5 | exact p6 | exact p7 | exact p8 | exact p9 | exact p10 | exact gw_may p1 | rfl))) fun w8 ow8=>?_
 replace B2:=(ow8.block b2 (lt_of B2)).trans B2
 replace B3:=(ow8.block b3 (lt_of B3)).trans B3
 replace B_q:=fun h=>(ow8.block _ (lt_of (B_q h))).trans (B_q h)
 replace bel:=bel.trans (ow8.mono bel.size)
 refine wpList_as (fr (gV x::gV y::sq u1 0 3 (sq uu 0 20 (gV x::gV y::.slice p_q ([rg x,rg y]).length c_q::.bool false::us 204)))) (by kernel_rfl) ?_
 refine wpList_nil ?_
 show _
 refine K5 _ _ ?_
 refine wp_cond_false rfl ?_
 refine wp_skip ?_
 refine K4 _ _ ?_
 refine gs 8 (Amb Z0 W) fun _ K9=>?_
 refine .lr rfl 2 E1_0 B2 ?_
 refine .cK rfl Tryz.func22 (fun H=>⟨_,ar1 (H.g 31 0),hNearC _ (by first | omega | exact len2_le | exact p1 | exact p2 | exact p5 | exact p6 | exact p7 | exact p8 | exact p9 | exact p10 | exact gw_may p1 | rfl) (by first | omega | exact len2_le | exact p1 | exact p2 | exact p5 | exact p6 | exact p7 | exact p8 | exact p9 | exact p10 | exact gw_may p1 | rfl)⟩) ?_
 refine .mv rfl 1 ?_
 refine .e rfl (V:=rgV (gcut x.near)) (fun H=>x_ex (H.g 30 2)) ?_
 refine .e rfl (V:=.int .i64 (gerr x.near)) (fun H=>x_ex (H.g 30 2)) ?_
 refine .al rfl zG ?_
 refine .so rfl 5 (fun H=>⟨H.r 5 5,H.g 33 3⟩) ?_
 refine .mv rfl 4 ?_
 refine .dk (fun u=>gV x::gV y::sq u1 0 3 (u 5::u 7::sq uu 0 18 (gV x::gV y::.slice p_q ([rg x,rg y]).length c_q::.bool false::U::u 2::u 0::u 1::u 3::u 4::us 198))) K9 bel fun u3 w3 D bel=>?_
 obtain ⟨b10,E3_5,A10,B10⟩:=D.st 6
 have E3_7:=D.q 7
 replace B2:=D.k B2
 replace B3:=D.k B3
 replace B_q:=fun h=>D.k (B_q h)
 clear D
 refine gs 12 (Amb Z0 W) fun _ K11=>?_
 refine .lr rfl 2 E1_0 B2 ?_
 refine .lr rfl 3 E1_1 B3 ?_
 refine .cK rfl Tryz.func23 (fun H=>⟨_,ar2 (H.g 36 0) (H.g 37 1),hDivB _ _ (by first | omega | exact len2_le | exact p1 | exact p2 | exact p5 | exact p6 | exact p7 | exact p8 | exact p9 | exact p10 | exact gw_may p1 | rfl) (by first | omega | exact len2_le | exact p1 | exact p2 | exact p5 | exact p6 | exact p7 | exact p8 | exact p9 | exact p10 | exact gw_may p1 | rfl) (by first | omega | exact len2_le | exact p1 | exact p2 | exact p5 | exact p6 | exact p7 | exact p8 | exact p9 | exact p10 | exact gw_may p1 | rfl)⟩) ?_
 refine .mv rfl 2 ?_
 refine .e rfl (V:=.agg zG) (fun H=>x_ex (H.g 35 3)) ?_
 refine .e rfl (V:=.agg zG) (fun H=>x_ex (H.g 35 3)) ?_
 refine .e rfl (V:=.int .i64 5) (fun H=>x_ex (H.g 35 3)) ?_
 refine .al rfl zG ?_
 refine .al rfl zG ?_
 refine .so rfl 7 (fun H=>⟨H.r 7 7,H.g 39 4⟩) ?_
 refine .so rfl 8 (fun H=>⟨H.r 8 8,H.g 40 5⟩) ?_
 refine .mv rfl 6 ?_
 refine .dk (fun u=>gV x::gV y::sq u1 0 3 (u3 5::u3 7::u 7::u 8::u 11::sq uu 0 15 (gV x::gV y::.slice p_q ([rg x,rg y]).length c_q::.bool false::U::u3 2::u3 0::u3 1::u3 3::u3 4::u 3::sq u 0 3 (sq u 4 3 (us 191))))) K11 bel fun u4 w4 D bel=>?_
 obtain ⟨b12,E4_7,A12,B12⟩:=D.st 9
 obtain ⟨b13,E4_8,A13,B13⟩:=D.st 10
 have E4_11:=D.q 11
 replace B2:=D.k B2
 replace B3:=D.k B3
 replace B10:=D.k B10
 replace B_q:=fun h=>D.k (B_q h)
 clear D
 refine gs 9 (Amb Z0 W) fun _ K14=>?_
 refine .lr rfl 2 E1_0 B2 ?_
 refine .lr rfl 3 E1_1 B3 ?_
 refine .cK rfl Tryz.func24 (fun H=>⟨_,ar2 (H.g 43 0) (H.g 44 1),hGcdC _ _ (N:=N) (r:=r) (by first | omega | exact len2_le | exact p1 | exact p2 | exact p5 | exact p6 | exact p7 | exact p8 | exact p9 | exact p10 | exact gw_may p1 | rfl) (by first | omega | exact len2_le | exact p1 | exact p2 | exact p5 | exact p6 | exact p7 | exact p8 | exact p9 | exact p10 | exact gw_may p1 | rfl) (by first | omega | exact len2_le | exact p1 | exact p2 | exact p5 | exact p6 | exact p7 | exact p8 | exact p9 | exact p10 | exact gw_may p1 | rfl) (by first | omega | exact len2_le | exact p1 | exact p2 | exact p5 | exact p6 | exact p7 | exact p8 | exact p9 | exact p10 | exact gw_may p1 | rfl)⟩) ?_
 refine .mv rfl 2 ?_
 refine .e rfl (V:=gV (r.1.mul (unitC (firstC r.1).toNat))) (fun H=>x_ex (H.g 42 3)) ?_
 refine .e rfl (V:=.int .i64 0) (fun H=>x_ex (H.g 42 3)) ?_
 refine .al rfl zG ?_
 refine .so rfl 6 (fun H=>⟨H.r 10 6,H.g 46 4⟩) ?_
 refine .mv rfl 5 ?_
 refine .dk (fun u=>gV x::gV y::sq u1 0 3 (u3 5::u3 7::u4 7::u4 8::u4 11::u 6::u 8::sq uu 0 13 (gV x::gV y::.slice p_q ([rg x,rg y]).length c_q::.bool false::U::u3 2::u3 0::u3 1::u3 3::u3 4::u4 3::sq u4 0 3 (sq u4 4 3 (u 3::sq u 0 3 (u 4::u 5::us 185)))))) K14 bel fun u5 w5 D bel=>?_
 obtain ⟨b15,E5_6,A15,B15⟩:=D.st 7
 have E5_8:=D.q 8
 replace B2:=D.k B2
 replace B3:=D.k B3
 replace B10:=D.k B10
 replace B12:=D.k B12
 replace B13:=D.k B13
 replace B_q:=fun h=>D.k (B_q h)
 clear D
 refine gs 15 (Amb Z0 W) fun _ K16=>?_
 refine .lr rfl 2 E1_0 B2 ?_
 refine .lr rfl 3 E1_1 B3 ?_
 refine .cK rfl Tryz.func25 (fun H=>⟨_,ar2 (H.g 49 0) (H.g 50 1),hCombC _ _ (N:=N) (r:=r) (by first | omega | exact len2_le | exact p1 | exact p2 | exact p5 | exact p6 | exact p7 | exact p8 | exact p9 | exact p10 | exact gw_may p1 | rfl) (by first | omega | exact len2_le | exact p1 | exact p2 | exact p5 | exact p6 | exact p7 | exact p8 | exact p9 | exact p10 | exact gw_may p1 | rfl) (by first | omega | exact len2_le | exact p1 | exact p2 | exact p5 | exact p6 | exact p7 | exact p8 | exact p9 | exact p10 | exact gw_may p1 | rfl) (by first | omega | exact len2_le | exact p1 | exact p2 | exact p5 | exact p6 | exact p7 | exact p8 | exact p9 | exact p10 | exact gw_may p1 | rfl) (by first | omega | exact len2_le | exact p1 | exact p2 | exact p5 | exact p6 | exact p7 | exact p8 | exact p9 | exact p10 | exact gw_may p1 | rfl) (by first | omega | exact len2_le | exact p1 | exact p2 | exact p5 | exact p6 | exact p7 | exact p8 | exact p9 | exact p10 | exact gw_may p1 | rfl)⟩) ?_
 refine .mv rfl 2 ?_
 refine .e rfl (V:=gV (r.1.mul (unitC (firstC r.1).toNat))) (fun H=>x_ex (H.g 48 3)) ?_
 refine .e rfl (V:=gV (r.2.1.mul (unitC (firstC r.1).toNat))) (fun H=>x_ex (H.g 48 3)) ?_
 refine .e rfl (V:=gV (r.2.2.mul (unitC (firstC r.1).toNat))) (fun H=>x_ex (H.g 48 3)) ?_
 refine .e rfl (V:=.int .i64 0) (fun H=>x_ex (H.g 48 3)) ?_
 refine .al rfl zG ?_
 refine .al rfl zG ?_
 refine .al rfl zG ?_
 refine .so rfl 8 (fun H=>⟨H.r 12 8,H.g 52 4⟩) ?_
 refine .so rfl 9 (fun H=>⟨H.r 13 9,H.g 53 5⟩) ?_
 refine .so rfl 10 (fun H=>⟨H.r 14 10,H.g 54 6⟩) ?_
 refine .mv rfl 7 ?_
 refine .dk (fun u=>gV x::gV y::sq u1 0 3 (u3 5::u3 7::u4 7::u4 8::u4 11::u5 6::u5 8::sq u 8 3 (u 14::sq uu 0 9 (gV x::gV y::.slice p_q ([rg x,rg y]).length c_q::.bool false::U::u3 2::u3 0::u3 1::u3 3::u3 4::u4 3::sq u4 0 3 (sq u4 4 3 (u5 3::sq u5 0 3 (u5 4::u5 5::u 3::sq u 0 3 (sq u 4 4 (us 177))))))))) K16 bel fun u6 w6 D bel=>?_
 obtain ⟨b17,E6_8,A17,B17⟩:=D.st 11
 obtain ⟨b18,E6_9,A18,B18⟩:=D.st 12
 obtain ⟨b19,E6_10,A19,B19⟩:=D.st 13
 have E6_14:=D.q 14
 replace B2:=D.k B2
 replace B3:=D.k B3
 replace B10:=D.k B10
 replace B12:=D.k B12
 replace B13:=D.k B13
 replace B15:=D.k B15
 replace B_q:=fun h=>D.k (B_q h)
 clear D
 refine gs 10 (Amb Z0 W) fun _ K20=>?_
 refine .lr rfl 2 E1_0 B2 ?_
 refine .cK rfl Tryz.func26 (fun H=>⟨_,ar1 (H.g 57 0),hFirC _ (by first | omega | exact len2_le | exact p1 | exact p2 | exact p5 | exact p6 | exact p7 | exact p8 | exact p9 | exact p10 | exact gw_may p1 | rfl) (by first | omega | exact len2_le | exact p1 | exact p2 | exact p5 | exact p6 | exact p7 | exact p8 | exact p9 | exact p10 | exact gw_may p1 | rfl) (by first | omega | exact len2_le | exact p1 | exact p2 | exact p5 | exact p6 | exact p7 | exact p8 | exact p9 | exact p10 | exact gw_may p1 | rfl)⟩) ?_
 refine .mv rfl 1 ?_
 refine .e rfl (V:=gV (x.mul (unitC (firstC x).toNat))) (fun H=>x_ex (H.g 56 2)) ?_
 refine .e rfl (V:=.int .i64 (firstC x)) (fun H=>x_ex (H.g 56 2)) ?_
 refine .e rfl (V:=.int .i64 0) (fun H=>x_ex (H.g 56 2)) ?_
 refine .al rfl zG ?_
 refine .so rfl 6 (fun H=>⟨H.r 16 6,H.g 59 3⟩) ?_
 refine .mv rfl 4 ?_
 refine .mv rfl 5 ?_
 refine .dk (fun u=>gV x::gV y::sq u1 0 3 (u3 5::u3 7::u4 7::u4 8::u4 11::u5 6::u5 8::sq u6 8 3 (u6 14::u 6::u 8::u 9::U::U::U::U::U::U::gV x::gV y::.slice p_q ([rg x,rg y]).length c_q::.bool false::U::u3 2::u3 0::u3 1::u3 3::u3 4::u4 3::sq u4 0 3 (sq u4 4 3 (u5 3::sq u5 0 3 (u5 4::u5 5::u6 3::sq u6 0 3 (sq u6 4 4 (u 2::u 0::u 1::sq u 3 3 (us 171))))))))) K20 bel fun u7 w7 D bel=>?_
 obtain ⟨b21,E7_6,A21,B21⟩:=D.st 7
 have E7_8:=D.q 8
 have E7_9:=D.q 9
 replace B2:=D.k B2
 replace B3:=D.k B3
 replace B10:=D.k B10
 replace B12:=D.k B12
 replace B13:=D.k B13
 replace B15:=D.k B15
 replace B17:=D.k B17
 replace B18:=D.k B18
 replace B19:=D.k B19
 replace B_q:=fun h=>D.k (B_q h)
 clear D
 refine gd 6 (Amb Z0 W) fun _ K22=>?_
 refine .lr rfl 2 E1_0 B2 ?_
 refine .cK rfl (V:=.bool true) Tryz.func27 (fun H=>⟨_,ar1 (H.g 62 0),reV (congrArg Value.bool p1) (cWhole (rg x))⟩) ?_
 refine .lr rfl 3 E1_1 B3 ?_
 refine .cK rfl (V:=.bool true) Tryz.func27 (fun H=>⟨_,ar1 (H.g 64 2),reV (congrArg Value.bool p2) (cWhole (rg y))⟩) ?_
 refine .mv rfl 1 ?_
 refine .mv rfl 3 ?_
 refine .dk (fun u=>gV x::gV y::sq u1 0 3 (u3 5::u3 7::u4 7::u4 8::u4 11::u5 6::u5 8::sq u6 8 3 (u6 14::u7 6::u7 8::u7 9::u 4::u 5::U::U::U::U::gV x::gV y::.slice p_q ([rg x,rg y]).length c_q::.bool false::U::u3 2::u3 0::u3 1::u3 3::u3 4::u4 3::sq u4 0 3 (sq u4 4 3 (u5 3::sq u5 0 3 (u5 4::u5 5::u6 3::sq u6 0 3 (sq u6 4 4 (u7 2::u7 0::u7 1::sq u7 3 3 (sq u 0 4 (us 167)))))))))) K22 bel fun u8 w8 D bel=>?_
 have E8_4:=D.q 4
 have E8_5:=D.q 5
 replace B2:=D.k B2
 replace B3:=D.k B3
 replace B10:=D.k B10
 replace B12:=D.k B12
 replace B13:=D.k B13
 replace B15:=D.k B15
 replace B17:=D.k B17
 replace B18:=D.k B18
 replace B19:=D.k B19
 replace B21:=D.k B21
 replace B_q:=fun h=>D.k (B_q h)
 clear D
 refine wp_seq_k fun _ K23=>?_
 refine gs 10 (Amb Z0 W) fun _ K24=>?_
 refine .lr rfl 2 E1_0 B2 ?_
 refine .cK rfl (V:=.bool true) Tryz.func28 (fun H=>⟨_,ar1 (H.g 66 0),reV (congrArg Value.bool p1) (hWhole (rg x))⟩) ?_
 refine .mz rfl 19 E8_4 ?_
 refine .e rfl (V:=.bool false) (fun H=>x_bm (H.g 67 1) (H.g 68 2) rfl) ?_
 refine .mv rfl 3 ?_
 refine .lr rfl 3 E1_1 B3 ?_ (hg:=gq 4 rfl)
 refine .cK rfl (V:=.bool true) Tryz.func28 (fun H=>⟨_,ar1 (H.g 71 5),reV (congrArg Value.bool p2) (hWhole (rg y))⟩) ?_ (hg:=gq 4 rfl)
 refine .mz rfl 20 E8_5 ?_ (hg:=gq 4 rfl)
 refine .e rfl (V:=.bool false) (fun H=>x_bm (H.g 72 6) (H.g 73 7) rfl) ?_ (hg:=gq 4 rfl)
 refine .e rfl (fun H=>x_pkF (H.g 70 4) (H.g 74 8)) ?_
 refine .dk (fun u=>gV x::gV y::sq u1 0 3 (u3 5::u3 7::u4 7::u4 8::u4 11::u5 6::u5 8::sq u6 8 3 (u6 14::u7 6::u7 8::u7 9::u8 4::u8 5::U::U::U::U::gV x::gV y::.slice p_q ([rg x,rg y]).length c_q::.bool false::U::u3 2::u3 0::u3 1::u3 3::u3 4::u4 3::sq u4 0 3 (sq u4 4 3 (u5 3::sq u5 0 3 (u5 4::u5 5::u6 3::sq u6 0 3 (sq u6 4 4 (u7 2::u7 0::u7 1::sq u7 3 3 (sq u8 0 4 (sq u 0 10 (us 157))))))))))) K24 bel fun u9 w9 D bel=>?_
 have E9_9:=D.q 9
 replace B2:=D.k B2
 replace B3:=D.k B3
 replace B10:=D.k B10
 replace B12:=D.k B12
 replace B13:=D.k B13
 replace B15:=D.k B15
 replace B17:=D.k B17
 replace B18:=D.k B18
 replace B19:=D.k B19
 replace B21:=D.k B21
 replace B_q:=fun h=>D.k (B_q h)
 clear D
 refine wp_cond_false (by exact E9_9) ?_
 refine wp_skip ?_
 refine K23 _ _ ?_
 refine wp_seq_k fun _ K25=>?_
 refine gs 3 (Amb Z0 W) fun _ K26=>?_
 refine .lr rfl 2 E1_0 B2 ?_
 refine .cK rfl (V:=.bool true) Tryz.func19 (fun H=>⟨_,ar1 (H.g 76 0),reV (congrArg Value.bool (gw_may p1)) (cMay (rg x))⟩) ?_
 refine .e rfl (V:=.bool false) (fun H=>x_not (H.g 77 1)) ?_
 refine .dk (fun u=>gV x::gV y::sq u1 0 3 (u3 5::u3 7::u4 7::u4 8::u4 11::u5 6::u5 8::sq u6 8 3 (u6 14::u7 6::u7 8::u7 9::u8 4::u8 5::U::U::U::U::gV x::gV y::.slice p_q ([rg x,rg y]).length c_q::.bool false::U::u3 2::u3 0::u3 1::u3 3::u3 4::u4 3::sq u4 0 3 (sq u4 4 3 (u5 3::sq u5 0 3 (u5 4::u5 5::u6 3::sq u6 0 3 (sq u6 4 4 (u7 2::u7 0::u7 1::sq u7 3 3 (sq u8 0 4 (sq u9 0 10 (sq u 0 3 (us 154)))))))))))) K26 bel fun u10 w10 D bel=>?_
 have E10_2:=D.q 2
 replace B2:=D.k B2
 replace B3:=D.k B3
 replace B10:=D.k B10
 replace B12:=D.k B12
 replace B13:=D.k B13
 replace B15:=D.k B15
 replace B17:=D.k B17
 replace B18:=D.k B18
 replace B19:=D.k B19
 replace B21:=D.k B21
 replace B_q:=fun h=>D.k (B_q h)
 clear D
 refine wp_cond_false (by exact E10_2) ?_
 refine gd 6 (Amb Z0 W) fun _ K27=>?_
 refine .lr rfl 5 E3_5 B10 ?_
 refine .mz rfl 6 E3_7 ?_
 refine .lr rfl 2 E1_0 B2 ?_
 refine .cK rfl Tryz.func30 (fun H=>⟨_,ar1 (H.g 88 2),rNear _ (by first | omega | exact len2_le | exact p1 | exact p2 | exact p5 | exact p6 | exact p7 | exact p8 | exact p9 | exact p10 | exact gw_may p1 | rfl)⟩) ?_
 refine .cK rfl Tryz.func29 (fun H=>⟨_,ar3 (H.g 86 0) (H.g 87 1) (H.g 89 3),lTold _ _ _ (by first | omega | exact len2_le | exact p1 | exact p2 | exact p5 | exact p6 | exact p7 | exact p8 | exact p9 | exact p10 | exact gw_may p1 | rfl) (by first | omega | exact len2_le | exact p1 | exact p2 | exact p5 | exact p6 | exact p7 | exact p8 | exact p9 | exact p10 | exact gw_may p1 | rfl)⟩) ?_
 refine .e rfl (V:=.bool false) (fun H=>x_not (H.g 90 4)) ?_
 refine .dk (fun u=>gV x::gV y::sq u1 0 3 (u3 5::u3 7::u4 7::u4 8::u4 11::u5 6::u5 8::sq u6 8 3 (u6 14::u7 6::u7 8::u7 9::u8 4::u8 5::U::U::U::U::gV x::gV y::.slice p_q ([rg x,rg y]).length c_q::.bool false::U::u3 2::u3 0::u3 1::u3 3::u3 4::u4 3::sq u4 0 3 (sq u4 4 3 (u5 3::sq u5 0 3 (u5 4::u5 5::u6 3::sq u6 0 3 (sq u6 4 4 (u7 2::u7 0::u7 1::sq u7 3 3 (sq u8 0 4 (sq u9 0 10 (sq u10 0 3 (sq uu 0 7 (sq u 0 6 (us 141)))))))))))))) K27 bel fun u11 w11 D bel=>?_
 have E11_5:=D.q 5
 replace B2:=D.k B2
 replace B3:=D.k B3
 replace B12:=D.k B12
 replace B13:=D.k B13
 replace B15:=D.k B15
 replace B17:=D.k B17
 replace B18:=D.k B18
 replace B19:=D.k B19
 replace B21:=D.k B21
 replace B_q:=fun h=>D.k (B_q h)
 clear D
 refine wp_cond_false (by exact E11_5) ?_
 refine wp_skip ?_
 refine K25 _ _ ?_
 refine wp_seq_k fun _ K28=>?_
 refine gs 1 (Amb Z0 W) fun _ K29=>?_
 refine .mz rfl 19 E8_4 ?_
 refine .dk (fun u=>gV x::gV y::sq u1 0 3 (u3 5::u3 7::u4 7::u4 8::u4 11::u5 6::u5 8::sq u6 8 3 (u6 14::u7 6::u7 8::u7 9::u8 4::u8 5::U::U::U::U::gV x::gV y::.slice p_q ([rg x,rg y]).length c_q::.bool false::U::u3 2::u3 0::u3 1::u3 3::u3 4::u4 3::sq u4 0 3 (sq u4 4 3 (u5 3::sq u5 0 3 (u5 4::u5 5::u6 3::sq u6 0 3 (sq u6 4 4 (u7 2::u7 0::u7 1::sq u7 3 3 (sq u8 0 4 (sq u9 0 10 (sq u10 0 3 (sq uu 0 7 (sq u11 0 6 (u 0::us 140)))))))))))))) K29 bel fun u12 w12 D bel=>?_
 have E12_0:=D.q 0
 replace B2:=D.k B2
 replace B3:=D.k B3
 replace B12:=D.k B12
 replace B13:=D.k B13
 replace B15:=D.k B15
 replace B17:=D.k B17
 replace B18:=D.k B18
 replace B19:=D.k B19
 replace B21:=D.k B21
 replace B_q:=fun h=>D.k (B_q h)
 clear D
 refine wp_cond_true (by exact E12_0) ?_
 refine gs 3 (Amb Z0 W) fun _ K30=>?_
 refine .lr rfl 2 E1_0 B2 ?_
 refine .cK rfl Tryz.func31 (fun H=>⟨_,ar1 (H.g 93 0),rFirst _ (by first | omega | exact len2_le | exact p1 | exact p2 | exact p5 | exact p6 | exact p7 | exact p8 | exact p9 | exact p10 | exact gw_may p1 | rfl)⟩) ?_
 refine .mv rfl 1 ?_
 refine .dk (fun u=>gV x::gV y::sq u1 0 3 (u3 5::u3 7::u4 7::u4 8::u4 11::u5 6::u5 8::sq u6 8 3 (u6 14::u7 6::u7 8::u7 9::u8 4::u8 5::u 2::U::U::U::gV x::gV y::.slice p_q ([rg x,rg y]).length c_q::.bool false::U::u3 2::u3 0::u3 1::u3 3::u3 4::u4 3::sq u4 0 3 (sq u4 4 3 (u5 3::sq u5 0 3 (u5 4::u5 5::u6 3::sq u6 0 3 (sq u6 4 4 (u7 2::u7 0::u7 1::sq u7 3 3 (sq u8 0 4 (sq u9 0 10 (sq u10 0 3 (sq uu 0 7 (sq u11 0 6 (u12 0::u 0::u 1::us 138)))))))))))))) K30 bel fun u13 w13 D bel=>?_
 have E13_2:=D.q 2
 replace B2:=D.k B2
 replace B3:=D.k B3
 replace B12:=D.k B12
 replace B13:=D.k B13
 replace B15:=D.k B15
 replace B17:=D.k B17
 replace B18:=D.k B18
 replace B19:=D.k B19
 replace B21:=D.k B21
 replace B_q:=fun h=>D.k (B_q h)
 clear D
 refine gd 15 (Amb Z0 W) fun _ K31=>?_
 refine .lr rfl 16 E7_6 B21 ?_
 refine .lr rfl 2 E1_0 B2 ?_
 refine .mz rfl 21 E13_2 ?_
 refine .cK rfl Tryz.func33 (fun H=>⟨_,ar1 (H.g 97 2),rUnit _ (by first | omega | exact len2_le | exact p1 | exact p2 | exact p5 | exact p6 | exact p7 | exact p8 | exact p9 | exact p10 | exact gw_may p1 | rfl) (by first | omega | exact len2_le | exact p1 | exact p2 | exact p5 | exact p6 | exact p7 | exact p8 | exact p9 | exact p10 | exact gw_may p1 | rfl)⟩) ?_
 refine .cK rfl Tryz.func32 (fun H=>⟨_,ar2 (H.g 96 1) (H.g 98 3),cTimes _ _ (by first | omega | exact len2_le | exact p1 | exact p2 | exact p5 | exact p6 | exact p7 | exact p8 | exact p9 | exact p10 | exact gw_may p1 | rfl)⟩) ?_
 refine .e rfl (V:=.bool false) (fun H=>ex_neq_gauss (r:=rg (x.mul (unitC (firstC x).toNat))) (q:=rg (x.mul (unitC (firstC x).toNat))) _ _ rfl (H.g 95 0) (H.g 99 4) ((rg_dec (x.mul (unitC (firstC x).toNat)) (x.mul (unitC (firstC x).toNat))).trans (decide_eq_true rfl))) ?_
 refine .mv rfl 5 ?_
 refine .mz rfl 17 E7_8 ?_ (hg:=gq 6 rfl)
 refine .mz rfl 21 E13_2 ?_ (hg:=gq 6 rfl)
 refine .e rfl (V:=.bool false) (fun H=>x_cm (H.g 102 7) (H.g 103 8) (bne_self_eq_false (show Int from (firstC x)))) ?_ (hg:=gq 6 rfl)
 refine .e rfl (fun H=>x_pkF (H.g 101 6) (H.g 104 9)) ?_
 refine .mv rfl 10 ?_
 refine .mz rfl 18 E7_9 ?_ (hg:=gq 11 rfl)
 refine .e rfl (V:=.bool false) (fun H=>x_cm (H.g 107 12) (H.c _) (bne_self_eq_false (show Int from 0))) ?_ (hg:=gq 11 rfl)
 refine .e rfl (fun H=>x_pkF (H.g 106 11) (H.g 108 13)) ?_
 refine .dk (fun u=>gV x::gV y::sq u1 0 3 (u3 5::u3 7::u4 7::u4 8::u4 11::u5 6::u5 8::sq u6 8 3 (u6 14::u7 6::u7 8::u7 9::u8 4::u8 5::u13 2::U::U::U::gV x::gV y::.slice p_q ([rg x,rg y]).length c_q::.bool false::U::u3 2::u3 0::u3 1::u3 3::u3 4::u4 3::sq u4 0 3 (sq u4 4 3 (u5 3::sq u5 0 3 (u5 4::u5 5::u6 3::sq u6 0 3 (sq u6 4 4 (u7 2::u7 0::u7 1::sq u7 3 3 (sq u8 0 4 (sq u9 0 10 (sq u10 0 3 (sq uu 0 7 (sq u11 0 6 (u12 0::u13 0::u13 1::sq u 0 15 (us 123))))))))))))))) K31 bel fun u14 w14 D bel=>?_
 have E14_14:=D.q 14
 replace B2:=D.k B2
 replace B3:=D.k B3
 replace B12:=D.k B12
 replace B13:=D.k B13
 replace B15:=D.k B15
 replace B17:=D.k B17
 replace B18:=D.k B18
 replace B19:=D.k B19
 replace B_q:=fun h=>D.k (B_q h)
 clear D
 refine wp_cond_false (by exact E14_14) ?_
 refine wp_skip ?_
 refine K28 _ _ ?_
 refine wp_seq_k fun _ K32=>?_
 refine gs 6 (Amb Z0 W) fun _ K33=>?_
 refine .mz rfl 19 E8_4 ?_
 refine .e rfl (V:=.bool false) (fun H=>x_not (H.g 121 0)) ?_
 refine .mv rfl 1 ?_
 refine .mz rfl 20 E8_5 ?_ (hg:=gq 2 rfl)
 refine .e rfl (V:=.bool false) (fun H=>x_not (H.g 124 3)) ?_ (hg:=gq 2 rfl)
 refine .e rfl (fun H=>x_pkF (H.g 123 2) (H.g 125 4)) ?_
 refine .dk (fun u=>gV x::gV y::sq u1 0 3 (u3 5::u3 7::u4 7::u4 8::u4 11::u5 6::u5 8::sq u6 8 3 (u6 14::u7 6::u7 8::u7 9::u8 4::u8 5::u13 2::U::U::U::gV x::gV y::.slice p_q ([rg x,rg y]).length c_q::.bool false::U::u3 2::u3 0::u3 1::u3 3::u3 4::u4 3::sq u4 0 3 (sq u4 4 3 (u5 3::sq u5 0 3 (u5 4::u5 5::u6 3::sq u6 0 3 (sq u6 4 4 (u7 2::u7 0::u7 1::sq u7 3 3 (sq u8 0 4 (sq u9 0 10 (sq u10 0 3 (sq uu 0 7 (sq u11 0 6 (u12 0::u13 0::u13 1::sq u14 0 15 (sq uu 0 11 (sq u 0 6 (us 106))))))))))))))))) K33 bel fun u15 w15 D bel=>?_
 have E15_5:=D.q 5
 replace B2:=D.k B2
 replace B3:=D.k B3
 replace B12:=D.k B12
 replace B13:=D.k B13
 replace B15:=D.k B15
 replace B17:=D.k B17
 replace B18:=D.k B18
 replace B19:=D.k B19
 replace B_q:=fun h=>D.k (B_q h)
 clear D
 refine wp_cond_false (by exact E15_5) ?_
 refine wp_skip ?_
 refine K32 _ _ ?_
 refine gs 5 (Amb Z0 W) fun _ K34=>?_
 refine .lr rfl 2 E1_0 B2 ?_
 refine .lr rfl 3 E1_1 B3 ?_
 refine .cK rfl Tryz.func34 (fun H=>⟨_,ar2 (H.g 164 0) (H.g 165 1),rComb _ _ (N:=N) (r:=r) (by first | omega | exact len2_le | exact p1 | exact p2 | exact p5 | exact p6 | exact p7 | exact p8 | exact p9 | exact p10 | exact gw_may p1 | rfl)⟩) ?_
 refine .al rfl zT ?_
 refine .so rfl 3 (fun H=>⟨H.r 22 3,H.g 166 2⟩) ?_
 refine .dk (fun u=>gV x::gV y::sq u1 0 3 (u3 5::u3 7::u4 7::u4 8::u4 11::u5 6::u5 8::sq u6 8 3 (u6 14::u7 6::u7 8::u7 9::u8 4::u8 5::u13 2::u 3::U::U::gV x::gV y::.slice p_q ([rg x,rg y]).length c_q::.bool false::U::u3 2::u3 0::u3 1::u3 3::u3 4::u4 3::sq u4 0 3 (sq u4 4 3 (u5 3::sq u5 0 3 (u5 4::u5 5::u6 3::sq u6 0 3 (sq u6 4 4 (u7 2::u7 0::u7 1::sq u7 3 3 (sq u8 0 4 (sq u9 0 10 (sq u10 0 3 (sq uu 0 7 (sq u11 0 6 (u12 0::u13 0::u13 1::sq u14 0 15 (sq uu 0 11 (sq u15 0 6 (sq uu 0 37 (sq u 0 3 (us 66))))))))))))))))))) K34 bel fun u16 w16 D bel=>?_
 obtain ⟨b35,E16_3,A35,B35⟩:=D.st 4
 replace B2:=D.k B2
 replace B3:=D.k B3
 replace B12:=D.k B12
 replace B13:=D.k B13
 replace B15:=D.k B15
 replace B17:=D.k B17
 replace B18:=D.k B18
 replace B19:=D.k B19
 replace B_q:=fun h=>D.k (B_q h)
 clear D
 refine wp_seq_k fun _ K36=>?_
 refine gs 30 (Amb Z0 W) fun _ K37=>?_
 refine .lr rfl 10 E5_6 B15 ?_
 refine .fz rfl 22 0 E16_3 ?_
 refine .lp rfl 1 (gC (r.1.mul (unitC (firstC r.1).toNat))) B35 ?_
 refine .e rfl (V:=.bool false) (fun H=>ex_neq_gauss (r:=rg (r.1.mul (unitC (firstC r.1).toNat))) (q:=rg (r.1.mul (unitC (firstC r.1).toNat))) _ _ rfl (H.g 167 0) (H.g 169 2) ((rg_dec (r.1.mul (unitC (firstC r.1).toNat)) (r.1.mul (unitC (firstC r.1).toNat))).trans (decide_eq_true rfl))) ?_
 refine .mv rfl 3 ?_
 refine .mz rfl 11 E5_8 ?_ (hg:=gq 4 rfl)
 refine .e rfl (V:=.bool false) (fun H=>x_cm (H.g 172 5) (H.c _) (bne_self_eq_false (show Int from 0))) ?_ (hg:=gq 4 rfl)
 refine .e rfl (fun H=>x_pkF (H.g 171 4) (H.g 173 6)) ?_
 refine .mv rfl 7 ?_
 refine .lr rfl 12 E6_8 B17 ?_ (hg:=gq 8 rfl)
 refine .fz rfl 22 0 E16_3 ?_ (hg:=gq 8 rfl)
 refine .lp rfl 10 (gC (r.1.mul (unitC (firstC r.1).toNat))) B35 ?_ (hg:=gq 8 rfl)
 refine .e rfl (V:=.bool false) (fun H=>ex_neq_gauss (r:=rg (r.1.mul (unitC (firstC r.1).toNat))) (q:=rg (r.1.mul (unitC (firstC r.1).toNat))) _ _ rfl (H.g 176 9) (H.g 178 11) ((rg_dec (r.1.mul (unitC (firstC r.1).toNat)) (r.1.mul (unitC (firstC r.1).toNat))).trans (decide_eq_true rfl))) ?_ (hg:=gq 8 rfl)
 refine .e rfl (fun H=>x_pkF (H.g 175 8) (H.g 179 12)) ?_
 refine .mv rfl 13 ?_
 refine .lr rfl 13 E6_9 B18 ?_ (hg:=gq 14 rfl)
 refine .fz rfl 22 8 E16_3 ?_ (hg:=gq 14 rfl)
 refine .lp rfl 16 (gC (r.2.1.mul (unitC (firstC r.1).toNat))) B35 ?_ (hg:=gq 14 rfl)
 refine .e rfl (V:=.bool false) (fun H=>ex_neq_gauss (r:=rg (r.2.1.mul (unitC (firstC r.1).toNat))) (q:=rg (r.2.1.mul (unitC (firstC r.1).toNat))) _ _ rfl (H.g 182 15) (H.g 184 17) ((rg_dec (r.2.1.mul (unitC (firstC r.1).toNat)) (r.2.1.mul (unitC (firstC r.1).toNat))).trans (decide_eq_true rfl))) ?_ (hg:=gq 14 rfl)
 refine .e rfl (fun H=>x_pkF (H.g 181 14) (H.g 185 18)) ?_
 refine .mv rfl 19 ?_
 refine .lr rfl 14 E6_10 B19 ?_ (hg:=gq 20 rfl)
 refine .fz rfl 22 16 E16_3 ?_ (hg:=gq 20 rfl)
 refine .lp rfl 22 (gC (r.2.2.mul (unitC (firstC r.1).toNat))) B35 ?_ (hg:=gq 20 rfl)
 refine .e rfl (V:=.bool false) (fun H=>ex_neq_gauss (r:=rg (r.2.2.mul (unitC (firstC r.1).toNat))) (q:=rg (r.2.2.mul (unitC (firstC r.1).toNat))) _ _ rfl (H.g 188 21) (H.g 190 23) ((rg_dec (r.2.2.mul (unitC (firstC r.1).toNat)) (r.2.2.mul (unitC (firstC r.1).toNat))).trans (decide_eq_true rfl))) ?_ (hg:=gq 20 rfl)
 refine .e rfl (fun H=>x_pkF (H.g 187 20) (H.g 191 24)) ?_
 refine .mv rfl 25 ?_
 refine .mz rfl 15 E6_14 ?_ (hg:=gq 26 rfl)
 refine .e rfl (V:=.bool false) (fun H=>x_cm (H.g 194 27) (H.c _) (bne_self_eq_false (show Int from 0))) ?_ (hg:=gq 26 rfl)
 refine .e rfl (fun H=>x_pkF (H.g 193 26) (H.g 195 28)) ?_
 refine .dk (fun u=>gV x::gV y::sq u1 0 3 (u3 5::u3 7::u4 7::u4 8::u4 11::u5 6::u5 8::sq u6 8 3 (u6 14::u7 6::u7 8::u7 9::u8 4::u8 5::u13 2::u16 3::U::U::gV x::gV y::.slice p_q ([rg x,rg y]).length c_q::.bool false::U::u3 2::u3 0::u3 1::u3 3::u3 4::u4 3::sq u4 0 3 (sq u4 4 3 (u5 3::sq u5 0 3 (u5 4::u5 5::u6 3::sq u6 0 3 (sq u6 4 4 (u7 2::u7 0::u7 1::sq u7 3 3 (sq u8 0 4 (sq u9 0 10 (sq u10 0 3 (sq uu 0 7 (sq u11 0 6 (u12 0::u13 0::u13 1::sq u14 0 15 (sq uu 0 11 (sq u15 0 6 (sq uu 0 37 (sq u16 0 3 (sq u 0 30 (us 36)))))))))))))))))))) K37 bel fun u17 w17 D bel=>?_
 have E17_29:=D.q 29
 replace B2:=D.k B2
 replace B3:=D.k B3
 replace B12:=D.k B12
 replace B13:=D.k B13
 replace B_q:=fun h=>D.k (B_q h)
 clear D
 refine wp_cond_false (by exact E17_29) ?_
 refine wp_skip ?_
 refine K36 _ _ ?_
 refine wp_seq_k fun _ K38=>?_
 refine gs 2 (Amb Z0 W) fun _ K39=>?_
 refine .lr rfl 3 E1_1 B3 ?_
 refine .cK rfl (V:=.bool true) Tryz.func35 (fun H=>⟨_,ar1 (H.g 197 0),reV (congrArg Value.bool p10) (cZero _)⟩) ?_
 refine .dk (fun u=>gV x::gV y::sq u1 0 3 (u3 5::u3 7::u4 7::u4 8::u4 11::u5 6::u5 8::sq u6 8 3 (u6 14::u7 6::u7 8::u7 9::u8 4::u8 5::u13 2::u16 3::U::U::gV x::gV y::.slice p_q ([rg x,rg y]).length c_q::.bool false::U::u3 2::u3 0::u3 1::u3 3::u3 4::u4 3::sq u4 0 3 (sq u4 4 3 (u5 3::sq u5 0 3 (u5 4::u5 5::u6 3::sq u6 0 3 (sq u6 4 4 (u7 2::u7 0::u7 1::sq u7 3 3 (sq u8 0 4 (sq u9 0 10 (sq u10 0 3 (sq uu 0 7 (sq u11 0 6 (u12 0::u13 0::u13 1::sq u14 0 15 (sq uu 0 11 (sq u15 0 6 (sq uu 0 37 (sq u16 0 3 (sq u17 0 30 (u 0::u 1::us 34)))))))))))))))))))) K39 bel fun u18 w18 D bel=>?_
 have E18_1:=D.q 1
 replace B2:=D.k B2
 replace B3:=D.k B3
 replace B12:=D.k B12
 replace B13:=D.k B13
 replace B_q:=fun h=>D.k (B_q h)
 clear D
 refine wp_cond_true (by exact E18_1) ?_
 refine gs 14 (Amb Z0 W) fun _ K40=>?_
 refine .lr rfl 7 E4_7 B12 ?_
 refine .cK rfl (V:=.bool true) Tryz.func20 (fun H=>⟨_,ar1 (H.g 199 0),reV (congrArg Value.bool (decide_eq_true rfl)) (lNone rz)⟩) ?_
 refine .mv rfl 1 ?_
 refine .lr rfl 8 E4_8 B13 ?_ (hg:=gq 2 rfl)
 refine .cK rfl (V:=.bool true) Tryz.func20 (fun H=>⟨_,ar1 (H.g 202 3),reV (congrArg Value.bool (decide_eq_true rfl)) (lNone rz)⟩) ?_ (hg:=gq 2 rfl)
 refine .e rfl (fun H=>x_pkT (H.g 201 2) (H.g 203 4)) ?_
 refine .mv rfl 5 ?_
 refine .mz rfl 9 E4_11 ?_ (hg:=gq 6 rfl)
 refine .e rfl (V:=.bool true) (fun H=>x_cm (H.g 206 7) (H.c _) (beq_self_eq_true (show Int from 5))) ?_ (hg:=gq 6 rfl)
 refine .e rfl (fun H=>x_pkT (H.g 205 6) (H.g 207 8)) ?_
 refine .mv rfl 9 ?_
 refine .cK rfl Tryz.func9 (fun H=>⟨_,ar0,lKnown⟩) ?_ (hg:=gq 10 rfl)
 refine .e rfl (fun H=>x_pkT (H.g 209 10) (H.g 210 11)) ?_
 refine .mv rfl 12 ?_
 refine .dk (fun u=>gV x::gV y::u1 0::u1 1::u 13::u3 5::u3 7::u4 7::u4 8::u4 11::u5 6::u5 8::sq u6 8 3 (u6 14::u7 6::u7 8::u7 9::u8 4::u8 5::u13 2::u16 3::U::U::gV x::gV y::.slice p_q ([rg x,rg y]).length c_q::.bool false::U::u3 2::u3 0::u3 1::u3 3::u3 4::u4 3::sq u4 0 3 (sq u4 4 3 (u5 3::sq u5 0 3 (u5 4::u5 5::u6 3::sq u6 0 3 (sq u6 4 4 (u7 2::u7 0::u7 1::sq u7 3 3 (sq u8 0 4 (sq u9 0 10 (sq u10 0 3 (sq uu 0 7 (sq u11 0 6 (u12 0::u13 0::u13 1::sq u14 0 15 (sq uu 0 11 (sq u15 0 6 (sq uu 0 37 (sq u16 0 3 (sq u17 0 30 (u18 0::u18 1::sq u 0 13 (us 21)))))))))))))))))))) K40 bel fun u19 w19 D bel=>?_
 have E19_13:=D.q 13
 replace B_q:=fun h=>D.k (B_q h)
 clear D
 exact wp_ret (rt rfl E19_13 rfl bel)
theorem lDivV5 {N:Nat} {r:Cx × Cx × Cx} (x:Cx) (y:Cx) (p0:wideU (40:Int) ([rg x,rg y]) = false) (p1:gwhole (rg x) = true) (p2:gwhole (rg y) = true) (p3:ht x.re + ht x.im ≤ 20000) (p4:ht y.re + ht y.im ≤ 20000) (p5:gfits (rg (x.mul (unitC (firstC x).toNat))) = true) (p6:combC N x (Cx.ofInt (1:Int) (0:Int)) (Cx.ofInt (0:Int) (0:Int)) y (Cx.ofInt (0:Int) (0:Int)) (Cx.ofInt (1:Int) (0:Int)) = some r) (p7:gfits (rg (r.1.mul (unitC (firstC r.1).toNat))) = true) (p8:gfits (rg (r.2.1.mul (unitC (firstC r.1).toNat))) = true) (p9:gfits (rg (r.2.2.mul (unitC (firstC r.1).toNat))) = true) (p10:y.zero = false) (p11:gfits (rg (x.div y).near) = true) (p12:gfits (rg (x.sub ((x.div y).near.mul y))) = true) :
  Calls Tryz.prog 5 #[gV x,gV y] W (RetV (.bool true) W):=by
 have kf:=firstC_cases x
 have ku:=ht_unit (firstC x).toNat
 have bel:=b0 W
 go_enter Tryz.func5,Tryz.ntmps5
 refine gs 3 (Amb Z0 W) fun _ K1=>?_
 refine .bx rfl (fun H=>H.v 0 (gV x)) ?_
 refine .bx rfl (fun H=>H.v 1 (gV y)) ?_
 refine .mc rfl ?_
 refine .dk (fun u=>gV x::gV y::sq u 0 3 (us 228)) K1 bel fun u1 w1 D bel=>?_
 obtain ⟨b2,E1_0,A2,B2⟩:=D.nw 0
 obtain ⟨b3,E1_1,A3,B3⟩:=D.nw 1
 have E1_2:=D.q 2
 clear D
 refine wp_seq_k fun _ K4=>?_
 refine wp_seq_k fun _ K5=>?_
 refine wp_region_list ?_
 refine wpT_val (v:=gV x) rfl (ex_load_row 30 _ rfl (by exact E1_0) B2 Tryz.underlying30 rfl (by kernel_rfl)) ?_
 refine wpList_as (fr (gV x::gV y::sq u1 0 3 (sq uu 0 20 (gV x::us 207)))) (by kernel_rfl) ?_
 refine wpT_val (v:=gV y) rfl (ex_load_row 30 _ rfl (by exact E1_1) B3 Tryz.underlying30 rfl (by kernel_rfl)) ?_
 refine wpList_as (fr (gV x::gV y::sq u1 0 3 (sq uu 0 20 (gV x::gV y::us 206)))) (by kernel_rfl) ?_
 refine wpT_lit2 (r0:=rg x) (r1:=rg y) rfl rfl rfl rfl fun v7 w6 tw6 mw6 ow6=>?_
 obtain ⟨p_q,c_q,cur_q,T_q,fr_q,rfl,y_q,z_q,P_q,B_q,Q_q⟩:=GSl.open tw6
 replace mw6:=mw6 _ _ _ rfl
 have N_q_b2:=Nat.ne_of_lt (Nat.lt_of_lt_of_le (lt_of B2) mw6)
 have N_q_b3:=Nat.ne_of_lt (Nat.lt_of_lt_of_le (lt_of B3) mw6)
 replace B2:=(ow6.block b2 (lt_of B2)).trans B2
 replace B3:=(ow6.block b3 (lt_of B3)).trans B3
 replace bel:=bel.trans (ow6.mono bel.size)
 replace P_q:=Lib.hid P_q
 have X_q:=GSl.lt B_q
 refine wpList_as (fr (gV x::gV y::sq u1 0 3 (sq uu 0 20 (gV x::gV y::.slice p_q ([rg x,rg y]).length c_q::us 205)))) (by kernel_rfl) ?_
 refine wpT_callKW (V:=.bool false) (wanted_none rfl _) (ex_call rfl rfl Tryz.func8 (by kernel_rfl) (by kernel_rfl) (by simp only [List.map_toArray,List.map_cons,List.map_nil]; rfl)) (reV (congrArg Value.bool p0) (lWide (most:=(40:Int)) (l:=[rg x,rg y]) (GSl.mk y_q z_q P_q.out B_q Q_q) (by first | omega | exact len2_le | exact p1 | exact p2 | exact p5 | exact p6 | exact p7 | exact p8 | exact p9 | exact p10 | exact gw_may p1 | rfl | exact p11 | exact p12))) fun w8 ow8=>?_
 replace B2:=(ow8.block b2 (lt_of B2)).trans B2
 replace B3:=(ow8.block b3 (lt_of B3)).trans B3
 replace B_q:=fun h=>(ow8.block _ (lt_of (B_q h))).trans (B_q h)
 replace bel:=bel.trans (ow8.mono bel.size)
 refine wpList_as (fr (gV x::gV y::sq u1 0 3 (sq uu 0 20 (gV x::gV y::.slice p_q ([rg x,rg y]).length c_q::.bool false::us 204)))) (by kernel_rfl) ?_
 refine wpList_nil ?_
 show _
 refine K5 _ _ ?_
 refine wp_cond_false rfl ?_
 refine wp_skip ?_
 refine K4 _ _ ?_
 refine gs 8 (Amb Z0 W) fun _ K9=>?_
 refine .lr rfl 2 E1_0 B2 ?_
 refine .cK rfl Tryz.func22 (fun H=>⟨_,ar1 (H.g 31 0),hNearC _ (by first | omega | exact len2_le | exact p1 | exact p2 | exact p5 | exact p6 | exact p7 | exact p8 | exact p9 | exact p10 | exact gw_may p1 | rfl | exact p11 | exact p12) (by first | omega | exact len2_le | exact p1 | exact p2 | exact p5 | exact p6 | exact p7 | exact p8 | exact p9 | exact p10 | exact gw_may p1 | rfl | exact p11 | exact p12)⟩) ?_
 refine .mv rfl 1 ?_
 refine .e rfl (V:=rgV (gcut x.near)) (fun H=>x_ex (H.g 30 2)) ?_
 refine .e rfl (V:=.int .i64 (gerr x.near)) (fun H=>x_ex (H.g 30 2)) ?_
 refine .al rfl zG ?_
 refine .so rfl 5 (fun H=>⟨H.r 5 5,H.g 33 3⟩) ?_
 refine .mv rfl 4 ?_
 refine .dk (fun u=>gV x::gV y::sq u1 0 3 (u 5::u 7::sq uu 0 18 (gV x::gV y::.slice p_q ([rg x,rg y]).length c_q::.bool false::U::u 2::u 0::u 1::u 3::u 4::us 198))) K9 bel fun u3 w3 D bel=>?_
 obtain ⟨b10,E3_5,A10,B10⟩:=D.st 6
 have E3_7:=D.q 7
 replace B2:=D.k B2
 replace B3:=D.k B3
 replace B_q:=fun h=>D.k (B_q h)
 clear D
 refine gs 12 (Amb Z0 W) fun _ K11=>?_
 refine .lr rfl 2 E1_0 B2 ?_
 refine .lr rfl 3 E1_1 B3 ?_
 refine .cK rfl Tryz.func23 (fun H=>⟨_,ar2 (H.g 36 0) (H.g 37 1),hDivC _ _ (by first | omega | exact len2_le | exact p1 | exact p2 | exact p5 | exact p6 | exact p7 | exact p8 | exact p9 | exact p10 | exact gw_may p1 | rfl | exact p11 | exact p12) (by first | omega | exact len2_le | exact p1 | exact p2 | exact p5 | exact p6 | exact p7 | exact p8 | exact p9 | exact p10 | exact gw_may p1 | rfl | exact p11 | exact p12) (by first | omega | exact len2_le | exact p1 | exact p2 | exact p5 | exact p6 | exact p7 | exact p8 | exact p9 | exact p10 | exact gw_may p1 | rfl | exact p11 | exact p12) (by first | omega | exact len2_le | exact p1 | exact p2 | exact p5 | exact p6 | exact p7 | exact p8 | exact p9 | exact p10 | exact gw_may p1 | rfl | exact p11 | exact p12) (by first | omega | exact len2_le | exact p1 | exact p2 | exact p5 | exact p6 | exact p7 | exact p8 | exact p9 | exact p10 | exact gw_may p1 | rfl | exact p11 | exact p12) (by first | omega | exact len2_le | exact p1 | exact p2 | exact p5 | exact p6 | exact p7 | exact p8 | exact p9 | exact p10 | exact gw_may p1 | rfl | exact p11 | exact p12)⟩) ?_
 refine .mv rfl 2 ?_
 refine .e rfl (V:=gV ((x.div y).near)) (fun H=>x_ex (H.g 35 3)) ?_
 refine .e rfl (V:=gV (x.sub ((x.div y).near.mul y))) (fun H=>x_ex (H.g 35 3)) ?_
 refine .e rfl (V:=.int .i64 0) (fun H=>x_ex (H.g 35 3)) ?_
 refine .al rfl zG ?_
 refine .al rfl zG ?_
 refine .so rfl 7 (fun H=>⟨H.r 7 7,H.g 39 4⟩) ?_
 refine .so rfl 8 (fun H=>⟨H.r 8 8,H.g 40 5⟩) ?_
 refine .mv rfl 6 ?_
 refine .dk (fun u=>gV x::gV y::sq u1 0 3 (u3 5::u3 7::u 7::u 8::u 11::sq uu 0 15 (gV x::gV y::.slice p_q ([rg x,rg y]).length c_q::.bool false::U::u3 2::u3 0::u3 1::u3 3::u3 4::u 3::sq u 0 3 (sq u 4 3 (us 191))))) K11 bel fun u4 w4 D bel=>?_
 obtain ⟨b12,E4_7,A12,B12⟩:=D.st 9
 obtain ⟨b13,E4_8,A13,B13⟩:=D.st 10
 have E4_11:=D.q 11
 replace B2:=D.k B2
 replace B3:=D.k B3
 replace B10:=D.k B10
 replace B_q:=fun h=>D.k (B_q h)
 clear D
 refine gs 9 (Amb Z0 W) fun _ K14=>?_
 refine .lr rfl 2 E1_0 B2 ?_
 refine .lr rfl 3 E1_1 B3 ?_
 refine .cK rfl Tryz.func24 (fun H=>⟨_,ar2 (H.g 43 0) (H.g 44 1),hGcdC _ _ (N:=N) (r:=r) (by first | omega | exact len2_le | exact p1 | exact p2 | exact p5 | exact p6 | exact p7 | exact p8 | exact p9 | exact p10 | exact gw_may p1 | rfl | exact p11 | exact p12) (by first | omega | exact len2_le | exact p1 | exact p2 | exact p5 | exact p6 | exact p7 | exact p8 | exact p9 | exact p10 | exact gw_may p1 | rfl | exact p11 | exact p12) (by first | omega | exact len2_le | exact p1 | exact p2 | exact p5 | exact p6 | exact p7 | exact p8 | exact p9 | exact p10 | exact gw_may p1 | rfl | exact p11 | exact p12) (by first | omega | exact len2_le | exact p1 | exact p2 | exact p5 | exact p6 | exact p7 | exact p8 | exact p9 | exact p10 | exact gw_may p1 | rfl | exact p11 | exact p12)⟩) ?_
 refine .mv rfl 2 ?_
 refine .e rfl (V:=gV (r.1.mul (unitC (firstC r.1).toNat))) (fun H=>x_ex (H.g 42 3)) ?_
 refine .e rfl (V:=.int .i64 0) (fun H=>x_ex (H.g 42 3)) ?_
 refine .al rfl zG ?_
 refine .so rfl 6 (fun H=>⟨H.r 10 6,H.g 46 4⟩) ?_
 refine .mv rfl 5 ?_
 refine .dk (fun u=>gV x::gV y::sq u1 0 3 (u3 5::u3 7::u4 7::u4 8::u4 11::u 6::u 8::sq uu 0 13 (gV x::gV y::.slice p_q ([rg x,rg y]).length c_q::.bool false::U::u3 2::u3 0::u3 1::u3 3::u3 4::u4 3::sq u4 0 3 (sq u4 4 3 (u 3::sq u 0 3 (u 4::u 5::us 185)))))) K14 bel fun u5 w5 D bel=>?_
 obtain ⟨b15,E5_6,A15,B15⟩:=D.st 7
 have E5_8:=D.q 8
 replace B2:=D.k B2
 replace B3:=D.k B3
 replace B10:=D.k B10
 replace B12:=D.k B12
 replace B13:=D.k B13
 replace B_q:=fun h=>D.k (B_q h)
 clear D
 refine gs 15 (Amb Z0 W) fun _ K16=>?_
 refine .lr rfl 2 E1_0 B2 ?_
 refine .lr rfl 3 E1_1 B3 ?_
 refine .cK rfl Tryz.func25 (fun H=>⟨_,ar2 (H.g 49 0) (H.g 50 1),hCombC _ _ (N:=N) (r:=r) (by first | omega | exact len2_le | exact p1 | exact p2 | exact p5 | exact p6 | exact p7 | exact p8 | exact p9 | exact p10 | exact gw_may p1 | rfl | exact p11 | exact p12) (by first | omega | exact len2_le | exact p1 | exact p2 | exact p5 | exact p6 | exact p7 | exact p8 | exact p9 | exact p10 | exact gw_may p1 | rfl | exact p11 | exact p12) (by first | omega | exact len2_le | exact p1 | exact p2 | exact p5 | exact p6 | exact p7 | exact p8 | exact p9 | exact p10 | exact gw_may p1 | rfl | exact p11 | exact p12) (by first | omega | exact len2_le | exact p1 | exact p2 | exact p5 | exact p6 | exact p7 | exact p8 | exact p9 | exact p10 | exact gw_may p1 | rfl | exact p11 | exact p12) (by first | omega | exact len2_le | exact p1 | exact p2 | exact p5 | exact p6 | exact p7 | exact p8 | exact p9 | exact p10 | exact gw_may p1 | rfl | exact p11 | exact p12) (by first | omega | exact len2_le | exact p1 | exact p2 | exact p5 | exact p6 | exact p7 | exact p8 | exact p9 | exact p10 | exact gw_may p1 | rfl | exact p11 | exact p12)⟩) ?_
 refine .mv rfl 2 ?_
 refine .e rfl (V:=gV (r.1.mul (unitC (firstC r.1).toNat))) (fun H=>x_ex (H.g 48 3)) ?_
 refine .e rfl (V:=gV (r.2.1.mul (unitC (firstC r.1).toNat))) (fun H=>x_ex (H.g 48 3)) ?_
 refine .e rfl (V:=gV (r.2.2.mul (unitC (firstC r.1).toNat))) (fun H=>x_ex (H.g 48 3)) ?_
 refine .e rfl (V:=.int .i64 0) (fun H=>x_ex (H.g 48 3)) ?_
 refine .al rfl zG ?_
 refine .al rfl zG ?_
 refine .al rfl zG ?_
 refine .so rfl 8 (fun H=>⟨H.r 12 8,H.g 52 4⟩) ?_
 refine .so rfl 9 (fun H=>⟨H.r 13 9,H.g 53 5⟩) ?_
 refine .so rfl 10 (fun H=>⟨H.r 14 10,H.g 54 6⟩) ?_
 refine .mv rfl 7 ?_
 refine .dk (fun u=>gV x::gV y::sq u1 0 3 (u3 5::u3 7::u4 7::u4 8::u4 11::u5 6::u5 8::sq u 8 3 (u 14::sq uu 0 9 (gV x::gV y::.slice p_q ([rg x,rg y]).length c_q::.bool false::U::u3 2::u3 0::u3 1::u3 3::u3 4::u4 3::sq u4 0 3 (sq u4 4 3 (u5 3::sq u5 0 3 (u5 4::u5 5::u 3::sq u 0 3 (sq u 4 4 (us 177))))))))) K16 bel fun u6 w6 D bel=>?_
 obtain ⟨b17,E6_8,A17,B17⟩:=D.st 11
 obtain ⟨b18,E6_9,A18,B18⟩:=D.st 12
 obtain ⟨b19,E6_10,A19,B19⟩:=D.st 13
 have E6_14:=D.q 14
 replace B2:=D.k B2
 replace B3:=D.k B3
 replace B10:=D.k B10
 replace B12:=D.k B12
 replace B13:=D.k B13
 replace B15:=D.k B15
 replace B_q:=fun h=>D.k (B_q h)
 clear D
 refine gs 10 (Amb Z0 W) fun _ K20=>?_
 refine .lr rfl 2 E1_0 B2 ?_
 refine .cK rfl Tryz.func26 (fun H=>⟨_,ar1 (H.g 57 0),hFirC _ (by first | omega | exact len2_le | exact p1 | exact p2 | exact p5 | exact p6 | exact p7 | exact p8 | exact p9 | exact p10 | exact gw_may p1 | rfl | exact p11 | exact p12) (by first | omega | exact len2_le | exact p1 | exact p2 | exact p5 | exact p6 | exact p7 | exact p8 | exact p9 | exact p10 | exact gw_may p1 | rfl | exact p11 | exact p12) (by first | omega | exact len2_le | exact p1 | exact p2 | exact p5 | exact p6 | exact p7 | exact p8 | exact p9 | exact p10 | exact gw_may p1 | rfl | exact p11 | exact p12)⟩) ?_
 refine .mv rfl 1 ?_
 refine .e rfl (V:=gV (x.mul (unitC (firstC x).toNat))) (fun H=>x_ex (H.g 56 2)) ?_
 refine .e rfl (V:=.int .i64 (firstC x)) (fun H=>x_ex (H.g 56 2)) ?_
 refine .e rfl (V:=.int .i64 0) (fun H=>x_ex (H.g 56 2)) ?_
 refine .al rfl zG ?_
 refine .so rfl 6 (fun H=>⟨H.r 16 6,H.g 59 3⟩) ?_
 refine .mv rfl 4 ?_
 refine .mv rfl 5 ?_
 refine .dk (fun u=>gV x::gV y::sq u1 0 3 (u3 5::u3 7::u4 7::u4 8::u4 11::u5 6::u5 8::sq u6 8 3 (u6 14::u 6::u 8::u 9::U::U::U::U::U::U::gV x::gV y::.slice p_q ([rg x,rg y]).length c_q::.bool false::U::u3 2::u3 0::u3 1::u3 3::u3 4::u4 3::sq u4 0 3 (sq u4 4 3 (u5 3::sq u5 0 3 (u5 4::u5 5::u6 3::sq u6 0 3 (sq u6 4 4 (u 2::u 0::u 1::sq u 3 3 (us 171))))))))) K20 bel fun u7 w7 D bel=>?_
 obtain ⟨b21,E7_6,A21,B21⟩:=D.st 7
 have E7_8:=D.q 8
 have E7_9:=D.q 9
 replace B2:=D.k B2
 replace B3:=D.k B3
 replace B10:=D.k B10
 replace B12:=D.k B12
 replace B13:=D.k B13
 replace B15:=D.k B15
 replace B17:=D.k B17
 replace B18:=D.k B18
 replace B19:=D.k B19
 replace B_q:=fun h=>D.k (B_q h)
 clear D
 refine gd 6 (Amb Z0 W) fun _ K22=>?_
 refine .lr rfl 2 E1_0 B2 ?_
 refine .cK rfl (V:=.bool true) Tryz.func27 (fun H=>⟨_,ar1 (H.g 62 0),reV (congrArg Value.bool p1) (cWhole (rg x))⟩) ?_
 refine .lr rfl 3 E1_1 B3 ?_
 refine .cK rfl (V:=.bool true) Tryz.func27 (fun H=>⟨_,ar1 (H.g 64 2),reV (congrArg Value.bool p2) (cWhole (rg y))⟩) ?_
 refine .mv rfl 1 ?_
 refine .mv rfl 3 ?_
 refine .dk (fun u=>gV x::gV y::sq u1 0 3 (u3 5::u3 7::u4 7::u4 8::u4 11::u5 6::u5 8::sq u6 8 3 (u6 14::u7 6::u7 8::u7 9::u 4::u 5::U::U::U::U::gV x::gV y::.slice p_q ([rg x,rg y]).length c_q::.bool false::U::u3 2::u3 0::u3 1::u3 3::u3 4::u4 3::sq u4 0 3 (sq u4 4 3 (u5 3::sq u5 0 3 (u5 4::u5 5::u6 3::sq u6 0 3 (sq u6 4 4 (u7 2::u7 0::u7 1::sq u7 3 3 (sq u 0 4 (us 167)))))))))) K22 bel fun u8 w8 D bel=>?_
 have E8_4:=D.q 4
 have E8_5:=D.q 5
 replace B2:=D.k B2
 replace B3:=D.k B3
 replace B10:=D.k B10
 replace B12:=D.k B12
 replace B13:=D.k B13
 replace B15:=D.k B15
 replace B17:=D.k B17
 replace B18:=D.k B18
 replace B19:=D.k B19
 replace B21:=D.k B21
 replace B_q:=fun h=>D.k (B_q h)
 clear D
 refine wp_seq_k fun _ K23=>?_
 refine gs 10 (Amb Z0 W) fun _ K24=>?_
 refine .lr rfl 2 E1_0 B2 ?_
 refine .cK rfl (V:=.bool true) Tryz.func28 (fun H=>⟨_,ar1 (H.g 66 0),reV (congrArg Value.bool p1) (hWhole (rg x))⟩) ?_
 refine .mz rfl 19 E8_4 ?_
 refine .e rfl (V:=.bool false) (fun H=>x_bm (H.g 67 1) (H.g 68 2) rfl) ?_
 refine .mv rfl 3 ?_
 refine .lr rfl 3 E1_1 B3 ?_ (hg:=gq 4 rfl)
 refine .cK rfl (V:=.bool true) Tryz.func28 (fun H=>⟨_,ar1 (H.g 71 5),reV (congrArg Value.bool p2) (hWhole (rg y))⟩) ?_ (hg:=gq 4 rfl)
 refine .mz rfl 20 E8_5 ?_ (hg:=gq 4 rfl)
 refine .e rfl (V:=.bool false) (fun H=>x_bm (H.g 72 6) (H.g 73 7) rfl) ?_ (hg:=gq 4 rfl)
 refine .e rfl (fun H=>x_pkF (H.g 70 4) (H.g 74 8)) ?_
 refine .dk (fun u=>gV x::gV y::sq u1 0 3 (u3 5::u3 7::u4 7::u4 8::u4 11::u5 6::u5 8::sq u6 8 3 (u6 14::u7 6::u7 8::u7 9::u8 4::u8 5::U::U::U::U::gV x::gV y::.slice p_q ([rg x,rg y]).length c_q::.bool false::U::u3 2::u3 0::u3 1::u3 3::u3 4::u4 3::sq u4 0 3 (sq u4 4 3 (u5 3::sq u5 0 3 (u5 4::u5 5::u6 3::sq u6 0 3 (sq u6 4 4 (u7 2::u7 0::u7 1::sq u7 3 3 (sq u8 0 4 (sq u 0 10 (us 157))))))))))) K24 bel fun u9 w9 D bel=>?_
 have E9_9:=D.q 9
 replace B2:=D.k B2
 replace B3:=D.k B3
 replace B10:=D.k B10
 replace B12:=D.k B12
 replace B13:=D.k B13
 replace B15:=D.k B15
 replace B17:=D.k B17
 replace B18:=D.k B18
 replace B19:=D.k B19
 replace B21:=D.k B21
 replace B_q:=fun h=>D.k (B_q h)
 clear D
 refine wp_cond_false (by exact E9_9) ?_
 refine wp_skip ?_
 refine K23 _ _ ?_
 refine wp_seq_k fun _ K25=>?_
 refine gs 3 (Amb Z0 W) fun _ K26=>?_
 refine .lr rfl 2 E1_0 B2 ?_
 refine .cK rfl (V:=.bool true) Tryz.func19 (fun H=>⟨_,ar1 (H.g 76 0),reV (congrArg Value.bool (gw_may p1)) (cMay (rg x))⟩) ?_
 refine .e rfl (V:=.bool false) (fun H=>x_not (H.g 77 1)) ?_
 refine .dk (fun u=>gV x::gV y::sq u1 0 3 (u3 5::u3 7::u4 7::u4 8::u4 11::u5 6::u5 8::sq u6 8 3 (u6 14::u7 6::u7 8::u7 9::u8 4::u8 5::U::U::U::U::gV x::gV y::.slice p_q ([rg x,rg y]).length c_q::.bool false::U::u3 2::u3 0::u3 1::u3 3::u3 4::u4 3::sq u4 0 3 (sq u4 4 3 (u5 3::sq u5 0 3 (u5 4::u5 5::u6 3::sq u6 0 3 (sq u6 4 4 (u7 2::u7 0::u7 1::sq u7 3 3 (sq u8 0 4 (sq u9 0 10 (sq u 0 3 (us 154)))))))))))) K26 bel fun u10 w10 D bel=>?_
 have E10_2:=D.q 2
 replace B2:=D.k B2
 replace B3:=D.k B3
 replace B10:=D.k B10
 replace B12:=D.k B12
 replace B13:=D.k B13
 replace B15:=D.k B15
 replace B17:=D.k B17
 replace B18:=D.k B18
 replace B19:=D.k B19
 replace B21:=D.k B21
 replace B_q:=fun h=>D.k (B_q h)
 clear D
 refine wp_cond_false (by exact E10_2) ?_
 refine gd 6 (Amb Z0 W) fun _ K27=>?_
 refine .lr rfl 5 E3_5 B10 ?_
 refine .mz rfl 6 E3_7 ?_
 refine .lr rfl 2 E1_0 B2 ?_
 refine .cK rfl Tryz.func30 (fun H=>⟨_,ar1 (H.g 88 2),rNear _ (by first | omega | exact len2_le | exact p1 | exact p2 | exact p5 | exact p6 | exact p7 | exact p8 | exact p9 | exact p10 | exact gw_may p1 | rfl | exact p11 | exact p12)⟩) ?_
 refine .cK rfl Tryz.func29 (fun H=>⟨_,ar3 (H.g 86 0) (H.g 87 1) (H.g 89 3),lTold _ _ _ (by first | omega | exact len2_le | exact p1 | exact p2 | exact p5 | exact p6 | exact p7 | exact p8 | exact p9 | exact p10 | exact gw_may p1 | rfl | exact p11 | exact p12) (by first | omega | exact len2_le | exact p1 | exact p2 | exact p5 | exact p6 | exact p7 | exact p8 | exact p9 | exact p10 | exact gw_may p1 | rfl | exact p11 | exact p12)⟩) ?_
 refine .e rfl (V:=.bool false) (fun H=>x_not (H.g 90 4)) ?_
 refine .dk (fun u=>gV x::gV y::sq u1 0 3 (u3 5::u3 7::u4 7::u4 8::u4 11::u5 6::u5 8::sq u6 8 3 (u6 14::u7 6::u7 8::u7 9::u8 4::u8 5::U::U::U::U::gV x::gV y::.slice p_q ([rg x,rg y]).length c_q::.bool false::U::u3 2::u3 0::u3 1::u3 3::u3 4::u4 3::sq u4 0 3 (sq u4 4 3 (u5 3::sq u5 0 3 (u5 4::u5 5::u6 3::sq u6 0 3 (sq u6 4 4 (u7 2::u7 0::u7 1::sq u7 3 3 (sq u8 0 4 (sq u9 0 10 (sq u10 0 3 (sq uu 0 7 (sq u 0 6 (us 141)))))))))))))) K27 bel fun u11 w11 D bel=>?_
 have E11_5:=D.q 5
 replace B2:=D.k B2
 replace B3:=D.k B3
 replace B12:=D.k B12
 replace B13:=D.k B13
 replace B15:=D.k B15
 replace B17:=D.k B17
 replace B18:=D.k B18
 replace B19:=D.k B19
 replace B21:=D.k B21
 replace B_q:=fun h=>D.k (B_q h)
 clear D
 refine wp_cond_false (by exact E11_5) ?_
 refine wp_skip ?_
 refine K25 _ _ ?_
 refine wp_seq_k fun _ K28=>?_
 refine gs 1 (Amb Z0 W) fun _ K29=>?_
 refine .mz rfl 19 E8_4 ?_
 refine .dk (fun u=>gV x::gV y::sq u1 0 3 (u3 5::u3 7::u4 7::u4 8::u4 11::u5 6::u5 8::sq u6 8 3 (u6 14::u7 6::u7 8::u7 9::u8 4::u8 5::U::U::U::U::gV x::gV y::.slice p_q ([rg x,rg y]).length c_q::.bool false::U::u3 2::u3 0::u3 1::u3 3::u3 4::u4 3::sq u4 0 3 (sq u4 4 3 (u5 3::sq u5 0 3 (u5 4::u5 5::u6 3::sq u6 0 3 (sq u6 4 4 (u7 2::u7 0::u7 1::sq u7 3 3 (sq u8 0 4 (sq u9 0 10 (sq u10 0 3 (sq uu 0 7 (sq u11 0 6 (u 0::us 140)))))))))))))) K29 bel fun u12 w12 D bel=>?_
 have E12_0:=D.q 0
 replace B2:=D.k B2
 replace B3:=D.k B3
 replace B12:=D.k B12
 replace B13:=D.k B13
 replace B15:=D.k B15
 replace B17:=D.k B17
 replace B18:=D.k B18
 replace B19:=D.k B19
 replace B21:=D.k B21
 replace B_q:=fun h=>D.k (B_q h)
 clear D
 refine wp_cond_true (by exact E12_0) ?_
 refine gs 3 (Amb Z0 W) fun _ K30=>?_
 refine .lr rfl 2 E1_0 B2 ?_
 refine .cK rfl Tryz.func31 (fun H=>⟨_,ar1 (H.g 93 0),rFirst _ (by first | omega | exact len2_le | exact p1 | exact p2 | exact p5 | exact p6 | exact p7 | exact p8 | exact p9 | exact p10 | exact gw_may p1 | rfl | exact p11 | exact p12)⟩) ?_
 refine .mv rfl 1 ?_
 refine .dk (fun u=>gV x::gV y::sq u1 0 3 (u3 5::u3 7::u4 7::u4 8::u4 11::u5 6::u5 8::sq u6 8 3 (u6 14::u7 6::u7 8::u7 9::u8 4::u8 5::u 2::U::U::U::gV x::gV y::.slice p_q ([rg x,rg y]).length c_q::.bool false::U::u3 2::u3 0::u3 1::u3 3::u3 4::u4 3::sq u4 0 3 (sq u4 4 3 (u5 3::sq u5 0 3 (u5 4::u5 5::u6 3::sq u6 0 3 (sq u6 4 4 (u7 2::u7 0::u7 1::sq u7 3 3 (sq u8 0 4 (sq u9 0 10 (sq u10 0 3 (sq uu 0 7 (sq u11 0 6 (u12 0::u 0::u 1::us 138)))))))))))))) K30 bel fun u13 w13 D bel=>?_
 have E13_2:=D.q 2
 replace B2:=D.k B2
 replace B3:=D.k B3
 replace B12:=D.k B12
 replace B13:=D.k B13
 replace B15:=D.k B15
 replace B17:=D.k B17
 replace B18:=D.k B18
 replace B19:=D.k B19
 replace B21:=D.k B21
 replace B_q:=fun h=>D.k (B_q h)
 clear D
 refine gd 15 (Amb Z0 W) fun _ K31=>?_
 refine .lr rfl 16 E7_6 B21 ?_
 refine .lr rfl 2 E1_0 B2 ?_
 refine .mz rfl 21 E13_2 ?_
 refine .cK rfl Tryz.func33 (fun H=>⟨_,ar1 (H.g 97 2),rUnit _ (by first | omega | exact len2_le | exact p1 | exact p2 | exact p5 | exact p6 | exact p7 | exact p8 | exact p9 | exact p10 | exact gw_may p1 | rfl | exact p11 | exact p12) (by first | omega | exact len2_le | exact p1 | exact p2 | exact p5 | exact p6 | exact p7 | exact p8 | exact p9 | exact p10 | exact gw_may p1 | rfl | exact p11 | exact p12)⟩) ?_
 refine .cK rfl Tryz.func32 (fun H=>⟨_,ar2 (H.g 96 1) (H.g 98 3),cTimes _ _ (by first | omega | exact len2_le | exact p1 | exact p2 | exact p5 | exact p6 | exact p7 | exact p8 | exact p9 | exact p10 | exact gw_may p1 | rfl | exact p11 | exact p12)⟩) ?_
 refine .e rfl (V:=.bool false) (fun H=>ex_neq_gauss (r:=rg (x.mul (unitC (firstC x).toNat))) (q:=rg (x.mul (unitC (firstC x).toNat))) _ _ rfl (H.g 95 0) (H.g 99 4) ((rg_dec (x.mul (unitC (firstC x).toNat)) (x.mul (unitC (firstC x).toNat))).trans (decide_eq_true rfl))) ?_
 refine .mv rfl 5 ?_
 refine .mz rfl 17 E7_8 ?_ (hg:=gq 6 rfl)
 refine .mz rfl 21 E13_2 ?_ (hg:=gq 6 rfl)
 refine .e rfl (V:=.bool false) (fun H=>x_cm (H.g 102 7) (H.g 103 8) (bne_self_eq_false (show Int from (firstC x)))) ?_ (hg:=gq 6 rfl)
 refine .e rfl (fun H=>x_pkF (H.g 101 6) (H.g 104 9)) ?_
 refine .mv rfl 10 ?_
 refine .mz rfl 18 E7_9 ?_ (hg:=gq 11 rfl)
 refine .e rfl (V:=.bool false) (fun H=>x_cm (H.g 107 12) (H.c _) (bne_self_eq_false (show Int from 0))) ?_ (hg:=gq 11 rfl)
 refine .e rfl (fun H=>x_pkF (H.g 106 11) (H.g 108 13)) ?_
 refine .dk (fun u=>gV x::gV y::sq u1 0 3 (u3 5::u3 7::u4 7::u4 8::u4 11::u5 6::u5 8::sq u6 8 3 (u6 14::u7 6::u7 8::u7 9::u8 4::u8 5::u13 2::U::U::U::gV x::gV y::.slice p_q ([rg x,rg y]).length c_q::.bool false::U::u3 2::u3 0::u3 1::u3 3::u3 4::u4 3::sq u4 0 3 (sq u4 4 3 (u5 3::sq u5 0 3 (u5 4::u5 5::u6 3::sq u6 0 3 (sq u6 4 4 (u7 2::u7 0::u7 1::sq u7 3 3 (sq u8 0 4 (sq u9 0 10 (sq u10 0 3 (sq uu 0 7 (sq u11 0 6 (u12 0::u13 0::u13 1::sq u 0 15 (us 123))))))))))))))) K31 bel fun u14 w14 D bel=>?_
 have E14_14:=D.q 14
 replace B2:=D.k B2
 replace B3:=D.k B3
 replace B12:=D.k B12
 replace B13:=D.k B13
 replace B15:=D.k B15
 replace B17:=D.k B17
 replace B18:=D.k B18
 replace B19:=D.k B19
 replace B_q:=fun h=>D.k (B_q h)
 clear D
 refine wp_cond_false (by exact E14_14) ?_
 refine wp_skip ?_
 refine K28 _ _ ?_
 refine wp_seq_k fun _ K32=>?_
 refine gs 6 (Amb Z0 W) fun _ K33=>?_
 refine .mz rfl 19 E8_4 ?_
 refine .e rfl (V:=.bool false) (fun H=>x_not (H.g 121 0)) ?_
 refine .mv rfl 1 ?_
 refine .mz rfl 20 E8_5 ?_ (hg:=gq 2 rfl)
 refine .e rfl (V:=.bool false) (fun H=>x_not (H.g 124 3)) ?_ (hg:=gq 2 rfl)
 refine .e rfl (fun H=>x_pkF (H.g 123 2) (H.g 125 4)) ?_
 refine .dk (fun u=>gV x::gV y::sq u1 0 3 (u3 5::u3 7::u4 7::u4 8::u4 11::u5 6::u5 8::sq u6 8 3 (u6 14::u7 6::u7 8::u7 9::u8 4::u8 5::u13 2::U::U::U::gV x::gV y::.slice p_q ([rg x,rg y]).length c_q::.bool false::U::u3 2::u3 0::u3 1::u3 3::u3 4::u4 3::sq u4 0 3 (sq u4 4 3 (u5 3::sq u5 0 3 (u5 4::u5 5::u6 3::sq u6 0 3 (sq u6 4 4 (u7 2::u7 0::u7 1::sq u7 3 3 (sq u8 0 4 (sq u9 0 10 (sq u10 0 3 (sq uu 0 7 (sq u11 0 6 (u12 0::u13 0::u13 1::sq u14 0 15 (sq uu 0 11 (sq u 0 6 (us 106))))))))))))))))) K33 bel fun u15 w15 D bel=>?_
 have E15_5:=D.q 5
 replace B2:=D.k B2
 replace B3:=D.k B3
 replace B12:=D.k B12
 replace B13:=D.k B13
 replace B15:=D.k B15
 replace B17:=D.k B17
 replace B18:=D.k B18
 replace B19:=D.k B19
 replace B_q:=fun h=>D.k (B_q h)
 clear D
 refine wp_cond_false (by exact E15_5) ?_
 refine wp_skip ?_
 refine K32 _ _ ?_
 refine gs 5 (Amb Z0 W) fun _ K34=>?_
 refine .lr rfl 2 E1_0 B2 ?_
 refine .lr rfl 3 E1_1 B3 ?_
 refine .cK rfl Tryz.func34 (fun H=>⟨_,ar2 (H.g 164 0) (H.g 165 1),rComb _ _ (N:=N) (r:=r) (by first | omega | exact len2_le | exact p1 | exact p2 | exact p5 | exact p6 | exact p7 | exact p8 | exact p9 | exact p10 | exact gw_may p1 | rfl | exact p11 | exact p12)⟩) ?_
 refine .al rfl zT ?_
 refine .so rfl 3 (fun H=>⟨H.r 22 3,H.g 166 2⟩) ?_
 refine .dk (fun u=>gV x::gV y::sq u1 0 3 (u3 5::u3 7::u4 7::u4 8::u4 11::u5 6::u5 8::sq u6 8 3 (u6 14::u7 6::u7 8::u7 9::u8 4::u8 5::u13 2::u 3::U::U::gV x::gV y::.slice p_q ([rg x,rg y]).length c_q::.bool false::U::u3 2::u3 0::u3 1::u3 3::u3 4::u4 3::sq u4 0 3 (sq u4 4 3 (u5 3::sq u5 0 3 (u5 4::u5 5::u6 3::sq u6 0 3 (sq u6 4 4 (u7 2::u7 0::u7 1::sq u7 3 3 (sq u8 0 4 (sq u9 0 10 (sq u10 0 3 (sq uu 0 7 (sq u11 0 6 (u12 0::u13 0::u13 1::sq u14 0 15 (sq uu 0 11 (sq u15 0 6 (sq uu 0 37 (sq u 0 3 (us 66))))))))))))))))))) K34 bel fun u16 w16 D bel=>?_
 obtain ⟨b35,E16_3,A35,B35⟩:=D.st 4
 replace B2:=D.k B2
 replace B3:=D.k B3
 replace B12:=D.k B12
 replace B13:=D.k B13
 replace B15:=D.k B15
 replace B17:=D.k B17
 replace B18:=D.k B18
 replace B19:=D.k B19
 replace B_q:=fun h=>D.k (B_q h)
 clear D
 refine wp_seq_k fun _ K36=>?_
 refine gs 30 (Amb Z0 W) fun _ K37=>?_
 refine .lr rfl 10 E5_6 B15 ?_
 refine .fz rfl 22 0 E16_3 ?_
 refine .lp rfl 1 (gC (r.1.mul (unitC (firstC r.1).toNat))) B35 ?_
 refine .e rfl (V:=.bool false) (fun H=>ex_neq_gauss (r:=rg (r.1.mul (unitC (firstC r.1).toNat))) (q:=rg (r.1.mul (unitC (firstC r.1).toNat))) _ _ rfl (H.g 167 0) (H.g 169 2) ((rg_dec (r.1.mul (unitC (firstC r.1).toNat)) (r.1.mul (unitC (firstC r.1).toNat))).trans (decide_eq_true rfl))) ?_
 refine .mv rfl 3 ?_
 refine .mz rfl 11 E5_8 ?_ (hg:=gq 4 rfl)
 refine .e rfl (V:=.bool false) (fun H=>x_cm (H.g 172 5) (H.c _) (bne_self_eq_false (show Int from 0))) ?_ (hg:=gq 4 rfl)
 refine .e rfl (fun H=>x_pkF (H.g 171 4) (H.g 173 6)) ?_
 refine .mv rfl 7 ?_
 refine .lr rfl 12 E6_8 B17 ?_ (hg:=gq 8 rfl)
 refine .fz rfl 22 0 E16_3 ?_ (hg:=gq 8 rfl)
 refine .lp rfl 10 (gC (r.1.mul (unitC (firstC r.1).toNat))) B35 ?_ (hg:=gq 8 rfl)
 refine .e rfl (V:=.bool false) (fun H=>ex_neq_gauss (r:=rg (r.1.mul (unitC (firstC r.1).toNat))) (q:=rg (r.1.mul (unitC (firstC r.1).toNat))) _ _ rfl (H.g 176 9) (H.g 178 11) ((rg_dec (r.1.mul (unitC (firstC r.1).toNat)) (r.1.mul (unitC (firstC r.1).toNat))).trans (decide_eq_true rfl))) ?_ (hg:=gq 8 rfl)
 refine .e rfl (fun H=>x_pkF (H.g 175 8) (H.g 179 12)) ?_
 refine .mv rfl 13 ?_
 refine .lr rfl 13 E6_9 B18 ?_ (hg:=gq 14 rfl)
 refine .fz rfl 22 8 E16_3 ?_ (hg:=gq 14 rfl)
 refine .lp rfl 16 (gC (r.2.1.mul (unitC (firstC r.1).toNat))) B35 ?_ (hg:=gq 14 rfl)
 refine .e rfl (V:=.bool false) (fun H=>ex_neq_gauss (r:=rg (r.2.1.mul (unitC (firstC r.1).toNat))) (q:=rg (r.2.1.mul (unitC (firstC r.1).toNat))) _ _ rfl (H.g 182 15) (H.g 184 17) ((rg_dec (r.2.1.mul (unitC (firstC r.1).toNat)) (r.2.1.mul (unitC (firstC r.1).toNat))).trans (decide_eq_true rfl))) ?_ (hg:=gq 14 rfl)
 refine .e rfl (fun H=>x_pkF (H.g 181 14) (H.g 185 18)) ?_
 refine .mv rfl 19 ?_
 refine .lr rfl 14 E6_10 B19 ?_ (hg:=gq 20 rfl)
 refine .fz rfl 22 16 E16_3 ?_ (hg:=gq 20 rfl)
 refine .lp rfl 22 (gC (r.2.2.mul (unitC (firstC r.1).toNat))) B35 ?_ (hg:=gq 20 rfl)
 refine .e rfl (V:=.bool false) (fun H=>ex_neq_gauss (r:=rg (r.2.2.mul (unitC (firstC r.1).toNat))) (q:=rg (r.2.2.mul (unitC (firstC r.1).toNat))) _ _ rfl (H.g 188 21) (H.g 190 23) ((rg_dec (r.2.2.mul (unitC (firstC r.1).toNat)) (r.2.2.mul (unitC (firstC r.1).toNat))).trans (decide_eq_true rfl))) ?_ (hg:=gq 20 rfl)
 refine .e rfl (fun H=>x_pkF (H.g 187 20) (H.g 191 24)) ?_
 refine .mv rfl 25 ?_
 refine .mz rfl 15 E6_14 ?_ (hg:=gq 26 rfl)
 refine .e rfl (V:=.bool false) (fun H=>x_cm (H.g 194 27) (H.c _) (bne_self_eq_false (show Int from 0))) ?_ (hg:=gq 26 rfl)
 refine .e rfl (fun H=>x_pkF (H.g 193 26) (H.g 195 28)) ?_
 refine .dk (fun u=>gV x::gV y::sq u1 0 3 (u3 5::u3 7::u4 7::u4 8::u4 11::u5 6::u5 8::sq u6 8 3 (u6 14::u7 6::u7 8::u7 9::u8 4::u8 5::u13 2::u16 3::U::U::gV x::gV y::.slice p_q ([rg x,rg y]).length c_q::.bool false::U::u3 2::u3 0::u3 1::u3 3::u3 4::u4 3::sq u4 0 3 (sq u4 4 3 (u5 3::sq u5 0 3 (u5 4::u5 5::u6 3::sq u6 0 3 (sq u6 4 4 (u7 2::u7 0::u7 1::sq u7 3 3 (sq u8 0 4 (sq u9 0 10 (sq u10 0 3 (sq uu 0 7 (sq u11 0 6 (u12 0::u13 0::u13 1::sq u14 0 15 (sq uu 0 11 (sq u15 0 6 (sq uu 0 37 (sq u16 0 3 (sq u 0 30 (us 36)))))))))))))))))))) K37 bel fun u17 w17 D bel=>?_
 have E17_29:=D.q 29
 replace B2:=D.k B2
 replace B3:=D.k B3
 replace B12:=D.k B12
 replace B13:=D.k B13
 replace B_q:=fun h=>D.k (B_q h)
 clear D
 refine wp_cond_false (by exact E17_29) ?_
 refine wp_skip ?_
 refine K36 _ _ ?_
 refine wp_seq_k fun _ K38=>?_
 refine gs 2 (Amb Z0 W) fun _ K39=>?_
 refine .lr rfl 3 E1_1 B3 ?_
 refine .cK rfl (V:=.bool false) Tryz.func35 (fun H=>⟨_,ar1 (H.g 197 0),reV (congrArg Value.bool p10) (cZero _)⟩) ?_
 refine .dk (fun u=>gV x::gV y::sq u1 0 3 (u3 5::u3 7::u4 7::u4 8::u4 11::u5 6::u5 8::sq u6 8 3 (u6 14::u7 6::u7 8::u7 9::u8 4::u8 5::u13 2::u16 3::U::U::gV x::gV y::.slice p_q ([rg x,rg y]).length c_q::.bool false::U::u3 2::u3 0::u3 1::u3 3::u3 4::u4 3::sq u4 0 3 (sq u4 4 3 (u5 3::sq u5 0 3 (u5 4::u5 5::u6 3::sq u6 0 3 (sq u6 4 4 (u7 2::u7 0::u7 1::sq u7 3 3 (sq u8 0 4 (sq u9 0 10 (sq u10 0 3 (sq uu 0 7 (sq u11 0 6 (u12 0::u13 0::u13 1::sq u14 0 15 (sq uu 0 11 (sq u15 0 6 (sq uu 0 37 (sq u16 0 3 (sq u17 0 30 (u 0::u 1::us 34)))))))))))))))))))) K39 bel fun u18 w18 D bel=>?_
 have E18_1:=D.q 1
 replace B2:=D.k B2
 replace B3:=D.k B3
 replace B12:=D.k B12
 replace B13:=D.k B13
 replace B_q:=fun h=>D.k (B_q h)
 clear D
 refine wp_cond_false (by exact E18_1) ?_
 refine wp_skip ?_
 refine K38 _ _ ?_
 refine gs 10 (Amb Z0 W) fun _ K40=>?_
 refine .lr rfl 2 E1_0 B2 ?_
 refine .lr rfl 3 E1_1 B3 ?_
 refine .cK rfl Tryz.func36 (fun H=>⟨_,ar2 (H.g 213 0) (H.g 214 1),rDiv _ _ (by first | omega | exact len2_le | exact p1 | exact p2 | exact p5 | exact p6 | exact p7 | exact p8 | exact p9 | exact p10 | exact gw_may p1 | rfl | exact p11 | exact p12) (by first | omega | exact len2_le | exact p1 | exact p2 | exact p5 | exact p6 | exact p7 | exact p8 | exact p9 | exact p10 | exact gw_may p1 | rfl | exact p11 | exact p12)⟩) ?_
 refine .mv rfl 2 ?_
 refine .e rfl (V:=gV ((x.div y).near)) (fun H=>x_ex (H.g 212 3)) ?_
 refine .e rfl (V:=gV (x.sub ((x.div y).near.mul y))) (fun H=>x_ex (H.g 212 3)) ?_
 refine .al rfl zG ?_
 refine .al rfl zG ?_
 refine .so rfl 6 (fun H=>⟨H.r 23 6,H.g 216 4⟩) ?_
 refine .so rfl 7 (fun H=>⟨H.r 24 7,H.g 217 5⟩) ?_
 refine .dk (fun u=>gV x::gV y::sq u1 0 3 (u3 5::u3 7::u4 7::u4 8::u4 11::u5 6::u5 8::sq u6 8 3 (u6 14::u7 6::u7 8::u7 9::u8 4::u8 5::u13 2::u16 3::u 6::u 7::gV x::gV y::.slice p_q ([rg x,rg y]).length c_q::.bool false::U::u3 2::u3 0::u3 1::u3 3::u3 4::u4 3::sq u4 0 3 (sq u4 4 3 (u5 3::sq u5 0 3 (u5 4::u5 5::u6 3::sq u6 0 3 (sq u6 4 4 (u7 2::u7 0::u7 1::sq u7 3 3 (sq u8 0 4 (sq u9 0 10 (sq u10 0 3 (sq uu 0 7 (sq u11 0 6 (u12 0::u13 0::u13 1::sq u14 0 15 (sq uu 0 11 (sq u15 0 6 (sq uu 0 37 (sq u16 0 3 (sq u17 0 30 (u18 0::u18 1::sq uu 0 13 (u 3::sq u 0 3 (u 4::u 5::us 15)))))))))))))))))))))) K40 bel fun u19 w19 D bel=>?_
 obtain ⟨b41,E19_6,A41,B41⟩:=D.st 8
 obtain ⟨b42,E19_7,A42,B42⟩:=D.st 9
 replace B12:=D.k B12
 replace B13:=D.k B13
 replace B_q:=fun h=>D.k (B_q h)
 clear D
 refine gs 16 (Amb Z0 W) fun _ K43=>?_
 refine .lr rfl 7 E4_7 B12 ?_
 refine .lr rfl 23 E19_6 B41 ?_
 refine .e rfl (V:=.bool true) (fun H=>ex_eql_gauss (r:=rg ((x.div y).near)) (q:=rg ((x.div y).near)) _ _ rfl (H.g 218 0) (H.g 219 1) ((rg_dec ((x.div y).near) ((x.div y).near)).trans (decide_eq_true rfl))) ?_
 refine .mv rfl 2 ?_
 refine .lr rfl 8 E4_8 B13 ?_ (hg:=gq 3 rfl)
 refine .lr rfl 24 E19_7 B42 ?_ (hg:=gq 3 rfl)
 refine .e rfl (V:=.bool true) (fun H=>ex_eql_gauss (r:=rg (x.sub ((x.div y).near.mul y))) (q:=rg (x.sub ((x.div y).near.mul y))) _ _ rfl (H.g 222 4) (H.g 223 5) ((rg_dec (x.sub ((x.div y).near.mul y)) (x.sub ((x.div y).near.mul y))).trans (decide_eq_true rfl))) ?_ (hg:=gq 3 rfl)
 refine .e rfl (fun H=>x_pkT (H.g 221 3) (H.g 224 6)) ?_
 refine .mv rfl 7 ?_
 refine .mz rfl 9 E4_11 ?_ (hg:=gq 8 rfl)
 refine .e rfl (V:=.bool true) (fun H=>x_cm (H.g 227 9) (H.c _) (beq_self_eq_true (show Int from 0))) ?_ (hg:=gq 8 rfl)
 refine .e rfl (fun H=>x_pkT (H.g 226 8) (H.g 228 10)) ?_
 refine .mv rfl 11 ?_
 refine .cK rfl Tryz.func9 (fun H=>⟨_,ar0,lKnown⟩) ?_ (hg:=gq 12 rfl)
 refine .e rfl (fun H=>x_pkT (H.g 230 12) (H.g 231 13)) ?_
 refine .mv rfl 14 ?_
 refine .dk (fun u=>gV x::gV y::u1 0::u1 1::u 15::u3 5::u3 7::u4 7::u4 8::u4 11::u5 6::u5 8::sq u6 8 3 (u6 14::u7 6::u7 8::u7 9::u8 4::u8 5::u13 2::u16 3::u19 6::u19 7::gV x::gV y::.slice p_q ([rg x,rg y]).length c_q::.bool false::U::u3 2::u3 0::u3 1::u3 3::u3 4::u4 3::sq u4 0 3 (sq u4 4 3 (u5 3::sq u5 0 3 (u5 4::u5 5::u6 3::sq u6 0 3 (sq u6 4 4 (u7 2::u7 0::u7 1::sq u7 3 3 (sq u8 0 4 (sq u9 0 10 (sq u10 0 3 (sq uu 0 7 (sq u11 0 6 (u12 0::u13 0::u13 1::sq u14 0 15 (sq uu 0 11 (sq u15 0 6 (sq uu 0 37 (sq u16 0 3 (sq u17 0 30 (u18 0::u18 1::sq uu 0 13 (u19 3::sq u19 0 3 (u19 4::u19 5::sq u 0 15 []))))))))))))))))))))) K43 bel fun u20 w20 D bel=>?_
 have E20_15:=D.q 15
 replace B_q:=fun h=>D.k (B_q h)
 clear D
 exact wp_ret (rt rfl E20_15 rfl bel)
end Go.Proofs.YtllohoibifcmdaaGreat
namespace Go.Proofs.YtllohoibifcmdaaGreat
open Go.RowKit Rgn
theorem one_norm:(Cx.ofInt (1:Int) (0:Int)).norm = 1:=by decide +kernel
theorem nil_norm:(Cx.ofInt (0:Int) (0:Int)).norm = 0:=by decide +kernel
theorem rows_start {a b:Cx} {K:Rat} (hK:1 ≤ K) (ia:isI a) (ib:isI b) (ha:a.norm + a.norm + a.norm + a.norm ≤ K) (hb:b.norm + b.norm + b.norm + b.norm ≤ K) :
  Rows2 a b K a (Cx.ofInt (1:Int) (0:Int)) (Cx.ofInt (0:Int) (0:Int)) b (Cx.ofInt (0:Int) (0:Int)) (Cx.ofInt (1:Int) (0:Int)):=by
 have e1:=one_norm
 have e0:=nil_norm
 have na:=norm_nonneg a
 have nb:=norm_nonneg b
 have c1:((1:Int):Rat) = 1:=rfl
 have c0:((0:Int):Rat) = 0:=rfl
 refine ⟨ia,⟨1,0,rfl⟩,⟨0,0,rfl⟩,ib,⟨0,0,rfl⟩,⟨1,0,rfl⟩,.inl ?_,.inr ?_,?_,?_,?_,?_,?_,?_,?_,?_⟩
 ·refine Cx.ext' ?_ ?_
  ·show a.re * ((1:Int):Rat) - a.im * ((0:Int):Rat) - (b.re * ((0:Int):Rat) - b.im * ((0:Int):Rat)) = a.re
   rw [c1,c0]; grind
  ·show a.re * ((0:Int):Rat) + a.im * ((1:Int):Rat) - (b.re * ((0:Int):Rat) + b.im * ((0:Int):Rat)) = a.im
   rw [c1,c0]; grind
 ·refine Cx.ext' ?_ ?_
  ·show a.re * ((0:Int):Rat) - a.im * ((0:Int):Rat) - (b.re * ((1:Int):Rat) - b.im * ((0:Int):Rat)) = -b.re
   rw [c1,c0]; grind
  ·show a.re * ((0:Int):Rat) + a.im * ((0:Int):Rat) - (b.re * ((0:Int):Rat) + b.im * ((1:Int):Rat)) = -b.im
   rw [c1,c0]; grind
 ·rw [e1]; grind
 ·rw [e0]; grind
 all_goals first | (rw [e1]; exact hK) | (rw [e0]; grind) | grind
theorem wide_two {r q:RG} (h:wideU (40:Int) [r,q] = false):wide1 40 r = false ∧ wide1 40 q = false:=by
 unfold wideU at h
 simpa using h
theorem short_abs {j:Nat} (hj:j = 320) {a:Int} (h:¬ (40:Int) < ((rw a).s.size:Int)):a.natAbs < 2 ^ j:=by
 have h1:=hi_bytes a
 have h2:hi a = bl a.natAbs + 1:=rfl
 exact bl_le.1 (by omega)
theorem big4 (j:Nat):(2:Int) ^ (2 * (j + 2)) = 16 * (((2 ^ j:Nat):Int) * ((2 ^ j:Nat):Int)):=by
 have e:((2 ^ j:Nat):Int) = (2:Int) ^ j:=by rw [Int.natCast_pow]; rfl
 rw [e,show 2 * (j + 2) = j + j + 4 by omega,Int.pow_add,Int.pow_add,Int.mul_comm]; rfl
def nsm (k:Nat) (x:Cx):Prop:=x.norm + x.norm + x.norm + x.norm ≤ ((2 ^ (2 * k):Int):Rat)
theorem short_norm {j:Nat} (hj:j = 320) {a b:Int} (h:wide1 40 (rg (Cx.ofInt a b)) = false):nsm (j + 2) (Cx.ofInt a b):=by
 unfold wide1 at h
 simp only [Bool.or_eq_false_iff,decide_eq_false_iff_not] at h
 obtain ⟨⟨⟨h1,_⟩,h2⟩,_⟩:=h
 have h1:¬ (40:Int) < ((rw ((a:Rat)).num).s.size:Int):=h1
 have h2:¬ (40:Int) < ((rw ((b:Rat)).num).s.size:Int):=h2
 rw [Rat.num_intCast] at h1 h2
 have k1:=short_abs hj h1
 have k2:=short_abs hj h2
 clear h1 h2
 unfold nsm
 rw [norm_int,← cast_add,← cast_add,← cast_add,cast_le,big4,← Int.natAbs_mul_self' a,← Int.natAbs_mul_self' b]
 generalize 2 ^ j = P at *
 have m1:a.natAbs * a.natAbs ≤ P * P:=Nat.mul_le_mul (Nat.le_of_lt k1) (Nat.le_of_lt k1)
 have m2:b.natAbs * b.natAbs ≤ P * P:=Nat.mul_le_mul (Nat.le_of_lt k2) (Nat.le_of_lt k2)
 have m3:(a.natAbs:Int) * (a.natAbs:Int) ≤ (P:Int) * (P:Int):=by exact_mod_cast m1
 have m4:(b.natAbs:Int) * (b.natAbs:Int) ≤ (P:Int) * (P:Int):=by exact_mod_cast m2
 have m5:(0:Int) ≤ (a.natAbs:Int) * (a.natAbs:Int):=by exact_mod_cast Nat.zero_le _
 have m6:(0:Int) ≤ (b.natAbs:Int) * (b.natAbs:Int):=by exact_mod_cast Nat.zero_le _
 clear m1 m2 k1 k2
 generalize (a.natAbs:Int) * (a.natAbs:Int) = A at *
 generalize (b.natAbs:Int) * (b.natAbs:Int) = B at *
 generalize (P:Int) * (P:Int) = C at *
 omega
theorem short_ht {k:Nat} {a b:Int} (h:nsm k (Cx.ofInt a b)):ht (Cx.ofInt a b).re ≤ k + 3 ∧ ht (Cx.ofInt a b).im ≤ k + 3:=by
 have:=norm_nonneg (Cx.ofInt a b)
 unfold nsm at h
 exact ht_norm ⟨a,b,rfl⟩ (by grind)
theorem unit_fits {k:Nat} (hk:k ≤ 1000) {z:Cx} (n:Nat) (h:ht z.re ≤ k + 3 ∧ ht z.im ≤ k + 3):gfits (rg (z.mul (unitC n))) = true:=by
 have h1:=ht_unit n
 have h2:=hc_mul z (unitC n)
 exact gfits_ht ⟨by omega,by omega⟩
theorem pow_one_le (k:Nat):(1:Rat) ≤ ((2 ^ (2 * k):Int):Rat):=by
 have h:(0:Int) < 2 ^ (2 * k):=Int.pow_pos (by decide)
 exact (cast_le (a:=1)).2 (by omega)
theorem comb_any {k:Nat} (hk:k ≤ 1000) {a b c d:Int} (ha:nsm k (Cx.ofInt a b)) (hb:nsm k (Cx.ofInt c d)) :
  ∃ N r,combC N (Cx.ofInt a b) (Cx.ofInt (1:Int) (0:Int)) (Cx.ofInt (0:Int) (0:Int)) (Cx.ofInt c d) (Cx.ofInt (0:Int) (0:Int)) (Cx.ofInt (1:Int) (0:Int)) = some r ∧ (ht r.1.re ≤ k + 3 ∧ ht r.1.im ≤ k + 3) ∧ (ht r.2.1.re ≤ k + 3 ∧ ht r.2.1.im ≤ k + 3) ∧ (ht r.2.2.re ≤ k + 3 ∧ ht r.2.2.im ≤ k + 3):=by
 have hn:(Cx.ofInt c d).norm ≤ (((((c * c + d * d).toNat:Nat):Int)):Rat):=by
  rw [norm_int,cast_le]
  exact Int.self_le_toNat _
 obtain ⟨r,h1,_,h2⟩:=comb_ends (by omega) ha hb _ _ _ _ _ _ _ (rows_start (pow_one_le k) ⟨a,b,rfl⟩ ⟨c,d,rfl⟩ ha hb) hn
 exact ⟨_,r,h1,h2⟩
theorem rest_fits {k:Nat} (hk:k ≤ 1000) {a b c d:Int} (hb:nsm k (Cx.ofInt c d)) (hz:(Cx.ofInt c d).zero = false):gfits (rg ((Cx.ofInt a b).sub (((Cx.ofInt a b).div (Cx.ofInt c d)).near.mul (Cx.ofInt c d)))) = true:=by
 have q4:=rest_half (Cx.ofInt a b) (zero_norm hz)
 have q5:=norm_nonneg ((Cx.ofInt a b).sub (((Cx.ofInt a b).div (Cx.ofInt c d)).near.mul (Cx.ofInt c d)))
 have q6:=norm_nonneg (Cx.ofInt c d)
 unfold nsm at hb
 have q7:=ht_norm (k:=k) (isI_sub ⟨a,b,rfl⟩ (isI_mul (isI_near ((Cx.ofInt a b).div (Cx.ofInt c d))) ⟨c,d,rfl⟩)) (by grind)
 exact gfits_ht ⟨by omega,by omega⟩
theorem quo_fits {k:Nat} (hk:k ≤ 500) {a b c d:Int} (ha:nsm k (Cx.ofInt a b)) (hb:nsm k (Cx.ofInt c d)):gfits (rg ((Cx.ofInt a b).div (Cx.ofInt c d)).near) = true:=by
 have ka:=short_ht ha
 have kb:=short_ht hb
 have q1:=hc_div (Cx.ofInt a b) (Cx.ofInt c d)
 have q2:=ht_rnd ((Cx.ofInt a b).div (Cx.ofInt c d)).re
 have q3:=ht_rnd ((Cx.ofInt a b).div (Cx.ofInt c d)).im
 exact gfits_ht ⟨by show ht ((rnd _:Int):Rat) ≤ _; omega,by show ht ((rnd _:Int):Rat) ≤ _; omega⟩
theorem lDivides {W:World} (r q:RG):Calls Tryz.prog 5 #[rgV r,rgV q] W (RetV (.bool true) W):=by
 obtain ⟨j,hj⟩:∃ j:Nat,j = 320:=⟨_,rfl⟩
 have hk:j + 2 ≤ 500:=by omega
 have hk' : j + 2 ≤ 1000:=by omega
 cases hw:wideU (40:Int) [r,q] with
 | true=>exact lDivV0 r q hw
 | false =>
  obtain ⟨w1,w2⟩:=wide_two hw
  cases hm:gmay r with
  | false=>exact lDivV1 r q hw (by unfold gwhole; rw [hm]; rfl) hm
  | true =>
   obtain ⟨x,rfl⟩:=gmay_ex hm
   have hx2:=gfits_ht2 ((gmay_rg x).symm.trans hm)
   cases hx:gwhole (rg x) with
   | false=>exact lDivV2 x q hw hx hm hx2
   | true =>
    obtain ⟨a,b,e⟩:=gwhole_ex hx
    obtain rfl:=rg_inj e
    have na:=short_norm hj w1
    have ka:=short_ht na
    cases hy:gwhole q with
    | false=>exact lDivV3 _ q hw hx hy hx2 (unit_fits hk' _ ka)
    | true =>
     obtain ⟨c,d,rfl⟩:=gwhole_ex hy
     have nb:=short_norm hj w2
     have kb:=short_ht nb
     obtain ⟨N,r,h0,h1,h2,h3⟩:=comb_any hk' na nb
     have f1:=unit_fits hk' (firstC r.1).toNat h1
     have f2:=unit_fits hk' (firstC r.1).toNat h2
     have f3:=unit_fits hk' (firstC r.1).toNat h3
     cases hz:(Cx.ofInt c d).zero with
     | true=>exact lDivV4 _ _ hw hx hy hx2 (by omega) (unit_fits hk' _ ka) h0 f1 f2 f3 hz
     | false=>exact lDivV5 _ _ hw hx hy hx2 (by omega) (unit_fits hk' _ ka) h0 f1 f2 f3 hz (quo_fits hk na nb) (rest_fits hk' nb hz)
end Go.Proofs.YtllohoibifcmdaaGreat
namespace Go.Proofs.YtllohoibifcmdaaGreat
open Go.ChangeShapes Go.WideShapes Go.ChangeAt Go.RowKit
theorem list2 {cs:List Value} (h:cs.length = 2):∃ a b,cs = [a,b]:=by
 match cs,h with
 | [a,b],_=>exact ⟨a,b,rfl⟩
theorem list4 {cs:List Value} (h:cs.length = 4):∃ a b c d,cs = [a,b,c,d]:=by
 match cs,h with
 | [a,b,c,d],_=>exact ⟨a,b,c,d,rfl⟩
theorem list8 {cs:List Value} (h:cs.length = 8):∃ a b c d e f g i,cs = [a,b,c,d,e,f,g,i]:=by
 match cs,h with
 | [a,b,c,d,e,f,g,i],_=>exact ⟨a,b,c,d,e,f,g,i,rfl⟩
section
variable {H:Type} {enc:TypeId × Value → H} {w:World} {base:Nat} {spare:Nat → Bool} {held:Bool}
theorem rd_whole {fuel:Nat} {cs:List Value} {x:DataW H × List MemPlace} (h:DataW.trod enc Tryz.prog w base spare held fuel 26 cs = some x):∃ r:RW,cs = (rwC r).toList:=by
 obtain ⟨y0,y1,n,_,hl,h0,h1⟩:=trod_struct2 Tryz.underlying26 h
 obtain ⟨b,e0,_⟩:=DataW.trod_bool Tryz.underlying4 h0
 obtain ⟨s,e1,_,_⟩:=DataW.trod_string Tryz.underlying9 h1
 rw [show Tryz.prog.cellsOf 26 = 2 by kernel_rfl] at hl
 rw [show Tryz.prog.cellsOf 4 = 1 by kernel_rfl] at e0
 rw [show Tryz.prog.cellsOf 9 = 1 by kernel_rfl] at e1
 obtain ⟨u,v,rfl⟩:=list2 hl
 simp only [List.drop_zero,List.take_succ_cons,List.take_zero,List.cons.injEq,and_true] at e0
 simp only [List.drop_succ_cons,List.drop_zero,List.take_succ_cons,List.take_zero,List.cons.injEq,and_true] at e1
 subst e0; subst e1
 exact ⟨⟨b,s⟩,rfl⟩
theorem rd_frac {fuel:Nat} {cs:List Value} {x:DataW H × List MemPlace} (h:DataW.trod enc Tryz.prog w base spare held fuel 28 cs = some x):∃ r:RF,cs = (rfC r).toList:=by
 obtain ⟨y0,y1,n,_,hl,h0,h1⟩:=trod_struct2 Tryz.underlying28 h
 obtain ⟨a,e0⟩:=rd_whole h0
 obtain ⟨b,e1⟩:=rd_whole h1
 rw [show Tryz.prog.cellsOf 28 = 4 by kernel_rfl] at hl
 rw [show Tryz.prog.cellsOf 26 = 2 by kernel_rfl] at e0 e1
 obtain ⟨u0,u1,u2,u3,rfl⟩:=list4 hl
 simp only [List.drop_zero,List.drop_succ_cons,List.take_succ_cons,List.take_zero,List.cons.injEq,and_true] at e0 e1
 obtain ⟨rfl,rfl⟩:=e0
 obtain ⟨rfl,rfl⟩:=e1
 exact ⟨⟨a,b⟩,rfl⟩
theorem rd_gauss {fuel:Nat} {cs:List Value} {x:DataW H × List MemPlace} (h:DataW.trod enc Tryz.prog w base spare held fuel 30 cs = some x):∃ r:RG,cs = (rgC r).toList:=by
 obtain ⟨y0,y1,n,_,hl,h0,h1⟩:=trod_struct2 Tryz.underlying30 h
 obtain ⟨a,e0⟩:=rd_frac h0
 obtain ⟨b,e1⟩:=rd_frac h1
 rw [show Tryz.prog.cellsOf 30 = 8 by kernel_rfl] at hl
 rw [show Tryz.prog.cellsOf 28 = 4 by kernel_rfl] at e0 e1
 obtain ⟨u0,u1,u2,u3,u4,u5,u6,u7,rfl⟩:=list8 hl
 simp only [List.drop_zero,List.drop_succ_cons,List.take_succ_cons,List.take_zero,List.cons.injEq,and_true] at e0 e1
 obtain ⟨rfl,rfl,rfl,rfl⟩:=e0
 obtain ⟨rfl,rfl,rfl,rfl⟩:=e1
 exact ⟨⟨a,b⟩,rfl⟩
set_option maxRecDepth 100000 in
theorem open_gauss {r:Reach} {b0:Nat} {v:Value} {d:DataW H} {p:List MemPlace} (hv:Value.okWide Tryz.prog w r b0 30 v) (h:DataW.Trod enc Tryz.prog w base spare held 30 v d p):∃ r:RG,v = rgV r:=by
 obtain ⟨cs,rfl,_⟩:=okWide_struct Tryz.underlying30 hv
 obtain ⟨fuel,hf⟩:=h
 obtain ⟨r,e⟩:=rd_gauss hf
 refine ⟨r,?_⟩
 have e2:cs = rgC r:=Array.ext' e
 rw [e2]
end
instance:Inhabited RG:=⟨rg0⟩
section
variable {H:Type} {enc:TypeId × Value → H} {w:World} {base:Nat} {spare:Nat → Bool} {held:Bool}
end
end Go.Proofs.YtllohoibifcmdaaGreat
namespace Go.Proofs.YtllohoibifcmdaaGreat
open Go.ChangeShapes Go.WideShapes Go.ChangeAt Go.RowKit Go.WideElems
theorem law_own:ownKnob Tryz.prog.godebug = none:=by kernel_rfl
theorem law_laid:laidOutB Tryz.prog = true:=by kernel_rfl
section
variable {H:Type} {enc:TypeId × Value → H}
theorem trodAll_stays {W W' : World} {sp:Nat → Bool}:∀ {ts:List TypeId} {vs:List Value} {ds:List (DataW H)} {ps:List MemPlace},(∀ t ∈ ts,Tryz.prog.readableRec t = true ∧ t < Tryz.prog.types.size) →
  DataW.TrodAll enc Tryz.prog W 0 (fun _=>true) true ts vs ds ps → (∀ p ∈ ps,W.sameAt W' p) → (∀ p ∈ ps,sp p.block = true) → DataW.TrodAll enc Tryz.prog W' 0 sp true ts vs ds ps:=by
 intro ts
 induction ts with
 | nil =>
  intro vs ds ps _ h _ _
  obtain ⟨rfl,rfl,rfl⟩:=trodAll_nil h
  exact trodAll_mk0
 | cons t ts ih =>
  intro vs ds ps ht h hs hb
  obtain ⟨v,vs', d,ds', p,p', rfl,rfl,rfl,h0,h1⟩:=trodAll_cons h
  obtain ⟨h2,h3⟩:=ht t (by simp)
  exact trodAll_cons_mk (Trod_stays law_laid h2 h3 h0 (fun q hq=>hs q (by simp [hq])) (fun q hq=>hb q (by simp [hq]))) (ih (fun t ht' => ht t (by simp [ht'])) h1 (fun q hq=>hs q (by simp [hq])) (fun q hq=>hb q (by simp [hq])))
set_option maxRecDepth 100000 in
theorem law_post {f:Func} {s:ChangeSpec} {fresh handsOn again:Bool} {W W' : World} {args:Array Value} {ds gs:List (DataW H)} {before:List MemPlace} (hW:DataW.Whole enc Tryz.prog f.params.toList s.vars false W args.toList ds gs before)
  (hv:s.vars = []) (hfn:s.fn H ds = { results:=[.lit (.bool true)],args:=ds }) (hr:f.resultTypes = #[4]) (hp:f.params.toList.all (fun t=>Tryz.prog.readableRec t && decide (t < Tryz.prog.types.size)) = true) (hb:Below W.heap.size W W') :
  s.post enc Tryz.prog f false fresh handsOn again W args (.bool true) W' := by
 have hlt:∀ p ∈ before,p.block < W.heap.size:=fun p hq=>hW.lt p hq
 have hW' := hW
 obtain ⟨p,q,hA,hV,rfl,hfz,hnd⟩:=hW
 rw [hv] at hV
 obtain ⟨rfl,rfl⟩:=trodVars_none hV
 have hpar:∀ t ∈ f.params.toList,Tryz.prog.readableRec t = true ∧ t < Tryz.prog.types.size:=fun t ht=>by
  have:=List.all_eq_true.1 hp t ht
  simpa using this
 have hargs:∀ sp:Nat → Bool,(∀ x ∈ p ++ [],sp x.block = true) → DataW.TrodAll enc Tryz.prog W' 0 sp true f.params.toList args.toList ds p:=fun sp hs =>
  trodAll_stays hpar hA (fun x hx=>hb.same (hlt x (by simp [hx]))) (fun x hx=>hs x (by simp [hx]))
 have hres:∀ (b:Nat) (sp:Nat → Bool) (hd:Bool),DataW.TrodAll enc Tryz.prog W' b sp hd f.resultTypes.toList (Value.resultList f.resultTypes.size (.bool true)) [.lit (.bool true)] []:=fun _ _ _=>by
  rw [hr]
  exact trodAll_cons_mk (shut_bool Tryz.underlying4 _) trodAll_mk0
 have hold:∀ x ∈ p ++ [],(fun b=>decide (b < W.heap.size)) x.block = true:=fun x hx=>by simpa using hlt x hx
 have hfn' : s.fn H (ds ++ []) = { results:=[.lit (.bool true)],args:=ds }:=by rw [List.append_nil]; exact hfn
 refine ⟨ds,[],p ++ [],[],p,[],hW', by rw [hfn']; exact hres _ _ _,by rw [hfn']; exact hargs _ hold,by rw [hv,hfn']; rfl,World.keptBut_mono (fun x hx=>⟨hx,?_⟩) (hb.frame (· ∈ p ++ [])),fun _=>?_⟩
 ·simpa using hx
 ·refine ⟨ok_one hr rfl (okWide_bool_mk Tryz.underlying4 _),_,[],([] ++ p) ++ [],⟨[] ++ p,[],trodAll_append (hargs _ (fun _ _=>rfl)) (hres _ _ _),by rw [hv]; rfl,rfl,?_,?_⟩,?_⟩
  ·intro b off hx
   have hin:MemPlace.cell b off ∈ p ++ []:=by simpa using hx
   rw [hb.frozen (hlt _ hin)]
   exact hfz b off hin
  ·intro ha
   have:=hnd ha
   simpa using this
  ·intro x hx _
   simpa using hx
end
end Go.Proofs.YtllohoibifcmdaaGreat
namespace Go.Proofs.YtllohoibifcmdaaGreat.hzDiv
open Go.ChangeShapes Go.WideShapes Go.ChangeAt Go.RowKit
set_option maxRecDepth 100000 in
theorem contract (H:Type) (enc:TypeId × Value → H) (W:World) (base:Nat) (args:Array Value) (ds gs:List (DataW H)) (before:List MemPlace)
  (hval:∀ (j:Nat) t v,Tryz.f5.params[j]? = some t → args[j]? = some v → Value.okWide Tryz.prog W .any base t v)
  (hW:DataW.Whole enc Tryz.prog Tryz.f5.params.toList Rows.hurwitzDividesSpec.vars false W args.toList ds gs before) :
  Calls Tryz.prog 5 args W fun e W' => ∃ v,e = .returned v ∧ Rows.hurwitzDividesSpec.post enc Tryz.prog Tryz.f5 false true false false W args v W' := by
 have hW' := hW
 obtain ⟨p,q,hA,hV,rfl,hfz,hnd⟩:=hW
 rw [Tryz.params5] at hA hval
 obtain ⟨v0,vs0,d0,ds0,p0,q0,hargs,rfl,rfl,h0,r0⟩:=trodAll_cons hA
 obtain ⟨v1,vs1,d1,ds1,p1,q1,rfl,rfl,rfl,h1,r1⟩:=trodAll_cons r0
 obtain ⟨rfl,rfl,rfl⟩:=trodAll_nil r1
 obtain rfl:args = #[v0,v1]:=by cases args; simp_all
 obtain ⟨rfl,rfl⟩:=trodVars_none hV
 obtain ⟨r,rfl⟩:=open_gauss (hval 0 _ v0 rfl rfl) h0
 obtain ⟨q,rfl⟩:=open_gauss (hval 1 _ v1 rfl rfl) h1
 refine (lDivides r q).mono fun e W' h=>?_
 obtain ⟨h1,h2⟩:=h.is
 exact ⟨_,h1,law_post hW' rfl rfl rfl (by kernel_rfl) h2⟩
set_option maxRecDepth 100000 in
theorem lifted (os:Os) (started:os.Started) (H:Type) (enc:TypeId × Value → H) :
  ReturnsInHanded {} Tryz.checked os 5 .any (Rows.hurwitzDividesSpec.pre6 enc Tryz.prog Tryz.f5 Rows.hurwitzDividesRow.domain false) (Rows.hurwitzDividesSpec.post enc Tryz.prog Tryz.f5 false true false false):=by
 refine returnsInHanded_of_change (C:=Tryz.checked) law_own started (by kernel_rfl) Tryz.func5
  (ChangeSpec.witness6 (enc:=enc) (C:=Tryz.checked) false ⟨#[],#[.agg #[.bool false,.string ⟨#[]⟩,.bool false,.string ⟨#[]⟩,.bool false,.string ⟨#[]⟩,.bool false,.string ⟨#[]⟩],.agg #[.bool false,.string ⟨#[]⟩,.bool false,.string ⟨#[]⟩,.bool false,.string ⟨#[]⟩,.bool false,.string ⟨#[]⟩]],[]⟩ 8 (by kernel_rfl) (by kernel_rfl) (by kernel_rfl) (by kernel_rfl)) ?_
 intro W base args ds gs before hval hW _ _
 exact contract H enc W base args ds gs before hval hW
theorem over:Rows.HurwitzDividesSaid :=
 OpenClaim.holds_of_wide 5 Tryz.f5 rfl rfl rfl rfl rfl rfl rfl ⟨rfl,rfl,rfl,rfl,rfl⟩ rfl rfl rfl rfl rfl (by kernel_rfl) Tryz.func5 (by kernel_rfl)
  (of_decide_eq_true (by kernel_rfl)) (by unfold Func.isWrapper; first | (rw [if_pos (by decide +kernel)]; kernel_rfl) | (rw [if_neg (by decide +kernel)]; exact ⟨rfl,rfl⟩))
  (fun os started H enc _=>lifted os started H enc)
end Go.Proofs.YtllohoibifcmdaaGreat.hzDiv
namespace Go.Proofs.YtllohoibifcmdaaGreat
theorem hurwitzDivides_proved:Rows.HurwitzDividesSaid:=hzDiv.over
end Go.Proofs.YtllohoibifcmdaaGreat
