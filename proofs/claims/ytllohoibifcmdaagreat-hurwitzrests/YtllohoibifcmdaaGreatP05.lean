import Derived.Test.YtllohoibifcmdaaGreatP04
import Derived.RangeFuncCalls
import Derived.TacticsInMore
import Derived.OrdersIn
import Derived.RangeFuncWrites
import Derived.RangeFuncBound
import Derived.RangeFuncBox
import Derived.RangeFuncLeaves
import Derived.RangeFuncNested
import Derived.Shelf.Abstract
import Derived.OwnWalkIn
import Derived.LoopNIn
import Derived.LoopIn
import Derived.Great.BuildSlice
import Derived.ArgAppend
import Derived.Laws.MakeOwn
set_option linter.unusedVariables false
set_option linter.unusedSimpArgs false
namespace Go.Proofs.YtllohoibifcmdaaGreat
open Go.RowKit Rgn
set_option maxHeartbeats 4000000
set_option maxRecDepth 100000
variable {S:Nat → Prop} {W:World}
theorem hDivB (x:Cx) (y:Cx) (p0:gwhole (rg x) = true) (p1:gwhole (rg y) = true) (p2:y.zero = true) :
  Calls Tryz.prog 23 #[gV x,gV y] W (RetV (.tuple #[.agg #[.bool false,.string ⟨#[]⟩,.bool false,.string ⟨#[]⟩,.bool false,.string ⟨#[]⟩,.bool false,.string ⟨#[]⟩],.agg #[.bool false,.string ⟨#[]⟩,.bool false,.string ⟨#[]⟩,.bool false,.string ⟨#[]⟩,.bool false,.string ⟨#[]⟩],.int .i64 5]) W):=by
 have bel:=b0 W
 go_enter Tryz.func23,Tryz.ntmps23
 refine gs 5 (Amb Z0 W) fun _ K1=>?_
 refine .bx rfl (fun H=>H.v 0 (gV x)) ?_
 refine .bx rfl (fun H=>H.v 1 (gV y)) ?_
 refine .al rfl zG ?_
 refine .al rfl zG ?_
 refine .mc rfl ?_
 refine .dk (fun u=>gV x::gV y::sq u 0 5 (us 55)) K1 bel fun u1 w1 D bel=>?_
 obtain ⟨b2,E1_0,A2,B2⟩:=D.nw 0
 obtain ⟨b3,E1_1,A3,B3⟩:=D.nw 1
 obtain ⟨b4,E1_2,A4,B4⟩:=D.nw 2
 obtain ⟨b5,E1_3,A5,B5⟩:=D.nw 3
 have E1_4:=D.q 4
 have N2_4:=D.n2 0 2 E1_0 E1_2
 have N3_4:=D.n2 1 2 E1_1 E1_2
 have N2_5:=D.n2 0 3 E1_0 E1_3
 have N3_5:=D.n2 1 3 E1_1 E1_3
 have N4_5:=D.n2 2 3 E1_2 E1_3
 clear D
 refine wp_seq_k fun _ K6=>?_
 refine wp_block ?_
 refine gs 9 (Amb Z0 W) fun _ K7=>?_
 refine .lr rfl 2 E1_0 B2 ?_
 refine .cK rfl (V:=.bool true) Tryz.func28 (fun H=>⟨_,ar1 (H.g 15 0),reV (congrArg Value.bool p0) (hWhole (rg x))⟩) ?_
 refine .e rfl (V:=.bool false) (fun H=>x_not (H.g 16 1)) ?_
 refine .mv rfl 2 ?_
 refine .lr rfl 3 E1_1 B3 ?_ (hg:=gq 3 rfl)
 refine .cK rfl (V:=.bool true) Tryz.func28 (fun H=>⟨_,ar1 (H.g 19 4),reV (congrArg Value.bool p1) (hWhole (rg y))⟩) ?_ (hg:=gq 3 rfl)
 refine .e rfl (V:=.bool false) (fun H=>x_not (H.g 20 5)) ?_ (hg:=gq 3 rfl)
 refine .e rfl (fun H=>x_pkF (H.g 18 3) (H.g 21 6)) ?_
 refine .mv rfl 7 ?_
 refine .dk (fun u=>gV x::gV y::sq u1 0 5 (U::U::U::U::U::U::U::u 8::sq u 0 8 (us 39))) K7 bel fun u2 w2 D bel=>?_
 have E2_8:=D.q 8
 replace B2:=D.k B2
 replace B3:=D.k B3
 replace B4:=D.k B4
 replace B5:=D.k B5
 clear D
 refine wp_cond_false (by exact E2_8) ?_
 refine gs 3 (Amb Z0 W) fun _ K8=>?_
 refine .lr rfl 3 E1_1 B3 ?_
 refine .cK rfl (V:=.bool true) Tryz.func37 (fun H=>⟨_,ar1 (H.g 26 0),reV (congrArg Value.bool (zero_dec1 p2)) (gaZero (rg y))⟩) ?_
 refine .mv rfl 1 ?_
 refine .dk (fun u=>gV x::gV y::sq u1 0 5 (U::U::U::U::U::U::U::u2 8::sq u2 0 8 (U::U::u 2::u 0::u 1::us 34))) K8 bel fun u3 w3 D bel=>?_
 have E3_2:=D.q 2
 replace B2:=D.k B2
 replace B3:=D.k B3
 replace B4:=D.k B4
 replace B5:=D.k B5
 clear D
 refine wp_cond_true (by exact E3_2) ?_
 refine wp_seq_k fun _ K9=>?_
 refine go2_seq 5 rfl (Amb Z0 W) [(b4,2),(b5,3)] [2,3] (Olds.cons (R0:=fun _=>True) (lt_of B4) (by simp [(Ne.symm N4_5)]) (Olds.one (lt_of B5))) (by kernel_rfl) ?_
 refine .e rfl (V:=.agg zG) (fun H=>by clear H; go_simp) ?_
 refine .e rfl (V:=.agg zG) (fun H=>by clear H; go_simp) ?_
 refine .sz rfl 0 B4 (lt_of B4) (by intro y k hy; match y,hy with | 0,hy=>rfl | 1,hy=>simp at hy; exact absurd hy.1 (Ne.symm N4_5)) (fun H=>⟨(H.z 4 E1_2),(H.g 28 0)⟩) ?_
 refine .sz rfl 1 B5 (lt_of B5) (by intro y k hy; match y,hy with | 0,hy=>simp at hy; exact absurd hy.1 N4_5 | 1,hy=>rfl) (fun H=>⟨(H.z 5 E1_3),(H.g 29 1)⟩) ?_
 refine .mc rfl ?_
 refine .dd (fun u=>⟨List.toArray (gV x::gV y::sq u1 0 4 (u 4::U::U::U::U::U::U::U::u2 8::sq u2 0 8 (U::U::u3 2::u3 0::u3 1::u 0::u 1::us 32))),[]⟩) bel.size fun u4 w4 D=>?_
 have E4_4:=D.q 4
 replace B4:=D.ol 2
 replace B5:=D.ol 3
 replace bel:=D.d.base.bel bel bel.size (by simp; omega)
 clear D
 refine K9 _ _ ?_
 refine wp_ret ?_
 refine ret_ok rfl (by exact results_mix3 rfl (by exact E1_2) B4 Tryz.underlying30 rfl (by kernel_rfl) (by exact E1_3) B5 Tryz.underlying30 rfl (by kernel_rfl) (by exact E4_4)) (RetV.mk ?_ bel)
 exact congrArg Ending.returned (rfl)
set_option maxHeartbeats 8000000 in
theorem hGcdC {N:Nat} {r:Cx × Cx × Cx} (x:Cx) (y:Cx) (p0:gwhole (rg x) = true) (p1:gwhole (rg y) = true) (p2:combC N x (Cx.ofInt (1:Int) (0:Int)) (Cx.ofInt (0:Int) (0:Int)) y (Cx.ofInt (0:Int) (0:Int)) (Cx.ofInt (1:Int) (0:Int)) = some r) (p3:gfits (rg (r.1.mul (unitC (firstC r.1).toNat))) = true) :
  Calls Tryz.prog 24 #[gV x,gV y] W (RetV (.tuple #[gV (r.1.mul (unitC (firstC r.1).toNat)),.int .i64 0]) W):=by
 have k0:=(comb_bd p2).1
 have k1:=comb_res p2
 have k2:=ht_unit (firstC r.1).toNat
 have k3:=hc_mul r.1 (unitC (firstC r.1).toNat)
 have bel:=b0 W
 go_enter Tryz.func24,Tryz.ntmps24
 refine gs 4 (Amb Z0 W) fun _ K1=>?_
 refine .bx rfl (fun H=>H.v 0 (gV x)) ?_
 refine .bx rfl (fun H=>H.v 1 (gV y)) ?_
 refine .al rfl zG ?_
 refine .mc rfl ?_
 refine .dk (fun u=>gV x::gV y::sq u 0 4 (us 25)) K1 bel fun u1 w1 D bel=>?_
 obtain ⟨b2,E1_0,A2,B2⟩:=D.nw 0
 obtain ⟨b3,E1_1,A3,B3⟩:=D.nw 1
 obtain ⟨b4,E1_2,A4,B4⟩:=D.nw 2
 have E1_3:=D.q 3
 have N2_4:=D.n2 0 2 E1_0 E1_2
 have N3_4:=D.n2 1 2 E1_1 E1_2
 clear D
 refine wp_seq_k fun _ K5=>?_
 refine gs 8 (Amb Z0 W) fun _ K6=>?_
 refine .lr rfl 2 E1_0 B2 ?_
 refine .cK rfl (V:=.bool true) Tryz.func28 (fun H=>⟨_,ar1 (H.g 9 0),reV (congrArg Value.bool p0) (hWhole (rg x))⟩) ?_
 refine .e rfl (V:=.bool false) (fun H=>x_not (H.g 10 1)) ?_
 refine .mv rfl 2 ?_
 refine .lr rfl 3 E1_1 B3 ?_ (hg:=gq 3 rfl)
 refine .cK rfl (V:=.bool true) Tryz.func28 (fun H=>⟨_,ar1 (H.g 13 4),reV (congrArg Value.bool p1) (hWhole (rg y))⟩) ?_ (hg:=gq 3 rfl)
 refine .e rfl (V:=.bool false) (fun H=>x_not (H.g 14 5)) ?_ (hg:=gq 3 rfl)
 refine .e rfl (fun H=>x_pkF (H.g 12 3) (H.g 15 6)) ?_
 refine .dk (fun u=>gV x::gV y::sq u1 0 4 (U::U::U::sq u 0 8 (us 14))) K6 bel fun u2 w2 D bel=>?_
 have E2_7:=D.q 7
 replace B2:=D.k B2
 replace B3:=D.k B3
 replace B4:=D.k B4
 clear D
 refine wp_cond_false (by exact E2_7) ?_
 refine wp_skip ?_
 refine K5 _ _ ?_
 refine gd 15 (Amb Z0 W) fun _ K7=>?_
 refine .lr rfl 2 E1_0 B2 ?_
 refine .cR rfl [] Tryz.func57 (fun H=>⟨_,ar1 (H.g 19 0),xOf _ (by first | omega | exact p2 | exact p3)⟩) ?_
 refine .lr rfl 3 E1_1 B3 ?_
 refine .cR rfl [] Tryz.func57 (fun H=>⟨_,ar1 (H.g 21 2),xOf _ (by first | omega | exact p2 | exact p3)⟩) ?_
 refine .cR rfl [1,3] Tryz.func71 (fun H=>⟨_,ar2 (H.r 20 1) (H.r 22 3),hCombine _ _ (N:=N) (r:=r) (SV.sub [1,3] (H.a 1 rfl) rfl) (SV.sub [1,3] (H.a 3 rfl) rfl) (by first | omega | exact p2 | exact p3)⟩) ?_
 refine .mn rfl 4 [1,3,4] ?_
 refine Go2.fn (i:=6) rfl (G0 rfl) (.val 6 [1,3,4,5] (CxP (r.1.mul (unitC (firstC r.1).toNat)))) (fun u μ ρ H=>by have e18:=H.r 18 5; have h0:=(H.a 5 rfl); obtain ⟨x0,x1,x2,h1,h2⟩:=h0; rw [h1] at e18; exact ⟨x0,by clear H; go_simp,SP.tupKeep (by decide) (by decide) h2.1⟩) ?_
 refine Go2.fn (i:=7) rfl (G0 rfl) (.val 7 [1,3,4,5] (CxP (r.2.1.mul (unitC (firstC r.1).toNat)))) (fun u μ ρ H=>by have e18:=H.r 18 5; have h0:=(H.a 5 rfl); obtain ⟨x0,x1,x2,h1,h2⟩:=h0; rw [h1] at e18; exact ⟨x1,by clear H; go_simp,SP.tupKeep (by decide) (by decide) h2.2.1⟩) ?_
 refine Go2.fn (i:=8) rfl (G0 rfl) (.val 8 [1,3,4,5] (CxP (r.2.2.mul (unitC (firstC r.1).toNat)))) (fun u μ ρ H=>by have e18:=H.r 18 5; have h0:=(H.a 5 rfl); obtain ⟨x0,x1,x2,h1,h2⟩:=h0; rw [h1] at e18; exact ⟨x2,by clear H; go_simp,SP.tupKeep (by decide) (by decide) h2.2.2⟩) ?_
 refine .al rfl (#[.pointer none,.pointer none]) ?_
 refine .al rfl (#[.pointer none,.pointer none]) ?_
 refine .al rfl (#[.pointer none,.pointer none]) ?_
 refine Go2.storeOwn (i:=12) (m:=9) rfl rfl (.tail _ (.tail _ (.head _))) (SP.cells 9 [6] (fun u=>#[((u 6).v.cells.getD 0 undef),((u 6).v.cells.getD 1 undef)]) 81 (by intro u u' h; simp [h 6 (by simp)])) (fun u μ ρ b H h0 hB hb=>?_) ?_
 · have e6:=H.r 6 9; have e24:=H.r 24 6
   rw [h0] at e6
   obtain ⟨x1,x2,h1,h2,h3⟩:=(H.a 6 rfl)
   have o1:=VP1.rat h2
   have o2:=VP1.rat h3
   rw [h1] at e24
   refine ⟨μ.setRow b #[x1,x2],ex_store_row 81 _ _ rfl e6 e24 hb (by kernel_rfl) rfl (by simp [o1,o2]),fun g=>⟨b,?_,hB,?_⟩,setRow_only _ _ _⟩
   · rw [upd_other _ _ (by decide)]; exact h0
   · rw [setRow_at hb]; try simp [upd,h1,Value.cells]
 refine Go2.storeOwn (i:=13) (m:=10) rfl rfl (.tail _ (.tail _ (.head _))) (SP.cells 10 [7] (fun u=>#[((u 7).v.cells.getD 0 undef),((u 7).v.cells.getD 1 undef)]) 81 (by intro u u' h; simp [h 7 (by simp)])) (fun u μ ρ b H h0 hB hb=>?_) ?_
 · have e7:=H.r 7 10; have e25:=H.r 25 7
   rw [h0] at e7
   obtain ⟨x1,x2,h1,h2,h3⟩:=(H.a 7 rfl)
   have o1:=VP1.rat h2
   have o2:=VP1.rat h3
   rw [h1] at e25
   refine ⟨μ.setRow b #[x1,x2],ex_store_row 81 _ _ rfl e7 e25 hb (by kernel_rfl) rfl (by simp [o1,o2]),fun g=>⟨b,?_,hB,?_⟩,setRow_only _ _ _⟩
   · rw [upd_other _ _ (by decide)]; exact h0
   · rw [setRow_at hb]; try simp [upd,h1,Value.cells]
 refine Go2.storeOwn (i:=14) (m:=11) rfl rfl (.tail _ (.tail _ (.head _))) (SP.cells 11 [8] (fun u=>#[((u 8).v.cells.getD 0 undef),((u 8).v.cells.getD 1 undef)]) 81 (by intro u u' h; simp [h 8 (by simp)])) (fun u μ ρ b H h0 hB hb=>?_) ?_
 · have e8:=H.r 8 11; have e26:=H.r 26 8
   rw [h0] at e8
   obtain ⟨x1,x2,h1,h2,h3⟩:=(H.a 8 rfl)
   have o1:=VP1.rat h2
   have o2:=VP1.rat h3
   rw [h1] at e26
   refine ⟨μ.setRow b #[x1,x2],ex_store_row 81 _ _ rfl e8 e26 hb (by kernel_rfl) rfl (by simp [o1,o2]),fun g=>⟨b,?_,hB,?_⟩,setRow_only _ _ _⟩
   · rw [upd_other _ _ (by decide)]; exact h0
   · rw [setRow_at hb]; try simp [upd,h1,Value.cells]
 refine .dk (fun u=>gV x::gV y::sq u1 0 4 (sq u 9 3 (sq u2 0 8 (U::u 5::sq u 0 5 (sq u 6 3 (us 4)))))) K7 bel fun u3 w3 D bel=>?_
 obtain ⟨b8,b9,E3_6,L8,L9,F8,F9⟩:=CxP.elim (D.rr 6)
 obtain ⟨b10,E3_9,A10,B10⟩:=(D.a 12 rfl)
 replace A10:=le2 D.le A10
 have N4_10:=D.n1 9 (lt_of B4) E3_9
 replace B4:=D.k B4
 simp only [Value.cells,E3_6,E3_9] at B10
 replace B10:w3.heap[b10]? = some (.cells #[pt b8,pt b9] 81 (0,0)):=B10
 clear D
 refine gs1 6 (Amb Z0 W) 4 B4 fun _ K11=>?_
 refine .e rfl (fun H=>x_ldr (H.z 6 E3_9) (H.b1 B10 N4_10)) ?_
 refine .cK rfl Tryz.func55 (fun H=>⟨_,ar1 (H.g 27 0),xGaussOk _ (CxP.mk (VP.any _ (H.was _ [] (VP.at F8 L8))) (VP.any _ (H.was _ [] (VP.at F9 L9)))) (by first | omega | exact p2 | exact p3) (by first | omega | exact p2 | exact p3)⟩) ?_
 refine .e rfl (V:=gV (r.1.mul (unitC (firstC r.1).toNat))) (fun H=>x_ex (H.g 28 1)) ?_
 refine .e rfl (V:=.int .i64 0) (fun H=>x_ex (H.g 28 1)) ?_
 refine .s1 rfl B4 (fun H=>⟨H.z 4 E1_2,H.g 29 2⟩) ?_
 refine .mv rfl 3 ?_
 refine .d1 (fun u=>gV x::gV y::sq u1 0 3 (u 5::sq u3 9 3 (sq u2 0 8 (U::u3 5::sq u3 0 5 (sq u3 6 3 (sq u 0 4 [])))))) K11 bel A4 fun u4 w4 D bel=>?_
 have E4_5:=D.q 5
 replace B4:=D.ol 4
 clear D
 refine wp_ret ?_
 refine ret_ok rfl (by exact results_mix rfl (by exact E1_2) B4 Tryz.underlying30 rfl (by kernel_rfl) (by exact E4_5)) (RetV.mk ?_ bel)
 exact congrArg Ending.returned (rfl)
theorem lKnown :
  Calls Tryz.prog 9 #[] W (RetV (.bool true) W):=by
 have bel:=b0 W
 go_enter Tryz.func9,Tryz.ntmps9
 refine gs 1 (Amb Z0 W) fun _ K1=>?_
 refine .mc rfl ?_
 refine .dk (fun u=>u 0::us 53) K1 bel fun u1 w1 D bel=>?_
 have E1_0:=D.q 0
 clear D
 refine gs 12 (Amb Z0 W) fun _ K2=>?_
 refine .cK rfl Tryz.func10 (fun H=>⟨_,ar2 (H.c (.int .i64 5)) (H.c (.int .i64 3)),lWhole _ _ (by first | omega | exact gwhole_int (by decide) | exact gfits_ht (by decide +kernel) | decide +kernel) (by first | omega | exact gwhole_int (by decide) | exact gfits_ht (by decide +kernel) | decide +kernel) (by first | omega | exact gwhole_int (by decide) | exact gfits_ht (by decide +kernel) | decide +kernel) (by first | omega | exact gwhole_int (by decide) | exact gfits_ht (by decide +kernel) | decide +kernel)⟩) ?_
 refine .cK rfl Tryz.func10 (fun H=>⟨_,ar2 (H.c (.int .i64 2)) (H.c (.int .i64 0)),lWhole _ _ (by first | omega | exact gwhole_int (by decide) | exact gfits_ht (by decide +kernel) | decide +kernel) (by first | omega | exact gwhole_int (by decide) | exact gfits_ht (by decide +kernel) | decide +kernel) (by first | omega | exact gwhole_int (by decide) | exact gfits_ht (by decide +kernel) | decide +kernel) (by first | omega | exact gwhole_int (by decide) | exact gfits_ht (by decide +kernel) | decide +kernel)⟩) ?_
 refine .cK rfl Tryz.func23 (fun H=>⟨_,ar2 (H.g 10 0) (H.g 11 1),hDivC _ _ (by first | omega | exact gwhole_int (by decide) | exact gfits_ht (by decide +kernel) | decide +kernel) (by first | omega | exact gwhole_int (by decide) | exact gfits_ht (by decide +kernel) | decide +kernel) (by first | omega | exact gwhole_int (by decide) | exact gfits_ht (by decide +kernel) | decide +kernel) (by first | omega | exact gwhole_int (by decide) | exact gfits_ht (by decide +kernel) | decide +kernel) (by first | omega | exact gwhole_int (by decide) | exact gfits_ht (by decide +kernel) | decide +kernel) (by first | omega | exact gwhole_int (by decide) | exact gfits_ht (by decide +kernel) | decide +kernel)⟩) ?_
 refine .mv rfl 2 ?_
 refine .e rfl (V:=gV (((Cx.ofInt (5:Int) (3:Int)).div (Cx.ofInt (2:Int) (0:Int))).near)) (fun H=>x_ex (H.g 9 3)) ?_
 refine .e rfl (V:=gV ((Cx.ofInt (5:Int) (3:Int)).sub (((Cx.ofInt (5:Int) (3:Int)).div (Cx.ofInt (2:Int) (0:Int))).near.mul (Cx.ofInt (2:Int) (0:Int))))) (fun H=>x_ex (H.g 9 3)) ?_
 refine .e rfl (V:=.int .i64 0) (fun H=>x_ex (H.g 9 3)) ?_
 refine .al rfl zG ?_
 refine .al rfl zG ?_
 refine .so rfl 7 (fun H=>⟨H.r 1 7,H.g 13 4⟩) ?_
 refine .so rfl 8 (fun H=>⟨H.r 2 8,H.g 14 5⟩) ?_
 refine .mv rfl 6 ?_
 refine .dk (fun u=>u1 0::u 7::u 8::u 11::U::U::U::U::U::u 3::sq u 0 3 (sq u 4 3 (us 38))) K2 bel fun u2 w2 D bel=>?_
 obtain ⟨b3,E2_7,A3,B3⟩:=D.st 9
 obtain ⟨b4,E2_8,A4,B4⟩:=D.st 10
 have E2_11:=D.q 11
 clear D
 refine gs 9 (Amb Z0 W) fun _ K5=>?_
 refine .cK rfl Tryz.func10 (fun H=>⟨_,ar2 (H.c (.int .i64 6)) (H.c (.int .i64 0)),lWhole _ _ (by first | omega | exact gwhole_int (by decide) | exact gfits_ht (by decide +kernel) | decide +kernel) (by first | omega | exact gwhole_int (by decide) | exact gfits_ht (by decide +kernel) | decide +kernel) (by first | omega | exact gwhole_int (by decide) | exact gfits_ht (by decide +kernel) | decide +kernel) (by first | omega | exact gwhole_int (by decide) | exact gfits_ht (by decide +kernel) | decide +kernel)⟩) ?_
 refine .cK rfl Tryz.func10 (fun H=>⟨_,ar2 (H.c (.int .i64 4)) (H.c (.int .i64 2)),lWhole _ _ (by first | omega | exact gwhole_int (by decide) | exact gfits_ht (by decide +kernel) | decide +kernel) (by first | omega | exact gwhole_int (by decide) | exact gfits_ht (by decide +kernel) | decide +kernel) (by first | omega | exact gwhole_int (by decide) | exact gfits_ht (by decide +kernel) | decide +kernel) (by first | omega | exact gwhole_int (by decide) | exact gfits_ht (by decide +kernel) | decide +kernel)⟩) ?_
 refine .cK rfl Tryz.func24 (fun H=>⟨_,ar2 (H.g 17 0) (H.g 18 1),hGcdC _ _ (N:=3) (r:=(Cx.ofInt (0:Int) (2:Int),Cx.ofInt (1:Int) (0:Int),Cx.ofInt (-1:Int) (1:Int))) (by first | omega | exact gwhole_int (by decide) | exact gfits_ht (by decide +kernel) | decide +kernel) (by first | omega | exact gwhole_int (by decide) | exact gfits_ht (by decide +kernel) | decide +kernel) (by first | omega | exact gwhole_int (by decide) | exact gfits_ht (by decide +kernel) | decide +kernel) (by first | omega | exact gwhole_int (by decide) | exact gfits_ht (by decide +kernel) | decide +kernel)⟩) ?_
 refine .mv rfl 2 ?_
 refine .e rfl (V:=gV ((Cx.ofInt (0:Int) (2:Int),Cx.ofInt (1:Int) (0:Int),Cx.ofInt (-1:Int) (1:Int)).1.mul (unitC (firstC (Cx.ofInt (0:Int) (2:Int),Cx.ofInt (1:Int) (0:Int),Cx.ofInt (-1:Int) (1:Int)).1).toNat))) (fun H=>x_ex (H.g 16 3)) ?_
 refine .e rfl (V:=.int .i64 0) (fun H=>x_ex (H.g 16 3)) ?_
 refine .al rfl zG ?_
 refine .so rfl 6 (fun H=>⟨H.r 4 6,H.g 20 4⟩) ?_
 refine .mv rfl 5 ?_
 refine .dk (fun u=>u1 0::u2 7::u2 8::u2 11::u 6::u 8::U::U::U::u2 3::sq u2 0 3 (sq u2 4 3 (u 3::sq u 0 3 (u 4::u 5::us 32)))) K5 bel fun u3 w3 D bel=>?_
 obtain ⟨b6,E3_6,A6,B6⟩:=D.st 7
 have E3_8:=D.q 8
 replace B3:=D.k B3
 replace B4:=D.k B4
 clear D
 refine gs 12 (Amb Z0 W) fun _ K7=>?_
 refine .cK rfl Tryz.func10 (fun H=>⟨_,ar2 (H.c (.int .i64 1)) (H.c (.int .i64 0)),lWhole _ _ (by first | omega | exact gwhole_int (by decide) | exact gfits_ht (by decide +kernel) | decide +kernel) (by first | omega | exact gwhole_int (by decide) | exact gfits_ht (by decide +kernel) | decide +kernel) (by first | omega | exact gwhole_int (by decide) | exact gfits_ht (by decide +kernel) | decide +kernel) (by first | omega | exact gwhole_int (by decide) | exact gfits_ht (by decide +kernel) | decide +kernel)⟩) ?_
 refine .cK rfl Tryz.func10 (fun H=>⟨_,ar2 (H.c (.int .i64 0)) (H.c (.int .i64 0)),lWhole _ _ (by first | omega | exact gwhole_int (by decide) | exact gfits_ht (by decide +kernel) | decide +kernel) (by first | omega | exact gwhole_int (by decide) | exact gfits_ht (by decide +kernel) | decide +kernel) (by first | omega | exact gwhole_int (by decide) | exact gfits_ht (by decide +kernel) | decide +kernel) (by first | omega | exact gwhole_int (by decide) | exact gfits_ht (by decide +kernel) | decide +kernel)⟩) ?_
 refine .cK rfl Tryz.func23 (fun H=>⟨_,ar2 (H.g 23 0) (H.g 24 1),hDivB _ _ (by first | omega | exact gwhole_int (by decide) | exact gfits_ht (by decide +kernel) | decide +kernel) (by first | omega | exact gwhole_int (by decide) | exact gfits_ht (by decide +kernel) | decide +kernel) (by first | omega | exact gwhole_int (by decide) | exact gfits_ht (by decide +kernel) | decide +kernel)⟩) ?_
 refine .mv rfl 2 ?_
 refine .e rfl (V:=.agg zG) (fun H=>x_ex (H.g 22 3)) ?_
 refine .e rfl (V:=.agg zG) (fun H=>x_ex (H.g 22 3)) ?_
 refine .e rfl (V:=.int .i64 5) (fun H=>x_ex (H.g 22 3)) ?_
 refine .al rfl zG ?_
 refine .al rfl zG ?_
 refine .so rfl 7 (fun H=>⟨H.r 6 7,H.g 26 4⟩) ?_
 refine .so rfl 8 (fun H=>⟨H.r 7 8,H.g 27 5⟩) ?_
 refine .mv rfl 6 ?_
 refine .dk (fun u=>u1 0::u2 7::u2 8::u2 11::u3 6::u3 8::u 7::u 8::u 11::u2 3::sq u2 0 3 (sq u2 4 3 (u3 3::sq u3 0 3 (u3 4::u3 5::u 3::sq u 0 3 (sq u 4 3 (us 25)))))) K7 bel fun u4 w4 D bel=>?_
 have E4_11:=D.q 11
 replace B3:=D.k B3
 replace B4:=D.k B4
 replace B6:=D.k B6
 clear D
 refine gd 26 (Amb Z0 W) fun _ K8=>?_
 refine .lr rfl 1 E2_7 B3 ?_
 refine .cK rfl Tryz.func10 (fun H=>⟨_,ar2 (H.c (.int .i64 2)) (H.c (.int .i64 2)),lWhole _ _ (by first | omega | exact gwhole_int (by decide) | exact gfits_ht (by decide +kernel) | decide +kernel) (by first | omega | exact gwhole_int (by decide) | exact gfits_ht (by decide +kernel) | decide +kernel) (by first | omega | exact gwhole_int (by decide) | exact gfits_ht (by decide +kernel) | decide +kernel) (by first | omega | exact gwhole_int (by decide) | exact gfits_ht (by decide +kernel) | decide +kernel)⟩) ?_
 refine .e rfl (V:=.bool ((decide (((Cx.ofInt (5:Int) (3:Int)).div (Cx.ofInt (2:Int) (0:Int))).near = Cx.ofInt (2:Int) (2:Int))))) (fun H=>ex_eql_gauss (r:=rg (((Cx.ofInt (5:Int) (3:Int)).div (Cx.ofInt (2:Int) (0:Int))).near)) (q:=rg (Cx.ofInt (2:Int) (2:Int))) _ _ rfl (H.g 29 0) (H.g 30 1) (rg_dec (((Cx.ofInt (5:Int) (3:Int)).div (Cx.ofInt (2:Int) (0:Int))).near) (Cx.ofInt (2:Int) (2:Int)))) ?_
 refine .e rfl (V:=.bool true) (fun H=>by have e31:=H.g 31 2; have k_:=(show ((decide (((Cx.ofInt (5:Int) (3:Int)).div (Cx.ofInt (2:Int) (0:Int))).near = Cx.ofInt (2:Int) (2:Int)))) = true from by decide +kernel); clear H; go_simp <;> first | (simp_all; done) | omega | exact len_gt z0_) ?_
 refine .lr rfl 2 E2_8 B4 ?_ (hg:=gq 3 rfl)
 refine .cK rfl Tryz.func10 (fun H=>⟨_,ar2 (H.c (.int .i64 1)) (H.c (.int .i64 (-1))),lWhole _ _ (by first | omega | exact gwhole_int (by decide) | exact gfits_ht (by decide +kernel) | decide +kernel) (by first | omega | exact gwhole_int (by decide) | exact gfits_ht (by decide +kernel) | decide +kernel) (by first | omega | exact gwhole_int (by decide) | exact gfits_ht (by decide +kernel) | decide +kernel) (by first | omega | exact gwhole_int (by decide) | exact gfits_ht (by decide +kernel) | decide +kernel)⟩) ?_ (hg:=gq 3 rfl)
 refine .e rfl (V:=.bool ((decide ((Cx.ofInt (5:Int) (3:Int)).sub (((Cx.ofInt (5:Int) (3:Int)).div (Cx.ofInt (2:Int) (0:Int))).near.mul (Cx.ofInt (2:Int) (0:Int))) = Cx.ofInt (1:Int) (-1:Int))))) (fun H=>ex_eql_gauss (r:=rg ((Cx.ofInt (5:Int) (3:Int)).sub (((Cx.ofInt (5:Int) (3:Int)).div (Cx.ofInt (2:Int) (0:Int))).near.mul (Cx.ofInt (2:Int) (0:Int))))) (q:=rg (Cx.ofInt (1:Int) (-1:Int))) _ _ rfl (H.g 33 4) (H.g 34 5) (rg_dec ((Cx.ofInt (5:Int) (3:Int)).sub (((Cx.ofInt (5:Int) (3:Int)).div (Cx.ofInt (2:Int) (0:Int))).near.mul (Cx.ofInt (2:Int) (0:Int)))) (Cx.ofInt (1:Int) (-1:Int)))) ?_ (hg:=gq 3 rfl)
 refine .e rfl (V:=.bool true) (fun H=>by have e32:=H.g 32 3; have e35:=H.g 35 6; have k_:=(show ((decide ((Cx.ofInt (5:Int) (3:Int)).sub (((Cx.ofInt (5:Int) (3:Int)).div (Cx.ofInt (2:Int) (0:Int))).near.mul (Cx.ofInt (2:Int) (0:Int))) = Cx.ofInt (1:Int) (-1:Int)))) = true from by decide +kernel); clear H; go_simp <;> first | (simp_all; done) | omega | exact len_gt z0_) ?_
 refine .mv rfl 7 ?_
 refine .mz rfl 3 E2_11 ?_ (hg:=gq 8 rfl)
 refine .e rfl (V:=.bool true) (fun H=>x_cmp (H.g 38 9) (H.c _)) ?_ (hg:=gq 8 rfl)
 refine .e rfl (fun H=>x_pkT (H.g 37 8) (H.g 39 10)) ?_
 refine .mv rfl 11 ?_
 refine .lr rfl 4 E3_6 B6 ?_ (hg:=gq 12 rfl)
 refine .cK rfl Tryz.func10 (fun H=>⟨_,ar2 (H.c (.int .i64 2)) (H.c (.int .i64 0)),lWhole _ _ (by first | omega | exact gwhole_int (by decide) | exact gfits_ht (by decide +kernel) | decide +kernel) (by first | omega | exact gwhole_int (by decide) | exact gfits_ht (by decide +kernel) | decide +kernel) (by first | omega | exact gwhole_int (by decide) | exact gfits_ht (by decide +kernel) | decide +kernel) (by first | omega | exact gwhole_int (by decide) | exact gfits_ht (by decide +kernel) | decide +kernel)⟩) ?_ (hg:=gq 12 rfl)
 refine .e rfl (V:=.bool ((decide ((Cx.ofInt (0:Int) (2:Int),Cx.ofInt (1:Int) (0:Int),Cx.ofInt (-1:Int) (1:Int)).1.mul (unitC (firstC (Cx.ofInt (0:Int) (2:Int),Cx.ofInt (1:Int) (0:Int),Cx.ofInt (-1:Int) (1:Int)).1).toNat) = Cx.ofInt (2:Int) (0:Int))))) (fun H=>ex_eql_gauss (r:=rg ((Cx.ofInt (0:Int) (2:Int),Cx.ofInt (1:Int) (0:Int),Cx.ofInt (-1:Int) (1:Int)).1.mul (unitC (firstC (Cx.ofInt (0:Int) (2:Int),Cx.ofInt (1:Int) (0:Int),Cx.ofInt (-1:Int) (1:Int)).1).toNat))) (q:=rg (Cx.ofInt (2:Int) (0:Int))) _ _ rfl (H.g 42 13) (H.g 43 14) (rg_dec ((Cx.ofInt (0:Int) (2:Int),Cx.ofInt (1:Int) (0:Int),Cx.ofInt (-1:Int) (1:Int)).1.mul (unitC (firstC (Cx.ofInt (0:Int) (2:Int),Cx.ofInt (1:Int) (0:Int),Cx.ofInt (-1:Int) (1:Int)).1).toNat)) (Cx.ofInt (2:Int) (0:Int)))) ?_ (hg:=gq 12 rfl)
 refine .e rfl (V:=.bool true) (fun H=>by have e41:=H.g 41 12; have e44:=H.g 44 15; have k_:=(show ((decide ((Cx.ofInt (0:Int) (2:Int),Cx.ofInt (1:Int) (0:Int),Cx.ofInt (-1:Int) (1:Int)).1.mul (unitC (firstC (Cx.ofInt (0:Int) (2:Int),Cx.ofInt (1:Int) (0:Int),Cx.ofInt (-1:Int) (1:Int)).1).toNat) = Cx.ofInt (2:Int) (0:Int)))) = true from by decide +kernel); clear H; go_simp <;> first | (simp_all; done) | omega | exact len_gt z0_) ?_
 refine .mv rfl 16 ?_
 refine .mz rfl 5 E3_8 ?_ (hg:=gq 17 rfl)
 refine .e rfl (V:=.bool true) (fun H=>x_cmp (H.g 47 18) (H.c _)) ?_ (hg:=gq 17 rfl)
 refine .e rfl (fun H=>x_pkT (H.g 46 17) (H.g 48 19)) ?_
 refine .mv rfl 20 ?_
 refine .mz rfl 8 E4_11 ?_ (hg:=gq 21 rfl)
 refine .e rfl (V:=.bool true) (fun H=>x_cmp (H.g 51 22) (H.c _)) ?_ (hg:=gq 21 rfl)
 refine .e rfl (fun H=>x_pkT (H.g 50 21) (H.g 52 23)) ?_
 refine .mv rfl 24 ?_
 refine .dk (fun u=>u 25::u2 7::u2 8::u2 11::u3 6::u3 8::u4 7::u4 8::u4 11::u2 3::sq u2 0 3 (sq u2 4 3 (u3 3::sq u3 0 3 (u3 4::u3 5::u4 3::sq u4 0 3 (sq u4 4 3 (sq u 0 25 [])))))) K8 bel fun u5 w5 D bel=>?_
 have E5_25:=D.q 25
 clear D
 exact wp_ret (rt rfl E5_25 rfl bel)
end Go.Proofs.YtllohoibifcmdaaGreat
namespace Go.Proofs.YtllohoibifcmdaaGreat
open Go.RowKit Rgn
theorem fits_ht_le {q:Rat} (h:fits (rf q) = true):ht q ≤ 8200:=by
 unfold fits at h
 rw [Bool.and_eq_true,decide_eq_true_eq,decide_eq_true_eq] at h
 have h1:=hi_bytes q.num
 have h2:=hi_bytes (q.den:Int)
 have h3:(rw q.num).s.size ≤ 1024:=h.1
 have h4:(rw (q.den:Int)).s.size ≤ 1024:=h.2
 have h5:hi (q.den:Int) = bl q.den + 1:=by unfold hi; rw [Int.natAbs_natCast]
 have h6:hi q.num = bl q.num.natAbs + 1:=rfl
 have h7:ht q = max (bl q.num.natAbs) (bl q.den) + 1:=rfl
 omega
@[reducible] def invC (z:Cx):Cx:=(Cx.ofInt (1:Int) (0:Int)).div z
section
variable {n:Int} {z:Cx} {i:Int} {q:Cx}
end
section
variable {P:Program} {ops:Array Oper} {Q:Exit → Act → World → Prop} {o:Oper} {rest:List Oper} {a:Act} {w:World}
theorem wpT_valW {v:Value} (hw:Region.wanted o (yielded ops a.tmps) = true) (hr:(execOp a.eval o).run P w = .ok (.value v) w) (h:wpList P ops Q rest (a.put o.dst v) w):wpList P ops Q (o :: rest) a w:=by
 unfold wpList
 rw [if_pos hw]
 refine .inl ?_
 simp only [Oper.wp,hr,Oper.upon]
 exact h
theorem wpT_skipW (hw:Region.wanted o (yielded ops a.tmps) = false) (h:wpList P ops Q rest (a.put o.dst undef) w):wpList P ops Q (o :: rest) a w:=by
 unfold wpList
 rw [if_neg (by rw [hw]; decide)]
 exact h
theorem wpT_callKW {f:FuncId} {args:Array Value} {V:Value} (hw:Region.wanted o (yielded ops a.tmps) = true) (hr:(execOp a.eval o).run P w = .ok (.enter f args) w) (hc:Calls P f args w (RetV V w))
  (h:∀ w', RowKit.Below w.heap.size w w' → wpList P ops Q rest (a.put o.dst V) w'):wpList P ops Q (o :: rest) a w:=by
 unfold wpList
 rw [if_pos hw]
 refine .inl ?_
 simp only [Oper.wp,hr,Oper.upon]
 refine hc.mono fun e w' hq=>?_
 obtain ⟨rfl,h2⟩:=hq.is
 exact h w' h2
end
theorem gfits_ht2 {c:Cx} (h:gfits (rg c) = true):ht c.re + ht c.im ≤ 20000:=by
 have h1:(fits (rf c.re) && fits (rf c.im)) = true:=h
 rw [Bool.and_eq_true] at h1
 have h2:=fits_ht_le h1.1
 have h3:=fits_ht_le h1.2
 omega
@[reducible] def resV (r:RG × Int):Value:=.tuple #[.agg #[.bool r.1.re.a.n,.string r.1.re.a.s,.bool r.1.re.b.n,.string r.1.re.b.s,.bool r.1.im.a.n,.string r.1.im.a.s,.bool r.1.im.b.n,.string r.1.im.b.s],.int .i64 r.2]
end Go.Proofs.YtllohoibifcmdaaGreat
namespace Go.Proofs.YtllohoibifcmdaaGreat
open Go.RowKit Rgn
def flat (l:List RG):List Value:=l.flatMap rgc
theorem flat_cons (x:RG) (l:List RG):flat (x :: l) = rgc x ++ flat l:=rfl
theorem flat_get:∀ {l:List RG} {i k:Nat} {r:RG} {v:Value},l[i]? = some r → (rgc r)[k]? = some v → (flat l)[8 * i + k]? = some v
 | [],i,k,r,v,h,_=>by simp at h
 | x :: l,0,k,r,v,h,hk=>by
  have e:x = r:=by simpa using h
  subst e
  have:k < (rgc x).length:=(List.getElem?_eq_some_iff.1 hk).1
  rw [flat_cons,List.getElem?_append_left (by simpa using this)]
  simpa using hk
 | x :: l,i + 1,k,r,v,h,hk=>by
  have h' : l[i]? = some r:=by simpa using h
  rw [flat_cons,List.getElem?_append_right (by show 8 ≤ _; omega)]
  have:=flat_get h' hk
  rwa [show 8 * (i + 1) + k - (rgc x).length = 8 * i + k by show 8 * (i + 1) + k - 8 = _; omega]
theorem GRow.of_flat {cur:Array Value} {l:List RG} {n:Nat} (h:cur.toList.take n = flat l):GRow cur 0 l:=fun i r hi k v hk=>by
 have h1:=flat_get hi hk
 rw [← h,List.getElem?_take] at h1
 split at h1
 ·rw [Nat.zero_add]; simpa using h1
 ·cases h1
theorem GRow.left {cur:Array Value} {off:Nat} {l r:List RG} (h:GRow cur off (l ++ r)):GRow cur off l:=fun i x hi k v hk=>by
 have hlt:i < l.length:=(List.getElem?_eq_some_iff.1 hi).1
 exact h i x (by rw [List.getElem?_append_left hlt]; exact hi) k v hk
theorem info_gauss:(Tryz.prog.info? 30).map (fun i=>(i.zero,i.size,i.bytes)) = some (some (.agg #[.bool false,.string ⟨#[]⟩,.bool false,.string ⟨#[]⟩,.bool false,.string ⟨#[]⟩,.bool false,.string ⟨#[]⟩]),8,96):=by kernel_rfl
abbrev OwnG (w:World) (n₀:Nat) (v:Value) (l:List RG):Prop:=w.ownsRow n₀ 30 8 v l.length (flat l)
theorem OwnG.low {n₀:Nat} {w w' : World} {v:Value} {l:List RG} (h:OwnG w n₀ v l) (g:RowKit.Below w.heap.size w w'):OwnG w' n₀ v l:=by
 refine ⟨h.1,?_⟩
 rcases h.2 with h1 | ⟨b,cap,cur,h1,h2,h3,h4⟩
 ·exact .inl h1
 ·exact .inr ⟨b,cap,cur,h1,h2,(g.block b (lt_of h3)).trans h3,h4⟩
theorem OwnG.open {n₀:Nat} {w:World} {v:Value} {l:List RG} {r:RG} (h:OwnG w n₀ v (l ++ [r])):∃ p c cur T fr cur' T' fr',
  v = .slice p (l ++ [r]).length c ∧
  (l.length ≤ c ∧ c ≤ 9223372036854775807 ∧ Hid (l.length ≠ 0 → p = some ⟨slB p,slO p,none⟩) ∧ (l.length ≠ 0 → w.heap[slB p]? = some (.cells cur T fr)) ∧ GRow cur (slO p) l ∧ (l.length ≠ 0 → slB p < w.heap.size)) ∧
  ((l ++ [r]).length ≤ c ∧ c ≤ 9223372036854775807 ∧ Hid ((l ++ [r]).length ≠ 0 → p = some ⟨slB p,slO p,none⟩) ∧ ((l ++ [r]).length ≠ 0 → w.heap[slB p]? = some (.cells cur' T' fr')) ∧ GRow cur' (slO p) (l ++ [r]) ∧ ((l ++ [r]).length ≠ 0 → slB p < w.heap.size)):=by
 have e1:(l ++ [r]).length = l.length + 1:=by simp
 rcases h.2 with ⟨_,h1⟩ | ⟨b,cap,cur,rfl,h2,h3,h4,h5,h6,h7⟩
 ·rw [e1] at h1; exact absurd h1 (by omega)
 ·have hR:GRow cur 0 (l ++ [r]):=GRow.of_flat h7
  have hc:cap ≤ 9223372036854775807:=by simp only [maxLen] at h5; exact h5
  exact ⟨_,_,cur,_,(0,0),cur,_,(0,0),rfl,⟨by omega,hc,Lib.hid (fun _=>rfl),fun _=>h3,hR.left,fun _=>lt_of h3⟩,⟨h4,hc,Lib.hid (fun _=>rfl),fun _=>h3,hR,fun _=>lt_of h3⟩⟩
section
variable {ops:Array Oper} {Q:Exit → Act → World → Prop} {o:Oper} {rest:List Oper} {a:Act} {w:World}
end
theorem GSl.mk {w:World} {p:Option Addr} {c:Nat} {cur:Array Value} {T:TypeId} {fr:Nat × Nat} {l:List RG} (hy:l.length ≤ c) (hz:c ≤ 9223372036854775807) (hP:l.length ≠ 0 → p = some ⟨slB p,slO p,none⟩) (hB:l.length ≠ 0 → w.heap[slB p]? = some (.cells cur T fr)) (hQ:GRow cur (slO p) l):GSl w (.slice p l.length c) l :=
 ⟨p,c,rfl,hy,hz,fun h=>⟨_,_,cur,T,fr,hP h,hB h,hQ⟩⟩
theorem half_one:Rat.divInt (1:Int) (2:Int) + Rat.divInt (1:Int) (2:Int) = 1:=by decide +kernel
theorem icmp0 {x y:Int}:icmp x y = 0 ↔ x = y:=by unfold icmp; split <;> (try split) <;> omega
theorem icmp_pos {x y:Int}:0 < icmp x y ↔ y < x:=by unfold icmp; split <;> (try split) <;> omega
theorem odd_bitI (n:Int):((((n).natAbs % 2:Nat):Int) == 1) = decide (n % 2 = 1):=by
 rw [Bool.eq_iff_iff,beq_iff_eq,decide_eq_true_eq]; omega
theorem den_one_iff (y:Rat):(y.den:Int) = 1 ↔ y = ((y.floor:Int):Rat):=by
 constructor
 ·intro h
  have hd:y.den = 1:=by omega
  have e:y = (y.num:Rat):=by
   apply Rat.ext
   ·rw [Rat.num_intCast]
   ·rw [Rat.den_intCast,hd]
  rw [e,Rat.floor_intCast]
 ·intro h
  rw [h,Rat.den_intCast]; rfl
theorem rnd_fl (x:Rat):rnd x = if x + Rat.divInt (1:Int) (2:Int) = (((x + Rat.divInt (1:Int) (2:Int)).floor:Int):Rat) ∧ (x + Rat.divInt (1:Int) (2:Int)).floor % 2 = 1 then (x + Rat.divInt (1:Int) (2:Int)).floor - 1 else (x + Rat.divInt (1:Int) (2:Int)).floor:=by
 unfold rnd
 rw [odd_bitI]
 rw [← Rat.floor_def]
 generalize x + Rat.divInt (1:Int) (2:Int) = y
 have h1:=den_one_iff y
 have hc:(icmp (y.den:Int) 1 == 0 && decide (y.floor % 2 = 1)) = true ↔ (y = ((y.floor:Int):Rat) ∧ y.floor % 2 = 1):=by
  rw [Bool.and_eq_true,beq_iff_eq,icmp0,decide_eq_true_eq,h1]
 by_cases hd:y = ((y.floor:Int):Rat) ∧ y.floor % 2 = 1
 ·rw [if_pos hd]; exact if_pos (hc.2 hd)
 ·rw [if_neg hd]; exact if_neg (fun h=>hd (hc.1 h))
theorem cast_add (a b:Int):((a + b:Int):Rat) = (a:Rat) + (b:Rat):=Rat.intCast_add a b
theorem rnd_bd (x:Rat):x - ((rnd x:Int):Rat) ≤ Rat.divInt (1:Int) (2:Int) ∧ -(Rat.divInt (1:Int) (2:Int)) ≤ x - ((rnd x:Int):Rat):=by
 have hh:=half_one
 rw [rnd_fl]
 generalize hH:Rat.divInt (1:Int) (2:Int) = H at hh ⊢
 have h1:=Rat.floor_le (x + H)
 have h2:=Rat.lt_floor_add_one (x + H)
 have c1:=cast_add (x + H).floor 1
 have e1:((1:Int):Rat) = 1:=rfl
 rw [e1] at c1
 generalize hf:(x + H).floor = f at h1 h2 c1 ⊢
 have c2:((f - 1:Int):Rat) = (f:Rat) - 1:=by
  have:=cast_add (f - 1) 1
  rw [e1,show f - 1 + 1 = f by omega] at this
  grind
 split
 ·rename_i h
  obtain ⟨h,_⟩:=h
  rw [c2]
  constructor <;> grind
 ·constructor <;> grind
theorem sq_half {d:Rat} (h1:d ≤ Rat.divInt (1:Int) (2:Int)) (h2:-(Rat.divInt (1:Int) (2:Int)) ≤ d):d * d + d * d + d * d + d * d ≤ 1:=by
 have hh:=half_one
 generalize Rat.divInt (1:Int) (2:Int) = H at *
 have h3:0 ≤ (H - d) * (H + d):=Rat.mul_nonneg (by grind) (by grind)
 have h4:(H - d) * (H + d) = H * H - d * d:=by grind
 have h5:(H + H) * (H + H) = 1:=by rw [hh]; exact Rat.one_mul 1
 grind
theorem norm_mul (x y:Cx):(x.mul y).norm = x.norm * y.norm:=by
 show (x.re * y.re - x.im * y.im) * (x.re * y.re - x.im * y.im) + (x.re * y.im + x.im * y.re) * (x.re * y.im + x.im * y.re) = (x.re * x.re + x.im * x.im) * (y.re * y.re + y.im * y.im)
 grind
theorem norm_nonneg (x:Cx):0 ≤ x.norm:=by
 have h1:=sq_nonneg x.re
 have h2:=sq_nonneg x.im
 show 0 ≤ x.re * x.re + x.im * x.im
 grind
theorem norm_sub_le (x y:Cx):(x.sub y).norm ≤ x.norm + x.norm + (y.norm + y.norm):=by
 have h1:=sq_nonneg (x.re + y.re)
 have h2:=sq_nonneg (x.im + y.im)
 show (x.re - y.re) * (x.re - y.re) + (x.im - y.im) * (x.im - y.im) ≤ (x.re * x.re + x.im * x.im) + (x.re * x.re + x.im * x.im) + ((y.re * y.re + y.im * y.im) + (y.re * y.re + y.im * y.im))
 grind
theorem div_mul (x:Cx) {y:Cx} (h:y.norm ≠ 0):(x.div y).mul y = x:=by
 have hi:y.norm⁻¹ * y.norm = 1:=Rat.inv_mul_cancel _ h
 have hn:y.norm = y.re * y.re + y.im * y.im:=rfl
 apply Cx.ext'
 ·show (((x.re * y.re - x.im * (-y.im)) * y.norm⁻¹) * y.re - ((x.re * (-y.im) + x.im * y.re) * y.norm⁻¹) * y.im) = x.re
  have e:(((x.re * y.re - x.im * (-y.im)) * y.norm⁻¹) * y.re - ((x.re * (-y.im) + x.im * y.re) * y.norm⁻¹) * y.im) = x.re * (y.norm⁻¹ * (y.re * y.re + y.im * y.im)):=by grind
  rw [e,← hn,hi]; grind
 ·show (((x.re * y.re - x.im * (-y.im)) * y.norm⁻¹) * y.im + ((x.re * (-y.im) + x.im * y.re) * y.norm⁻¹) * y.re) = x.im
  have e:(((x.re * y.re - x.im * (-y.im)) * y.norm⁻¹) * y.im + ((x.re * (-y.im) + x.im * y.re) * y.norm⁻¹) * y.re) = x.im * (y.norm⁻¹ * (y.re * y.re + y.im * y.im)):=by grind
  rw [e,← hn,hi]; grind
theorem rest_half (x:Cx) {y:Cx} (h:y.norm ≠ 0):(x.sub ((x.div y).near.mul y)).norm + (x.sub ((x.div y).near.mul y)).norm ≤ y.norm:=by
 have e:x.sub ((x.div y).near.mul y) = ((x.div y).sub (x.div y).near).mul y:=by
  have h1:=div_mul x h
  generalize x.div y = q at *
  subst h1
  apply Cx.ext'
  ·show (q.re * y.re - q.im * y.im) - (q.near.re * y.re - q.near.im * y.im) = (q.re - q.near.re) * y.re - (q.im - q.near.im) * y.im
   grind
  ·show (q.re * y.im + q.im * y.re) - (q.near.re * y.im + q.near.im * y.re) = (q.re - q.near.re) * y.im + (q.im - q.near.im) * y.re
   grind
 rw [e,norm_mul]
 generalize x.div y = q
 have a1:=rnd_bd q.re
 have a2:=rnd_bd q.im
 have b1:=sq_half a1.1 a1.2
 have b2:=sq_half a2.1 a2.2
 have hy:=norm_nonneg y
 have hd:(q.sub q.near).norm = (q.re - ((rnd q.re:Int):Rat)) * (q.re - ((rnd q.re:Int):Rat)) + (q.im - ((rnd q.im:Int):Rat)) * (q.im - ((rnd q.im:Int):Rat)):=rfl
 rw [← hd] at *
 have hm:(q.sub q.near).norm + (q.sub q.near).norm ≤ 1:=by rw [hd]; grind
 generalize (q.sub q.near).norm = m at *
 have:=Rat.mul_nonneg (by grind:0 ≤ 1 - (m + m)) hy
 grind
theorem isq (a:Int):0 ≤ a * a:=by
 rcases Int.le_total 0 a with h | h
 ·exact Int.mul_nonneg h h
 ·exact Int.mul_nonneg_of_nonpos_of_nonpos h h
def isI (z:Cx):Prop:=∃ m n:Int,z = Cx.ofInt m n
theorem isI_sub {x y:Cx} (hx:isI x) (hy:isI y):isI (x.sub y):=by
 obtain ⟨a,b,rfl⟩:=hx
 obtain ⟨c,d,rfl⟩:=hy
 refine ⟨a - c,b - d,?_⟩
 apply Cx.ext'
 ·exact (Rat.intCast_sub a c).symm
 ·exact (Rat.intCast_sub b d).symm
theorem isI_mul {x y:Cx} (hx:isI x) (hy:isI y):isI (x.mul y):=by
 obtain ⟨a,b,rfl⟩:=hx
 obtain ⟨c,d,rfl⟩:=hy
 refine ⟨a * c - b * d,a * d + b * c,?_⟩
 apply Cx.ext'
 ·show (a:Rat) * (c:Rat) - (b:Rat) * (d:Rat) = ((a * c - b * d:Int):Rat)
  rw [Rat.intCast_sub,Rat.intCast_mul,Rat.intCast_mul]
 ·show (a:Rat) * (d:Rat) + (b:Rat) * (c:Rat) = ((a * d + b * c:Int):Rat)
  rw [Rat.intCast_add,Rat.intCast_mul,Rat.intCast_mul]
theorem isI_near (x:Cx):isI x.near:=⟨_,_,rfl⟩
theorem norm_int (a b:Int):(Cx.ofInt a b).norm = ((a * a + b * b:Int):Rat):=by
 show (a:Rat) * (a:Rat) + (b:Rat) * (b:Rat) = _
 rw [Rat.intCast_add,Rat.intCast_mul,Rat.intCast_mul]
theorem isI_norm {x:Cx} (hx:isI x):∃ c:Int,0 ≤ c ∧ x.norm = (c:Rat):=by
 obtain ⟨a,b,rfl⟩:=hx
 refine ⟨a * a + b * b,?_,norm_int a b⟩
 have h1:=isq a
 have h2:=isq b
 omega
theorem zero_of_norm {y:Cx} (h:y.norm = 0):y.zero = true:=by
 obtain ⟨h1,h2⟩:=norm_zero2 h
 unfold Cx.zero
 rw [decide_eq_true h1,decide_eq_true h2]; rfl
theorem cast_le {a b:Int}:(a:Rat) ≤ (b:Rat) ↔ a ≤ b:=by
 rw [Rat.le_iff,Rat.num_intCast,Rat.num_intCast,Rat.den_intCast,Rat.den_intCast]; omega
theorem norm_one {y:Cx} (hy:isI y) (h:y.zero = false):1 ≤ y.norm:=by
 obtain ⟨c,h0,h1⟩:=isI_norm hy
 have hn:=zero_norm h
 rw [h1] at hn ⊢
 have:c ≠ 0:=fun e=>hn (by rw [e]; rfl)
 exact (cast_le (a:=1)).2 (by omega)
theorem ht_norm {x:Cx} (hx:isI x) {k:Nat} (h:x.norm ≤ ((2 ^ (2 * k):Int):Rat)):ht x.re ≤ k + 3 ∧ ht x.im ≤ k + 3:=by
 obtain ⟨a,b,rfl⟩:=hx
 rw [norm_int,cast_le] at h
 have h1:=isq a
 have h2:=isq b
 have key:∀ c:Int,c * c ≤ 2 ^ (2 * k) → ht (c:Rat) ≤ k + 3:=fun c hc=>by
  have e:((2:Int) ^ (2 * k)) = (((2 ^ k * 2 ^ k:Nat)):Int):=by
   rw [show 2 * k = k + k by omega,Int.pow_add,Int.natCast_mul,Int.natCast_pow]; rfl
  rw [e,← Int.natAbs_mul_self' c] at hc
  have hn:c.natAbs * c.natAbs ≤ 2 ^ k * 2 ^ k:=by exact_mod_cast hc
  have hm:c.natAbs ≤ 2 ^ k:=Nat.mul_self_le_mul_self_iff.1 hn
  have hb:bl c.natAbs ≤ k + 1:=bl_le.2 (by have:2 ^ k < 2 ^ (k + 1):=Nat.pow_lt_pow_right (by omega) (by omega); omega)
  have hh:=ht_int_le c
  unfold hi at hh
  omega
 exact ⟨key a (by omega),key b (by omega)⟩
structure Rows2 (a b:Cx) (K:Rat) (x0 x1 x2 y0 y1 y2:Cx):Prop where
 ix0:isI x0
 ix1:isI x1
 ix2:isI x2
 iy0:isI y0
 iy1:isI y1
 iy2:isI y2
 d2:(x0.mul y2).sub (y0.mul x2) = a ∨ (x0.mul y2).sub (y0.mul x2) = a.neg
 d1:(x0.mul y1).sub (y0.mul x1) = b ∨ (x0.mul y1).sub (y0.mul x1) = b.neg
 p2:y0.norm * y2.norm + (a.norm + a.norm) ≤ K
 p1:y0.norm * y1.norm + (b.norm + b.norm) ≤ K
 nx0:x0.norm ≤ K
 ny0:y0.norm ≤ K
 nx1:x1.norm ≤ K
 nx2:x2.norm ≤ K
 ny1:y1.norm ≤ K
 ny2:y2.norm ≤ K
theorem norm_neg (x:Cx):x.neg.norm = x.norm:=by
 show (-x.re) * (-x.re) + (-x.im) * (-x.im) = x.re * x.re + x.im * x.im
 grind
theorem cof_step {x0 xk y0 yk q c:Cx} {K:Rat} (hd:(x0.mul yk).sub (y0.mul xk) = c ∨ (x0.mul yk).sub (y0.mul xk) = c.neg) (hp:y0.norm * yk.norm + (c.norm + c.norm) ≤ K) (hK:c.norm + c.norm + c.norm + c.norm ≤ K)
  (hr:(x0.sub (q.mul y0)).norm + (x0.sub (q.mul y0)).norm ≤ y0.norm) (h1:1 ≤ y0.norm) :
  ((y0.mul (xk.sub (q.mul yk))).sub ((x0.sub (q.mul y0)).mul yk) = c ∨ (y0.mul (xk.sub (q.mul yk))).sub ((x0.sub (q.mul y0)).mul yk) = c.neg) ∧
  (x0.sub (q.mul y0)).norm * (xk.sub (q.mul yk)).norm + (c.norm + c.norm) ≤ K ∧ (xk.sub (q.mul yk)).norm ≤ K:=by
 have e1:(y0.mul (xk.sub (q.mul yk))).sub ((x0.sub (q.mul y0)).mul yk) = ((x0.mul yk).sub (y0.mul xk)).neg:=by
  apply Cx.ext'
  ·show y0.re * (xk.re - (q.re * yk.re - q.im * yk.im)) - y0.im * (xk.im - (q.re * yk.im + q.im * yk.re)) - ((x0.re - (q.re * y0.re - q.im * y0.im)) * yk.re - (x0.im - (q.re * y0.im + q.im * y0.re)) * yk.im) = -((x0.re * yk.re - x0.im * yk.im) - (y0.re * xk.re - y0.im * xk.im))
   grind
  ·show y0.re * (xk.im - (q.re * yk.im + q.im * yk.re)) + y0.im * (xk.re - (q.re * yk.re - q.im * yk.im)) - ((x0.re - (q.re * y0.re - q.im * y0.im)) * yk.im + (x0.im - (q.re * y0.im + q.im * y0.re)) * yk.re) = -((x0.re * yk.im + x0.im * yk.re) - (y0.re * xk.im + y0.im * xk.re))
   grind
 have e2:((x0.mul yk).sub (y0.mul xk)).norm = c.norm:=by
  rcases hd with h | h
  ·rw [h]
  ·rw [h,norm_neg]
 have hdet:(y0.mul (xk.sub (q.mul yk))).sub ((x0.sub (q.mul y0)).mul yk) = c ∨ (y0.mul (xk.sub (q.mul yk))).sub ((x0.sub (q.mul y0)).mul yk) = c.neg:=by
  rw [e1]
  rcases hd with h | h
  ·right; rw [h]
  ·left; rw [h]
   apply Cx.ext'
   ·show - -c.re = c.re; grind
   ·show - -c.im = c.im; grind
 refine ⟨hdet,?_⟩
 generalize hr' : x0.sub (q.mul y0) = r at *
 generalize hz:xk.sub (q.mul yk) = z at *
 have e3:y0.mul z = (r.mul yk).sub ((x0.mul yk).sub (y0.mul xk)):=by
  have:=e1
  apply Cx.ext'
  ·have h:=congrArg Cx.re this
   have h:(y0.mul z).re - (r.mul yk).re = -((x0.mul yk).sub (y0.mul xk)).re:=h
   show (y0.mul z).re = (r.mul yk).re - ((x0.mul yk).sub (y0.mul xk)).re
   grind
  ·have h:=congrArg Cx.im this
   have h:(y0.mul z).im - (r.mul yk).im = -((x0.mul yk).sub (y0.mul xk)).im:=h
   show (y0.mul z).im = (r.mul yk).im - ((x0.mul yk).sub (y0.mul xk)).im
   grind
 have e4:=norm_sub_le (r.mul yk) ((x0.mul yk).sub (y0.mul xk))
 rw [← e3,norm_mul,norm_mul,e2] at e4
 have n1:=norm_nonneg yk
 have n2:=norm_nonneg z
 have n3:=norm_nonneg r
 have n4:=norm_nonneg c
 have m1:=Rat.mul_nonneg (by grind:0 ≤ y0.norm - (r.norm + r.norm)) n1
 have b1:y0.norm * z.norm ≤ K:=by grind
 have m2:=Rat.mul_nonneg (by grind:0 ≤ y0.norm - 1) n2
 have m3:=Rat.mul_nonneg (by grind:0 ≤ y0.norm - (r.norm + r.norm)) n2
 constructor
 ·grind
 ·grind
theorem Rows2.step {a b x0 x1 x2 y0 y1 y2:Cx} {K:Rat} (h:Rows2 a b K x0 x1 x2 y0 y1 y2) (ha:a.norm + a.norm + a.norm + a.norm ≤ K) (hb:b.norm + b.norm + b.norm + b.norm ≤ K) (hz:y0.zero = false) :
  Rows2 a b K y0 y1 y2 (x0.sub ((x0.div y0).near.mul y0)) (x1.sub ((x0.div y0).near.mul y1)) (x2.sub ((x0.div y0).near.mul y2)):=by
 have hn:=zero_norm hz
 have h1:=norm_one h.iy0 hz
 have hr:=rest_half x0 hn
 have iq:=isI_near (x0.div y0)
 generalize (x0.div y0).near = q at *
 obtain ⟨a1,a2,a3⟩:=cof_step h.d2 h.p2 ha hr h1
 obtain ⟨b1,b2,b3⟩:=cof_step h.d1 h.p1 hb hr h1
 have n3:=norm_nonneg (x0.sub (q.mul y0))
 have k0:=h.ny0
 exact ⟨h.iy0,h.iy1,h.iy2,isI_sub h.ix0 (isI_mul iq h.iy0),isI_sub h.ix1 (isI_mul iq h.iy1),isI_sub h.ix2 (isI_mul iq h.iy2),a1,b1,a2,b2,h.ny0,by grind,h.ny1,h.ny2,b3,a3⟩
theorem comb_ends {a b:Cx} {k:Nat} (hk:k ≤ 100000) (ha:a.norm + a.norm + a.norm + a.norm ≤ ((2 ^ (2 * k):Int):Rat)) (hb:b.norm + b.norm + b.norm + b.norm ≤ ((2 ^ (2 * k):Int):Rat)) :
  ∀ (n:Nat) (x0 x1 x2 y0 y1 y2:Cx),Rows2 a b ((2 ^ (2 * k):Int):Rat) x0 x1 x2 y0 y1 y2 → y0.norm ≤ ((n:Int):Rat) →
   ∃ r,combC (n + 1) x0 x1 x2 y0 y1 y2 = some r ∧ (isI r.1 ∧ isI r.2.1 ∧ isI r.2.2) ∧ ((ht r.1.re ≤ k + 3 ∧ ht r.1.im ≤ k + 3) ∧ (ht r.2.1.re ≤ k + 3 ∧ ht r.2.1.im ≤ k + 3) ∧ (ht r.2.2.re ≤ k + 3 ∧ ht r.2.2.im ≤ k + 3)):=by
 intro n
 induction n with
 | zero =>
  intro x0 x1 x2 y0 y1 y2 h hy
  have h0:=norm_nonneg y0
  have hz:y0.zero = true:=zero_of_norm (by
   have:(((0:Nat):Int):Rat) = 0:=rfl
   rw [this] at hy; grind)
  have a0:=ht_norm h.ix0 h.nx0
  have a1:=ht_norm h.ix1 h.nx1
  have a2:=ht_norm h.ix2 h.nx2
  have c0:=ht_norm h.iy0 h.ny0
  have c1:=ht_norm h.iy1 h.ny1
  have c2:=ht_norm h.iy2 h.ny2
  refine ⟨(x0,x1,x2),?_,⟨h.ix0,h.ix1,h.ix2⟩,a0,a1,a2⟩
  unfold combC
  rw [if_pos (by omega),if_pos hz]
 | succ n ih =>
  intro x0 x1 x2 y0 y1 y2 h hy
  have a0:=ht_norm h.ix0 h.nx0
  have a1:=ht_norm h.ix1 h.nx1
  have a2:=ht_norm h.ix2 h.nx2
  have c0:=ht_norm h.iy0 h.ny0
  have c1:=ht_norm h.iy1 h.ny1
  have c2:=ht_norm h.iy2 h.ny2
  unfold combC
  rw [if_pos (by omega)]
  cases hz:y0.zero with
  | true=>exact ⟨(x0,x1,x2),rfl,⟨h.ix0,h.ix1,h.ix2⟩,a0,a1,a2⟩
  | false =>
   have hs:=h.step ha hb hz
   have hr:=rest_half x0 (zero_norm hz)
   obtain ⟨c,hc,e⟩:=isI_norm hs.iy0
   obtain ⟨d,hd,e'⟩:=isI_norm h.iy0
   rw [e'] at hr hy
   rw [e] at hr
   have h2:d ≤ ((n + 1:Nat):Int):=cast_le.1 hy
   have h3:c + c ≤ d:=by
    rw [← Rat.intCast_add] at hr
    exact cast_le.1 hr
   refine ih _ _ _ _ _ _ hs ?_
   rw [e]
   exact cast_le.2 (by omega)
section
variable {P:Program} {ops:Array Oper} {B0:Nat} {R0:Nat → Prop} {olds:List (Nat × Nat)} {a0:Act} {w0:World} {F:List (Pl B0 R0 olds) → Prop} {k i:Nat} {rp:List (Nat × Pl B0 R0 olds)} {o:Oper}
end
theorem fans_n {q:Rat} (h:wshort (rw q.num) = false):Value.tuple #[.agg zF,.int .i64 4] = .tuple #[rfV (fcut q),.int .i64 (ferr q)]:=fcut_no (by show (wshort (rw q.num) && wshort (rw (q.den:Int))) = false; rw [h]; rfl)
theorem fans_d {q:Rat} (h:wshort (rw (q.den:Int)) = false):Value.tuple #[.agg zF,.int .i64 4] = .tuple #[rfV (fcut q),.int .i64 (ferr q)]:=fcut_no (by show (wshort (rw q.num) && wshort (rw (q.den:Int))) = false; rw [h,Bool.and_false])
theorem fans_y {q:Rat} (h:wshort (rw q.num) = true) (h' : wshort (rw (q.den:Int)) = true):Value.tuple #[fV q,.int .i64 0] = .tuple #[rfV (fcut q),.int .i64 (ferr q)]:=fcut_yes (by show (wshort (rw q.num) && wshort (rw (q.den:Int))) = true; rw [h,h']; rfl)
section
variable {x:Rat}
end
abbrev rz:RG:=⟨⟨⟨false,⟨#[]⟩⟩,⟨false,⟨#[]⟩⟩⟩,⟨⟨false,⟨#[]⟩⟩,⟨false,⟨#[]⟩⟩⟩⟩
section
variable {x:Rat}
end
theorem comb_res3 {n:Nat} {x0 x1 x2 y0 y1 y2:Cx} {r:Cx × Cx × Cx} (h:combC n x0 x1 x2 y0 y1 y2 = some r):ht r.1.re + ht r.1.im + (ht r.2.1.re + ht r.2.1.im) + (ht r.2.2.re + ht r.2.2.im) ≤ 16777216:=by
 induction n generalizing x0 x1 x2 y0 y1 y2 with
 | zero=>cases h
 | succ n ih =>
  cases hz:y0.zero with
  | true =>
   have:=comb_end h hz
   subst this
   have:=comb_sml h
   show ht x0.re + ht x0.im + (ht x1.re + ht x1.im) + (ht x2.re + ht x2.im) ≤ _
   omega
  | false=>exact ih (comb_step h hz)
end Go.Proofs.YtllohoibifcmdaaGreat
namespace Go.Proofs.YtllohoibifcmdaaGreat
open Go.RowKit Rgn
set_option maxHeartbeats 4000000
set_option maxRecDepth 100000
variable {S:Nat → Prop} {W:World}
theorem frAnswer {v0:Value} (x:Rat) (t0:(RatP x).p S v0 W) (p0:ht x ≤ 34359738368) :
  Calls Tryz.prog 143 #[v0] W (RetV (.tuple #[.agg #[.bool (fcut x).a.n,.string (fcut x).a.s,.bool (fcut x).b.n,.string (fcut x).b.s],.int .i64 (ferr x)]) W):=by
 obtain ⟨b1,rfl,L1,F1⟩:=RatP.elim t0
 replace L1:Amb S W b1:=.inl L1
 have n0:=hi_num x
 have n2:=hi_den x
 have bel:=b0 W
 go_enter Tryz.func143,Tryz.ntmps143
 rcases Bool.eq_false_or_eq_true (wshort (rw x.num)) with c2 | c2
 ·
  rcases Bool.eq_false_or_eq_true (wshort (rw (x.den:Int))) with c3 | c3
  ·
   refine gs 2 (Amb S W) fun _ K4=>?_
   refine .al rfl zF ?_
   refine .mc rfl ?_
   refine .dk (fun u=>pt b1::U::u 0::u 1::us 15) K4 bel fun u1 w1 D bel=>?_
   obtain ⟨b5,E1_0,A5,B5⟩:=D.nw 0
   have E1_1:=D.q 1
   have N1_5:=D.n1 0 (RatP.lt F1) E1_0
   replace F1:=D.o L1 F1
   clear D
   refine gs 4 (Amb S W) fun _ K6=>?_
   refine .mz rfl 0 (V:=pt b1) rfl ?_
   refine .cK rfl Tryz.func102 (fun H=>⟨_,ar1 (H.g 5 0),frTold _ (VP.any _ (H.was _ [] (VP.at F1 L1))) (by omega)⟩) ?_
   refine .al rfl zF ?_
   refine .so rfl 2 (fun H=>⟨H.r 4 2,H.g 6 1⟩) ?_
   refine .dk (fun u=>pt b1::U::u1 0::u1 1::u 2::u 0::u 1::us 12) K6 bel fun u2 w2 D bel=>?_
   obtain ⟨b7,E2_2,A7,B7⟩:=D.st 3
   have N5_7:=D.n1 2 (lt_of B5) E2_2
   replace B5:=D.k B5
   clear D
   refine wp_seq_k fun _ K8=>?_
   refine gs 10 (Amb S W) fun _ K9=>?_
   refine .fz rfl 4 0 E2_2 ?_
   refine .lp rfl 0 (wC x.num) B7 ?_
   refine .cK rfl (V:=.bool true) Tryz.func163 (fun H=>⟨_,ar1 (H.g 8 1),reV (congrArg Value.bool c2) (frShort (rw x.num))⟩) ?_
   refine .e rfl (V:=.bool false) (fun H=>x_not (H.g 9 2)) ?_
   refine .mv rfl 3 ?_
   refine .fz rfl 4 2 E2_2 ?_ (hg:=gq 4 rfl)
   refine .lp rfl 5 (wC (x.den:Int)) B7 ?_ (hg:=gq 4 rfl)
   refine .cK rfl (V:=.bool true) Tryz.func163 (fun H=>⟨_,ar1 (H.g 13 6),reV (congrArg Value.bool c3) (frShort (rw (x.den:Int)))⟩) ?_ (hg:=gq 4 rfl)
   refine .e rfl (V:=.bool false) (fun H=>x_not (H.g 14 7)) ?_ (hg:=gq 4 rfl)
   refine .e rfl (fun H=>x_pkF (H.g 11 4) (H.g 15 8)) ?_
   refine .dk (fun u=>pt b1::U::u1 0::u1 1::u2 2::u2 0::u2 1::sq u 0 10 (U::U::[])) K9 bel fun u3 w3 D bel=>?_
   have E3_9:=D.q 9
   replace B5:=D.k B5
   replace B7:=D.k B7
   clear D
   refine wp_cond_false (by exact E3_9) ?_
   refine wp_skip ?_
   refine K8 _ _ ?_
   refine gs1 3 (Amb S W) 1 B5 fun _ K10=>?_
   refine .e rfl (fun H=>x_ldr (H.z 4 E2_2) (H.b1 B7 N5_7)) ?_
   refine .s1 rfl B5 (fun H=>⟨H.z 2 E1_0,H.g 18 0⟩) ?_
   refine .mc rfl ?_
   refine .d1 (fun u=>pt b1::U::u1 0::u 2::u2 2::u2 0::u2 1::sq u3 0 10 (U::u 0::[])) K10 bel A5 fun u4 w4 D bel=>?_
   have E4_2:=D.q 2
   replace B5:=D.ol 1
   clear D
   refine wp_ret ?_
   refine ret_ok rfl (by exact results_mix rfl (by exact E1_0) B5 Tryz.underlying28 rfl (by kernel_rfl) (by exact E4_2)) (RetV.mk ?_ bel)
   exact congrArg Ending.returned (fans_y c2 c3)
  ·
   refine gs 2 (Amb S W) fun _ K11=>?_
   refine .al rfl zF ?_
   refine .mc rfl ?_
   refine .dk (fun u=>pt b1::U::u 0::u 1::us 15) K11 bel fun u1 w1 D bel=>?_
   obtain ⟨b12,E1_0,A12,B12⟩:=D.nw 0
   have E1_1:=D.q 1
   have N1_12:=D.n1 0 (RatP.lt F1) E1_0
   replace F1:=D.o L1 F1
   clear D
   refine gs 4 (Amb S W) fun _ K13=>?_
   refine .mz rfl 0 (V:=pt b1) rfl ?_
   refine .cK rfl Tryz.func102 (fun H=>⟨_,ar1 (H.g 5 0),frTold _ (VP.any _ (H.was _ [] (VP.at F1 L1))) (by omega)⟩) ?_
   refine .al rfl zF ?_
   refine .so rfl 2 (fun H=>⟨H.r 4 2,H.g 6 1⟩) ?_
   refine .dk (fun u=>pt b1::U::u1 0::u1 1::u 2::u 0::u 1::us 12) K13 bel fun u2 w2 D bel=>?_
   obtain ⟨b14,E2_2,A14,B14⟩:=D.st 3
   have N12_14:=D.n1 2 (lt_of B12) E2_2
   replace B12:=D.k B12
   clear D
   refine wp_seq_k fun _ K15=>?_
   refine gs 10 (Amb S W) fun _ K16=>?_
   refine .fz rfl 4 0 E2_2 ?_
   refine .lp rfl 0 (wC x.num) B14 ?_
   refine .cK rfl (V:=.bool true) Tryz.func163 (fun H=>⟨_,ar1 (H.g 8 1),reV (congrArg Value.bool c2) (frShort (rw x.num))⟩) ?_
   refine .e rfl (V:=.bool false) (fun H=>x_not (H.g 9 2)) ?_
   refine .mv rfl 3 ?_
   refine .fz rfl 4 2 E2_2 ?_ (hg:=gq 4 rfl)
   refine .lp rfl 5 (wC (x.den:Int)) B14 ?_ (hg:=gq 4 rfl)
   refine .cK rfl (V:=.bool false) Tryz.func163 (fun H=>⟨_,ar1 (H.g 13 6),reV (congrArg Value.bool c3) (frShort (rw (x.den:Int)))⟩) ?_ (hg:=gq 4 rfl)
   refine .e rfl (V:=.bool true) (fun H=>x_not (H.g 14 7)) ?_ (hg:=gq 4 rfl)
   refine .e rfl (fun H=>x_pkF (H.g 11 4) (H.g 15 8)) ?_
   refine .dk (fun u=>pt b1::U::u1 0::u1 1::u2 2::u2 0::u2 1::sq u 0 10 (U::U::[])) K16 bel fun u3 w3 D bel=>?_
   have E3_9:=D.q 9
   replace B12:=D.k B12
   replace B14:=D.k B14
   clear D
   refine wp_cond_true (by exact E3_9) ?_
   refine gs1 3 (Amb S W) 1 B12 fun _ K17=>?_
   refine .e rfl (V:=.agg zF) (fun H=>by clear H; go_simp) ?_
   refine .s1 rfl B12 (fun H=>⟨H.z 2 E1_0,H.g 17 0⟩) ?_
   refine .mc rfl ?_
   refine .d1 (fun u=>pt b1::U::u1 0::u 2::u2 2::u2 0::u2 1::sq u3 0 10 (u 0::U::[])) K17 bel A12 fun u4 w4 D bel=>?_
   have E4_2:=D.q 2
   replace B12:=D.ol 1
   clear D
   refine wp_ret ?_
   refine ret_ok rfl (by exact results_mix rfl (by exact E1_0) B12 Tryz.underlying28 rfl (by kernel_rfl) (by exact E4_2)) (RetV.mk ?_ bel)
   exact congrArg Ending.returned (fans_d c3)
 ·
  rcases Bool.eq_false_or_eq_true (wshort (rw (x.den:Int))) with c18 | c18
  ·
   refine gs 2 (Amb S W) fun _ K19=>?_
   refine .al rfl zF ?_
   refine .mc rfl ?_
   refine .dk (fun u=>pt b1::U::u 0::u 1::us 15) K19 bel fun u1 w1 D bel=>?_
   obtain ⟨b20,E1_0,A20,B20⟩:=D.nw 0
   have E1_1:=D.q 1
   have N1_20:=D.n1 0 (RatP.lt F1) E1_0
   replace F1:=D.o L1 F1
   clear D
   refine gs 4 (Amb S W) fun _ K21=>?_
   refine .mz rfl 0 (V:=pt b1) rfl ?_
   refine .cK rfl Tryz.func102 (fun H=>⟨_,ar1 (H.g 5 0),frTold _ (VP.any _ (H.was _ [] (VP.at F1 L1))) (by omega)⟩) ?_
   refine .al rfl zF ?_
   refine .so rfl 2 (fun H=>⟨H.r 4 2,H.g 6 1⟩) ?_
   refine .dk (fun u=>pt b1::U::u1 0::u1 1::u 2::u 0::u 1::us 12) K21 bel fun u2 w2 D bel=>?_
   obtain ⟨b22,E2_2,A22,B22⟩:=D.st 3
   have N20_22:=D.n1 2 (lt_of B20) E2_2
   replace B20:=D.k B20
   clear D
   refine wp_seq_k fun _ K23=>?_
   refine gs 10 (Amb S W) fun _ K24=>?_
   refine .fz rfl 4 0 E2_2 ?_
   refine .lp rfl 0 (wC x.num) B22 ?_
   refine .cK rfl (V:=.bool false) Tryz.func163 (fun H=>⟨_,ar1 (H.g 8 1),reV (congrArg Value.bool c2) (frShort (rw x.num))⟩) ?_
   refine .e rfl (V:=.bool true) (fun H=>x_not (H.g 9 2)) ?_
   refine .mv rfl 3 ?_
   refine .sk rfl 4 ?_
   refine .sk rfl 4 ?_
   refine .sk rfl 4 ?_
   refine .sk rfl 4 ?_
   refine .e rfl (fun H=>x_pkT (H.g 11 4) (H.c _)) ?_
   refine .dk (fun u=>pt b1::U::u1 0::u1 1::u2 2::u2 0::u2 1::sq u 0 10 (U::U::[])) K24 bel fun u3 w3 D bel=>?_
   have E3_9:=D.q 9
   replace B20:=D.k B20
   replace B22:=D.k B22
   clear D
   refine wp_cond_true (by exact E3_9) ?_
   refine gs1 3 (Amb S W) 1 B20 fun _ K25=>?_
   refine .e rfl (V:=.agg zF) (fun H=>by clear H; go_simp) ?_
   refine .s1 rfl B20 (fun H=>⟨H.z 2 E1_0,H.g 17 0⟩) ?_
   refine .mc rfl ?_
   refine .d1 (fun u=>pt b1::U::u1 0::u 2::u2 2::u2 0::u2 1::sq u3 0 10 (u 0::U::[])) K25 bel A20 fun u4 w4 D bel=>?_
   have E4_2:=D.q 2
   replace B20:=D.ol 1
   clear D
   refine wp_ret ?_
   refine ret_ok rfl (by exact results_mix rfl (by exact E1_0) B20 Tryz.underlying28 rfl (by kernel_rfl) (by exact E4_2)) (RetV.mk ?_ bel)
   exact congrArg Ending.returned (fans_n c2)
  ·
   refine gs 2 (Amb S W) fun _ K26=>?_
   refine .al rfl zF ?_
   refine .mc rfl ?_
   refine .dk (fun u=>pt b1::U::u 0::u 1::us 15) K26 bel fun u1 w1 D bel=>?_
   obtain ⟨b27,E1_0,A27,B27⟩:=D.nw 0
   have E1_1:=D.q 1
   have N1_27:=D.n1 0 (RatP.lt F1) E1_0
   replace F1:=D.o L1 F1
   clear D
   refine gs 4 (Amb S W) fun _ K28=>?_
   refine .mz rfl 0 (V:=pt b1) rfl ?_
   refine .cK rfl Tryz.func102 (fun H=>⟨_,ar1 (H.g 5 0),frTold _ (VP.any _ (H.was _ [] (VP.at F1 L1))) (by omega)⟩) ?_
   refine .al rfl zF ?_
   refine .so rfl 2 (fun H=>⟨H.r 4 2,H.g 6 1⟩) ?_
   refine .dk (fun u=>pt b1::U::u1 0::u1 1::u 2::u 0::u 1::us 12) K28 bel fun u2 w2 D bel=>?_
   obtain ⟨b29,E2_2,A29,B29⟩:=D.st 3
   have N27_29:=D.n1 2 (lt_of B27) E2_2
   replace B27:=D.k B27
   clear D
   refine wp_seq_k fun _ K30=>?_
   refine gs 10 (Amb S W) fun _ K31=>?_
   refine .fz rfl 4 0 E2_2 ?_
   refine .lp rfl 0 (wC x.num) B29 ?_
   refine .cK rfl (V:=.bool false) Tryz.func163 (fun H=>⟨_,ar1 (H.g 8 1),reV (congrArg Value.bool c2) (frShort (rw x.num))⟩) ?_
   refine .e rfl (V:=.bool true) (fun H=>x_not (H.g 9 2)) ?_
   refine .mv rfl 3 ?_
   refine .sk rfl 4 ?_
   refine .sk rfl 4 ?_
   refine .sk rfl 4 ?_
   refine .sk rfl 4 ?_
   refine .e rfl (fun H=>x_pkT (H.g 11 4) (H.c _)) ?_
   refine .dk (fun u=>pt b1::U::u1 0::u1 1::u2 2::u2 0::u2 1::sq u 0 10 (U::U::[])) K31 bel fun u3 w3 D bel=>?_
   have E3_9:=D.q 9
   replace B27:=D.k B27
   replace B29:=D.k B29
   clear D
   refine wp_cond_true (by exact E3_9) ?_
   refine gs1 3 (Amb S W) 1 B27 fun _ K32=>?_
   refine .e rfl (V:=.agg zF) (fun H=>by clear H; go_simp) ?_
   refine .s1 rfl B27 (fun H=>⟨H.z 2 E1_0,H.g 17 0⟩) ?_
   refine .mc rfl ?_
   refine .d1 (fun u=>pt b1::U::u1 0::u 2::u2 2::u2 0::u2 1::sq u3 0 10 (u 0::U::[])) K32 bel A27 fun u4 w4 D bel=>?_
   have E4_2:=D.q 2
   replace B27:=D.ol 1
   clear D
   refine wp_ret ?_
   refine ret_ok rfl (by exact results_mix rfl (by exact E1_0) B27 Tryz.underlying28 rfl (by kernel_rfl) (by exact E4_2)) (RetV.mk ?_ bel)
   exact congrArg Ending.returned (fans_n c2)
end Go.Proofs.YtllohoibifcmdaaGreat
namespace Go.Proofs.YtllohoibifcmdaaGreat
open Go.RowKit Rgn
theorem GSl.lit {w:World} {b n:Nat} {l:List RG} {T:TypeId} {fr:Nat × Nat} (h:w.heap[b]? = some (.cells (flat l).toArray T fr)) (hn:l.length = n) (h1:n ≤ 1000):GSl w (.slice (some ⟨b,0,none⟩) n n) l:=by
 subst hn
 exact ⟨_,_,rfl,Nat.le_refl _,by omega,fun _=>⟨b,0,_,T,fr,rfl,h,GRow.of_flat (n:=(flat l).length) (by simp)⟩⟩
section
variable {ops:Array Oper} {Q:Exit → Act → World → Prop} {o:Oper} {rest:List Oper} {a:Act} {w:World}
theorem wpT_lit2 {x0 x1:Operand} {r0 r1:RG} (hg:o.guard = none) (ho:o.op = .buildSlice 22 2 #[(0,x0),(1,x1)]) (h0:a.eval x0 = rgV r0) (h1:a.eval x1 = rgV r1)
  (h:∀ v w', GSl w' v [r0,r1] → (∀ p n c,v = .slice p n c → w.heap.size ≤ slB p) → RowKit.Below w.heap.size w w' → wpList Tryz.prog ops Q rest (a.put o.dst v) w'):wpList Tryz.prog ops Q (o :: rest) a w:=by
 obtain ⟨i0,hi,hz0,hz1,hz2⟩:=info_parts info_gauss
 refine wpList_buildSlice hg 22 30 2 #[(0,x0),(1,x1)] ho (flat [r0,r1]).toArray i0 _ Tryz.underlying22 hi hz0 (by rw [hz1]; decide) (by rw [hz1]; decide) ?_ ?_
 ·simp only [hz1,List.map_toArray,List.map_cons,List.map_nil,h0,h1]
  obtain ⟨⟨⟨n10,s10⟩,⟨n20,s20⟩⟩,⟨⟨n30,s30⟩,⟨n40,s40⟩⟩⟩:=r0
  obtain ⟨⟨⟨n11,s11⟩,⟨n21,s21⟩⟩,⟨⟨n31,s31⟩,⟨n41,s41⟩⟩⟩:=r1
  have e:((Array.range (2 * 8)).map fun x=>(Value.agg #[.bool false,.string ⟨#[]⟩,.bool false,.string ⟨#[]⟩,.bool false,.string ⟨#[]⟩,.bool false,.string ⟨#[]⟩]).cells[x % (Value.agg #[.bool false,.string ⟨#[]⟩,.bool false,.string ⟨#[]⟩,.bool false,.string ⟨#[]⟩,.bool false,.string ⟨#[]⟩]).cells.size]!) = #[.bool false,.string ⟨#[]⟩,.bool false,.string ⟨#[]⟩,.bool false,.string ⟨#[]⟩,.bool false,.string ⟨#[]⟩,.bool false,.string ⟨#[]⟩,.bool false,.string ⟨#[]⟩,.bool false,.string ⟨#[]⟩,.bool false,.string ⟨#[]⟩]:=by
   simp [Array.range,Value.cells]
   rfl
  rw [e]
  simp [Instr.fill,Value.cells,rgV,flat,rgc,List.zipIdx]
 ·exact h _ _ (GSl.lit (heap_alloc_new w _) rfl (by decide)) (by rintro _ _ _ ⟨⟩; exact Nat.le_refl _) ⟨rfl,rfl,rfl,by simp,fun k hk=>heap_alloc_old w _ hk⟩
theorem wpT_lit3 {x0 x1 x2:Operand} {r0 r1 r2:RG} (hg:o.guard = none) (ho:o.op = .buildSlice 22 3 #[(0,x0),(1,x1),(2,x2)]) (h0:a.eval x0 = rgV r0) (h1:a.eval x1 = rgV r1) (h2:a.eval x2 = rgV r2)
  (h:∀ v w', GSl w' v [r0,r1,r2] → (∀ p n c,v = .slice p n c → w.heap.size ≤ slB p) → RowKit.Below w.heap.size w w' → wpList Tryz.prog ops Q rest (a.put o.dst v) w'):wpList Tryz.prog ops Q (o :: rest) a w:=by
 obtain ⟨i0,hi,hz0,hz1,hz2⟩:=info_parts info_gauss
 refine wpList_buildSlice hg 22 30 3 #[(0,x0),(1,x1),(2,x2)] ho (flat [r0,r1,r2]).toArray i0 _ Tryz.underlying22 hi hz0 (by rw [hz1]; decide) (by rw [hz1]; decide) ?_ ?_
 ·simp only [hz1,List.map_toArray,List.map_cons,List.map_nil,h0,h1,h2]
  obtain ⟨⟨⟨n10,s10⟩,⟨n20,s20⟩⟩,⟨⟨n30,s30⟩,⟨n40,s40⟩⟩⟩:=r0
  obtain ⟨⟨⟨n11,s11⟩,⟨n21,s21⟩⟩,⟨⟨n31,s31⟩,⟨n41,s41⟩⟩⟩:=r1
  obtain ⟨⟨⟨n12,s12⟩,⟨n22,s22⟩⟩,⟨⟨n32,s32⟩,⟨n42,s42⟩⟩⟩:=r2
  have e:((Array.range (3 * 8)).map fun x=>(Value.agg #[.bool false,.string ⟨#[]⟩,.bool false,.string ⟨#[]⟩,.bool false,.string ⟨#[]⟩,.bool false,.string ⟨#[]⟩]).cells[x % (Value.agg #[.bool false,.string ⟨#[]⟩,.bool false,.string ⟨#[]⟩,.bool false,.string ⟨#[]⟩,.bool false,.string ⟨#[]⟩]).cells.size]!) = #[.bool false,.string ⟨#[]⟩,.bool false,.string ⟨#[]⟩,.bool false,.string ⟨#[]⟩,.bool false,.string ⟨#[]⟩,.bool false,.string ⟨#[]⟩,.bool false,.string ⟨#[]⟩,.bool false,.string ⟨#[]⟩,.bool false,.string ⟨#[]⟩,.bool false,.string ⟨#[]⟩,.bool false,.string ⟨#[]⟩,.bool false,.string ⟨#[]⟩,.bool false,.string ⟨#[]⟩]:=by
   simp [Array.range,Value.cells]
   rfl
  rw [e]
  simp [Instr.fill,Value.cells,rgV,flat,rgc,List.zipIdx]
 ·exact h _ _ (GSl.lit (heap_alloc_new w _) rfl (by decide)) (by rintro _ _ _ ⟨⟩; exact Nat.le_refl _) ⟨rfl,rfl,rfl,by simp,fun k hk=>heap_alloc_old w _ hk⟩
end
section
variable {P:Program} {ρ:Operand → Value} {o:Oper} {w:World} {x y:Operand}
end
@[reducible] def tC (g:Cx × Cx × Cx):Array Value:=#[.bool (decide (g.1.re.num < 0)),.string (bS g.1.re.num.natAbs),.bool (decide ((g.1.re.den:Int) < 0)),.string (bS (g.1.re.den:Int).natAbs),.bool (decide (g.1.im.num < 0)),.string (bS g.1.im.num.natAbs),.bool (decide ((g.1.im.den:Int) < 0)),.string (bS (g.1.im.den:Int).natAbs),.bool (decide (g.2.1.re.num < 0)),.string (bS g.2.1.re.num.natAbs),.bool (decide ((g.2.1.re.den:Int) < 0)),.string (bS (g.2.1.re.den:Int).natAbs),.bool (decide (g.2.1.im.num < 0)),.string (bS g.2.1.im.num.natAbs),.bool (decide ((g.2.1.im.den:Int) < 0)),.string (bS (g.2.1.im.den:Int).natAbs),.bool (decide (g.2.2.re.num < 0)),.string (bS g.2.2.re.num.natAbs),.bool (decide ((g.2.2.re.den:Int) < 0)),.string (bS (g.2.2.re.den:Int).natAbs),.bool (decide (g.2.2.im.num < 0)),.string (bS g.2.2.im.num.natAbs),.bool (decide ((g.2.2.im.den:Int) < 0)),.string (bS (g.2.2.im.den:Int).natAbs)]
section
variable {P:Program} {fn:Func} {p q r s ty:Nat} {tmps:Array Value} {w:World} {g g' g'' : Nat} {t t' t'' : TypeId} {cs cs' cs'' : Array Value} {fr1 fr2 fr3:Nat × Nat} {v v' : Value}
theorem results_ccct (hf:fn.results = #[.cell p ty,.cell q ty,.cell r ty,.tmp s]) (hp:tmps.getD p undef = pt g) (hg:w.heap[g]? = some (.cells cs t fr1)) (hq:tmps.getD q undef = pt g') (hg' : w.heap[g']? = some (.cells cs' t' fr2)) (hr:tmps.getD r undef = pt g'') (hg'' : w.heap[g'']? = some (.cells cs'' t'' fr3)) (h:tmps.getD s undef = v)
  (hd:aggB P ty = true:=by kernel_rfl) (hi:(P.info? ty).map (·.size) = some cs.size:=by kernel_rfl) (hi' : (P.info? ty).map (·.size) = some cs'.size:=by kernel_rfl) (hi'' : (P.info? ty).map (·.size) = some cs''.size:=by kernel_rfl):(results fn tmps).run P w = .ok (.tuple #[.agg cs,.agg cs', .agg cs'', v]) w:=by
 obtain ⟨d,h1,h2⟩:=aggB_ex hd
 have hp:tmps[p]?.getD undef = .pointer (some ⟨g,0,none⟩):=by simpa using hp
 have hq:tmps[q]?.getD undef = .pointer (some ⟨g', 0,none⟩):=by simpa using hq
 have hr:tmps[r]?.getD undef = .pointer (some ⟨g'', 0,none⟩):=by simpa using hr
 have h:tmps[s]?.getD undef = v:=by simpa using h
 have hl:=run_loadVar_row (P:=P) w g t ty cs fr1 d hg h1 (by cases d <;> first | rfl | cases h2) hi
 have hl' := run_loadVar_row (P:=P) w g' t' ty cs' fr2 d hg' h1 (by cases d <;> first | rfl | cases h2) hi'
 have hl'' := run_loadVar_row (P:=P) w g'' t'' ty cs'' fr3 d hg'' h1 (by cases d <;> first | rfl | cases h2) hi''
 simp only [results,hf]
 simp [hp,hl,hq,hl', hr,hl'', h,asAddr]
end
theorem werr_rw {x:Int} (h:hi x ≤ 131072):((werr (rw x)) != 0) = false:=by
 have h1:=hi_bl x
 have h2:(bS x.natAbs).size ≤ 16384:=bS_size_le (by omega)
 unfold werr
 rw [wformed_rw,if_pos (by rw [Bool.true_and]; exact decide_eq_true h2)]; rfl
abbrev uu:Nat → Got:=fun _=>⟨undef,0,0⟩
theorem ex_callc {P:Program} {ρ:Operand → Value} {o:Oper} {w:World} {f:FuncId} {c:Operand} {xs:Array Operand} {ats:Array TypeId} {args caps:Array Value} (ho:o.op = .call { callee:=.value c,args:=xs,argTypes:=ats }) (hf:ρ c = .func (.func f) #[] caps)
  {fn:Func} (hfn:P.funcs[f]? = some fn) (hname:(fn.name == "runtime.NumGoroutine") = false) (hb:fn.body.isNone = false) (hx:xs.map ρ ++ caps = args):(execOp ρ o).run P w = .ok (.enter f args) w:=by
 subst hx
 have h1:execOp ρ o = callFunc f (#[] ++ xs.map ρ ++ caps):=by
  unfold execOp
  simp only [ho,resolve,hf,Deferred.ofValue]
  rfl
 rw [h1]
 simp only [callFunc,Sem.run_bind]
 simp only [program,Sem.run,hfn,Result.andThen_ok]
 rw [if_neg (by simp [hname]),if_neg (by simp [hb])]
 simp [Sem.run,pure]
def CloP (f:FuncId) (fv:Value):VP :=
 ⟨fun _ v w=>∃ b T fr,v = .func (.func f) #[] #[.pointer (some ⟨b,0,none⟩)] ∧ w.heap[b]? = some (.cells #[fv] T fr) ∧ Rgn.Loc T = false ∧ (T == 102 || T == 98) = false,fun _ h=>h,fun {S v w w'} h ⟨b,T,fr,h1,h3,h2,h4⟩=>by
  refine ⟨b,T,fr,h1,?_,h2,h4⟩
  rcases h.block b (lt_of h3) with hb | ⟨c,T', fr', hb,hT⟩ | ⟨⟨c,T', hb,hT⟩,_⟩
  ·rw [hb]; exact h3
  ·rw [h3] at hb; cases hb; rw [h2] at hT; cases hT
  ·rw [h3] at hb; cases hb; rw [h4] at hT; cases hT⟩
theorem gaSure {S:Nat → Prop} {W:World} {g:FuncId}:Calls Tryz.prog 90 #[.func (.func g) #[] #[]] W (Ret (CloP 156 (.func (.func g) #[] #[])) S W):=by
 go_enter Tryz.func90,Tryz.ntmps90
 go_wp2_with fail
 refine ret_ok rfl (by exact results_tmp' rfl rfl) ⟨_,rfl,⟨_,122,_,rfl,heap_alloc_new W _,by decide,by decide⟩,Below.alloc (Below.refl _ _) (Nat.le_refl _) _⟩
theorem info_num2:(Tryz.prog.info? 125).map (·.size) = some 2:=by kernel_rfl
theorem x_ixl {ρ:Operand → Value} {o:Oper} {w:World} {x y:Operand} {b n c:Nat} {i:Int} {k:Nat} (hx:ρ x = .slice (some ⟨b,0,none⟩) n c) (hy:ρ y = .int .i64 i) (ho:o.op = .indexAddr 170 x y:=by rfl) (h0:0 ≤ i:=by decide) (h1:i < n:=by decide) (hk:2 * i.toNat = k:=by rfl) :
  (execOp ρ o).run Tryz.prog w = .ok (.value (.pointer (some ⟨b,k,none⟩))) w:=by
 subst hk
 obtain ⟨q,hq,hz⟩:∃ q,Tryz.prog.info? 125 = some q ∧ q.size = 2:=by
  have:=info_num2
  cases h:Tryz.prog.info? 125 with
  | none=>rw [h] at this; cases this
  | some i=>rw [h] at this; exact ⟨i,rfl,Option.some.inj this⟩
 unfold execOp
 simp only [ho,hx,hy]
 have he:Tryz.prog.elem 170 = 125:=by kernel_rfl
 have e:=run_indexAt_slice (P:=Tryz.prog) (w:=w) 170 ⟨b,0,none⟩ n c .i64 i (by rw [he]; exact Tryz.underlying170)
 rw [if_pos ⟨h0,h1⟩,he] at e
 simp [e,sizeOf,typeInfo,hq,hz,Result.andThen,Addr.add_lit,Nat.mul_comm]
def RetN2 (x y:Cx) (S:Nat → Prop) (W:World) (e:Ending) (w' : World):Prop :=
 ∃ b a0 a1 a2 a3,e = .returned (.tuple #[.slice (some ⟨b,0,none⟩) 2 2,.int .i64 0]) ∧ W.heap.size ≤ b ∧ w'.heap[b]? = some (.cells #[a0,a1,a2,a3] 125 (0,0)) ∧
  (RatN x.re).p (fun k=>S k ∨ W.heap.size ≤ k) a0 w' ∧ (RatN x.im).p (fun k=>S k ∨ W.heap.size ≤ k) a1 w' ∧ (RatN y.re).p (fun k=>S k ∨ W.heap.size ≤ k) a2 w' ∧ (RatN y.im).p (fun k=>S k ∨ W.heap.size ≤ k) a3 w' ∧ RowKit.Below W.heap.size W w'
theorem wpT_nums2 {P:Program} {ops:Array Oper} {Q:Exit → Act → World → Prop} {o:Oper} {rest:List Oper} {a:Act} {w:World} {f:FuncId} {args:Array Value} {x y:Cx} {S:Nat → Prop} (hg:o.guard = none) (hr:(execOp a.eval o).run P w = .ok (.enter f args) w) (hc:Calls P f args w (RetN2 x y S w))
  (h:∀ b a0 a1 a2 a3 w', (RatN x.re).p (fun k=>S k ∨ w.heap.size ≤ k) a0 w' → (RatN x.im).p (fun k=>S k ∨ w.heap.size ≤ k) a1 w' → (RatN y.re).p (fun k=>S k ∨ w.heap.size ≤ k) a2 w' → (RatN y.im).p (fun k=>S k ∨ w.heap.size ≤ k) a3 w' → w.heap.size ≤ b →
   w'.heap[b]? = some (.cells #[a0,a1,a2,a3] 125 (0,0)) → RowKit.Below w.heap.size w w' → wpList P ops Q rest (a.put o.dst (.tuple #[.slice (some ⟨b,0,none⟩) 2 2,.int .i64 0])) w'):wpList P ops Q (o :: rest) a w:=by
 refine wpList_plain hg fun K hK=>?_
 simp only [Oper.wp,hr,Oper.upon]
 refine hc.mono fun e w' ⟨b,a0,a1,a2,a3,he,h1,h2,h3,h4,h5,h6,h7⟩=>?_
 subst he
 exact hK _ _ (h b a0 a1 a2 a3 w' h3 h4 h5 h6 h1 h2 h7)
theorem all_two {a b:Prop} (h:a) (h' : b):a ∧ b:=⟨h,h'⟩
theorem results_ttt {P:Program} {fn:Func} {p q r:Nat} {tmps:Array Value} {w:World} {v v' v'' : Value} (hf:fn.results = #[.tmp p,.tmp q,.tmp r]) (h:tmps.getD p undef = v) (h' : tmps.getD q undef = v') (h'' : tmps.getD r undef = v''):(results fn tmps).run P w = .ok (.tuple #[v,v', v'']) w:=by
 have h:tmps[p]?.getD undef = v:=by simpa using h
 have h' : tmps[q]?.getD undef = v' := by simpa using h'
 have h'' : tmps[r]?.getD undef = v'' := by simpa using h''
 simp only [results,hf]
 simp [h,h', h'']
theorem info_num:(Tryz.prog.info? 125).map (fun i=>(i.zero,i.size,i.bytes)) = some (some (.agg #[.pointer none,.pointer none]),2,16):=by kernel_rfl
theorem setCell_only (w:World) (b:Nat) (o:Nat) (v:Value):Only b w (w.setCell ⟨b,o,none⟩ v) :=
 ⟨rfl,rfl,rfl,by simp [World.setCell],fun k hk hne=>by simp only [World.setCell,Array.getElem?_modify]; rw [if_neg (Ne.symm hne)]⟩
theorem only_growL {z:Nat} {w w' : World} (h:Only z w w') (hz:Local w z) (S:Nat → Prop):GrowS S w w' := ⟨h.os,h.tape,h.output,h.size,fun k hk=>by
 by_cases e:k = z
 ·subst e; exact .inr (.inl hz)
 ·exact .inl (h.block k hk e)⟩
section
variable {ops:Array Oper} {Q:Exit → Act → World → Prop} {o:Oper} {rest:List Oper} {a:Act} {w:World}
theorem wpT_mk2 {x y:Operand} (hg:o.guard = none) (ho:o.op = .makeSlice 170 x y) (hx:a.eval x = .int .i64 0) (hy:a.eval y = .int .i64 2)
  (h:∀ b w', w.heap.size ≤ b → w'.heap[b]? = some (.cells #[.pointer none,.pointer none,.pointer none,.pointer none] 125 (0,0)) → RowKit.Below w.heap.size w w' → wpList Tryz.prog ops Q rest (a.put o.dst (.slice (some ⟨b,0,none⟩) 0 2)) w'):wpList Tryz.prog ops Q (o :: rest) a w:=by
 obtain ⟨i0,hi,hz0,hz1,hz2⟩:=info_parts info_num
 have hr:=run_makeSlice (P:=Tryz.prog) (w:=w) 170 125 i0 _ Tryz.underlying170 hi hz0 .i64 .i64 0 2 (by omega) (by omega) (by rw [hz1]; decide) (by rw [hz2]; decide) (by omega)
 have hm:madeCells (Value.agg #[.pointer none,.pointer none]).cells ((2:Int).toNat * i0.size) = #[.pointer none,.pointer none,.pointer none,.pointer none]:=by rw [hz1]; kernel_rfl
 rw [hm] at hr
 have he:(execOp a.eval o).run Tryz.prog w = .ok (.value (.slice (some ⟨w.heap.size,0,none⟩) 0 2)) (w.alloc (.cells #[.pointer none,.pointer none,.pointer none,.pointer none] 125)):=by
  unfold execOp
  simp only [ho,hx,hy,Sem.run_bind,hr,Result.andThen_ok]
  rfl
 refine wpList_plain hg fun K hK=>?_
 simp only [Oper.wp,he,Oper.upon]
 exact hK _ _ (h _ _ (Nat.le_refl _) (heap_alloc_new w _) ⟨rfl,rfl,rfl,by simp,fun k hk=>heap_alloc_old w _ hk⟩)
theorem wpT_lit1n {x:Operand} {p q:Value} (hg:o.guard = none) (ho:o.op = .buildSlice 170 1 #[(0,x)]) (hx:a.eval x = .agg #[p,q]) (h1:p.oneCell' = true) (h2:q.oneCell' = true)
  (h:∀ b w', w.heap.size ≤ b → w'.heap[b]? = some (.cells #[p,q] 125 (0,0)) → RowKit.Below w.heap.size w w' → wpList Tryz.prog ops Q rest (a.put o.dst (.slice (some ⟨b,0,none⟩) 1 1)) w'):wpList Tryz.prog ops Q (o :: rest) a w:=by
 obtain ⟨i0,hi,hz0,hz1,hz2⟩:=info_parts info_num
 refine wpList_buildSlice hg 170 125 1 #[(0,x)] ho #[p,q] i0 _ Tryz.underlying170 hi hz0 (by rw [hz1]; decide) (by rw [hz1]; decide) ?_ ?_
 ·simp only [hz1,List.map_toArray,List.map_cons,List.map_nil,hx]
  have e:((Array.range (1 * 2)).map fun x=>(Value.agg #[.pointer none,.pointer none]).cells[x % (Value.agg #[.pointer none,.pointer none]).cells.size]!) = #[.pointer none,.pointer none]:=by
   simp [Array.range,Value.cells]
   rfl
  rw [e]
  simp [Instr.fill,Value.cells,List.zipIdx]
 ·exact h _ _ (Nat.le_refl _) (heap_alloc_new w _) ⟨rfl,rfl,rfl,by simp,fun k hk=>heap_alloc_old w _ hk⟩
theorem set2_only (w:World) (b n:Nat) (p q:Value):Only b w (w.setCells b n [p,q]):=(setCell_only w b n p).trans (setCell_only _ b (n + 1) q)
theorem wpT_ap1n {s x:Operand} {b c k:Nat} {p q:Value} {cur cur' : Array Value} {T:TypeId} (hg:o.guard = none) (ho:o.op = .call { callee:=.builtin .append,args:=#[s,x],argTypes:=#[170,170] }) (hs:a.eval s = .slice (some ⟨b,0,none⟩) k 2) (hx:a.eval x = .slice (some ⟨c,0,none⟩) 1 1) (hk:k < 2)
  (hB:w.heap[b]? = some (.cells cur 125 (0,0))) (hC:w.heap[c]? = some (.cells #[p,q] T (0,0))) (h4:cur.size = 4) (hc:(cur.setIfInBounds (2 * k) p).setIfInBounds (2 * k + 1) q = cur') (h1:p.oneCell' = true) (h2:q.oneCell' = true)
  (h:∀ w', w'.heap[b]? = some (.cells cur' 125 (0,0)) → Only b w w' → wpList Tryz.prog ops Q rest (a.put o.dst (.slice (some ⟨b,0,none⟩) (k + 1) 2)) w'):wpList Tryz.prog ops Q (o :: rest) a w:=by
 obtain ⟨i0,hi,hz0,hz1,hz2⟩:=info_parts info_num
 have hcell:∀ j,j < 4 → w.cell? ⟨b,j,none⟩ = cur[j]?:=fun j hj=>by simp [World.cell?,hB]
 have hr:=run_append_room_cells (P:=Tryz.prog) w 170 o.type 125 i0 Tryz.underlying170 hi b 0 k 2 ⟨c,0,none⟩ 1 1 [p,q] (by rw [hz1]; rfl)
  (fun j u hj=>by rw [Addr.add_lit]; match j,hj with | 0,hj=>(cases hj; simp [World.cell?,hC]) | 1,hj=>(cases hj; simp [World.cell?,hC]) | j + 2,hj=>(simp at hj))
  (fun u hu=>by simp only [List.mem_cons,List.not_mem_nil,or_false] at hu; rcases hu with rfl | rfl <;> assumption) (by omega)
  (fun j hj=>by rw [hz1,hcell _ (by simp at hj; omega),Array.getElem?_eq_getElem (by simp at hj; omega)]; rfl)
  (fun j hj=>by simp [World.frozen?,hB])
 rw [hz1] at hr
 refine wpList_plain hg fun K hK=>?_
 simp only [Oper.wp,ex_append ho hs hx hr,Oper.upon]
 refine hK _ _ (h _ ?_ (set2_only w b _ p q))
 subst hc
 simp [World.setCells,World.setCell,Array.getElem?_modify,hB,Nat.mul_comm]
end
end Go.Proofs.YtllohoibifcmdaaGreat
namespace Go.Proofs.YtllohoibifcmdaaGreat
open Go.RowKit Rgn
set_option maxHeartbeats 4000000
set_option maxRecDepth 100000
variable {S:Nat → Prop} {W:World}
theorem gaOpenedP {v0:Value} (x:Cx) (y:Cx) (t0:GSl W v0 [rg x,rg y]) (p0:gfits (rg x) = true) (p1:gfits (rg y) = true) :
  Calls Tryz.prog 154 #[v0] W (RetN2 x y S W):=by
 obtain ⟨p_g0,c_g0,cur_g0,T_g0,fr_g0,rfl,y_g0,z_g0,P_g0,B_g0,Q_g0⟩:=GSl.open t0
 replace P_g0:=Lib.hid P_g0
 have X_g0:=GSl.lt B_g0
 have W_g0:=B_g0
 have bel:=b0 W
 go_enter Tryz.func154,Tryz.ntmps154
 refine gs 2 (Amb S W) fun _ K1=>?_
 refine .mc rfl ?_
 refine .mc rfl ?_
 refine .dk (fun u=>.slice p_g0 ([rg x,rg y]).length c_g0::U::u 0::u 1::us 27) K1 bel fun u1 w1 D bel=>?_
 have E1_0:=D.q 0
 have E1_1:=D.q 1
 replace B_g0:=fun h=>D.k (B_g0 h)
 clear D
 refine wp_seq_k fun _ K2=>?_
 refine wp_region_list ?_
 refine wpT_val rfl (ex_move rfl) ?_
 refine wpList_as (fr (.slice p_g0 ([rg x,rg y]).length c_g0::U::u1 0::u1 1::U::U::U::U::U::.slice p_g0 ([rg x,rg y]).length c_g0::us 21)) (by kernel_rfl) ?_
 refine wpT_val (v:=.int .i64 2) rfl (by go_simp) ?_
 refine wpList_as (fr (.slice p_g0 ([rg x,rg y]).length c_g0::U::u1 0::u1 1::U::U::U::U::U::.slice p_g0 ([rg x,rg y]).length c_g0::.int .i64 2::us 20)) (by kernel_rfl) ?_
 refine wpT_mk2 rfl rfl rfl rfl fun b4 w3 A4 B4 ow3=>?_
 replace A4:=Nat.le_trans bel.size A4
 replace B_g0:=fun h=>(ow3.block _ (lt_of (B_g0 h))).trans (B_g0 h)
 replace bel:=bel.trans (ow3.mono bel.size)
 refine wpList_as (fr (.slice p_g0 ([rg x,rg y]).length c_g0::U::u1 0::u1 1::U::U::U::U::U::.slice p_g0 ([rg x,rg y]).length c_g0::.int .i64 2::.slice (some ⟨b4,0,none⟩) 0 2::us 19)) (by kernel_rfl) ?_
 refine wpT_val rfl (ex_assign rfl) ?_
 refine wpList_as (fr (.slice p_g0 ([rg x,rg y]).length c_g0::U::u1 0::u1 1::.slice (some ⟨b4,0,none⟩) 0 2::U::U::U::U::.slice p_g0 ([rg x,rg y]).length c_g0::.int .i64 2::.slice (some ⟨b4,0,none⟩) 0 2::us 19)) (by kernel_rfl) ?_
 refine wpList_nil ?_
 show _
 refine K2 _ _ ?_
 refine wp_seq_k fun _ K5=>?_
 refine gs 3 (Amb S W) fun _ K6=>?_
 refine .mz rfl 0 (V:=.slice p_g0 ([rg x,rg y]).length c_g0) rfl ?_
 refine .e rfl (V:=.int .i64 2) (fun H=>by have e_:=(H.g 12 0); clear H; go_simp) ?_
 refine .mc rfl ?_
 refine .dk (fun u=>.slice p_g0 ([rg x,rg y]).length c_g0::U::u1 0::u1 1::.slice (some ⟨b4,0,none⟩) 0 2::U::U::U::U::.slice p_g0 ([rg x,rg y]).length c_g0::.int .i64 2::.slice (some ⟨b4,0,none⟩) 0 2::sq u 0 3 (us 16)) K6 bel fun u3 w3 D bel=>?_
 have E3_0:=D.q 0
 have E3_1:=D.q 1
 have E3_2:=D.q 2
 replace B4:=D.k B4
 replace B_g0:=fun h=>D.k (B_g0 h)
 clear D
 refine wp_block ?_
 refine wp_loop_rounds 3 ?_
 refine rounds_k fun K7 hK7=>?_
 refine gs 1 (Amb S W) fun _ K8=>?_
 refine .e rfl (V:=.bool true) (fun H=>x_cmp (H.z 14 E3_2) (H.z 13 E3_1)) ?_
 refine .dk (fun u=>.slice p_g0 ([rg x,rg y]).length c_g0::U::u1 0::u1 1::.slice (some ⟨b4,0,none⟩) 0 2::U::U::U::U::.slice p_g0 ([rg x,rg y]).length c_g0::.int .i64 2::.slice (some ⟨b4,0,none⟩) 0 2::sq u3 0 3 (u 0::us 15)) K8 bel fun u4 w4 D bel=>?_
 have E4_0:=D.q 0
 replace B4:=D.k B4
 replace B_g0:=fun h=>D.k (B_g0 h)
 clear D
 refine wp_seq_k fun _ K9=>?_
 refine wp_cond_true (by exact E4_0) ?_
 refine wp_skip ?_
 refine K9 _ _ ?_
 refine wp_seq_k fun _ K10=>?_
 refine wp_block ?_
 refine gs 4 (Amb S W) fun _ K11=>?_
 refine Go2.eq (i:=0) rfl (G0 rfl) (V:=.pointer (some ⟨slB p_g0,slO p_g0 + 8 * 0,none⟩)) (by intro u μ ρ H; have e12:=H.z 12 E3_0; have e14:=H.z 14 E3_2; exact ex_index_gl (i:=0) rfl e12 e14 (by decide) (by simp) P_g0.out) ?_
 refine Go2.eq (i:=1) rfl (G0 rfl) (V:=gV x) (by intro u μ ρ H; have e16:=H.g 16 0; exact ex_load_gl (l:=[rg x,rg y]) (i:=0) rfl e16 (H.blk (B_g0 (by simp)) (Nat.le_refl _) (no_nil _)) Q_g0 (by simp)) ?_
 refine .al rfl zG ?_
 refine .so rfl 2 (fun H=>⟨H.r 6 2,H.g 17 1⟩) ?_
 refine .dk (fun u=>.slice p_g0 ([rg x,rg y]).length c_g0::U::u1 0::u1 1::.slice (some ⟨b4,0,none⟩) 0 2::U::u 2::U::U::.slice p_g0 ([rg x,rg y]).length c_g0::.int .i64 2::.slice (some ⟨b4,0,none⟩) 0 2::sq u3 0 3 (u4 0::u 0::u 1::us 13)) K11 bel fun u5 w5 D bel=>?_
 obtain ⟨b12,E5_2,A12,B12⟩:=D.st 3
 have E5_0:=D.q 0
 have E5_1:=D.q 1
 replace B4:=D.k B4
 replace B_g0:=fun h=>D.k (B_g0 h)
 clear D
 refine gs 8 (Amb S W) fun _ K13=>?_
 refine .lr rfl 6 E5_2 B12 ?_
 refine .cR rfl [] Tryz.func192 (fun H=>⟨_,ar1 (H.g 19 0),eOf _ (by first | exact p0 | exact p1)⟩) ?_
 refine .mn rfl 1 [1] ?_
 refine Go2.fn (i:=3) rfl (G0 rfl) (.val 3 [1,2] (NumP x)) (fun u μ ρ H=>by have e18:=H.r 18 2; have h0:=(H.a 2 rfl); obtain ⟨x0,x1,h1,h2⟩:=h0; rw [h1] at e18; exact ⟨x0,by clear H; go_simp,SP.tupKeep (by decide) (by decide) h2.1⟩) ?_
 refine .e rfl (V:=.bool true) (fun H=>by have e18:=H.r 18 2; have h0:=(H.a 2 rfl); obtain ⟨x0,x1,h1,h2,h3⟩:=h0; rw [h1] at e18; have h3:x1 = .bool true:=h3; subst h3; clear H; go_simp) ?_
 refine .al rfl (#[.pointer none,.pointer none]) ?_
 refine Go2.storeOwn (i:=6) (m:=5) rfl rfl (.head _) (SP.cells 5 [3] (fun u=>#[((u 3).v.cells.getD 0 undef),((u 3).v.cells.getD 1 undef)]) 125 (by intro u u' h; simp [h 3 (by simp)])) (fun u μ ρ b H h0 hB hb=>?_) ?_
 · have e7:=H.r 7 5; have e21:=H.r 21 3
   rw [h0] at e7
   obtain ⟨x1,x2,h1,h2,h3⟩:=(H.a 3 rfl)
   have o1:=VP1.ratn h2
   have o2:=VP1.ratn h3
   rw [h1] at e21
   refine ⟨μ.setRow b #[x1,x2],ex_store_row 125 _ _ rfl e7 e21 hb (by kernel_rfl) rfl (by simp [o1,o2]),fun g=>⟨b,?_,hB,?_⟩,setRow_only _ _ _⟩
   · rw [upd_other _ _ (by decide)]; exact h0
   · rw [setRow_at hb]; try simp [upd,h1,Value.cells]
 refine .mv rfl 4 ?_
 refine .dk (fun u=>.slice p_g0 ([rg x,rg y]).length c_g0::U::u1 0::u1 1::.slice (some ⟨b4,0,none⟩) 0 2::U::u5 2::u 5::u 7::.slice p_g0 ([rg x,rg y]).length c_g0::.int .i64 2::.slice (some ⟨b4,0,none⟩) 0 2::sq u3 0 3 (u4 0::u5 0::u5 1::u 2::u 0::u 1::u 3::u 4::us 8)) K13 bel fun u6 w6 D bel=>?_
 obtain ⟨x14,x15,E6_1,F_x14,F_x15⟩:=(D.rr 1)
 obtain ⟨x16,x17,rfl,F_x16,F_x17⟩:=F_x14
 obtain rfl:x15 = _:=F_x15
 obtain ⟨x18,x19,E6_2,F_x18,F_x19⟩:=(D.rr 2)
 obtain ⟨x20,x21,rfl,F_x20,F_x21⟩:=F_x18
 obtain rfl:x19 = _:=F_x19
 obtain ⟨x22,x23,E6_3,F_x22,F_x23⟩:=(D.rr 3)
 obtain ⟨b24,E6_5,A24,B24⟩:=(D.a 6 rfl)
 replace A24:=le2 D.le A24
 have E6_0:=D.q 0
 have E6_4:=D.q 4
 have E6_7:=D.q 7
 replace B4:=D.k B4
 replace B12:=D.k B12
 simp only [Value.cells,E6_1,E6_2,E6_3,E6_5] at B24
 replace B24:w6.heap[b24]? = some (.cells #[x22,x23] 125 (0,0)):=B24
 replace B_g0:=fun h=>D.k (B_g0 h)
 clear D
 refine wp_seq_k fun _ K25=>?_
 refine gs 2 (Amb S W) fun _ K26=>?_
 refine .mz rfl 8 E6_7 ?_
 refine .e rfl (V:=.bool false) (fun H=>x_not (H.g 23 0)) ?_
 refine .dk (fun u=>.slice p_g0 ([rg x,rg y]).length c_g0::U::u1 0::u1 1::.slice (some ⟨b4,0,none⟩) 0 2::U::u5 2::u6 5::u6 7::.slice p_g0 ([rg x,rg y]).length c_g0::.int .i64 2::.slice (some ⟨b4,0,none⟩) 0 2::sq u3 0 3 (u4 0::u5 0::u5 1::u6 2::u6 0::u6 1::u6 3::u6 4::u 0::u 1::us 6)) K26 bel fun u7 w7 D bel=>?_
 have E7_0:=D.q 0
 have E7_1:=D.q 1
 replace B4:=D.k B4
 replace B12:=D.k B12
 replace B24:=D.k B24
 replace B_g0:=fun h=>D.k (B_g0 h)
 replace F_x16:=D.gr (RatN x.re) F_x16
 replace F_x17:=D.gr (RatN x.im) F_x17
 replace F_x20:=D.gr (RatN x.re) F_x20
 replace F_x21:=D.gr (RatN x.im) F_x21
 replace F_x22:=D.gr (RatN x.re) F_x22
 replace F_x23:=D.gr (RatN x.im) F_x23
 clear D
 refine wp_cond_false (by exact E7_1) ?_
 refine wp_skip ?_
 refine K25 _ _ ?_
 refine wp_region_list ?_
 refine wpT_val rfl (ex_move rfl) ?_
 refine wpList_as (fr (.slice p_g0 ([rg x,rg y]).length c_g0::U::u1 0::u1 1::.slice (some ⟨b4,0,none⟩) 0 2::U::u5 2::u6 5::u6 7::.slice p_g0 ([rg x,rg y]).length c_g0::.int .i64 2::.slice (some ⟨b4,0,none⟩) 0 2::sq u3 0 3 (u4 0::u5 0::u5 1::u6 2::u6 0::u6 1::u6 3::u6 4::u7 0::u7 1::.slice (some ⟨b4,0,none⟩) 0 2::us 5))) (by kernel_rfl) ?_
 refine wpT_val (v:=.agg #[x22,x23]) rfl (ex_load_row 125 _ rfl (by exact E6_5) B24 Tryz.underlying125 rfl (by kernel_rfl)) ?_
 refine wpList_as (fr (.slice p_g0 ([rg x,rg y]).length c_g0::U::u1 0::u1 1::.slice (some ⟨b4,0,none⟩) 0 2::U::u5 2::u6 5::u6 7::.slice p_g0 ([rg x,rg y]).length c_g0::.int .i64 2::.slice (some ⟨b4,0,none⟩) 0 2::sq u3 0 3 (u4 0::u5 0::u5 1::u6 2::u6 0::u6 1::u6 3::u6 4::u7 0::u7 1::.slice (some ⟨b4,0,none⟩) 0 2::.agg #[x22,x23]::us 4))) (by kernel_rfl) ?_
 refine wpT_lit1n rfl rfl rfl (VP1.ratn F_x22) (VP1.ratn F_x23) fun b28 w27 A28 B28 ow27=>?_
 have N4_28:=Nat.ne_of_lt (Nat.lt_of_lt_of_le (lt_of B4) A28)
 have N12_28:=Nat.ne_of_lt (Nat.lt_of_lt_of_le (lt_of B12) A28)
 have N24_28:=Nat.ne_of_lt (Nat.lt_of_lt_of_le (lt_of B24) A28)
 replace A28:=Nat.le_trans bel.size A28
 replace B4:=(ow27.block b4 (lt_of B4)).trans B4
 replace B12:=(ow27.block b12 (lt_of B12)).trans B12
 replace B24:=(ow27.block b24 (lt_of B24)).trans B24
 replace B_g0:=fun h=>(ow27.block _ (lt_of (B_g0 h))).trans (B_g0 h)
 replace F_x16:=(RatN x.re).grow (Rgn.Below.growS ow27 (Nat.le_refl _) _) F_x16
 replace F_x17:=(RatN x.im).grow (Rgn.Below.growS ow27 (Nat.le_refl _) _) F_x17
 replace F_x20:=(RatN x.re).grow (Rgn.Below.growS ow27 (Nat.le_refl _) _) F_x20
 replace F_x21:=(RatN x.im).grow (Rgn.Below.growS ow27 (Nat.le_refl _) _) F_x21
 replace F_x22:=(RatN x.re).grow (Rgn.Below.growS ow27 (Nat.le_refl _) _) F_x22
 replace F_x23:=(RatN x.im).grow (Rgn.Below.growS ow27 (Nat.le_refl _) _) F_x23
 replace bel:=bel.trans (ow27.mono bel.size)
 refine wpList_as (fr (.slice p_g0 ([rg x,rg y]).length c_g0::U::u1 0::u1 1::.slice (some ⟨b4,0,none⟩) 0 2::U::u5 2::u6 5::u6 7::.slice p_g0 ([rg x,rg y]).length c_g0::.int .i64 2::.slice (some ⟨b4,0,none⟩) 0 2::sq u3 0 3 (u4 0::u5 0::u5 1::u6 2::u6 0::u6 1::u6 3::u6 4::u7 0::u7 1::.slice (some ⟨b4,0,none⟩) 0 2::.agg #[x22,x23]::.slice (some ⟨b28,0,none⟩) 1 1::us 3))) (by kernel_rfl) ?_
 refine wpT_ap1n rfl rfl rfl rfl (by decide) B4 B28 rfl (cur' := #[x22,x23,.pointer none,.pointer none]) rfl (VP1.ratn F_x22) (VP1.ratn F_x23) fun w29 hw29 ow29=>?_
 have sw29:Local w27 b4:=⟨_,_,_,B4,rfl⟩
 replace F_x16:=(RatN x.re).grow (only_growL ow29 sw29 _) F_x16
 replace F_x17:=(RatN x.im).grow (only_growL ow29 sw29 _) F_x17
 replace F_x20:=(RatN x.re).grow (only_growL ow29 sw29 _) F_x20
 replace F_x21:=(RatN x.im).grow (only_growL ow29 sw29 _) F_x21
 replace F_x22:=(RatN x.re).grow (only_growL ow29 sw29 _) F_x22
 replace F_x23:=(RatN x.im).grow (only_growL ow29 sw29 _) F_x23
 replace B_g0:=fun h=>(ow29.block _ (lt_of (B_g0 h)) (Nat.ne_of_lt (Nat.lt_of_lt_of_le (X_g0 h) A4))).trans (B_g0 h)
 replace B4:=hw29
 replace B28:=ow29.keep B28 (Ne.symm N4_28)
 replace bel:=bel.trans (only_below' ow29 A4 bel.size)
 refine wpList_as (fr (.slice p_g0 ([rg x,rg y]).length c_g0::U::u1 0::u1 1::.slice (some ⟨b4,0,none⟩) 0 2::U::u5 2::u6 5::u6 7::.slice p_g0 ([rg x,rg y]).length c_g0::.int .i64 2::.slice (some ⟨b4,0,none⟩) 0 2::sq u3 0 3 (u4 0::u5 0::u5 1::u6 2::u6 0::u6 1::u6 3::u6 4::u7 0::u7 1::.slice (some ⟨b4,0,none⟩) 0 2::.agg #[x22,x23]::.slice (some ⟨b28,0,none⟩) 1 1::.slice (some ⟨b4,0,none⟩) 1 2::U::U::[]))) (by kernel_rfl) ?_
 refine wpT_val rfl (ex_assign rfl) ?_
 refine wpList_as (fr (.slice p_g0 ([rg x,rg y]).length c_g0::U::u1 0::u1 1::.slice (some ⟨b4,0,none⟩) 1 2::U::u5 2::u6 5::u6 7::.slice p_g0 ([rg x,rg y]).length c_g0::.int .i64 2::.slice (some ⟨b4,0,none⟩) 0 2::sq u3 0 3 (u4 0::u5 0::u5 1::u6 2::u6 0::u6 1::u6 3::u6 4::u7 0::u7 1::.slice (some ⟨b4,0,none⟩) 0 2::.agg #[x22,x23]::.slice (some ⟨b28,0,none⟩) 1 1::.slice (some ⟨b4,0,none⟩) 1 2::U::U::[]))) (by kernel_rfl) ?_
 refine wpList_nil ?_
 show _
 refine inBlock_normal ?_
 refine K10 _ _ ?_
 refine wp_region_list ?_
 refine wpT_val (v:=.int .i64 1) rfl (by have aw_:IntKind.wrap .i64 1 = 1:=(by decide); have:=E3_2; go_simp) ?_
 refine wpList_as (fr (.slice p_g0 ([rg x,rg y]).length c_g0::U::u1 0::u1 1::.slice (some ⟨b4,0,none⟩) 1 2::U::u5 2::u6 5::u6 7::.slice p_g0 ([rg x,rg y]).length c_g0::.int .i64 2::.slice (some ⟨b4,0,none⟩) 0 2::sq u3 0 3 (u4 0::u5 0::u5 1::u6 2::u6 0::u6 1::u6 3::u6 4::u7 0::u7 1::.slice (some ⟨b4,0,none⟩) 0 2::.agg #[x22,x23]::.slice (some ⟨b28,0,none⟩) 1 1::.slice (some ⟨b4,0,none⟩) 1 2::.int .i64 1::U::[]))) (by kernel_rfl) ?_
 refine wpT_val rfl (ex_move rfl) ?_
 refine wpList_as (fr (.slice p_g0 ([rg x,rg y]).length c_g0::U::u1 0::u1 1::.slice (some ⟨b4,0,none⟩) 1 2::U::u5 2::u6 5::u6 7::.slice p_g0 ([rg x,rg y]).length c_g0::.int .i64 2::.slice (some ⟨b4,0,none⟩) 0 2::u3 0::u3 1::.int .i64 1::u4 0::u5 0::u5 1::u6 2::u6 0::u6 1::u6 3::u6 4::u7 0::u7 1::.slice (some ⟨b4,0,none⟩) 0 2::.agg #[x22,x23]::.slice (some ⟨b28,0,none⟩) 1 1::.slice (some ⟨b4,0,none⟩) 1 2::.int .i64 1::U::[])) (by kernel_rfl) ?_
 refine wpList_nil ?_
 show _
 refine hK7 _ _ ?_
 refine rounds_k fun K30 hK30=>?_
 refine gs 1 (Amb S W) fun _ K31=>?_
 refine .e rfl (V:=.bool true) (fun H=>x_cmp (H.v 14 (.int .i64 1)) (H.z 13 E3_1)) ?_
 refine .dk (fun u=>.slice p_g0 ([rg x,rg y]).length c_g0::U::u1 0::u1 1::.slice (some ⟨b4,0,none⟩) 1 2::U::u5 2::u6 5::u6 7::.slice p_g0 ([rg x,rg y]).length c_g0::.int .i64 2::.slice (some ⟨b4,0,none⟩) 0 2::u3 0::u3 1::.int .i64 1::u 0::u5 0::u5 1::u6 2::u6 0::u6 1::u6 3::u6 4::u7 0::u7 1::.slice (some ⟨b4,0,none⟩) 0 2::.agg #[x22,x23]::.slice (some ⟨b28,0,none⟩) 1 1::.slice (some ⟨b4,0,none⟩) 1 2::.int .i64 1::U::[]) K31 bel fun u10 w10 D bel=>?_
 have E10_0:=D.q 0
 replace B4:=D.k B4
 replace B28:=D.k B28
 replace B_g0:=fun h=>D.k (B_g0 h)
 replace F_x16:=D.gr (RatN x.re) F_x16
 replace F_x17:=D.gr (RatN x.im) F_x17
 replace F_x20:=D.gr (RatN x.re) F_x20
 replace F_x21:=D.gr (RatN x.im) F_x21
 replace F_x22:=D.gr (RatN x.re) F_x22
 replace F_x23:=D.gr (RatN x.im) F_x23
 clear D
 refine wp_seq_k fun _ K32=>?_
 refine wp_cond_true (by exact E10_0) ?_
 refine wp_skip ?_
 refine K32 _ _ ?_
 refine wp_seq_k fun _ K33=>?_
 refine wp_block ?_
 refine gs 4 (Amb S W) fun _ K34=>?_
 refine Go2.eq (i:=0) rfl (G0 rfl) (V:=.pointer (some ⟨slB p_g0,slO p_g0 + 8 * 1,none⟩)) (by intro u μ ρ H; have e12:=H.z 12 E3_0; have e14:=H.y 14; exact ex_index_gl (i:=1) rfl e12 e14 (by decide) (by simp) P_g0.out) ?_
 refine Go2.eq (i:=1) rfl (G0 rfl) (V:=gV y) (by intro u μ ρ H; have e16:=H.g 16 0; exact ex_load_gl (l:=[rg x,rg y]) (i:=1) rfl e16 (H.blk (B_g0 (by simp)) (Nat.le_refl _) (no_nil _)) Q_g0 (by simp)) ?_
 refine .al rfl zG ?_
 refine .so rfl 2 (fun H=>⟨H.r 6 2,H.g 17 1⟩) ?_
 refine .dk (fun u=>.slice p_g0 ([rg x,rg y]).length c_g0::U::u1 0::u1 1::.slice (some ⟨b4,0,none⟩) 1 2::U::u 2::u6 5::u6 7::.slice p_g0 ([rg x,rg y]).length c_g0::.int .i64 2::.slice (some ⟨b4,0,none⟩) 0 2::u3 0::u3 1::.int .i64 1::u10 0::u 0::u 1::u6 2::u6 0::u6 1::u6 3::u6 4::u7 0::u7 1::.slice (some ⟨b4,0,none⟩) 0 2::.agg #[x22,x23]::.slice (some ⟨b28,0,none⟩) 1 1::.slice (some ⟨b4,0,none⟩) 1 2::.int .i64 1::U::[]) K34 bel fun u11 w11 D bel=>?_
 obtain ⟨b35,E11_2,A35,B35⟩:=D.st 3
 have E11_0:=D.q 0
 have E11_1:=D.q 1
 replace B4:=D.k B4
 replace B28:=D.k B28
 replace B_g0:=fun h=>D.k (B_g0 h)
 replace F_x16:=D.gr (RatN x.re) F_x16
 replace F_x17:=D.gr (RatN x.im) F_x17
 replace F_x20:=D.gr (RatN x.re) F_x20
 replace F_x21:=D.gr (RatN x.im) F_x21
 replace F_x22:=D.gr (RatN x.re) F_x22
 replace F_x23:=D.gr (RatN x.im) F_x23
 clear D
 refine gs 8 (Amb S W) fun _ K36=>?_
 refine .lr rfl 6 E11_2 B35 ?_
 refine .cR rfl [] Tryz.func192 (fun H=>⟨_,ar1 (H.g 19 0),eOf _ (by first | exact p0 | exact p1)⟩) ?_
 refine .mn rfl 1 [1] ?_
 refine Go2.fn (i:=3) rfl (G0 rfl) (.val 3 [1,2] (NumP y)) (fun u μ ρ H=>by have e18:=H.r 18 2; have h0:=(H.a 2 rfl); obtain ⟨x0,x1,h1,h2⟩:=h0; rw [h1] at e18; exact ⟨x0,by clear H; go_simp,SP.tupKeep (by decide) (by decide) h2.1⟩) ?_
 refine .e rfl (V:=.bool true) (fun H=>by have e18:=H.r 18 2; have h0:=(H.a 2 rfl); obtain ⟨x0,x1,h1,h2,h3⟩:=h0; rw [h1] at e18; have h3:x1 = .bool true:=h3; subst h3; clear H; go_simp) ?_
 refine .al rfl (#[.pointer none,.pointer none]) ?_
 refine Go2.storeOwn (i:=6) (m:=5) rfl rfl (.head _) (SP.cells 5 [3] (fun u=>#[((u 3).v.cells.getD 0 undef),((u 3).v.cells.getD 1 undef)]) 125 (by intro u u' h; simp [h 3 (by simp)])) (fun u μ ρ b H h0 hB hb=>?_) ?_
 · have e7:=H.r 7 5; have e21:=H.r 21 3
   rw [h0] at e7
   obtain ⟨x1,x2,h1,h2,h3⟩:=(H.a 3 rfl)
   have o1:=VP1.ratn h2
   have o2:=VP1.ratn h3
   rw [h1] at e21
   refine ⟨μ.setRow b #[x1,x2],ex_store_row 125 _ _ rfl e7 e21 hb (by kernel_rfl) rfl (by simp [o1,o2]),fun g=>⟨b,?_,hB,?_⟩,setRow_only _ _ _⟩
   · rw [upd_other _ _ (by decide)]; exact h0
   · rw [setRow_at hb]; try simp [upd,h1,Value.cells]
 refine .mv rfl 4 ?_
 refine .dk (fun u=>.slice p_g0 ([rg x,rg y]).length c_g0::U::u1 0::u1 1::.slice (some ⟨b4,0,none⟩) 1 2::U::u11 2::u 5::u 7::.slice p_g0 ([rg x,rg y]).length c_g0::.int .i64 2::.slice (some ⟨b4,0,none⟩) 0 2::u3 0::u3 1::.int .i64 1::u10 0::u11 0::u11 1::u 2::u 0::u 1::u 3::u 4::u7 0::u7 1::.slice (some ⟨b4,0,none⟩) 0 2::.agg #[x22,x23]::.slice (some ⟨b28,0,none⟩) 1 1::.slice (some ⟨b4,0,none⟩) 1 2::.int .i64 1::U::[]) K36 bel fun u12 w12 D bel=>?_
 obtain ⟨x37,x38,E12_1,F_x37,F_x38⟩:=(D.rr 1)
 obtain ⟨x39,x40,rfl,F_x39,F_x40⟩:=F_x37
 obtain rfl:x38 = _:=F_x38
 obtain ⟨x41,x42,E12_2,F_x41,F_x42⟩:=(D.rr 2)
 obtain ⟨x43,x44,rfl,F_x43,F_x44⟩:=F_x41
 obtain rfl:x42 = _:=F_x42
 obtain ⟨x45,x46,E12_3,F_x45,F_x46⟩:=(D.rr 3)
 obtain ⟨b47,E12_5,A47,B47⟩:=(D.a 6 rfl)
 replace A47:=le2 D.le A47
 have E12_0:=D.q 0
 have E12_4:=D.q 4
 have E12_7:=D.q 7
 replace B4:=D.k B4
 replace B28:=D.k B28
 replace B35:=D.k B35
 simp only [Value.cells,E12_1,E12_2,E12_3,E12_5] at B47
 replace B47:w12.heap[b47]? = some (.cells #[x45,x46] 125 (0,0)):=B47
 replace B_g0:=fun h=>D.k (B_g0 h)
 replace F_x22:=D.gr (RatN x.re) F_x22
 replace F_x23:=D.gr (RatN x.im) F_x23
 clear D
 refine wp_seq_k fun _ K48=>?_
 refine gs 2 (Amb S W) fun _ K49=>?_
 refine .mz rfl 8 E12_7 ?_
 refine .e rfl (V:=.bool false) (fun H=>x_not (H.g 23 0)) ?_
 refine .dk (fun u=>.slice p_g0 ([rg x,rg y]).length c_g0::U::u1 0::u1 1::.slice (some ⟨b4,0,none⟩) 1 2::U::u11 2::u12 5::u12 7::.slice p_g0 ([rg x,rg y]).length c_g0::.int .i64 2::.slice (some ⟨b4,0,none⟩) 0 2::u3 0::u3 1::.int .i64 1::u10 0::u11 0::u11 1::u12 2::u12 0::u12 1::u12 3::u12 4::u 0::u 1::.slice (some ⟨b4,0,none⟩) 0 2::.agg #[x22,x23]::.slice (some ⟨b28,0,none⟩) 1 1::.slice (some ⟨b4,0,none⟩) 1 2::.int .i64 1::U::[]) K49 bel fun u13 w13 D bel=>?_
 have E13_0:=D.q 0
 have E13_1:=D.q 1
 replace B4:=D.k B4
 replace B28:=D.k B28
 replace B35:=D.k B35
 replace B47:=D.k B47
 replace B_g0:=fun h=>D.k (B_g0 h)
 replace F_x22:=D.gr (RatN x.re) F_x22
 replace F_x23:=D.gr (RatN x.im) F_x23
 replace F_x39:=D.gr (RatN y.re) F_x39
 replace F_x40:=D.gr (RatN y.im) F_x40
 replace F_x43:=D.gr (RatN y.re) F_x43
 replace F_x44:=D.gr (RatN y.im) F_x44
 replace F_x45:=D.gr (RatN y.re) F_x45
 replace F_x46:=D.gr (RatN y.im) F_x46
 clear D
 refine wp_cond_false (by exact E13_1) ?_
 refine wp_skip ?_
 refine K48 _ _ ?_
 refine wp_region_list ?_
 refine wpT_val rfl (ex_move rfl) ?_
 refine wpList_as (fr (.slice p_g0 ([rg x,rg y]).length c_g0::U::u1 0::u1 1::.slice (some ⟨b4,0,none⟩) 1 2::U::u11 2::u12 5::u12 7::.slice p_g0 ([rg x,rg y]).length c_g0::.int .i64 2::.slice (some ⟨b4,0,none⟩) 0 2::u3 0::u3 1::.int .i64 1::u10 0::u11 0::u11 1::u12 2::u12 0::u12 1::u12 3::u12 4::u13 0::u13 1::.slice (some ⟨b4,0,none⟩) 1 2::.agg #[x22,x23]::.slice (some ⟨b28,0,none⟩) 1 1::.slice (some ⟨b4,0,none⟩) 1 2::.int .i64 1::U::[])) (by kernel_rfl) ?_
 refine wpT_val (v:=.agg #[x45,x46]) rfl (ex_load_row 125 _ rfl (by exact E12_5) B47 Tryz.underlying125 rfl (by kernel_rfl)) ?_
 refine wpList_as (fr (.slice p_g0 ([rg x,rg y]).length c_g0::U::u1 0::u1 1::.slice (some ⟨b4,0,none⟩) 1 2::U::u11 2::u12 5::u12 7::.slice p_g0 ([rg x,rg y]).length c_g0::.int .i64 2::.slice (some ⟨b4,0,none⟩) 0 2::u3 0::u3 1::.int .i64 1::u10 0::u11 0::u11 1::u12 2::u12 0::u12 1::u12 3::u12 4::u13 0::u13 1::.slice (some ⟨b4,0,none⟩) 1 2::.agg #[x45,x46]::.slice (some ⟨b28,0,none⟩) 1 1::.slice (some ⟨b4,0,none⟩) 1 2::.int .i64 1::U::[])) (by kernel_rfl) ?_
 refine wpT_lit1n rfl rfl rfl (VP1.ratn F_x45) (VP1.ratn F_x46) fun b51 w50 A51 B51 ow50=>?_
 have N4_51:=Nat.ne_of_lt (Nat.lt_of_lt_of_le (lt_of B4) A51)
 have N28_51:=Nat.ne_of_lt (Nat.lt_of_lt_of_le (lt_of B28) A51)
 have N35_51:=Nat.ne_of_lt (Nat.lt_of_lt_of_le (lt_of B35) A51)
 have N47_51:=Nat.ne_of_lt (Nat.lt_of_lt_of_le (lt_of B47) A51)
 replace A51:=Nat.le_trans bel.size A51
 replace B4:=(ow50.block b4 (lt_of B4)).trans B4
 replace B28:=(ow50.block b28 (lt_of B28)).trans B28
 replace B35:=(ow50.block b35 (lt_of B35)).trans B35
 replace B47:=(ow50.block b47 (lt_of B47)).trans B47
 replace B_g0:=fun h=>(ow50.block _ (lt_of (B_g0 h))).trans (B_g0 h)
 replace F_x22:=(RatN x.re).grow (Rgn.Below.growS ow50 (Nat.le_refl _) _) F_x22
 replace F_x23:=(RatN x.im).grow (Rgn.Below.growS ow50 (Nat.le_refl _) _) F_x23
 replace F_x39:=(RatN y.re).grow (Rgn.Below.growS ow50 (Nat.le_refl _) _) F_x39
 replace F_x40:=(RatN y.im).grow (Rgn.Below.growS ow50 (Nat.le_refl _) _) F_x40
 replace F_x43:=(RatN y.re).grow (Rgn.Below.growS ow50 (Nat.le_refl _) _) F_x43
 replace F_x44:=(RatN y.im).grow (Rgn.Below.growS ow50 (Nat.le_refl _) _) F_x44
 replace F_x45:=(RatN y.re).grow (Rgn.Below.growS ow50 (Nat.le_refl _) _) F_x45
 replace F_x46:=(RatN y.im).grow (Rgn.Below.growS ow50 (Nat.le_refl _) _) F_x46
 replace bel:=bel.trans (ow50.mono bel.size)
 refine wpList_as (fr (.slice p_g0 ([rg x,rg y]).length c_g0::U::u1 0::u1 1::.slice (some ⟨b4,0,none⟩) 1 2::U::u11 2::u12 5::u12 7::.slice p_g0 ([rg x,rg y]).length c_g0::.int .i64 2::.slice (some ⟨b4,0,none⟩) 0 2::u3 0::u3 1::.int .i64 1::u10 0::u11 0::u11 1::u12 2::u12 0::u12 1::u12 3::u12 4::u13 0::u13 1::.slice (some ⟨b4,0,none⟩) 1 2::.agg #[x45,x46]::.slice (some ⟨b51,0,none⟩) 1 1::.slice (some ⟨b4,0,none⟩) 1 2::.int .i64 1::U::[])) (by kernel_rfl) ?_
 refine wpT_ap1n rfl rfl rfl rfl (by decide) B4 B51 rfl (cur' := #[x22,x23,x45,x46]) rfl (VP1.ratn F_x45) (VP1.ratn F_x46) fun w52 hw52 ow52=>?_
 have sw52:Local w50 b4:=⟨_,_,_,B4,rfl⟩
 replace F_x22:=(RatN x.re).grow (only_growL ow52 sw52 _) F_x22
 replace F_x23:=(RatN x.im).grow (only_growL ow52 sw52 _) F_x23
 replace F_x39:=(RatN y.re).grow (only_growL ow52 sw52 _) F_x39
 replace F_x40:=(RatN y.im).grow (only_growL ow52 sw52 _) F_x40
 replace F_x43:=(RatN y.re).grow (only_growL ow52 sw52 _) F_x43
 replace F_x44:=(RatN y.im).grow (only_growL ow52 sw52 _) F_x44
 replace F_x45:=(RatN y.re).grow (only_growL ow52 sw52 _) F_x45
 replace F_x46:=(RatN y.im).grow (only_growL ow52 sw52 _) F_x46
 replace B_g0:=fun h=>(ow52.block _ (lt_of (B_g0 h)) (Nat.ne_of_lt (Nat.lt_of_lt_of_le (X_g0 h) A4))).trans (B_g0 h)
 replace B4:=hw52
 replace B28:=ow52.keep B28 (Ne.symm N4_28)
 replace B51:=ow52.keep B51 (Ne.symm N4_51)
 replace bel:=bel.trans (only_below' ow52 A4 bel.size)
 refine wpList_as (fr (.slice p_g0 ([rg x,rg y]).length c_g0::U::u1 0::u1 1::.slice (some ⟨b4,0,none⟩) 1 2::U::u11 2::u12 5::u12 7::.slice p_g0 ([rg x,rg y]).length c_g0::.int .i64 2::.slice (some ⟨b4,0,none⟩) 0 2::u3 0::u3 1::.int .i64 1::u10 0::u11 0::u11 1::u12 2::u12 0::u12 1::u12 3::u12 4::u13 0::u13 1::.slice (some ⟨b4,0,none⟩) 1 2::.agg #[x45,x46]::.slice (some ⟨b51,0,none⟩) 1 1::.slice (some ⟨b4,0,none⟩) 2 2::.int .i64 1::U::[])) (by kernel_rfl) ?_
 refine wpT_val rfl (ex_assign rfl) ?_
 refine wpList_as (fr (.slice p_g0 ([rg x,rg y]).length c_g0::U::u1 0::u1 1::.slice (some ⟨b4,0,none⟩) 2 2::U::u11 2::u12 5::u12 7::.slice p_g0 ([rg x,rg y]).length c_g0::.int .i64 2::.slice (some ⟨b4,0,none⟩) 0 2::u3 0::u3 1::.int .i64 1::u10 0::u11 0::u11 1::u12 2::u12 0::u12 1::u12 3::u12 4::u13 0::u13 1::.slice (some ⟨b4,0,none⟩) 1 2::.agg #[x45,x46]::.slice (some ⟨b51,0,none⟩) 1 1::.slice (some ⟨b4,0,none⟩) 2 2::.int .i64 1::U::[])) (by kernel_rfl) ?_
 refine wpList_nil ?_
 show _
 refine inBlock_normal ?_
 refine K33 _ _ ?_
 refine wp_region_list ?_
 refine wpT_val (v:=.int .i64 2) rfl (by have aw_:IntKind.wrap .i64 2 = 2:=(by decide); go_simp) ?_
 refine wpList_as (fr (.slice p_g0 ([rg x,rg y]).length c_g0::U::u1 0::u1 1::.slice (some ⟨b4,0,none⟩) 2 2::U::u11 2::u12 5::u12 7::.slice p_g0 ([rg x,rg y]).length c_g0::.int .i64 2::.slice (some ⟨b4,0,none⟩) 0 2::u3 0::u3 1::.int .i64 1::u10 0::u11 0::u11 1::u12 2::u12 0::u12 1::u12 3::u12 4::u13 0::u13 1::.slice (some ⟨b4,0,none⟩) 1 2::.agg #[x45,x46]::.slice (some ⟨b51,0,none⟩) 1 1::.slice (some ⟨b4,0,none⟩) 2 2::.int .i64 2::U::[])) (by kernel_rfl) ?_
 refine wpT_val rfl (ex_move rfl) ?_
 refine wpList_as (fr (.slice p_g0 ([rg x,rg y]).length c_g0::U::u1 0::u1 1::.slice (some ⟨b4,0,none⟩) 2 2::U::u11 2::u12 5::u12 7::.slice p_g0 ([rg x,rg y]).length c_g0::.int .i64 2::.slice (some ⟨b4,0,none⟩) 0 2::u3 0::u3 1::.int .i64 2::u10 0::u11 0::u11 1::u12 2::u12 0::u12 1::u12 3::u12 4::u13 0::u13 1::.slice (some ⟨b4,0,none⟩) 1 2::.agg #[x45,x46]::.slice (some ⟨b51,0,none⟩) 1 1::.slice (some ⟨b4,0,none⟩) 2 2::.int .i64 2::U::[])) (by kernel_rfl) ?_
 refine wpList_nil ?_
 show _
 refine hK30 _ _ ?_
 refine rounds_k fun K53 hK53=>?_
 refine gs 1 (Amb S W) fun _ K54=>?_
 refine .e rfl (V:=.bool false) (fun H=>x_cmp (H.v 14 (.int .i64 2)) (H.z 13 E3_1)) ?_
 refine .dk (fun u=>.slice p_g0 ([rg x,rg y]).length c_g0::U::u1 0::u1 1::.slice (some ⟨b4,0,none⟩) 2 2::U::u11 2::u12 5::u12 7::.slice p_g0 ([rg x,rg y]).length c_g0::.int .i64 2::.slice (some ⟨b4,0,none⟩) 0 2::u3 0::u3 1::.int .i64 2::u 0::u11 0::u11 1::u12 2::u12 0::u12 1::u12 3::u12 4::u13 0::u13 1::.slice (some ⟨b4,0,none⟩) 1 2::.agg #[x45,x46]::.slice (some ⟨b51,0,none⟩) 1 1::.slice (some ⟨b4,0,none⟩) 2 2::.int .i64 2::U::[]) K54 bel fun u16 w16 D bel=>?_
 have E16_0:=D.q 0
 replace B4:=D.k B4
 replace B51:=D.k B51
 replace B_g0:=fun h=>D.k (B_g0 h)
 replace F_x22:=D.gr (RatN x.re) F_x22
 replace F_x23:=D.gr (RatN x.im) F_x23
 replace F_x39:=D.gr (RatN y.re) F_x39
 replace F_x40:=D.gr (RatN y.im) F_x40
 replace F_x43:=D.gr (RatN y.re) F_x43
 replace F_x44:=D.gr (RatN y.im) F_x44
 replace F_x45:=D.gr (RatN y.re) F_x45
 replace F_x46:=D.gr (RatN y.im) F_x46
 clear D
 refine wp_seq_k fun _ K55=>?_
 refine wp_cond_false (by exact E16_0) ?_
 refine wp_exit ?_
 refine then_exit ?_
 refine then_exit ?_
 refine inBlock_here ?_
 refine K5 _ _ ?_
 refine gs 3 (Amb S W) fun _ K56=>?_
 refine .mz rfl 4 (V:=.slice (some ⟨b4,0,none⟩) 2 2) rfl ?_
 refine .mv rfl 0 ?_
 refine .mc rfl ?_
 refine .dk (fun u=>.slice p_g0 ([rg x,rg y]).length c_g0::U::u 1::u 2::.slice (some ⟨b4,0,none⟩) 2 2::U::u11 2::u12 5::u12 7::.slice p_g0 ([rg x,rg y]).length c_g0::.int .i64 2::.slice (some ⟨b4,0,none⟩) 0 2::u3 0::u3 1::.int .i64 2::u16 0::u11 0::u11 1::u12 2::u12 0::u12 1::u12 3::u12 4::u13 0::u13 1::.slice (some ⟨b4,0,none⟩) 1 2::.agg #[x45,x46]::.slice (some ⟨b51,0,none⟩) 1 1::.slice (some ⟨b4,0,none⟩) 2 2::.int .i64 2::u 0::[]) K56 bel fun u17 w17 D bel=>?_
 have E17_1:=D.q 1
 have E17_2:=D.q 2
 replace B4:=D.k B4
 replace B_g0:=fun h=>D.k (B_g0 h)
 replace F_x22:=D.gr (RatN x.re) F_x22
 replace F_x23:=D.gr (RatN x.im) F_x23
 replace F_x45:=D.gr (RatN y.re) F_x45
 replace F_x46:=D.gr (RatN y.im) F_x46
 clear D
 refine wp_ret ?_
 exact ret_ok rfl (by exact results_two rfl (by exact E17_1) (by exact E17_2)) ⟨b4,_,_,_,_,rfl,A4,B4,F_x22,F_x23,F_x45,F_x46,bel⟩
end Go.Proofs.YtllohoibifcmdaaGreat
namespace Go.Proofs.YtllohoibifcmdaaGreat
open Go.RowKit Rgn
theorem gaOpened2 {S:Nat → Prop} {W:World} {v0:Value} {x y:Cx} (l:List RG) (t0:GSl W v0 l) (p0:l = [rg x,rg y]) (p1:gfits (rg x) = true ∧ gfits (rg y) = true):Calls Tryz.prog 154 #[v0] W (RetN2 x y S W):=by
 subst p0
 exact gaOpenedP x y t0 p1.1 p1.2
end Go.Proofs.YtllohoibifcmdaaGreat
namespace Go.Proofs.YtllohoibifcmdaaGreat
open Go.RowKit Rgn
set_option maxHeartbeats 4000000
set_option maxRecDepth 100000
variable {S:Nat → Prop} {W:World}
theorem gaSMul {v0:Value} {v1:Value} {bc:Nat} {T_bc:TypeId} {fr_bc:Nat × Nat} (x:Cx) (y:Cx) (t0:(NumP x).p S v0 W) (t1:(NumP y).p S v1 W) (B_bc:W.heap[bc]? = some (.cells #[.func (.func 91) #[] #[]] T_bc fr_bc)) (p0:ht x.re + ht x.im + ht y.re + ht y.im ≤ 17179869184) :
  Calls Tryz.prog 156 #[v0,v1,.pointer (some ⟨bc,0,none⟩)] W (Ret (VP.tup (NumP (x.mul y)) (VP.is (.int .i64 0))) S W):=by
 obtain ⟨x1,x2,rfl,F_x1,F_x2⟩:=t0
 replace F_x1:(RatN x.re).p (Amb S W) x1 W:=(RatN x.re).mono (fun _ _ h=>.inl h) F_x1
 replace F_x2:(RatN x.im).p (Amb S W) x2 W:=(RatN x.im).mono (fun _ _ h=>.inl h) F_x2
 obtain ⟨x3,x4,rfl,F_x3,F_x4⟩:=t1
 replace F_x3:(RatN y.re).p (Amb S W) x3 W:=(RatN y.re).mono (fun _ _ h=>.inl h) F_x3
 replace F_x4:(RatN y.im).p (Amb S W) x4 W:=(RatN y.im).mono (fun _ _ h=>.inl h) F_x4
 have bel:=b0 W
 go_enter Tryz.func156,Tryz.ntmps156
 refine gs 4 (Amb S W) fun _ K5=>?_
 refine .bx rfl (fun H=>H.v 0 (.agg #[x1,x2])) ?_
 refine .bx rfl (fun H=>H.v 1 (.agg #[x3,x4])) ?_
 refine .al rfl (#[.pointer none,.pointer none]) ?_
 refine .mc rfl ?_
 refine .dk (fun u=>.agg #[x1,x2]::.agg #[x3,x4]::pt bc::sq u 0 4 (us 4)) K5 bel fun u1 w1 D bel=>?_
 obtain ⟨b6,E1_0,A6,B6⟩:=D.nw 0
 obtain ⟨b7,E1_1,A7,B7⟩:=D.nw 1
 obtain ⟨b8,E1_2,A8,B8⟩:=D.nw 2
 have E1_3:=D.q 3
 have N_bc_b8:=D.n1 2 (lt_of B_bc) E1_2
 have N6_8:=D.n2 0 2 E1_0 E1_2
 have N7_8:=D.n2 1 2 E1_1 E1_2
 replace B_bc:=D.k B_bc
 replace F_x1:=D.gr (RatN x.re) F_x1
 replace F_x2:=D.gr (RatN x.im) F_x2
 replace F_x3:=D.gr (RatN y.re) F_x3
 replace F_x4:=D.gr (RatN y.im) F_x4
 clear D
 refine gs1 6 (Amb S W) 4 B8 fun _ K9=>?_
 refine .e rfl (V:=.func (.func 91) #[] #[]) (fun H=>x_ldc (H.v 2 (pt bc)) (H.b1 B_bc (Ne.symm N_bc_b8))) ?_
 refine .e rfl (fun H=>x_ldr (H.z 3 E1_0) (H.b1 B6 (Ne.symm N6_8))) ?_
 refine .e rfl (fun H=>x_ldr (H.z 4 E1_1) (H.b1 B7 (Ne.symm N7_8))) ?_
 refine Go2.callR (i:=3) rfl (G0 rfl) [] rfl (NumP (x.mul y)) (f:=91) (fun u μ ρ H=>⟨#[.agg #[x1,x2],.agg #[x3,x4]],by have e8:=H.g 8 1; have e9:=H.g 9 2; have e7:=H.g 7 0; exact ex_callv rfl e7 Tryz.func91 (by kernel_rfl) (by kernel_rfl) (by simp only [List.map_toArray,List.map_cons,List.map_nil,e8,e9]; first | done | rfl),eNMul (x:=x) (y:=y) (NumP.mk (H.was _ [] F_x1) (H.was _ [] F_x2)) (NumP.mk (H.was _ [] F_x3) (H.was _ [] F_x4)) (by omega)⟩) ?_
 refine Go2.storeOld (i:=4) 0 b8 rfl rfl rfl ⟨_,_,_,B8,rfl⟩ (SP.old 0 b8 [3] (fun u=>#[((u 3).v.cells.getD 0 undef),((u 3).v.cells.getD 1 undef)]) 125 (by intro u u' h; simp [h 3 (by simp)]) (lt_of B8) (by intro y k hy; match y,hy with | 0,hy=>rfl)) (fun u μ ρ H=>?_) ?_
 · have e5:=H.z 5 E1_2; have e10:=H.r 10 3; have hb:=H.blkOld B8 0 4 rfl (.inl rfl)
   obtain ⟨x1,x2,h1,h2,h3⟩:=(H.a 3 rfl)
   have o1:=VP1.ratn h2
   have o2:=VP1.ratn h3
   rw [h1] at e10
   refine ⟨μ.setRow b8 #[x1,x2],ex_store_row 125 _ _ rfl e5 e10 hb (by kernel_rfl) rfl (by simp [o1,o2]),fun g=>?_,setRow_only _ _ _⟩
   show (World.setRow _ _ _).heap[b8]? = _
   rw [setRow_at hb]; try simp [upd,h1,Value.cells]
 refine .mc rfl ?_
 refine .d1 (fun u=>.agg #[x1,x2]::.agg #[x3,x4]::pt bc::sq u1 0 3 (u 5::sq u 0 4 [])) K9 bel A8 fun u2 w2 D bel=>?_
 obtain ⟨x10,x11,E2_3,F_x10,F_x11⟩:=(D.rr 3)
 have E2_5:=D.q 5
 replace B8:w2.heap[b8]? = _:=(D.a 4 rfl)
 simp only [Value.cells,E2_3] at B8
 clear D
 refine wp_ret ?_
 refine ret_ok rfl (by exact results_mix rfl (by exact E1_2) B8 Tryz.underlying125 rfl (by kernel_rfl) (by exact E2_5)) ⟨_,rfl,?_,bel⟩
 exact ⟨_,_,rfl,(NumP.mk F_x10 F_x11),rfl⟩
theorem gaTwoMul {v2:Value} (x:Cx) (y:Cx) (t2:(CloP 156 (.func (.func 91) #[] #[])).p S v2 W) (p0:gfits (rg x) = true) (p1:gfits (rg y) = true) :
  Calls Tryz.prog 89 #[gV x,gV y,v2] W (RetV (.tuple #[.agg #[.bool (gcut (x.mul y)).re.a.n,.string (gcut (x.mul y)).re.a.s,.bool (gcut (x.mul y)).re.b.n,.string (gcut (x.mul y)).re.b.s,.bool (gcut (x.mul y)).im.a.n,.string (gcut (x.mul y)).im.a.s,.bool (gcut (x.mul y)).im.b.n,.string (gcut (x.mul y)).im.b.s],.int .i64 (gerr (x.mul y))]) W):=by
 obtain ⟨b1,T1,fr_b1,rfl,B1,_,_⟩:=t2
 have f1:=gfits_ht2 p0
 have f2:=gfits_ht2 p1
 have f3:=hc_mul x y
 have bel:=b0 W
 go_enter Tryz.func89,Tryz.ntmps89
 refine gs 4 (Amb S W) fun _ K2=>?_
 refine .bx rfl (fun H=>H.v 0 (gV x)) ?_
 refine .bx rfl (fun H=>H.v 1 (gV y)) ?_
 refine .al rfl zG ?_
 refine .mc rfl ?_
 refine .dk (fun u=>gV x::gV y::.func (.func 156) #[] #[.pointer (some ⟨b1,0,none⟩)]::u 0::u 1::U::u 2::u 3::us 33) K2 bel fun u1 w1 D bel=>?_
 obtain ⟨b3,E1_0,A3,B3⟩:=D.nw 0
 obtain ⟨b4,E1_1,A4,B4⟩:=D.nw 1
 obtain ⟨b5,E1_2,A5,B5⟩:=D.nw 2
 have E1_3:=D.q 3
 have N1_5:=D.n1 2 (lt_of B1) E1_2
 have N3_5:=D.n2 0 2 E1_0 E1_2
 have N4_5:=D.n2 1 2 E1_1 E1_2
 replace B1:=D.k B1
 clear D
 refine wp_seq_k fun _ K6=>?_
 refine wp_region_list ?_
 refine wpT_val (v:=gV x) rfl (ex_load_row 30 _ rfl (by exact E1_0) B3 Tryz.underlying30 rfl (by kernel_rfl)) ?_
 refine wpList_as (fr (gV x::gV y::.func (.func 156) #[] #[.pointer (some ⟨b1,0,none⟩)]::u1 0::u1 1::U::u1 2::u1 3::U::U::U::U::gV x::us 28)) (by kernel_rfl) ?_
 refine wpT_val (v:=gV y) rfl (ex_load_row 30 _ rfl (by exact E1_1) B4 Tryz.underlying30 rfl (by kernel_rfl)) ?_
 refine wpList_as (fr (gV x::gV y::.func (.func 156) #[] #[.pointer (some ⟨b1,0,none⟩)]::u1 0::u1 1::U::u1 2::u1 3::U::U::U::U::gV x::gV y::us 27)) (by kernel_rfl) ?_
 refine wpT_lit2 (r0:=rg x) (r1:=rg y) rfl rfl rfl rfl fun v8 w7 tw7 mw7 ow7=>?_
 obtain ⟨p_q,c_q,cur_q,T_q,fr_q,rfl,y_q,z_q,P_q,B_q,Q_q⟩:=GSl.open tw7
 replace mw7:=mw7 _ _ _ rfl
 have N_q_b1:=Nat.ne_of_lt (Nat.lt_of_lt_of_le (lt_of B1) mw7)
 have N_q_b3:=Nat.ne_of_lt (Nat.lt_of_lt_of_le (lt_of B3) mw7)
 have N_q_b4:=Nat.ne_of_lt (Nat.lt_of_lt_of_le (lt_of B4) mw7)
 have N_q_b5:=Nat.ne_of_lt (Nat.lt_of_lt_of_le (lt_of B5) mw7)
 replace B1:=(ow7.block b1 (lt_of B1)).trans B1
 replace B3:=(ow7.block b3 (lt_of B3)).trans B3
 replace B4:=(ow7.block b4 (lt_of B4)).trans B4
 replace B5:=(ow7.block b5 (lt_of B5)).trans B5
 replace bel:=bel.trans (ow7.mono bel.size)
 replace P_q:=Lib.hid P_q
 have X_q:=GSl.lt B_q
 refine wpList_as (fr (gV x::gV y::.func (.func 156) #[] #[.pointer (some ⟨b1,0,none⟩)]::u1 0::u1 1::U::u1 2::u1 3::U::U::U::U::gV x::gV y::.slice p_q ([rg x,rg y]).length c_q::us 26)) (by kernel_rfl) ?_
 refine wpT_nums2 (x:=x) (y:=y) (S:=Amb S W) rfl (ex_call rfl rfl Tryz.func154 (by kernel_rfl) (by kernel_rfl) (by simp only [List.map_toArray,List.map_cons,List.map_nil]; rfl)) (gaOpened2 (l:=[rg x,rg y]) (GSl.mk y_q z_q P_q.out B_q Q_q) (by first | omega | rfl | exact all_two p0 p1) (by first | omega | rfl | exact all_two p0 p1)) fun b10 x11 x12 x13 x14 w9 h0 h1 h2 h3 A10 B10 ow9=>?_
 have F_x11:(RatN x.re).p (Amb S W) x11 w9:=(RatN x.re).mono (fun _ _ h=>h.elim id (fun h=>.inr (Nat.le_trans bel.size h))) h0
 have F_x12:(RatN x.im).p (Amb S W) x12 w9:=(RatN x.im).mono (fun _ _ h=>h.elim id (fun h=>.inr (Nat.le_trans bel.size h))) h1
 have F_x13:(RatN y.re).p (Amb S W) x13 w9:=(RatN y.re).mono (fun _ _ h=>h.elim id (fun h=>.inr (Nat.le_trans bel.size h))) h2
 have F_x14:(RatN y.im).p (Amb S W) x14 w9:=(RatN y.im).mono (fun _ _ h=>h.elim id (fun h=>.inr (Nat.le_trans bel.size h))) h3
 have N1_10:=Nat.ne_of_lt (Nat.lt_of_lt_of_le (lt_of B1) A10)
 have N3_10:=Nat.ne_of_lt (Nat.lt_of_lt_of_le (lt_of B3) A10)
 have N4_10:=Nat.ne_of_lt (Nat.lt_of_lt_of_le (lt_of B4) A10)
 have N5_10:=Nat.ne_of_lt (Nat.lt_of_lt_of_le (lt_of B5) A10)
 replace A10:=Nat.le_trans bel.size A10
 replace B1:=(ow9.block b1 (lt_of B1)).trans B1
 replace B3:=(ow9.block b3 (lt_of B3)).trans B3
 replace B4:=(ow9.block b4 (lt_of B4)).trans B4
 replace B5:=(ow9.block b5 (lt_of B5)).trans B5
 replace B_q:=fun h=>(ow9.block _ (lt_of (B_q h))).trans (B_q h)
 replace bel:=bel.trans (ow9.mono bel.size)
 refine wpList_as (fr (gV x::gV y::.func (.func 156) #[] #[.pointer (some ⟨b1,0,none⟩)]::u1 0::u1 1::U::u1 2::u1 3::U::U::U::U::gV x::gV y::.slice p_q ([rg x,rg y]).length c_q::.tuple #[.slice (some ⟨b10,0,none⟩) 2 2,.int .i64 0]::us 25)) (by kernel_rfl) ?_
 refine wpT_val rfl (ex_move rfl) ?_
 refine wpList_as (fr (gV x::gV y::.func (.func 156) #[] #[.pointer (some ⟨b1,0,none⟩)]::u1 0::u1 1::U::u1 2::u1 3::U::U::U::.tuple #[.slice (some ⟨b10,0,none⟩) 2 2,.int .i64 0]::gV x::gV y::.slice p_q ([rg x,rg y]).length c_q::.tuple #[.slice (some ⟨b10,0,none⟩) 2 2,.int .i64 0]::us 25)) (by kernel_rfl) ?_
 refine wpT_val (v:=.slice (some ⟨b10,0,none⟩) 2 2) rfl (x_ex (vs:=#[.slice (some ⟨b10,0,none⟩) 2 2,.int .i64 0]) rfl) ?_
 refine wpList_as (fr (gV x::gV y::.func (.func 156) #[] #[.pointer (some ⟨b1,0,none⟩)]::u1 0::u1 1::U::u1 2::u1 3::U::U::U::.tuple #[.slice (some ⟨b10,0,none⟩) 2 2,.int .i64 0]::gV x::gV y::.slice p_q ([rg x,rg y]).length c_q::.tuple #[.slice (some ⟨b10,0,none⟩) 2 2,.int .i64 0]::.slice (some ⟨b10,0,none⟩) 2 2::us 24)) (by kernel_rfl) ?_
 refine wpT_val (v:=.int .i64 0) rfl (x_ex (vs:=#[.slice (some ⟨b10,0,none⟩) 2 2,.int .i64 0]) rfl) ?_
 refine wpList_as (fr (gV x::gV y::.func (.func 156) #[] #[.pointer (some ⟨b1,0,none⟩)]::u1 0::u1 1::U::u1 2::u1 3::U::U::U::.tuple #[.slice (some ⟨b10,0,none⟩) 2 2,.int .i64 0]::gV x::gV y::.slice p_q ([rg x,rg y]).length c_q::.tuple #[.slice (some ⟨b10,0,none⟩) 2 2,.int .i64 0]::.slice (some ⟨b10,0,none⟩) 2 2::.int .i64 0::us 23)) (by kernel_rfl) ?_
 refine wpT_val rfl (ex_assign rfl) ?_
 refine wpList_as (fr (gV x::gV y::.func (.func 156) #[] #[.pointer (some ⟨b1,0,none⟩)]::u1 0::u1 1::U::u1 2::u1 3::.slice (some ⟨b10,0,none⟩) 2 2::U::U::.tuple #[.slice (some ⟨b10,0,none⟩) 2 2,.int .i64 0]::gV x::gV y::.slice p_q ([rg x,rg y]).length c_q::.tuple #[.slice (some ⟨b10,0,none⟩) 2 2,.int .i64 0]::.slice (some ⟨b10,0,none⟩) 2 2::.int .i64 0::us 23)) (by kernel_rfl) ?_
 refine wpT_val rfl (ex_assign rfl) ?_
 refine wpList_as (fr (gV x::gV y::.func (.func 156) #[] #[.pointer (some ⟨b1,0,none⟩)]::u1 0::u1 1::U::u1 2::u1 3::.slice (some ⟨b10,0,none⟩) 2 2::.int .i64 0::U::.tuple #[.slice (some ⟨b10,0,none⟩) 2 2,.int .i64 0]::gV x::gV y::.slice p_q ([rg x,rg y]).length c_q::.tuple #[.slice (some ⟨b10,0,none⟩) 2 2,.int .i64 0]::.slice (some ⟨b10,0,none⟩) 2 2::.int .i64 0::us 23)) (by kernel_rfl) ?_
 refine wpList_nil ?_
 show _
 refine K6 _ _ ?_
 refine wp_seq_k fun _ K15=>?_
 refine gs 2 (Amb S W) fun _ K16=>?_
 refine .mz rfl 9 (V:=.int .i64 0) rfl ?_
 refine .e rfl (V:=.bool false) (fun H=>x_cm (H.g 18 0) (H.c _) (bne_self_eq_false (show Int from 0))) ?_
 refine .dk (fun u=>gV x::gV y::.func (.func 156) #[] #[.pointer (some ⟨b1,0,none⟩)]::u1 0::u1 1::U::u1 2::u1 3::.slice (some ⟨b10,0,none⟩) 2 2::.int .i64 0::U::.tuple #[.slice (some ⟨b10,0,none⟩) 2 2,.int .i64 0]::gV x::gV y::.slice p_q ([rg x,rg y]).length c_q::.tuple #[.slice (some ⟨b10,0,none⟩) 2 2,.int .i64 0]::.slice (some ⟨b10,0,none⟩) 2 2::.int .i64 0::u 0::u 1::us 21) K16 bel fun u3 w3 D bel=>?_
 have E3_1:=D.q 1
 replace B1:=D.k B1
 replace B5:=D.k B5
 replace B10:=D.k B10
 replace B_q:=fun h=>D.k (B_q h)
 replace F_x11:=D.gr (RatN x.re) F_x11
 replace F_x12:=D.gr (RatN x.im) F_x12
 replace F_x13:=D.gr (RatN y.re) F_x13
 replace F_x14:=D.gr (RatN y.im) F_x14
 clear D
 refine wp_cond_false (by exact E3_1) ?_
 refine wp_skip ?_
 refine K15 _ _ ?_
 refine gd 14 (Amb S W) fun _ K17=>?_
 refine .mz rfl 2 (V:=.func (.func 156) #[] #[.pointer (some ⟨b1,0,none⟩)]) rfl ?_
 refine .mz rfl 8 (V:=.slice (some ⟨b10,0,none⟩) 2 2) rfl ?_
 refine .e rfl (V:=pt b10) (fun H=>x_ixl (H.g 24 1) (H.c (.int .i64 0))) ?_
 refine .lp rfl 2 (#[x11,x12]) B10 ?_
 refine .mz rfl 8 (V:=.slice (some ⟨b10,0,none⟩) 2 2) rfl ?_
 refine .e rfl (V:=.pointer (some ⟨b10,2,none⟩)) (fun H=>x_ixl (H.g 27 4) (H.c (.int .i64 1))) ?_
 refine .lp rfl 5 (#[x13,x14]) B10 ?_
 refine Go2.callR (i:=7) rfl (G0 rfl) [] rfl (VP.tup (NumP (x.mul y)) (VP.is (.int .i64 0))) (f:=156) (fun u μ ρ H=>⟨#[.agg #[x11,x12],.agg #[x13,x14],pt b1],by have e26:=H.g 26 3; have e29:=H.g 29 6; have e23:=H.g 23 0; exact ex_callc rfl e23 Tryz.func156 (by kernel_rfl) (by kernel_rfl) (by simp only [List.map_toArray,List.map_cons,List.map_nil,e26,e29]; first | done | rfl),gaSMul (x:=x) (y:=y) (bc:=b1) (NumP.mk (H.was _ [] F_x11) (H.was _ [] F_x12)) (NumP.mk (H.was _ [] F_x13) (H.was _ [] F_x14)) (H.b B1) (by first | omega | rfl | exact all_two p0 p1)⟩) ?_
 refine .mn rfl 7 [7] ?_
 refine Go2.fn (i:=9) rfl (G0 rfl) (.val 9 [7,8] (NumP (x.mul y))) (fun u μ ρ H=>by have e22:=H.r 22 8; have h0:=(H.a 8 rfl); obtain ⟨x0,x1,h1,h2⟩:=h0; rw [h1] at e22; exact ⟨x0,by clear H; go_simp,SP.tupKeep (by decide) (by decide) h2.1⟩) ?_
 refine .e rfl (V:=.int .i64 0) (fun H=>by have e22:=H.r 22 8; have h0:=(H.a 8 rfl); obtain ⟨x0,x1,h1,h2,h3⟩:=h0; rw [h1] at e22; have h3:x1 = .int .i64 0:=h3; subst h3; clear H; go_simp) ?_
 refine .al rfl (#[.pointer none,.pointer none]) ?_
 refine Go2.storeOwn (i:=12) (m:=11) rfl rfl (.head _) (SP.cells 11 [9] (fun u=>#[((u 9).v.cells.getD 0 undef),((u 9).v.cells.getD 1 undef)]) 125 (by intro u u' h; simp [h 9 (by simp)])) (fun u μ ρ b H h0 hB hb=>?_) ?_
 · have e10:=H.r 10 11; have e31:=H.r 31 9
   rw [h0] at e10
   obtain ⟨x1,x2,h1,h2,h3⟩:=(H.a 9 rfl)
   have o1:=VP1.ratn h2
   have o2:=VP1.ratn h3
   rw [h1] at e31
   refine ⟨μ.setRow b #[x1,x2],ex_store_row 125 _ _ rfl e10 e31 hb (by kernel_rfl) rfl (by simp [o1,o2]),fun g=>⟨b,?_,hB,?_⟩,setRow_only _ _ _⟩
   · rw [upd_other _ _ (by decide)]; exact h0
   · rw [setRow_at hb]; try simp [upd,h1,Value.cells]
 refine .mv rfl 10 ?_
 refine .dk (fun u=>gV x::gV y::.func (.func 156) #[] #[.pointer (some ⟨b1,0,none⟩)]::u1 0::u1 1::U::u1 2::u1 3::.slice (some ⟨b10,0,none⟩) 2 2::u 13::u 11::.tuple #[.slice (some ⟨b10,0,none⟩) 2 2,.int .i64 0]::gV x::gV y::.slice p_q ([rg x,rg y]).length c_q::.tuple #[.slice (some ⟨b10,0,none⟩) 2 2,.int .i64 0]::.slice (some ⟨b10,0,none⟩) 2 2::.int .i64 0::u3 0::u3 1::U::U::u 8::sq u 0 8 (u 9::u 10::us 8)) K17 bel fun u4 w4 D bel=>?_
 obtain ⟨x18,x19,E4_9,F_x18,F_x19⟩:=(D.rr 9)
 obtain ⟨b20,E4_11,A20,B20⟩:=(D.a 12 rfl)
 replace A20:=le2 D.le A20
 have E4_13:=D.q 13
 have N5_20:=D.n1 11 (lt_of B5) E4_11
 replace B5:=D.k B5
 simp only [Value.cells,E4_9,E4_11] at B20
 replace B20:w4.heap[b20]? = some (.cells #[x18,x19] 125 (0,0)):=B20
 replace B_q:=fun h=>D.k (B_q h)
 clear D
 refine wp_seq_k fun _ K21=>?_
 refine gs 2 (Amb S W) fun _ K22=>?_
 refine .mz rfl 9 E4_13 ?_
 refine .e rfl (V:=.bool false) (fun H=>x_cm (H.g 33 0) (H.c _) (bne_self_eq_false (show Int from 0))) ?_
 refine .dk (fun u=>gV x::gV y::.func (.func 156) #[] #[.pointer (some ⟨b1,0,none⟩)]::u1 0::u1 1::U::u1 2::u1 3::.slice (some ⟨b10,0,none⟩) 2 2::u4 13::u4 11::.tuple #[.slice (some ⟨b10,0,none⟩) 2 2,.int .i64 0]::gV x::gV y::.slice p_q ([rg x,rg y]).length c_q::.tuple #[.slice (some ⟨b10,0,none⟩) 2 2,.int .i64 0]::.slice (some ⟨b10,0,none⟩) 2 2::.int .i64 0::u3 0::u3 1::U::U::u4 8::sq u4 0 8 (u4 9::u4 10::u 0::u 1::us 6)) K22 bel fun u5 w5 D bel=>?_
 have E5_1:=D.q 1
 replace B5:=D.k B5
 replace B20:=D.k B20
 replace B_q:=fun h=>D.k (B_q h)
 replace F_x18:=D.gr (RatN ((x.mul y).re)) F_x18
 replace F_x19:=D.gr (RatN ((x.mul y).im)) F_x19
 clear D
 refine wp_cond_false (by exact E5_1) ?_
 refine wp_skip ?_
 refine K21 _ _ ?_
 refine gs1 6 (Amb S W) 4 B5 fun _ K23=>?_
 refine .e rfl (fun H=>x_ldr (H.z 10 E4_11) (H.b1 B20 N5_20)) ?_
 refine .cK rfl Tryz.func155 (fun H=>⟨_,ar1 (H.g 37 0),eTold _ (NumP.mk (VP.any _ (H.was _ [] F_x18)) (VP.any _ (H.was _ [] F_x19))) (by first | omega | rfl | exact all_two p0 p1)⟩) ?_
 refine .e rfl (V:=rgV (gcut (x.mul y))) (fun H=>x_ex (H.g 38 1)) ?_
 refine .e rfl (V:=.int .i64 (gerr (x.mul y))) (fun H=>x_ex (H.g 38 1)) ?_
 refine .s1 rfl B5 (fun H=>⟨H.z 6 E1_2,H.g 39 2⟩) ?_
 refine .mv rfl 3 ?_
 refine .d1 (fun u=>gV x::gV y::.func (.func 156) #[] #[.pointer (some ⟨b1,0,none⟩)]::u1 0::u1 1::U::u1 2::u 5::.slice (some ⟨b10,0,none⟩) 2 2::u4 13::u4 11::.tuple #[.slice (some ⟨b10,0,none⟩) 2 2,.int .i64 0]::gV x::gV y::.slice p_q ([rg x,rg y]).length c_q::.tuple #[.slice (some ⟨b10,0,none⟩) 2 2,.int .i64 0]::.slice (some ⟨b10,0,none⟩) 2 2::.int .i64 0::u3 0::u3 1::U::U::u4 8::sq u4 0 8 (u4 9::u4 10::u5 0::u5 1::U::U::sq u 0 4 [])) K23 bel A5 fun u6 w6 D bel=>?_
 have E6_5:=D.q 5
 replace B5:=D.ol 4
 replace B_q:=fun h=>D.kk (B_q h) (no_cons N_q_b5 (no_nil _))
 clear D
 refine wp_ret ?_
 refine ret_ok rfl (by exact results_mix rfl (by exact E1_2) B5 Tryz.underlying30 rfl (by kernel_rfl) (by exact E6_5)) (RetV.mk ?_ bel)
 exact congrArg Ending.returned (rfl)
theorem gaMul (x:Cx) (y:Cx) (p0:gfits (rg x) = true) (p1:gfits (rg y) = true) :
  Calls Tryz.prog 38 #[gV x,gV y] W (RetV (.tuple #[.agg #[.bool (gcut (x.mul y)).re.a.n,.string (gcut (x.mul y)).re.a.s,.bool (gcut (x.mul y)).re.b.n,.string (gcut (x.mul y)).re.b.s,.bool (gcut (x.mul y)).im.a.n,.string (gcut (x.mul y)).im.a.s,.bool (gcut (x.mul y)).im.b.n,.string (gcut (x.mul y)).im.b.s],.int .i64 (gerr (x.mul y))]) W):=by
 have bel:=b0 W
 go_enter Tryz.func38,Tryz.ntmps38
 refine gs 4 (Amb Z0 W) fun _ K1=>?_
 refine .bx rfl (fun H=>H.v 0 (gV x)) ?_
 refine .bx rfl (fun H=>H.v 1 (gV y)) ?_
 refine .al rfl zG ?_
 refine .mc rfl ?_
 refine .dk (fun u=>gV x::gV y::sq u 0 4 (us 6)) K1 bel fun u1 w1 D bel=>?_
 obtain ⟨b2,E1_0,A2,B2⟩:=D.nw 0
 obtain ⟨b3,E1_1,A3,B3⟩:=D.nw 1
 obtain ⟨b4,E1_2,A4,B4⟩:=D.nw 2
 have E1_3:=D.q 3
 have N2_4:=D.n2 0 2 E1_0 E1_2
 have N3_4:=D.n2 1 2 E1_1 E1_2
 clear D
 refine gd1 8 (Amb Z0 W) 6 B4 fun _ K5=>?_
 refine .e rfl (fun H=>x_ldr (H.z 2 E1_0) (H.b1 B2 (Ne.symm N2_4))) ?_
 refine .e rfl (fun H=>x_ldr (H.z 3 E1_1) (H.b1 B3 (Ne.symm N3_4))) ?_
 refine .cR rfl [] Tryz.func90 (fun H=>⟨_,ar1 (H.func _),gaSure⟩) ?_
 refine .cK rfl Tryz.func89 (fun H=>⟨_,ar3 (H.g 6 0) (H.g 7 1) (H.r 8 2),gaTwoMul _ _ (SV.any (H.a 2 rfl)) (by first | omega | exact p0 | exact p1) (by first | omega | exact p0 | exact p1)⟩) ?_
 refine .e rfl (V:=rgV (gcut (x.mul y))) (fun H=>x_ex (H.g 9 3)) ?_
 refine .e rfl (V:=.int .i64 (gerr (x.mul y))) (fun H=>x_ex (H.g 9 3)) ?_
 refine .s1 rfl B4 (fun H=>⟨H.z 4 E1_2,H.g 10 4⟩) ?_
 refine .mv rfl 5 ?_
 refine .d1 (fun u=>gV x::gV y::sq u1 0 3 (u 7::sq u 0 6 [])) K5 bel A4 fun u2 w2 D bel=>?_
 have E2_7:=D.q 7
 replace B4:=D.ol 6
 clear D
 refine wp_ret ?_
 refine ret_ok rfl (by exact results_mix rfl (by exact E1_2) B4 Tryz.underlying30 rfl (by kernel_rfl) (by exact E2_7)) (RetV.mk ?_ bel)
 exact congrArg Ending.returned (rfl)
theorem gaSAdd {v0:Value} {v1:Value} {bc:Nat} {T_bc:TypeId} {fr_bc:Nat × Nat} (x:Cx) (y:Cx) (t0:(NumP x).p S v0 W) (t1:(NumP y).p S v1 W) (B_bc:W.heap[bc]? = some (.cells #[.func (.func 92) #[] #[]] T_bc fr_bc)) (p0:ht x.re + ht x.im + ht y.re + ht y.im ≤ 17179869184) :
  Calls Tryz.prog 156 #[v0,v1,.pointer (some ⟨bc,0,none⟩)] W (Ret (VP.tup (NumP (x.add y)) (VP.is (.int .i64 0))) S W):=by
 obtain ⟨x1,x2,rfl,F_x1,F_x2⟩:=t0
 replace F_x1:(RatN x.re).p (Amb S W) x1 W:=(RatN x.re).mono (fun _ _ h=>.inl h) F_x1
 replace F_x2:(RatN x.im).p (Amb S W) x2 W:=(RatN x.im).mono (fun _ _ h=>.inl h) F_x2
 obtain ⟨x3,x4,rfl,F_x3,F_x4⟩:=t1
 replace F_x3:(RatN y.re).p (Amb S W) x3 W:=(RatN y.re).mono (fun _ _ h=>.inl h) F_x3
 replace F_x4:(RatN y.im).p (Amb S W) x4 W:=(RatN y.im).mono (fun _ _ h=>.inl h) F_x4
 have bel:=b0 W
 go_enter Tryz.func156,Tryz.ntmps156
 refine gs 4 (Amb S W) fun _ K5=>?_
 refine .bx rfl (fun H=>H.v 0 (.agg #[x1,x2])) ?_
 refine .bx rfl (fun H=>H.v 1 (.agg #[x3,x4])) ?_
 refine .al rfl (#[.pointer none,.pointer none]) ?_
 refine .mc rfl ?_
 refine .dk (fun u=>.agg #[x1,x2]::.agg #[x3,x4]::pt bc::sq u 0 4 (us 4)) K5 bel fun u1 w1 D bel=>?_
 obtain ⟨b6,E1_0,A6,B6⟩:=D.nw 0
 obtain ⟨b7,E1_1,A7,B7⟩:=D.nw 1
 obtain ⟨b8,E1_2,A8,B8⟩:=D.nw 2
 have E1_3:=D.q 3
 have N_bc_b8:=D.n1 2 (lt_of B_bc) E1_2
 have N6_8:=D.n2 0 2 E1_0 E1_2
 have N7_8:=D.n2 1 2 E1_1 E1_2
 replace B_bc:=D.k B_bc
 replace F_x1:=D.gr (RatN x.re) F_x1
 replace F_x2:=D.gr (RatN x.im) F_x2
 replace F_x3:=D.gr (RatN y.re) F_x3
 replace F_x4:=D.gr (RatN y.im) F_x4
 clear D
 refine gs1 6 (Amb S W) 4 B8 fun _ K9=>?_
 refine .e rfl (V:=.func (.func 92) #[] #[]) (fun H=>x_ldc (H.v 2 (pt bc)) (H.b1 B_bc (Ne.symm N_bc_b8))) ?_
 refine .e rfl (fun H=>x_ldr (H.z 3 E1_0) (H.b1 B6 (Ne.symm N6_8))) ?_
 refine .e rfl (fun H=>x_ldr (H.z 4 E1_1) (H.b1 B7 (Ne.symm N7_8))) ?_
 refine Go2.callR (i:=3) rfl (G0 rfl) [] rfl (NumP (x.add y)) (f:=92) (fun u μ ρ H=>⟨#[.agg #[x1,x2],.agg #[x3,x4]],by have e8:=H.g 8 1; have e9:=H.g 9 2; have e7:=H.g 7 0; exact ex_callv rfl e7 Tryz.func92 (by kernel_rfl) (by kernel_rfl) (by simp only [List.map_toArray,List.map_cons,List.map_nil,e8,e9]; first | done | rfl),eAdd (x:=x) (y:=y) (NumP.mk (H.was _ [] F_x1) (H.was _ [] F_x2)) (NumP.mk (H.was _ [] F_x3) (H.was _ [] F_x4)) (by omega)⟩) ?_
 refine Go2.storeOld (i:=4) 0 b8 rfl rfl rfl ⟨_,_,_,B8,rfl⟩ (SP.old 0 b8 [3] (fun u=>#[((u 3).v.cells.getD 0 undef),((u 3).v.cells.getD 1 undef)]) 125 (by intro u u' h; simp [h 3 (by simp)]) (lt_of B8) (by intro y k hy; match y,hy with | 0,hy=>rfl)) (fun u μ ρ H=>?_) ?_
 · have e5:=H.z 5 E1_2; have e10:=H.r 10 3; have hb:=H.blkOld B8 0 4 rfl (.inl rfl)
   obtain ⟨x1,x2,h1,h2,h3⟩:=(H.a 3 rfl)
   have o1:=VP1.ratn h2
   have o2:=VP1.ratn h3
   rw [h1] at e10
   refine ⟨μ.setRow b8 #[x1,x2],ex_store_row 125 _ _ rfl e5 e10 hb (by kernel_rfl) rfl (by simp [o1,o2]),fun g=>?_,setRow_only _ _ _⟩
   show (World.setRow _ _ _).heap[b8]? = _
   rw [setRow_at hb]; try simp [upd,h1,Value.cells]
 refine .mc rfl ?_
 refine .d1 (fun u=>.agg #[x1,x2]::.agg #[x3,x4]::pt bc::sq u1 0 3 (u 5::sq u 0 4 [])) K9 bel A8 fun u2 w2 D bel=>?_
 obtain ⟨x10,x11,E2_3,F_x10,F_x11⟩:=(D.rr 3)
 have E2_5:=D.q 5
 replace B8:w2.heap[b8]? = _:=(D.a 4 rfl)
 simp only [Value.cells,E2_3] at B8
 clear D
 refine wp_ret ?_
 refine ret_ok rfl (by exact results_mix rfl (by exact E1_2) B8 Tryz.underlying125 rfl (by kernel_rfl) (by exact E2_5)) ⟨_,rfl,?_,bel⟩
 exact ⟨_,_,rfl,(NumP.mk F_x10 F_x11),rfl⟩
theorem gaTwoAdd {v2:Value} (x:Cx) (y:Cx) (t2:(CloP 156 (.func (.func 92) #[] #[])).p S v2 W) (p0:gfits (rg x) = true) (p1:gfits (rg y) = true) :
  Calls Tryz.prog 89 #[gV x,gV y,v2] W (RetV (.tuple #[.agg #[.bool (gcut (x.add y)).re.a.n,.string (gcut (x.add y)).re.a.s,.bool (gcut (x.add y)).re.b.n,.string (gcut (x.add y)).re.b.s,.bool (gcut (x.add y)).im.a.n,.string (gcut (x.add y)).im.a.s,.bool (gcut (x.add y)).im.b.n,.string (gcut (x.add y)).im.b.s],.int .i64 (gerr (x.add y))]) W):=by
 obtain ⟨b1,T1,fr_b1,rfl,B1,_,_⟩:=t2
 have f1:=gfits_ht2 p0
 have f2:=gfits_ht2 p1
 have f3:=hc_add x y
 have bel:=b0 W
 go_enter Tryz.func89,Tryz.ntmps89
 refine gs 4 (Amb S W) fun _ K2=>?_
 refine .bx rfl (fun H=>H.v 0 (gV x)) ?_
 refine .bx rfl (fun H=>H.v 1 (gV y)) ?_
 refine .al rfl zG ?_
 refine .mc rfl ?_
 refine .dk (fun u=>gV x::gV y::.func (.func 156) #[] #[.pointer (some ⟨b1,0,none⟩)]::u 0::u 1::U::u 2::u 3::us 33) K2 bel fun u1 w1 D bel=>?_
 obtain ⟨b3,E1_0,A3,B3⟩:=D.nw 0
 obtain ⟨b4,E1_1,A4,B4⟩:=D.nw 1
 obtain ⟨b5,E1_2,A5,B5⟩:=D.nw 2
 have E1_3:=D.q 3
 have N1_5:=D.n1 2 (lt_of B1) E1_2
 have N3_5:=D.n2 0 2 E1_0 E1_2
 have N4_5:=D.n2 1 2 E1_1 E1_2
 replace B1:=D.k B1
 clear D
 refine wp_seq_k fun _ K6=>?_
 refine wp_region_list ?_
 refine wpT_val (v:=gV x) rfl (ex_load_row 30 _ rfl (by exact E1_0) B3 Tryz.underlying30 rfl (by kernel_rfl)) ?_
 refine wpList_as (fr (gV x::gV y::.func (.func 156) #[] #[.pointer (some ⟨b1,0,none⟩)]::u1 0::u1 1::U::u1 2::u1 3::U::U::U::U::gV x::us 28)) (by kernel_rfl) ?_
 refine wpT_val (v:=gV y) rfl (ex_load_row 30 _ rfl (by exact E1_1) B4 Tryz.underlying30 rfl (by kernel_rfl)) ?_
 refine wpList_as (fr (gV x::gV y::.func (.func 156) #[] #[.pointer (some ⟨b1,0,none⟩)]::u1 0::u1 1::U::u1 2::u1 3::U::U::U::U::gV x::gV y::us 27)) (by kernel_rfl) ?_
 refine wpT_lit2 (r0:=rg x) (r1:=rg y) rfl rfl rfl rfl fun v8 w7 tw7 mw7 ow7=>?_
 obtain ⟨p_q,c_q,cur_q,T_q,fr_q,rfl,y_q,z_q,P_q,B_q,Q_q⟩:=GSl.open tw7
 replace mw7:=mw7 _ _ _ rfl
 have N_q_b1:=Nat.ne_of_lt (Nat.lt_of_lt_of_le (lt_of B1) mw7)
 have N_q_b3:=Nat.ne_of_lt (Nat.lt_of_lt_of_le (lt_of B3) mw7)
 have N_q_b4:=Nat.ne_of_lt (Nat.lt_of_lt_of_le (lt_of B4) mw7)
 have N_q_b5:=Nat.ne_of_lt (Nat.lt_of_lt_of_le (lt_of B5) mw7)
 replace B1:=(ow7.block b1 (lt_of B1)).trans B1
 replace B3:=(ow7.block b3 (lt_of B3)).trans B3
 replace B4:=(ow7.block b4 (lt_of B4)).trans B4
 replace B5:=(ow7.block b5 (lt_of B5)).trans B5
 replace bel:=bel.trans (ow7.mono bel.size)
 replace P_q:=Lib.hid P_q
 have X_q:=GSl.lt B_q
 refine wpList_as (fr (gV x::gV y::.func (.func 156) #[] #[.pointer (some ⟨b1,0,none⟩)]::u1 0::u1 1::U::u1 2::u1 3::U::U::U::U::gV x::gV y::.slice p_q ([rg x,rg y]).length c_q::us 26)) (by kernel_rfl) ?_
 refine wpT_nums2 (x:=x) (y:=y) (S:=Amb S W) rfl (ex_call rfl rfl Tryz.func154 (by kernel_rfl) (by kernel_rfl) (by simp only [List.map_toArray,List.map_cons,List.map_nil]; rfl)) (gaOpened2 (l:=[rg x,rg y]) (GSl.mk y_q z_q P_q.out B_q Q_q) (by first | omega | rfl | exact all_two p0 p1) (by first | omega | rfl | exact all_two p0 p1)) fun b10 x11 x12 x13 x14 w9 h0 h1 h2 h3 A10 B10 ow9=>?_
 have F_x11:(RatN x.re).p (Amb S W) x11 w9:=(RatN x.re).mono (fun _ _ h=>h.elim id (fun h=>.inr (Nat.le_trans bel.size h))) h0
 have F_x12:(RatN x.im).p (Amb S W) x12 w9:=(RatN x.im).mono (fun _ _ h=>h.elim id (fun h=>.inr (Nat.le_trans bel.size h))) h1
 have F_x13:(RatN y.re).p (Amb S W) x13 w9:=(RatN y.re).mono (fun _ _ h=>h.elim id (fun h=>.inr (Nat.le_trans bel.size h))) h2
 have F_x14:(RatN y.im).p (Amb S W) x14 w9:=(RatN y.im).mono (fun _ _ h=>h.elim id (fun h=>.inr (Nat.le_trans bel.size h))) h3
 have N1_10:=Nat.ne_of_lt (Nat.lt_of_lt_of_le (lt_of B1) A10)
 have N3_10:=Nat.ne_of_lt (Nat.lt_of_lt_of_le (lt_of B3) A10)
 have N4_10:=Nat.ne_of_lt (Nat.lt_of_lt_of_le (lt_of B4) A10)
 have N5_10:=Nat.ne_of_lt (Nat.lt_of_lt_of_le (lt_of B5) A10)
 replace A10:=Nat.le_trans bel.size A10
 replace B1:=(ow9.block b1 (lt_of B1)).trans B1
 replace B3:=(ow9.block b3 (lt_of B3)).trans B3
 replace B4:=(ow9.block b4 (lt_of B4)).trans B4
 replace B5:=(ow9.block b5 (lt_of B5)).trans B5
 replace B_q:=fun h=>(ow9.block _ (lt_of (B_q h))).trans (B_q h)
 replace bel:=bel.trans (ow9.mono bel.size)
 refine wpList_as (fr (gV x::gV y::.func (.func 156) #[] #[.pointer (some ⟨b1,0,none⟩)]::u1 0::u1 1::U::u1 2::u1 3::U::U::U::U::gV x::gV y::.slice p_q ([rg x,rg y]).length c_q::.tuple #[.slice (some ⟨b10,0,none⟩) 2 2,.int .i64 0]::us 25)) (by kernel_rfl) ?_
 refine wpT_val rfl (ex_move rfl) ?_
 refine wpList_as (fr (gV x::gV y::.func (.func 156) #[] #[.pointer (some ⟨b1,0,none⟩)]::u1 0::u1 1::U::u1 2::u1 3::U::U::U::.tuple #[.slice (some ⟨b10,0,none⟩) 2 2,.int .i64 0]::gV x::gV y::.slice p_q ([rg x,rg y]).length c_q::.tuple #[.slice (some ⟨b10,0,none⟩) 2 2,.int .i64 0]::us 25)) (by kernel_rfl) ?_
 refine wpT_val (v:=.slice (some ⟨b10,0,none⟩) 2 2) rfl (x_ex (vs:=#[.slice (some ⟨b10,0,none⟩) 2 2,.int .i64 0]) rfl) ?_
 refine wpList_as (fr (gV x::gV y::.func (.func 156) #[] #[.pointer (some ⟨b1,0,none⟩)]::u1 0::u1 1::U::u1 2::u1 3::U::U::U::.tuple #[.slice (some ⟨b10,0,none⟩) 2 2,.int .i64 0]::gV x::gV y::.slice p_q ([rg x,rg y]).length c_q::.tuple #[.slice (some ⟨b10,0,none⟩) 2 2,.int .i64 0]::.slice (some ⟨b10,0,none⟩) 2 2::us 24)) (by kernel_rfl) ?_
 refine wpT_val (v:=.int .i64 0) rfl (x_ex (vs:=#[.slice (some ⟨b10,0,none⟩) 2 2,.int .i64 0]) rfl) ?_
 refine wpList_as (fr (gV x::gV y::.func (.func 156) #[] #[.pointer (some ⟨b1,0,none⟩)]::u1 0::u1 1::U::u1 2::u1 3::U::U::U::.tuple #[.slice (some ⟨b10,0,none⟩) 2 2,.int .i64 0]::gV x::gV y::.slice p_q ([rg x,rg y]).length c_q::.tuple #[.slice (some ⟨b10,0,none⟩) 2 2,.int .i64 0]::.slice (some ⟨b10,0,none⟩) 2 2::.int .i64 0::us 23)) (by kernel_rfl) ?_
 refine wpT_val rfl (ex_assign rfl) ?_
 refine wpList_as (fr (gV x::gV y::.func (.func 156) #[] #[.pointer (some ⟨b1,0,none⟩)]::u1 0::u1 1::U::u1 2::u1 3::.slice (some ⟨b10,0,none⟩) 2 2::U::U::.tuple #[.slice (some ⟨b10,0,none⟩) 2 2,.int .i64 0]::gV x::gV y::.slice p_q ([rg x,rg y]).length c_q::.tuple #[.slice (some ⟨b10,0,none⟩) 2 2,.int .i64 0]::.slice (some ⟨b10,0,none⟩) 2 2::.int .i64 0::us 23)) (by kernel_rfl) ?_
 refine wpT_val rfl (ex_assign rfl) ?_
 refine wpList_as (fr (gV x::gV y::.func (.func 156) #[] #[.pointer (some ⟨b1,0,none⟩)]::u1 0::u1 1::U::u1 2::u1 3::.slice (some ⟨b10,0,none⟩) 2 2::.int .i64 0::U::.tuple #[.slice (some ⟨b10,0,none⟩) 2 2,.int .i64 0]::gV x::gV y::.slice p_q ([rg x,rg y]).length c_q::.tuple #[.slice (some ⟨b10,0,none⟩) 2 2,.int .i64 0]::.slice (some ⟨b10,0,none⟩) 2 2::.int .i64 0::us 23)) (by kernel_rfl) ?_
 refine wpList_nil ?_
 show _
 refine K6 _ _ ?_
 refine wp_seq_k fun _ K15=>?_
 refine gs 2 (Amb S W) fun _ K16=>?_
 refine .mz rfl 9 (V:=.int .i64 0) rfl ?_
 refine .e rfl (V:=.bool false) (fun H=>x_cm (H.g 18 0) (H.c _) (bne_self_eq_false (show Int from 0))) ?_
 refine .dk (fun u=>gV x::gV y::.func (.func 156) #[] #[.pointer (some ⟨b1,0,none⟩)]::u1 0::u1 1::U::u1 2::u1 3::.slice (some ⟨b10,0,none⟩) 2 2::.int .i64 0::U::.tuple #[.slice (some ⟨b10,0,none⟩) 2 2,.int .i64 0]::gV x::gV y::.slice p_q ([rg x,rg y]).length c_q::.tuple #[.slice (some ⟨b10,0,none⟩) 2 2,.int .i64 0]::.slice (some ⟨b10,0,none⟩) 2 2::.int .i64 0::u 0::u 1::us 21) K16 bel fun u3 w3 D bel=>?_
 have E3_1:=D.q 1
 replace B1:=D.k B1
 replace B5:=D.k B5
 replace B10:=D.k B10
 replace B_q:=fun h=>D.k (B_q h)
 replace F_x11:=D.gr (RatN x.re) F_x11
 replace F_x12:=D.gr (RatN x.im) F_x12
 replace F_x13:=D.gr (RatN y.re) F_x13
 replace F_x14:=D.gr (RatN y.im) F_x14
 clear D
 refine wp_cond_false (by exact E3_1) ?_
 refine wp_skip ?_
 refine K15 _ _ ?_
 refine gd 14 (Amb S W) fun _ K17=>?_
 refine .mz rfl 2 (V:=.func (.func 156) #[] #[.pointer (some ⟨b1,0,none⟩)]) rfl ?_
 refine .mz rfl 8 (V:=.slice (some ⟨b10,0,none⟩) 2 2) rfl ?_
 refine .e rfl (V:=pt b10) (fun H=>x_ixl (H.g 24 1) (H.c (.int .i64 0))) ?_
 refine .lp rfl 2 (#[x11,x12]) B10 ?_
 refine .mz rfl 8 (V:=.slice (some ⟨b10,0,none⟩) 2 2) rfl ?_
 refine .e rfl (V:=.pointer (some ⟨b10,2,none⟩)) (fun H=>x_ixl (H.g 27 4) (H.c (.int .i64 1))) ?_
 refine .lp rfl 5 (#[x13,x14]) B10 ?_
 refine Go2.callR (i:=7) rfl (G0 rfl) [] rfl (VP.tup (NumP (x.add y)) (VP.is (.int .i64 0))) (f:=156) (fun u μ ρ H=>⟨#[.agg #[x11,x12],.agg #[x13,x14],pt b1],by have e26:=H.g 26 3; have e29:=H.g 29 6; have e23:=H.g 23 0; exact ex_callc rfl e23 Tryz.func156 (by kernel_rfl) (by kernel_rfl) (by simp only [List.map_toArray,List.map_cons,List.map_nil,e26,e29]; first | done | rfl),gaSAdd (x:=x) (y:=y) (bc:=b1) (NumP.mk (H.was _ [] F_x11) (H.was _ [] F_x12)) (NumP.mk (H.was _ [] F_x13) (H.was _ [] F_x14)) (H.b B1) (by first | omega | rfl | exact all_two p0 p1)⟩) ?_
 refine .mn rfl 7 [7] ?_
 refine Go2.fn (i:=9) rfl (G0 rfl) (.val 9 [7,8] (NumP (x.add y))) (fun u μ ρ H=>by have e22:=H.r 22 8; have h0:=(H.a 8 rfl); obtain ⟨x0,x1,h1,h2⟩:=h0; rw [h1] at e22; exact ⟨x0,by clear H; go_simp,SP.tupKeep (by decide) (by decide) h2.1⟩) ?_
 refine .e rfl (V:=.int .i64 0) (fun H=>by have e22:=H.r 22 8; have h0:=(H.a 8 rfl); obtain ⟨x0,x1,h1,h2,h3⟩:=h0; rw [h1] at e22; have h3:x1 = .int .i64 0:=h3; subst h3; clear H; go_simp) ?_
 refine .al rfl (#[.pointer none,.pointer none]) ?_
 refine Go2.storeOwn (i:=12) (m:=11) rfl rfl (.head _) (SP.cells 11 [9] (fun u=>#[((u 9).v.cells.getD 0 undef),((u 9).v.cells.getD 1 undef)]) 125 (by intro u u' h; simp [h 9 (by simp)])) (fun u μ ρ b H h0 hB hb=>?_) ?_
 · have e10:=H.r 10 11; have e31:=H.r 31 9
   rw [h0] at e10
   obtain ⟨x1,x2,h1,h2,h3⟩:=(H.a 9 rfl)
   have o1:=VP1.ratn h2
   have o2:=VP1.ratn h3
   rw [h1] at e31
   refine ⟨μ.setRow b #[x1,x2],ex_store_row 125 _ _ rfl e10 e31 hb (by kernel_rfl) rfl (by simp [o1,o2]),fun g=>⟨b,?_,hB,?_⟩,setRow_only _ _ _⟩
   · rw [upd_other _ _ (by decide)]; exact h0
   · rw [setRow_at hb]; try simp [upd,h1,Value.cells]
 refine .mv rfl 10 ?_
 refine .dk (fun u=>gV x::gV y::.func (.func 156) #[] #[.pointer (some ⟨b1,0,none⟩)]::u1 0::u1 1::U::u1 2::u1 3::.slice (some ⟨b10,0,none⟩) 2 2::u 13::u 11::.tuple #[.slice (some ⟨b10,0,none⟩) 2 2,.int .i64 0]::gV x::gV y::.slice p_q ([rg x,rg y]).length c_q::.tuple #[.slice (some ⟨b10,0,none⟩) 2 2,.int .i64 0]::.slice (some ⟨b10,0,none⟩) 2 2::.int .i64 0::u3 0::u3 1::U::U::u 8::sq u 0 8 (u 9::u 10::us 8)) K17 bel fun u4 w4 D bel=>?_
 obtain ⟨x18,x19,E4_9,F_x18,F_x19⟩:=(D.rr 9)
 obtain ⟨b20,E4_11,A20,B20⟩:=(D.a 12 rfl)
 replace A20:=le2 D.le A20
 have E4_13:=D.q 13
 have N5_20:=D.n1 11 (lt_of B5) E4_11
 replace B5:=D.k B5
 simp only [Value.cells,E4_9,E4_11] at B20
 replace B20:w4.heap[b20]? = some (.cells #[x18,x19] 125 (0,0)):=B20
 replace B_q:=fun h=>D.k (B_q h)
 clear D
 refine wp_seq_k fun _ K21=>?_
 refine gs 2 (Amb S W) fun _ K22=>?_
 refine .mz rfl 9 E4_13 ?_
 refine .e rfl (V:=.bool false) (fun H=>x_cm (H.g 33 0) (H.c _) (bne_self_eq_false (show Int from 0))) ?_
 refine .dk (fun u=>gV x::gV y::.func (.func 156) #[] #[.pointer (some ⟨b1,0,none⟩)]::u1 0::u1 1::U::u1 2::u1 3::.slice (some ⟨b10,0,none⟩) 2 2::u4 13::u4 11::.tuple #[.slice (some ⟨b10,0,none⟩) 2 2,.int .i64 0]::gV x::gV y::.slice p_q ([rg x,rg y]).length c_q::.tuple #[.slice (some ⟨b10,0,none⟩) 2 2,.int .i64 0]::.slice (some ⟨b10,0,none⟩) 2 2::.int .i64 0::u3 0::u3 1::U::U::u4 8::sq u4 0 8 (u4 9::u4 10::u 0::u 1::us 6)) K22 bel fun u5 w5 D bel=>?_
 have E5_1:=D.q 1
 replace B5:=D.k B5
 replace B20:=D.k B20
 replace B_q:=fun h=>D.k (B_q h)
 replace F_x18:=D.gr (RatN ((x.add y).re)) F_x18
 replace F_x19:=D.gr (RatN ((x.add y).im)) F_x19
 clear D
 refine wp_cond_false (by exact E5_1) ?_
 refine wp_skip ?_
 refine K21 _ _ ?_
 refine gs1 6 (Amb S W) 4 B5 fun _ K23=>?_
 refine .e rfl (fun H=>x_ldr (H.z 10 E4_11) (H.b1 B20 N5_20)) ?_
 refine .cK rfl Tryz.func155 (fun H=>⟨_,ar1 (H.g 37 0),eTold _ (NumP.mk (VP.any _ (H.was _ [] F_x18)) (VP.any _ (H.was _ [] F_x19))) (by first | omega | rfl | exact all_two p0 p1)⟩) ?_
 refine .e rfl (V:=rgV (gcut (x.add y))) (fun H=>x_ex (H.g 38 1)) ?_
 refine .e rfl (V:=.int .i64 (gerr (x.add y))) (fun H=>x_ex (H.g 38 1)) ?_
 refine .s1 rfl B5 (fun H=>⟨H.z 6 E1_2,H.g 39 2⟩) ?_
 refine .mv rfl 3 ?_
 refine .d1 (fun u=>gV x::gV y::.func (.func 156) #[] #[.pointer (some ⟨b1,0,none⟩)]::u1 0::u1 1::U::u1 2::u 5::.slice (some ⟨b10,0,none⟩) 2 2::u4 13::u4 11::.tuple #[.slice (some ⟨b10,0,none⟩) 2 2,.int .i64 0]::gV x::gV y::.slice p_q ([rg x,rg y]).length c_q::.tuple #[.slice (some ⟨b10,0,none⟩) 2 2,.int .i64 0]::.slice (some ⟨b10,0,none⟩) 2 2::.int .i64 0::u3 0::u3 1::U::U::u4 8::sq u4 0 8 (u4 9::u4 10::u5 0::u5 1::U::U::sq u 0 4 [])) K23 bel A5 fun u6 w6 D bel=>?_
 have E6_5:=D.q 5
 replace B5:=D.ol 4
 replace B_q:=fun h=>D.kk (B_q h) (no_cons N_q_b5 (no_nil _))
 clear D
 refine wp_ret ?_
 refine ret_ok rfl (by exact results_mix rfl (by exact E1_2) B5 Tryz.underlying30 rfl (by kernel_rfl) (by exact E6_5)) (RetV.mk ?_ bel)
 exact congrArg Ending.returned (rfl)
theorem gaAdd (x:Cx) (y:Cx) (p0:gfits (rg x) = true) (p1:gfits (rg y) = true) :
  Calls Tryz.prog 39 #[gV x,gV y] W (RetV (.tuple #[.agg #[.bool (gcut (x.add y)).re.a.n,.string (gcut (x.add y)).re.a.s,.bool (gcut (x.add y)).re.b.n,.string (gcut (x.add y)).re.b.s,.bool (gcut (x.add y)).im.a.n,.string (gcut (x.add y)).im.a.s,.bool (gcut (x.add y)).im.b.n,.string (gcut (x.add y)).im.b.s],.int .i64 (gerr (x.add y))]) W):=by
 have bel:=b0 W
 go_enter Tryz.func39,Tryz.ntmps39
 refine gs 4 (Amb Z0 W) fun _ K1=>?_
 refine .bx rfl (fun H=>H.v 0 (gV x)) ?_
 refine .bx rfl (fun H=>H.v 1 (gV y)) ?_
 refine .al rfl zG ?_
 refine .mc rfl ?_
 refine .dk (fun u=>gV x::gV y::sq u 0 4 (us 6)) K1 bel fun u1 w1 D bel=>?_
 obtain ⟨b2,E1_0,A2,B2⟩:=D.nw 0
 obtain ⟨b3,E1_1,A3,B3⟩:=D.nw 1
 obtain ⟨b4,E1_2,A4,B4⟩:=D.nw 2
 have E1_3:=D.q 3
 have N2_4:=D.n2 0 2 E1_0 E1_2
 have N3_4:=D.n2 1 2 E1_1 E1_2
 clear D
 refine gd1 8 (Amb Z0 W) 6 B4 fun _ K5=>?_
 refine .e rfl (fun H=>x_ldr (H.z 2 E1_0) (H.b1 B2 (Ne.symm N2_4))) ?_
 refine .e rfl (fun H=>x_ldr (H.z 3 E1_1) (H.b1 B3 (Ne.symm N3_4))) ?_
 refine .cR rfl [] Tryz.func90 (fun H=>⟨_,ar1 (H.func _),gaSure⟩) ?_
 refine .cK rfl Tryz.func89 (fun H=>⟨_,ar3 (H.g 6 0) (H.g 7 1) (H.r 8 2),gaTwoAdd _ _ (SV.any (H.a 2 rfl)) (by first | omega | exact p0 | exact p1) (by first | omega | exact p0 | exact p1)⟩) ?_
 refine .e rfl (V:=rgV (gcut (x.add y))) (fun H=>x_ex (H.g 9 3)) ?_
 refine .e rfl (V:=.int .i64 (gerr (x.add y))) (fun H=>x_ex (H.g 9 3)) ?_
 refine .s1 rfl B4 (fun H=>⟨H.z 4 E1_2,H.g 10 4⟩) ?_
 refine .mv rfl 5 ?_
 refine .d1 (fun u=>gV x::gV y::sq u1 0 3 (u 7::sq u 0 6 [])) K5 bel A4 fun u2 w2 D bel=>?_
 have E2_7:=D.q 7
 replace B4:=D.ol 6
 clear D
 refine wp_ret ?_
 refine ret_ok rfl (by exact results_mix rfl (by exact E1_2) B4 Tryz.underlying30 rfl (by kernel_rfl) (by exact E2_7)) (RetV.mk ?_ bel)
 exact congrArg Ending.returned (rfl)
theorem gaT1 {v0:Value} (x:Cx) (t0:(NumP x).p S v0 W) (p0:ht x.re + ht x.im ≤ 1073741824) :
  Calls Tryz.prog 98 #[v0] W (Ret (VP.tup (NumP (x.mul (Cx.ofInt (0:Int) (1:Int)))) (VP.is (.int .i64 0))) S W):=by
 obtain ⟨x1,x2,rfl,F_x1,F_x2⟩:=t0
 replace F_x1:(RatN x.re).p (Amb S W) x1 W:=(RatN x.re).mono (fun _ _ h=>.inl h) F_x1
 replace F_x2:(RatN x.im).p (Amb S W) x2 W:=(RatN x.im).mono (fun _ _ h=>.inl h) F_x2
 have i1:ht (Cx.ofInt (0:Int) (1:Int)).re = 2:=by decide
 have i2:ht (Cx.ofInt (0:Int) (1:Int)).im = 2:=by decide
 have i3:=hc_mul x (Cx.ofInt (0:Int) (1:Int))
 have bel:=b0 W
 go_enter Tryz.func98,Tryz.ntmps98
 refine gs 3 (Amb S W) fun _ K3=>?_
 refine .bx rfl (fun H=>H.v 0 (.agg #[x1,x2])) ?_
 refine .al rfl (#[.pointer none,.pointer none]) ?_
 refine .mc rfl ?_
 refine .dk (fun u=>.agg #[x1,x2]::sq u 0 3 (us 3)) K3 bel fun u1 w1 D bel=>?_
 obtain ⟨b4,E1_0,A4,B4⟩:=D.nw 0
 obtain ⟨b5,E1_1,A5,B5⟩:=D.nw 1
 have E1_2:=D.q 2
 have N4_5:=D.n2 0 1 E1_0 E1_1
 replace F_x1:=D.gr (RatN x.re) F_x1
 replace F_x2:=D.gr (RatN x.im) F_x2
 clear D
 refine gd1 5 (Amb S W) 3 B5 fun _ K6=>?_
 refine .e rfl (fun H=>x_ldr (H.z 1 E1_0) (H.b1 B4 (Ne.symm N4_5))) ?_
 refine .cR rfl [] Tryz.func99 (fun H=>⟨_,ar2 (H.c (.int .i64 0)) (H.c (.int .i64 1)),eInt _ _ (by omega) (by omega) (by omega) (by omega)⟩) ?_
 refine .cR rfl [1] Tryz.func91 (fun H=>⟨_,ar2 (H.g 4 0) (H.r 5 1),eNMul _ _ (NumP.mk (H.was _ [1] F_x1) (H.was _ [1] F_x2)) (SV.sub [1] (H.a 1 rfl) rfl) (by omega)⟩) ?_
 refine Go2.storeOld (i:=3) 0 b5 rfl rfl rfl ⟨_,_,_,B5,rfl⟩ (SP.old 0 b5 [2] (fun u=>#[((u 2).v.cells.getD 0 undef),((u 2).v.cells.getD 1 undef)]) 125 (by intro u u' h; simp [h 2 (by simp)]) (lt_of B5) (by intro y k hy; match y,hy with | 0,hy=>rfl)) (fun u μ ρ H=>?_) ?_
 · have e2:=H.z 2 E1_1; have e6:=H.r 6 2; have hb:=H.blkOld B5 0 3 rfl (.inl rfl)
   obtain ⟨x1,x2,h1,h2,h3⟩:=(H.a 2 rfl)
   have o1:=VP1.ratn h2
   have o2:=VP1.ratn h3
   rw [h1] at e6
   refine ⟨μ.setRow b5 #[x1,x2],ex_store_row 125 _ _ rfl e2 e6 hb (by kernel_rfl) rfl (by simp [o1,o2]),fun g=>?_,setRow_only _ _ _⟩
   show (World.setRow _ _ _).heap[b5]? = _
   rw [setRow_at hb]; try simp [upd,h1,Value.cells]
 refine .mc rfl ?_
 refine .d1 (fun u=>.agg #[x1,x2]::u1 0::u1 1::u 4::sq u 0 3 []) K6 bel A5 fun u2 w2 D bel=>?_
 obtain ⟨x7,x8,E2_2,F_x7,F_x8⟩:=(D.rr 2)
 have E2_4:=D.q 4
 replace B5:w2.heap[b5]? = _:=(D.a 3 rfl)
 simp only [Value.cells,E2_2] at B5
 clear D
 refine wp_ret ?_
 refine ret_ok rfl (by exact results_mix rfl (by exact E1_1) B5 Tryz.underlying125 rfl (by kernel_rfl) (by exact E2_4)) ⟨_,rfl,?_,bel⟩
 exact ⟨_,_,rfl,(NumP.mk F_x7 F_x8),rfl⟩
theorem gaM1 {v0:Value} {v1:Value} {bc:Nat} {T_bc:TypeId} {fr_bc:Nat × Nat} (x:Cx) (y:Cx) (t0:(NumP x).p S v0 W) (t1:(NumP y).p S v1 W) (B_bc:W.heap[bc]? = some (.cells #[.func (.func 98) #[] #[]] T_bc fr_bc)) (p0:ht x.re + ht x.im ≤ 1073741824) :
  Calls Tryz.prog 162 #[v0,v1,.pointer (some ⟨bc,0,none⟩)] W (Ret (VP.tup (NumP (x.mul (Cx.ofInt (0:Int) (1:Int)))) (VP.is (.int .i64 0))) S W):=by
 obtain ⟨x1,x2,rfl,F_x1,F_x2⟩:=t0
 replace F_x1:(RatN x.re).p (Amb S W) x1 W:=(RatN x.re).mono (fun _ _ h=>.inl h) F_x1
 replace F_x2:(RatN x.im).p (Amb S W) x2 W:=(RatN x.im).mono (fun _ _ h=>.inl h) F_x2
 obtain ⟨x3,x4,rfl,F_x3,F_x4⟩:=t1
 replace F_x3:(RatN y.re).p (Amb S W) x3 W:=(RatN y.re).mono (fun _ _ h=>.inl h) F_x3
 replace F_x4:(RatN y.im).p (Amb S W) x4 W:=(RatN y.im).mono (fun _ _ h=>.inl h) F_x4
 have bel:=b0 W
 go_enter Tryz.func162,Tryz.ntmps162
 refine gs 4 (Amb S W) fun _ K5=>?_
 refine .bx rfl (fun H=>H.v 0 (.agg #[x1,x2])) ?_
 refine .bx rfl (fun H=>H.v 1 (.agg #[x3,x4])) ?_
 refine .al rfl (#[.pointer none,.pointer none]) ?_
 refine .mc rfl ?_
 refine .dk (fun u=>.agg #[x1,x2]::.agg #[x3,x4]::pt bc::sq u 0 4 (us 5)) K5 bel fun u1 w1 D bel=>?_
 obtain ⟨b6,E1_0,A6,B6⟩:=D.nw 0
 obtain ⟨b7,E1_2,A7,B7⟩:=D.nw 2
 have E1_3:=D.q 3
 have N_bc_b7:=D.n1 2 (lt_of B_bc) E1_2
 have N6_7:=D.n2 0 2 E1_0 E1_2
 replace B_bc:=D.k B_bc
 replace F_x1:=D.gr (RatN x.re) F_x1
 replace F_x2:=D.gr (RatN x.im) F_x2
 clear D
 refine gs1 7 (Amb S W) 5 B7 fun _ K8=>?_
 refine .e rfl (V:=.func (.func 98) #[] #[]) (fun H=>x_ldc (H.v 2 (pt bc)) (H.b1 B_bc (Ne.symm N_bc_b7))) ?_
 refine .e rfl (fun H=>x_ldr (H.z 3 E1_0) (H.b1 B6 (Ne.symm N6_7))) ?_
 refine Go2.callR (i:=2) rfl (G0 rfl) [] rfl (VP.tup (NumP (x.mul (Cx.ofInt (0:Int) (1:Int)))) (VP.is (.int .i64 0))) (f:=98) (fun u μ ρ H=>⟨#[.agg #[x1,x2]],by have e8:=H.g 8 1; have e7:=H.g 7 0; exact ex_callv rfl e7 Tryz.func98 (by kernel_rfl) (by kernel_rfl) (by simp only [List.map_toArray,List.map_cons,List.map_nil,e8]; first | done | rfl),gaT1 (x:=x) (NumP.mk (H.was _ [] F_x1) (H.was _ [] F_x2)) (by omega)⟩) ?_
 refine Go2.fn (i:=3) rfl (G0 rfl) (.val 3 [2] (NumP (x.mul (Cx.ofInt (0:Int) (1:Int))))) (fun u μ ρ H=>by have e9:=H.r 9 2; have h0:=(H.a 2 rfl); obtain ⟨x0,x1,h1,h2⟩:=h0; rw [h1] at e9; exact ⟨x0,by clear H; go_simp,SP.tupKeep (by decide) (by decide) h2.1⟩) ?_
 refine .e rfl (V:=.int .i64 0) (fun H=>by have e9:=H.r 9 2; have h0:=(H.a 2 rfl); obtain ⟨x0,x1,h1,h2,h3⟩:=h0; rw [h1] at e9; have h3:x1 = .int .i64 0:=h3; subst h3; clear H; go_simp) ?_
 refine Go2.storeOld (i:=5) 0 b7 rfl rfl rfl ⟨_,_,_,B7,rfl⟩ (SP.old 0 b7 [3] (fun u=>#[((u 3).v.cells.getD 0 undef),((u 3).v.cells.getD 1 undef)]) 125 (by intro u u' h; simp [h 3 (by simp)]) (lt_of B7) (by intro y k hy; match y,hy with | 0,hy=>rfl)) (fun u μ ρ H=>?_) ?_
 · have e5:=H.z 5 E1_2; have e10:=H.r 10 3; have hb:=H.blkOld B7 0 5 rfl (.inl rfl)
   obtain ⟨x1,x2,h1,h2,h3⟩:=(H.a 3 rfl)
   have o1:=VP1.ratn h2
   have o2:=VP1.ratn h3
   rw [h1] at e10
   refine ⟨μ.setRow b7 #[x1,x2],ex_store_row 125 _ _ rfl e5 e10 hb (by kernel_rfl) rfl (by simp [o1,o2]),fun g=>?_,setRow_only _ _ _⟩
   show (World.setRow _ _ _).heap[b7]? = _
   rw [setRow_at hb]; try simp [upd,h1,Value.cells]
 refine .mv rfl 4 ?_
 refine .d1 (fun u=>.agg #[x1,x2]::.agg #[x3,x4]::pt bc::sq u1 0 3 (u 6::sq u 0 5 [])) K8 bel A7 fun u2 w2 D bel=>?_
 obtain ⟨x9,x10,E2_3,F_x9,F_x10⟩:=(D.rr 3)
 have E2_6:=D.q 6
 replace B7:w2.heap[b7]? = _:=(D.a 5 rfl)
 simp only [Value.cells,E2_3] at B7
 clear D
 refine wp_ret ?_
 refine ret_ok rfl (by exact results_mix rfl (by exact E1_2) B7 Tryz.underlying125 rfl (by kernel_rfl) (by exact E2_6)) ⟨_,rfl,?_,bel⟩
 exact ⟨_,_,rfl,(NumP.mk F_x9 F_x10),rfl⟩
theorem gaTwoTurn {v2:Value} (x:Cx) (y:Cx) (t2:(CloP 162 (.func (.func 98) #[] #[])).p S v2 W) (p0:gfits (rg x) = true) (p1:gfits (rg y) = true) :
  Calls Tryz.prog 89 #[gV x,gV y,v2] W (RetV (.tuple #[.agg #[.bool (gcut (x.mul (Cx.ofInt (0:Int) (1:Int)))).re.a.n,.string (gcut (x.mul (Cx.ofInt (0:Int) (1:Int)))).re.a.s,.bool (gcut (x.mul (Cx.ofInt (0:Int) (1:Int)))).re.b.n,.string (gcut (x.mul (Cx.ofInt (0:Int) (1:Int)))).re.b.s,.bool (gcut (x.mul (Cx.ofInt (0:Int) (1:Int)))).im.a.n,.string (gcut (x.mul (Cx.ofInt (0:Int) (1:Int)))).im.a.s,.bool (gcut (x.mul (Cx.ofInt (0:Int) (1:Int)))).im.b.n,.string (gcut (x.mul (Cx.ofInt (0:Int) (1:Int)))).im.b.s],.int .i64 (gerr (x.mul (Cx.ofInt (0:Int) (1:Int))))]) W):=by
 obtain ⟨b1,T1,fr_b1,rfl,B1,_,_⟩:=t2
 have i1:ht (Cx.ofInt (0:Int) (1:Int)).re = 2:=by decide
 have i2:ht (Cx.ofInt (0:Int) (1:Int)).im = 2:=by decide
 have i3:=hc_mul x (Cx.ofInt (0:Int) (1:Int))
 have f1:=gfits_ht2 p0
 have bel:=b0 W
 go_enter Tryz.func89,Tryz.ntmps89
 refine gs 4 (Amb S W) fun _ K2=>?_
 refine .bx rfl (fun H=>H.v 0 (gV x)) ?_
 refine .bx rfl (fun H=>H.v 1 (gV y)) ?_
 refine .al rfl zG ?_
 refine .mc rfl ?_
 refine .dk (fun u=>gV x::gV y::.func (.func 162) #[] #[.pointer (some ⟨b1,0,none⟩)]::u 0::u 1::U::u 2::u 3::us 33) K2 bel fun u1 w1 D bel=>?_
 obtain ⟨b3,E1_0,A3,B3⟩:=D.nw 0
 obtain ⟨b4,E1_1,A4,B4⟩:=D.nw 1
 obtain ⟨b5,E1_2,A5,B5⟩:=D.nw 2
 have E1_3:=D.q 3
 have N1_5:=D.n1 2 (lt_of B1) E1_2
 have N3_5:=D.n2 0 2 E1_0 E1_2
 have N4_5:=D.n2 1 2 E1_1 E1_2
 replace B1:=D.k B1
 clear D
 refine wp_seq_k fun _ K6=>?_
 refine wp_region_list ?_
 refine wpT_val (v:=gV x) rfl (ex_load_row 30 _ rfl (by exact E1_0) B3 Tryz.underlying30 rfl (by kernel_rfl)) ?_
 refine wpList_as (fr (gV x::gV y::.func (.func 162) #[] #[.pointer (some ⟨b1,0,none⟩)]::u1 0::u1 1::U::u1 2::u1 3::U::U::U::U::gV x::us 28)) (by kernel_rfl) ?_
 refine wpT_val (v:=gV y) rfl (ex_load_row 30 _ rfl (by exact E1_1) B4 Tryz.underlying30 rfl (by kernel_rfl)) ?_
 refine wpList_as (fr (gV x::gV y::.func (.func 162) #[] #[.pointer (some ⟨b1,0,none⟩)]::u1 0::u1 1::U::u1 2::u1 3::U::U::U::U::gV x::gV y::us 27)) (by kernel_rfl) ?_
 refine wpT_lit2 (r0:=rg x) (r1:=rg y) rfl rfl rfl rfl fun v8 w7 tw7 mw7 ow7=>?_
 obtain ⟨p_q,c_q,cur_q,T_q,fr_q,rfl,y_q,z_q,P_q,B_q,Q_q⟩:=GSl.open tw7
 replace mw7:=mw7 _ _ _ rfl
 have N_q_b1:=Nat.ne_of_lt (Nat.lt_of_lt_of_le (lt_of B1) mw7)
 have N_q_b3:=Nat.ne_of_lt (Nat.lt_of_lt_of_le (lt_of B3) mw7)
 have N_q_b4:=Nat.ne_of_lt (Nat.lt_of_lt_of_le (lt_of B4) mw7)
 have N_q_b5:=Nat.ne_of_lt (Nat.lt_of_lt_of_le (lt_of B5) mw7)
 replace B1:=(ow7.block b1 (lt_of B1)).trans B1
 replace B3:=(ow7.block b3 (lt_of B3)).trans B3
 replace B4:=(ow7.block b4 (lt_of B4)).trans B4
 replace B5:=(ow7.block b5 (lt_of B5)).trans B5
 replace bel:=bel.trans (ow7.mono bel.size)
 replace P_q:=Lib.hid P_q
 have X_q:=GSl.lt B_q
 refine wpList_as (fr (gV x::gV y::.func (.func 162) #[] #[.pointer (some ⟨b1,0,none⟩)]::u1 0::u1 1::U::u1 2::u1 3::U::U::U::U::gV x::gV y::.slice p_q ([rg x,rg y]).length c_q::us 26)) (by kernel_rfl) ?_
 refine wpT_nums2 (x:=x) (y:=y) (S:=Amb S W) rfl (ex_call rfl rfl Tryz.func154 (by kernel_rfl) (by kernel_rfl) (by simp only [List.map_toArray,List.map_cons,List.map_nil]; rfl)) (gaOpened2 (l:=[rg x,rg y]) (GSl.mk y_q z_q P_q.out B_q Q_q) (by first | omega | rfl | exact all_two p0 p1) (by first | omega | rfl | exact all_two p0 p1)) fun b10 x11 x12 x13 x14 w9 h0 h1 h2 h3 A10 B10 ow9=>?_
 have F_x11:(RatN x.re).p (Amb S W) x11 w9:=(RatN x.re).mono (fun _ _ h=>h.elim id (fun h=>.inr (Nat.le_trans bel.size h))) h0
 have F_x12:(RatN x.im).p (Amb S W) x12 w9:=(RatN x.im).mono (fun _ _ h=>h.elim id (fun h=>.inr (Nat.le_trans bel.size h))) h1
 have F_x13:(RatN y.re).p (Amb S W) x13 w9:=(RatN y.re).mono (fun _ _ h=>h.elim id (fun h=>.inr (Nat.le_trans bel.size h))) h2
 have F_x14:(RatN y.im).p (Amb S W) x14 w9:=(RatN y.im).mono (fun _ _ h=>h.elim id (fun h=>.inr (Nat.le_trans bel.size h))) h3
 have N1_10:=Nat.ne_of_lt (Nat.lt_of_lt_of_le (lt_of B1) A10)
 have N3_10:=Nat.ne_of_lt (Nat.lt_of_lt_of_le (lt_of B3) A10)
 have N4_10:=Nat.ne_of_lt (Nat.lt_of_lt_of_le (lt_of B4) A10)
 have N5_10:=Nat.ne_of_lt (Nat.lt_of_lt_of_le (lt_of B5) A10)
 replace A10:=Nat.le_trans bel.size A10
 replace B1:=(ow9.block b1 (lt_of B1)).trans B1
 replace B3:=(ow9.block b3 (lt_of B3)).trans B3
 replace B4:=(ow9.block b4 (lt_of B4)).trans B4
 replace B5:=(ow9.block b5 (lt_of B5)).trans B5
 replace B_q:=fun h=>(ow9.block _ (lt_of (B_q h))).trans (B_q h)
 replace bel:=bel.trans (ow9.mono bel.size)
 refine wpList_as (fr (gV x::gV y::.func (.func 162) #[] #[.pointer (some ⟨b1,0,none⟩)]::u1 0::u1 1::U::u1 2::u1 3::U::U::U::U::gV x::gV y::.slice p_q ([rg x,rg y]).length c_q::.tuple #[.slice (some ⟨b10,0,none⟩) 2 2,.int .i64 0]::us 25)) (by kernel_rfl) ?_
 refine wpT_val rfl (ex_move rfl) ?_
 refine wpList_as (fr (gV x::gV y::.func (.func 162) #[] #[.pointer (some ⟨b1,0,none⟩)]::u1 0::u1 1::U::u1 2::u1 3::U::U::U::.tuple #[.slice (some ⟨b10,0,none⟩) 2 2,.int .i64 0]::gV x::gV y::.slice p_q ([rg x,rg y]).length c_q::.tuple #[.slice (some ⟨b10,0,none⟩) 2 2,.int .i64 0]::us 25)) (by kernel_rfl) ?_
 refine wpT_val (v:=.slice (some ⟨b10,0,none⟩) 2 2) rfl (x_ex (vs:=#[.slice (some ⟨b10,0,none⟩) 2 2,.int .i64 0]) rfl) ?_
 refine wpList_as (fr (gV x::gV y::.func (.func 162) #[] #[.pointer (some ⟨b1,0,none⟩)]::u1 0::u1 1::U::u1 2::u1 3::U::U::U::.tuple #[.slice (some ⟨b10,0,none⟩) 2 2,.int .i64 0]::gV x::gV y::.slice p_q ([rg x,rg y]).length c_q::.tuple #[.slice (some ⟨b10,0,none⟩) 2 2,.int .i64 0]::.slice (some ⟨b10,0,none⟩) 2 2::us 24)) (by kernel_rfl) ?_
 refine wpT_val (v:=.int .i64 0) rfl (x_ex (vs:=#[.slice (some ⟨b10,0,none⟩) 2 2,.int .i64 0]) rfl) ?_
 refine wpList_as (fr (gV x::gV y::.func (.func 162) #[] #[.pointer (some ⟨b1,0,none⟩)]::u1 0::u1 1::U::u1 2::u1 3::U::U::U::.tuple #[.slice (some ⟨b10,0,none⟩) 2 2,.int .i64 0]::gV x::gV y::.slice p_q ([rg x,rg y]).length c_q::.tuple #[.slice (some ⟨b10,0,none⟩) 2 2,.int .i64 0]::.slice (some ⟨b10,0,none⟩) 2 2::.int .i64 0::us 23)) (by kernel_rfl) ?_
 refine wpT_val rfl (ex_assign rfl) ?_
 refine wpList_as (fr (gV x::gV y::.func (.func 162) #[] #[.pointer (some ⟨b1,0,none⟩)]::u1 0::u1 1::U::u1 2::u1 3::.slice (some ⟨b10,0,none⟩) 2 2::U::U::.tuple #[.slice (some ⟨b10,0,none⟩) 2 2,.int .i64 0]::gV x::gV y::.slice p_q ([rg x,rg y]).length c_q::.tuple #[.slice (some ⟨b10,0,none⟩) 2 2,.int .i64 0]::.slice (some ⟨b10,0,none⟩) 2 2::.int .i64 0::us 23)) (by kernel_rfl) ?_
 refine wpT_val rfl (ex_assign rfl) ?_
 refine wpList_as (fr (gV x::gV y::.func (.func 162) #[] #[.pointer (some ⟨b1,0,none⟩)]::u1 0::u1 1::U::u1 2::u1 3::.slice (some ⟨b10,0,none⟩) 2 2::.int .i64 0::U::.tuple #[.slice (some ⟨b10,0,none⟩) 2 2,.int .i64 0]::gV x::gV y::.slice p_q ([rg x,rg y]).length c_q::.tuple #[.slice (some ⟨b10,0,none⟩) 2 2,.int .i64 0]::.slice (some ⟨b10,0,none⟩) 2 2::.int .i64 0::us 23)) (by kernel_rfl) ?_
 refine wpList_nil ?_
 show _
 refine K6 _ _ ?_
 refine wp_seq_k fun _ K15=>?_
 refine gs 2 (Amb S W) fun _ K16=>?_
 refine .mz rfl 9 (V:=.int .i64 0) rfl ?_
 refine .e rfl (V:=.bool false) (fun H=>x_cm (H.g 18 0) (H.c _) (bne_self_eq_false (show Int from 0))) ?_
 refine .dk (fun u=>gV x::gV y::.func (.func 162) #[] #[.pointer (some ⟨b1,0,none⟩)]::u1 0::u1 1::U::u1 2::u1 3::.slice (some ⟨b10,0,none⟩) 2 2::.int .i64 0::U::.tuple #[.slice (some ⟨b10,0,none⟩) 2 2,.int .i64 0]::gV x::gV y::.slice p_q ([rg x,rg y]).length c_q::.tuple #[.slice (some ⟨b10,0,none⟩) 2 2,.int .i64 0]::.slice (some ⟨b10,0,none⟩) 2 2::.int .i64 0::u 0::u 1::us 21) K16 bel fun u3 w3 D bel=>?_
 have E3_1:=D.q 1
 replace B1:=D.k B1
 replace B5:=D.k B5
 replace B10:=D.k B10
 replace B_q:=fun h=>D.k (B_q h)
 replace F_x11:=D.gr (RatN x.re) F_x11
 replace F_x12:=D.gr (RatN x.im) F_x12
 replace F_x13:=D.gr (RatN y.re) F_x13
 replace F_x14:=D.gr (RatN y.im) F_x14
 clear D
 refine wp_cond_false (by exact E3_1) ?_
 refine wp_skip ?_
 refine K15 _ _ ?_
 refine gd 14 (Amb S W) fun _ K17=>?_
 refine .mz rfl 2 (V:=.func (.func 162) #[] #[.pointer (some ⟨b1,0,none⟩)]) rfl ?_
 refine .mz rfl 8 (V:=.slice (some ⟨b10,0,none⟩) 2 2) rfl ?_
 refine .e rfl (V:=pt b10) (fun H=>x_ixl (H.g 24 1) (H.c (.int .i64 0))) ?_
 refine .lp rfl 2 (#[x11,x12]) B10 ?_
 refine .mz rfl 8 (V:=.slice (some ⟨b10,0,none⟩) 2 2) rfl ?_
 refine .e rfl (V:=.pointer (some ⟨b10,2,none⟩)) (fun H=>x_ixl (H.g 27 4) (H.c (.int .i64 1))) ?_
 refine .lp rfl 5 (#[x13,x14]) B10 ?_
 refine Go2.callR (i:=7) rfl (G0 rfl) [] rfl (VP.tup (NumP (x.mul (Cx.ofInt (0:Int) (1:Int)))) (VP.is (.int .i64 0))) (f:=162) (fun u μ ρ H=>⟨#[.agg #[x11,x12],.agg #[x13,x14],pt b1],by have e26:=H.g 26 3; have e29:=H.g 29 6; have e23:=H.g 23 0; exact ex_callc rfl e23 Tryz.func162 (by kernel_rfl) (by kernel_rfl) (by simp only [List.map_toArray,List.map_cons,List.map_nil,e26,e29]; first | done | rfl),gaM1 (x:=x) (y:=y) (bc:=b1) (NumP.mk (H.was _ [] F_x11) (H.was _ [] F_x12)) (NumP.mk (H.was _ [] F_x13) (H.was _ [] F_x14)) (H.b B1) (by first | omega | rfl | exact all_two p0 p1)⟩) ?_
 refine .mn rfl 7 [7] ?_
 refine Go2.fn (i:=9) rfl (G0 rfl) (.val 9 [7,8] (NumP (x.mul (Cx.ofInt (0:Int) (1:Int))))) (fun u μ ρ H=>by have e22:=H.r 22 8; have h0:=(H.a 8 rfl); obtain ⟨x0,x1,h1,h2⟩:=h0; rw [h1] at e22; exact ⟨x0,by clear H; go_simp,SP.tupKeep (by decide) (by decide) h2.1⟩) ?_
 refine .e rfl (V:=.int .i64 0) (fun H=>by have e22:=H.r 22 8; have h0:=(H.a 8 rfl); obtain ⟨x0,x1,h1,h2,h3⟩:=h0; rw [h1] at e22; have h3:x1 = .int .i64 0:=h3; subst h3; clear H; go_simp) ?_
 refine .al rfl (#[.pointer none,.pointer none]) ?_
 refine Go2.storeOwn (i:=12) (m:=11) rfl rfl (.head _) (SP.cells 11 [9] (fun u=>#[((u 9).v.cells.getD 0 undef),((u 9).v.cells.getD 1 undef)]) 125 (by intro u u' h; simp [h 9 (by simp)])) (fun u μ ρ b H h0 hB hb=>?_) ?_
 · have e10:=H.r 10 11; have e31:=H.r 31 9
   rw [h0] at e10
   obtain ⟨x1,x2,h1,h2,h3⟩:=(H.a 9 rfl)
   have o1:=VP1.ratn h2
   have o2:=VP1.ratn h3
   rw [h1] at e31
   refine ⟨μ.setRow b #[x1,x2],ex_store_row 125 _ _ rfl e10 e31 hb (by kernel_rfl) rfl (by simp [o1,o2]),fun g=>⟨b,?_,hB,?_⟩,setRow_only _ _ _⟩
   · rw [upd_other _ _ (by decide)]; exact h0
   · rw [setRow_at hb]; try simp [upd,h1,Value.cells]
 refine .mv rfl 10 ?_
 refine .dk (fun u=>gV x::gV y::.func (.func 162) #[] #[.pointer (some ⟨b1,0,none⟩)]::u1 0::u1 1::U::u1 2::u1 3::.slice (some ⟨b10,0,none⟩) 2 2::u 13::u 11::.tuple #[.slice (some ⟨b10,0,none⟩) 2 2,.int .i64 0]::gV x::gV y::.slice p_q ([rg x,rg y]).length c_q::.tuple #[.slice (some ⟨b10,0,none⟩) 2 2,.int .i64 0]::.slice (some ⟨b10,0,none⟩) 2 2::.int .i64 0::u3 0::u3 1::U::U::u 8::sq u 0 8 (u 9::u 10::us 8)) K17 bel fun u4 w4 D bel=>?_
 obtain ⟨x18,x19,E4_9,F_x18,F_x19⟩:=(D.rr 9)
 obtain ⟨b20,E4_11,A20,B20⟩:=(D.a 12 rfl)
 replace A20:=le2 D.le A20
 have E4_13:=D.q 13
 have N5_20:=D.n1 11 (lt_of B5) E4_11
 replace B5:=D.k B5
 simp only [Value.cells,E4_9,E4_11] at B20
 replace B20:w4.heap[b20]? = some (.cells #[x18,x19] 125 (0,0)):=B20
 replace B_q:=fun h=>D.k (B_q h)
 clear D
 refine wp_seq_k fun _ K21=>?_
 refine gs 2 (Amb S W) fun _ K22=>?_
 refine .mz rfl 9 E4_13 ?_
 refine .e rfl (V:=.bool false) (fun H=>x_cm (H.g 33 0) (H.c _) (bne_self_eq_false (show Int from 0))) ?_
 refine .dk (fun u=>gV x::gV y::.func (.func 162) #[] #[.pointer (some ⟨b1,0,none⟩)]::u1 0::u1 1::U::u1 2::u1 3::.slice (some ⟨b10,0,none⟩) 2 2::u4 13::u4 11::.tuple #[.slice (some ⟨b10,0,none⟩) 2 2,.int .i64 0]::gV x::gV y::.slice p_q ([rg x,rg y]).length c_q::.tuple #[.slice (some ⟨b10,0,none⟩) 2 2,.int .i64 0]::.slice (some ⟨b10,0,none⟩) 2 2::.int .i64 0::u3 0::u3 1::U::U::u4 8::sq u4 0 8 (u4 9::u4 10::u 0::u 1::us 6)) K22 bel fun u5 w5 D bel=>?_
 have E5_1:=D.q 1
 replace B5:=D.k B5
 replace B20:=D.k B20
 replace B_q:=fun h=>D.k (B_q h)
 replace F_x18:=D.gr (RatN ((x.mul (Cx.ofInt (0:Int) (1:Int))).re)) F_x18
 replace F_x19:=D.gr (RatN ((x.mul (Cx.ofInt (0:Int) (1:Int))).im)) F_x19
 clear D
 refine wp_cond_false (by exact E5_1) ?_
 refine wp_skip ?_
 refine K21 _ _ ?_
 refine gs1 6 (Amb S W) 4 B5 fun _ K23=>?_
 refine .e rfl (fun H=>x_ldr (H.z 10 E4_11) (H.b1 B20 N5_20)) ?_
 refine .cK rfl Tryz.func155 (fun H=>⟨_,ar1 (H.g 37 0),eTold _ (NumP.mk (VP.any _ (H.was _ [] F_x18)) (VP.any _ (H.was _ [] F_x19))) (by first | omega | rfl | exact all_two p0 p1)⟩) ?_
 refine .e rfl (V:=rgV (gcut (x.mul (Cx.ofInt (0:Int) (1:Int))))) (fun H=>x_ex (H.g 38 1)) ?_
 refine .e rfl (V:=.int .i64 (gerr (x.mul (Cx.ofInt (0:Int) (1:Int))))) (fun H=>x_ex (H.g 38 1)) ?_
 refine .s1 rfl B5 (fun H=>⟨H.z 6 E1_2,H.g 39 2⟩) ?_
 refine .mv rfl 3 ?_
 refine .d1 (fun u=>gV x::gV y::.func (.func 162) #[] #[.pointer (some ⟨b1,0,none⟩)]::u1 0::u1 1::U::u1 2::u 5::.slice (some ⟨b10,0,none⟩) 2 2::u4 13::u4 11::.tuple #[.slice (some ⟨b10,0,none⟩) 2 2,.int .i64 0]::gV x::gV y::.slice p_q ([rg x,rg y]).length c_q::.tuple #[.slice (some ⟨b10,0,none⟩) 2 2,.int .i64 0]::.slice (some ⟨b10,0,none⟩) 2 2::.int .i64 0::u3 0::u3 1::U::U::u4 8::sq u4 0 8 (u4 9::u4 10::u5 0::u5 1::U::U::sq u 0 4 [])) K23 bel A5 fun u6 w6 D bel=>?_
 have E6_5:=D.q 5
 replace B5:=D.ol 4
 replace B_q:=fun h=>D.kk (B_q h) (no_cons N_q_b5 (no_nil _))
 clear D
 refine wp_ret ?_
 refine ret_ok rfl (by exact results_mix rfl (by exact E1_2) B5 Tryz.underlying30 rfl (by kernel_rfl) (by exact E6_5)) (RetV.mk ?_ bel)
 exact congrArg Ending.returned (rfl)
theorem gaMade (x:Cx) (p0:gfits (rg x) = true) :
  Calls Tryz.prog 97 #[gV x,.func (.func 98) #[] #[]] W (RetV (.tuple #[.agg #[.bool (gcut (x.mul (Cx.ofInt (0:Int) (1:Int)))).re.a.n,.string (gcut (x.mul (Cx.ofInt (0:Int) (1:Int)))).re.a.s,.bool (gcut (x.mul (Cx.ofInt (0:Int) (1:Int)))).re.b.n,.string (gcut (x.mul (Cx.ofInt (0:Int) (1:Int)))).re.b.s,.bool (gcut (x.mul (Cx.ofInt (0:Int) (1:Int)))).im.a.n,.string (gcut (x.mul (Cx.ofInt (0:Int) (1:Int)))).im.a.s,.bool (gcut (x.mul (Cx.ofInt (0:Int) (1:Int)))).im.b.n,.string (gcut (x.mul (Cx.ofInt (0:Int) (1:Int)))).im.b.s],.int .i64 (gerr (x.mul (Cx.ofInt (0:Int) (1:Int))))]) W):=by
 have bel:=b0 W
 go_enter Tryz.func97,Tryz.ntmps97
 refine gs 4 (Amb Z0 W) fun _ K1=>?_
 refine .bx rfl (fun H=>H.v 0 (gV x)) ?_
 refine .bx rfl (c:=#[.func (.func 98) #[] #[]]) (fun H=>H.v 1 (.func (.func 98) #[] #[])) ?_
 refine .al rfl zG ?_
 refine .mc rfl ?_
 refine .dk (fun u=>gV x::.func (.func 98) #[] #[]::sq u 0 4 (us 6)) K1 bel fun u1 w1 D bel=>?_
 obtain ⟨b2,E1_0,A2,B2⟩:=D.nw 0
 obtain ⟨b3,E1_1,A3,B3⟩:=D.nw 1
 obtain ⟨b4,E1_2,A4,B4⟩:=D.nw 2
 have E1_3:=D.q 3
 have N2_4:=D.n2 0 2 E1_0 E1_2
 have N3_4:=D.n2 1 2 E1_1 E1_2
 clear D
 refine gs1 8 (Amb Z0 W) 6 B4 fun _ K5=>?_
 refine .e rfl (fun H=>x_ldr (H.z 2 E1_0) (H.b1 B2 (Ne.symm N2_4))) ?_
 refine .e rfl (fun H=>x_ldr (H.z 2 E1_0) (H.b1 B2 (Ne.symm N2_4))) ?_
 refine .e rfl (V:=.func (.func 162) #[] #[.pointer (some ⟨b3,0,none⟩)]) (fun H=>by have e_:=(H.z 3 E1_1); clear H; go_simp) ?_
 refine .cK rfl Tryz.func89 (fun H=>⟨_,ar3 (H.g 6 0) (H.g 7 1) (H.g 8 2),gaTwoTurn _ _ ⟨_,_,_,rfl,(H.b1 B3 (Ne.symm N3_4)),by decide,by decide⟩ (by exact p0) (by exact p0) (S:=Z0)⟩) ?_
 refine .e rfl (V:=rgV (gcut (x.mul (Cx.ofInt (0:Int) (1:Int))))) (fun H=>x_ex (H.g 9 3)) ?_
 refine .e rfl (V:=.int .i64 (gerr (x.mul (Cx.ofInt (0:Int) (1:Int))))) (fun H=>x_ex (H.g 9 3)) ?_
 refine .s1 rfl B4 (fun H=>⟨H.z 4 E1_2,H.g 10 4⟩) ?_
 refine .mv rfl 5 ?_
 refine .d1 (fun u=>gV x::.func (.func 98) #[] #[]::sq u1 0 3 (u 7::sq u 0 6 [])) K5 bel A4 fun u2 w2 D bel=>?_
 have E2_7:=D.q 7
 replace B4:=D.ol 6
 clear D
 refine wp_ret ?_
 refine ret_ok rfl (by exact results_mix rfl (by exact E1_2) B4 Tryz.underlying30 rfl (by kernel_rfl) (by exact E2_7)) (RetV.mk ?_ bel)
 exact congrArg Ending.returned (rfl)
theorem gaTurn (x:Cx) (p0:gfits (rg x) = true) :
  Calls Tryz.prog 43 #[gV x] W (RetV (.tuple #[.agg #[.bool (gcut (x.mul (Cx.ofInt (0:Int) (1:Int)))).re.a.n,.string (gcut (x.mul (Cx.ofInt (0:Int) (1:Int)))).re.a.s,.bool (gcut (x.mul (Cx.ofInt (0:Int) (1:Int)))).re.b.n,.string (gcut (x.mul (Cx.ofInt (0:Int) (1:Int)))).re.b.s,.bool (gcut (x.mul (Cx.ofInt (0:Int) (1:Int)))).im.a.n,.string (gcut (x.mul (Cx.ofInt (0:Int) (1:Int)))).im.a.s,.bool (gcut (x.mul (Cx.ofInt (0:Int) (1:Int)))).im.b.n,.string (gcut (x.mul (Cx.ofInt (0:Int) (1:Int)))).im.b.s],.int .i64 (gerr (x.mul (Cx.ofInt (0:Int) (1:Int))))]) W):=by
 have bel:=b0 W
 go_enter Tryz.func43,Tryz.ntmps43
 refine gs 3 (Amb Z0 W) fun _ K1=>?_
 refine .bx rfl (fun H=>H.v 0 (gV x)) ?_
 refine .al rfl zG ?_
 refine .mc rfl ?_
 refine .dk (fun u=>gV x::sq u 0 3 (us 4)) K1 bel fun u1 w1 D bel=>?_
 obtain ⟨b2,E1_0,A2,B2⟩:=D.nw 0
 obtain ⟨b3,E1_1,A3,B3⟩:=D.nw 1
 have E1_2:=D.q 2
 have N2_3:=D.n2 0 1 E1_0 E1_1
 clear D
 refine gs1 6 (Amb Z0 W) 4 B3 fun _ K4=>?_
 refine .e rfl (fun H=>x_ldr (H.z 1 E1_0) (H.b1 B2 (Ne.symm N2_3))) ?_
 refine .cK rfl Tryz.func97 (fun H=>⟨_,ar2 (H.g 4 0) (H.func _),gaMade _ (by exact p0)⟩) ?_
 refine .e rfl (V:=rgV (gcut (x.mul (Cx.ofInt (0:Int) (1:Int))))) (fun H=>x_ex (H.g 5 1)) ?_
 refine .e rfl (V:=.int .i64 (gerr (x.mul (Cx.ofInt (0:Int) (1:Int))))) (fun H=>x_ex (H.g 5 1)) ?_
 refine .s1 rfl B3 (fun H=>⟨H.z 2 E1_1,H.g 6 2⟩) ?_
 refine .mv rfl 3 ?_
 refine .d1 (fun u=>gV x::u1 0::u1 1::u 5::sq u 0 4 []) K4 bel A3 fun u2 w2 D bel=>?_
 have E2_5:=D.q 5
 replace B3:=D.ol 4
 clear D
 refine wp_ret ?_
 refine ret_ok rfl (by exact results_mix rfl (by exact E1_1) B3 Tryz.underlying30 rfl (by kernel_rfl) (by exact E2_5)) (RetV.mk ?_ bel)
 exact congrArg Ending.returned (rfl)
theorem gaD1 {v0:Value} {v1:Value} (x:Cx) (y:Cx) (t0:(NumP x).p S v0 W) (t1:(NumP y).p S v1 W) (p0:y.zero = false) (p1:ht x.re + ht x.im + ht y.re + ht y.im ≤ 1073741824) :
  Calls Tryz.prog 105 #[v0,v1] W (Ret (VP.tup (NumP (x.div y)) (VP.is (.int .i64 0))) S W):=by
 obtain ⟨x1,x2,rfl,F_x1,F_x2⟩:=t0
 replace F_x1:(RatN x.re).p (Amb S W) x1 W:=(RatN x.re).mono (fun _ _ h=>.inl h) F_x1
 replace F_x2:(RatN x.im).p (Amb S W) x2 W:=(RatN x.im).mono (fun _ _ h=>.inl h) F_x2
 obtain ⟨x3,x4,rfl,F_x3,F_x4⟩:=t1
 replace F_x3:(RatN y.re).p (Amb S W) x3 W:=(RatN y.re).mono (fun _ _ h=>.inl h) F_x3
 replace F_x4:(RatN y.im).p (Amb S W) x4 W:=(RatN y.im).mono (fun _ _ h=>.inl h) F_x4
 have bel:=b0 W
 go_enter Tryz.func105,Tryz.ntmps105
 refine gs 4 (Amb S W) fun _ K5=>?_
 refine .bx rfl (fun H=>H.v 0 (.agg #[x1,x2])) ?_
 refine .bx rfl (fun H=>H.v 1 (.agg #[x3,x4])) ?_
 refine .al rfl (#[.pointer none,.pointer none]) ?_
 refine .mc rfl ?_
 refine .dk (fun u=>.agg #[x1,x2]::.agg #[x3,x4]::sq u 0 4 (us 6)) K5 bel fun u1 w1 D bel=>?_
 obtain ⟨b6,E1_0,A6,B6⟩:=D.nw 0
 obtain ⟨b7,E1_1,A7,B7⟩:=D.nw 1
 obtain ⟨b8,E1_2,A8,B8⟩:=D.nw 2
 have E1_3:=D.q 3
 have N6_8:=D.n2 0 2 E1_0 E1_2
 have N7_8:=D.n2 1 2 E1_1 E1_2
 replace F_x1:=D.gr (RatN x.re) F_x1
 replace F_x2:=D.gr (RatN x.im) F_x2
 replace F_x3:=D.gr (RatN y.re) F_x3
 replace F_x4:=D.gr (RatN y.im) F_x4
 clear D
 refine wp_seq_k fun _ K9=>?_
 refine gs 2 (Amb S W) fun _ K10=>?_
 refine .lr rfl 3 E1_1 B7 ?_
 refine .cK rfl (V:=.bool false) Tryz.func106 (fun H=>⟨_,ar1 (H.g 6 0),reV (congrArg Value.bool p0) (eZero _ (NumP.mk (VP.any _ (H.was _ [] F_x3)) (VP.any _ (H.was _ [] F_x4))))⟩) ?_
 refine .dk (fun u=>.agg #[x1,x2]::.agg #[x3,x4]::sq u1 0 4 (u 0::u 1::us 4)) K10 bel fun u2 w2 D bel=>?_
 have E2_1:=D.q 1
 replace B6:=D.k B6
 replace B7:=D.k B7
 replace B8:=D.k B8
 replace F_x1:=D.gr (RatN x.re) F_x1
 replace F_x2:=D.gr (RatN x.im) F_x2
 replace F_x3:=D.gr (RatN y.re) F_x3
 replace F_x4:=D.gr (RatN y.im) F_x4
 clear D
 refine wp_cond_false (by exact E2_1) ?_
 refine wp_skip ?_
 refine K9 _ _ ?_
 refine gs1 5 (Amb S W) 3 B8 fun _ K11=>?_
 refine .e rfl (fun H=>x_ldr (H.z 2 E1_0) (H.b1 B6 (Ne.symm N6_8))) ?_
 refine .e rfl (fun H=>x_ldr (H.z 3 E1_1) (H.b1 B7 (Ne.symm N7_8))) ?_
 refine .cR rfl [] Tryz.func107 (fun H=>⟨_,ar2 (H.g 9 0) (H.g 10 1),eDiv _ _ (NumP.mk (H.was _ [] F_x1) (H.was _ [] F_x2)) (NumP.mk (H.was _ [] F_x3) (H.was _ [] F_x4)) (by first | omega | exact zero_norm p0) (by first | omega | exact zero_norm p0)⟩) ?_
 refine Go2.storeOld (i:=3) 0 b8 rfl rfl rfl ⟨_,_,_,B8,rfl⟩ (SP.old 0 b8 [2] (fun u=>#[((u 2).v.cells.getD 0 undef),((u 2).v.cells.getD 1 undef)]) 125 (by intro u u' h; simp [h 2 (by simp)]) (lt_of B8) (by intro y k hy; match y,hy with | 0,hy=>rfl)) (fun u μ ρ H=>?_) ?_
 · have e4:=H.z 4 E1_2; have e11:=H.r 11 2; have hb:=H.blkOld B8 0 3 rfl (.inl rfl)
   obtain ⟨x1,x2,h1,h2,h3⟩:=(H.a 2 rfl)
   have o1:=VP1.ratn h2
   have o2:=VP1.ratn h3
   rw [h1] at e11
   refine ⟨μ.setRow b8 #[x1,x2],ex_store_row 125 _ _ rfl e4 e11 hb (by kernel_rfl) rfl (by simp [o1,o2]),fun g=>?_,setRow_only _ _ _⟩
   show (World.setRow _ _ _).heap[b8]? = _
   rw [setRow_at hb]; try simp [upd,h1,Value.cells]
 refine .mc rfl ?_
 refine .d1 (fun u=>.agg #[x1,x2]::.agg #[x3,x4]::sq u1 0 3 (u 4::u2 0::u2 1::U::sq u 0 3 [])) K11 bel A8 fun u3 w3 D bel=>?_
 obtain ⟨x12,x13,E3_2,F_x12,F_x13⟩:=(D.rr 2)
 have E3_4:=D.q 4
 replace B8:w3.heap[b8]? = _:=(D.a 3 rfl)
 simp only [Value.cells,E3_2] at B8
 clear D
 refine wp_ret ?_
 refine ret_ok rfl (by exact results_mix rfl (by exact E1_2) B8 Tryz.underlying125 rfl (by kernel_rfl) (by exact E3_4)) ⟨_,rfl,?_,bel⟩
 exact ⟨_,_,rfl,(NumP.mk F_x12 F_x13),rfl⟩
theorem gaTwoDiv (x:Cx) (y:Cx) (p0:gfits (rg x) = true) (p1:gfits (rg y) = true) (p2:y.zero = false) :
  Calls Tryz.prog 89 #[gV x,gV y,.func (.func 105) #[] #[]] W (RetV (.tuple #[.agg #[.bool (gcut (x.div y)).re.a.n,.string (gcut (x.div y)).re.a.s,.bool (gcut (x.div y)).re.b.n,.string (gcut (x.div y)).re.b.s,.bool (gcut (x.div y)).im.a.n,.string (gcut (x.div y)).im.a.s,.bool (gcut (x.div y)).im.b.n,.string (gcut (x.div y)).im.b.s],.int .i64 (gerr (x.div y))]) W):=by
 have f1:=gfits_ht2 p0
 have f2:=gfits_ht2 p1
 have f3:=hc_div x y
 have bel:=b0 W
 go_enter Tryz.func89,Tryz.ntmps89
 refine gs 4 (Amb Z0 W) fun _ K1=>?_
 refine .bx rfl (fun H=>H.v 0 (gV x)) ?_
 refine .bx rfl (fun H=>H.v 1 (gV y)) ?_
 refine .al rfl zG ?_
 refine .mc rfl ?_
 refine .dk (fun u=>gV x::gV y::.func (.func 105) #[] #[]::u 0::u 1::U::u 2::u 3::us 33) K1 bel fun u1 w1 D bel=>?_
 obtain ⟨b2,E1_0,A2,B2⟩:=D.nw 0
 obtain ⟨b3,E1_1,A3,B3⟩:=D.nw 1
 obtain ⟨b4,E1_2,A4,B4⟩:=D.nw 2
 have E1_3:=D.q 3
 have N2_4:=D.n2 0 2 E1_0 E1_2
 have N3_4:=D.n2 1 2 E1_1 E1_2
 clear D
 refine wp_seq_k fun _ K5=>?_
 refine wp_region_list ?_
 refine wpT_val (v:=gV x) rfl (ex_load_row 30 _ rfl (by exact E1_0) B2 Tryz.underlying30 rfl (by kernel_rfl)) ?_
 refine wpList_as (fr (gV x::gV y::.func (.func 105) #[] #[]::u1 0::u1 1::U::u1 2::u1 3::U::U::U::U::gV x::us 28)) (by kernel_rfl) ?_
 refine wpT_val (v:=gV y) rfl (ex_load_row 30 _ rfl (by exact E1_1) B3 Tryz.underlying30 rfl (by kernel_rfl)) ?_
 refine wpList_as (fr (gV x::gV y::.func (.func 105) #[] #[]::u1 0::u1 1::U::u1 2::u1 3::U::U::U::U::gV x::gV y::us 27)) (by kernel_rfl) ?_
 refine wpT_lit2 (r0:=rg x) (r1:=rg y) rfl rfl rfl rfl fun v7 w6 tw6 mw6 ow6=>?_
 obtain ⟨p_q,c_q,cur_q,T_q,fr_q,rfl,y_q,z_q,P_q,B_q,Q_q⟩:=GSl.open tw6
 replace mw6:=mw6 _ _ _ rfl
 have N_q_b2:=Nat.ne_of_lt (Nat.lt_of_lt_of_le (lt_of B2) mw6)
 have N_q_b3:=Nat.ne_of_lt (Nat.lt_of_lt_of_le (lt_of B3) mw6)
 have N_q_b4:=Nat.ne_of_lt (Nat.lt_of_lt_of_le (lt_of B4) mw6)
 replace B2:=(ow6.block b2 (lt_of B2)).trans B2
 replace B3:=(ow6.block b3 (lt_of B3)).trans B3
 replace B4:=(ow6.block b4 (lt_of B4)).trans B4
 replace bel:=bel.trans (ow6.mono bel.size)
 replace P_q:=Lib.hid P_q
 have X_q:=GSl.lt B_q
 refine wpList_as (fr (gV x::gV y::.func (.func 105) #[] #[]::u1 0::u1 1::U::u1 2::u1 3::U::U::U::U::gV x::gV y::.slice p_q ([rg x,rg y]).length c_q::us 26)) (by kernel_rfl) ?_
 refine wpT_nums2 (x:=x) (y:=y) (S:=Amb Z0 W) rfl (ex_call rfl rfl Tryz.func154 (by kernel_rfl) (by kernel_rfl) (by simp only [List.map_toArray,List.map_cons,List.map_nil]; rfl)) (gaOpened2 (l:=[rg x,rg y]) (GSl.mk y_q z_q P_q.out B_q Q_q) (by first | omega | rfl | exact all_two p0 p1 | exact p2) (by first | omega | rfl | exact all_two p0 p1 | exact p2)) fun b9 x10 x11 x12 x13 w8 h0 h1 h2 h3 A9 B9 ow8=>?_
 have F_x10:(RatN x.re).p (Amb Z0 W) x10 w8:=(RatN x.re).mono (fun _ _ h=>h.elim id (fun h=>.inr (Nat.le_trans bel.size h))) h0
 have F_x11:(RatN x.im).p (Amb Z0 W) x11 w8:=(RatN x.im).mono (fun _ _ h=>h.elim id (fun h=>.inr (Nat.le_trans bel.size h))) h1
 have F_x12:(RatN y.re).p (Amb Z0 W) x12 w8:=(RatN y.re).mono (fun _ _ h=>h.elim id (fun h=>.inr (Nat.le_trans bel.size h))) h2
 have F_x13:(RatN y.im).p (Amb Z0 W) x13 w8:=(RatN y.im).mono (fun _ _ h=>h.elim id (fun h=>.inr (Nat.le_trans bel.size h))) h3
 have N2_9:=Nat.ne_of_lt (Nat.lt_of_lt_of_le (lt_of B2) A9)
 have N3_9:=Nat.ne_of_lt (Nat.lt_of_lt_of_le (lt_of B3) A9)
 have N4_9:=Nat.ne_of_lt (Nat.lt_of_lt_of_le (lt_of B4) A9)
 replace A9:=Nat.le_trans bel.size A9
 replace B2:=(ow8.block b2 (lt_of B2)).trans B2
 replace B3:=(ow8.block b3 (lt_of B3)).trans B3
 replace B4:=(ow8.block b4 (lt_of B4)).trans B4
 replace B_q:=fun h=>(ow8.block _ (lt_of (B_q h))).trans (B_q h)
 replace bel:=bel.trans (ow8.mono bel.size)
 refine wpList_as (fr (gV x::gV y::.func (.func 105) #[] #[]::u1 0::u1 1::U::u1 2::u1 3::U::U::U::U::gV x::gV y::.slice p_q ([rg x,rg y]).length c_q::.tuple #[.slice (some ⟨b9,0,none⟩) 2 2,.int .i64 0]::us 25)) (by kernel_rfl) ?_
 refine wpT_val rfl (ex_move rfl) ?_
 refine wpList_as (fr (gV x::gV y::.func (.func 105) #[] #[]::u1 0::u1 1::U::u1 2::u1 3::U::U::U::.tuple #[.slice (some ⟨b9,0,none⟩) 2 2,.int .i64 0]::gV x::gV y::.slice p_q ([rg x,rg y]).length c_q::.tuple #[.slice (some ⟨b9,0,none⟩) 2 2,.int .i64 0]::us 25)) (by kernel_rfl) ?_
 refine wpT_val (v:=.slice (some ⟨b9,0,none⟩) 2 2) rfl (x_ex (vs:=#[.slice (some ⟨b9,0,none⟩) 2 2,.int .i64 0]) rfl) ?_
 refine wpList_as (fr (gV x::gV y::.func (.func 105) #[] #[]::u1 0::u1 1::U::u1 2::u1 3::U::U::U::.tuple #[.slice (some ⟨b9,0,none⟩) 2 2,.int .i64 0]::gV x::gV y::.slice p_q ([rg x,rg y]).length c_q::.tuple #[.slice (some ⟨b9,0,none⟩) 2 2,.int .i64 0]::.slice (some ⟨b9,0,none⟩) 2 2::us 24)) (by kernel_rfl) ?_
 refine wpT_val (v:=.int .i64 0) rfl (x_ex (vs:=#[.slice (some ⟨b9,0,none⟩) 2 2,.int .i64 0]) rfl) ?_
 refine wpList_as (fr (gV x::gV y::.func (.func 105) #[] #[]::u1 0::u1 1::U::u1 2::u1 3::U::U::U::.tuple #[.slice (some ⟨b9,0,none⟩) 2 2,.int .i64 0]::gV x::gV y::.slice p_q ([rg x,rg y]).length c_q::.tuple #[.slice (some ⟨b9,0,none⟩) 2 2,.int .i64 0]::.slice (some ⟨b9,0,none⟩) 2 2::.int .i64 0::us 23)) (by kernel_rfl) ?_
 refine wpT_val rfl (ex_assign rfl) ?_
 refine wpList_as (fr (gV x::gV y::.func (.func 105) #[] #[]::u1 0::u1 1::U::u1 2::u1 3::.slice (some ⟨b9,0,none⟩) 2 2::U::U::.tuple #[.slice (some ⟨b9,0,none⟩) 2 2,.int .i64 0]::gV x::gV y::.slice p_q ([rg x,rg y]).length c_q::.tuple #[.slice (some ⟨b9,0,none⟩) 2 2,.int .i64 0]::.slice (some ⟨b9,0,none⟩) 2 2::.int .i64 0::us 23)) (by kernel_rfl) ?_
 refine wpT_val rfl (ex_assign rfl) ?_
 refine wpList_as (fr (gV x::gV y::.func (.func 105) #[] #[]::u1 0::u1 1::U::u1 2::u1 3::.slice (some ⟨b9,0,none⟩) 2 2::.int .i64 0::U::.tuple #[.slice (some ⟨b9,0,none⟩) 2 2,.int .i64 0]::gV x::gV y::.slice p_q ([rg x,rg y]).length c_q::.tuple #[.slice (some ⟨b9,0,none⟩) 2 2,.int .i64 0]::.slice (some ⟨b9,0,none⟩) 2 2::.int .i64 0::us 23)) (by kernel_rfl) ?_
 refine wpList_nil ?_
 show _
 refine K5 _ _ ?_
 refine wp_seq_k fun _ K14=>?_
 refine gs 2 (Amb Z0 W) fun _ K15=>?_
 refine .mz rfl 9 (V:=.int .i64 0) rfl ?_
 refine .e rfl (V:=.bool false) (fun H=>x_cm (H.g 18 0) (H.c _) (bne_self_eq_false (show Int from 0))) ?_
 refine .dk (fun u=>gV x::gV y::.func (.func 105) #[] #[]::u1 0::u1 1::U::u1 2::u1 3::.slice (some ⟨b9,0,none⟩) 2 2::.int .i64 0::U::.tuple #[.slice (some ⟨b9,0,none⟩) 2 2,.int .i64 0]::gV x::gV y::.slice p_q ([rg x,rg y]).length c_q::.tuple #[.slice (some ⟨b9,0,none⟩) 2 2,.int .i64 0]::.slice (some ⟨b9,0,none⟩) 2 2::.int .i64 0::u 0::u 1::us 21) K15 bel fun u3 w3 D bel=>?_
 have E3_1:=D.q 1
 replace B4:=D.k B4
 replace B9:=D.k B9
 replace B_q:=fun h=>D.k (B_q h)
 replace F_x10:=D.gr (RatN x.re) F_x10
 replace F_x11:=D.gr (RatN x.im) F_x11
 replace F_x12:=D.gr (RatN y.re) F_x12
 replace F_x13:=D.gr (RatN y.im) F_x13
 clear D
 refine wp_cond_false (by exact E3_1) ?_
 refine wp_skip ?_
 refine K14 _ _ ?_
 refine gd 14 (Amb Z0 W) fun _ K16=>?_
 refine .mz rfl 2 (V:=.func (.func 105) #[] #[]) rfl ?_
 refine .mz rfl 8 (V:=.slice (some ⟨b9,0,none⟩) 2 2) rfl ?_
 refine .e rfl (V:=pt b9) (fun H=>x_ixl (H.g 24 1) (H.c (.int .i64 0))) ?_
 refine .lp rfl 2 (#[x10,x11]) B9 ?_
 refine .mz rfl 8 (V:=.slice (some ⟨b9,0,none⟩) 2 2) rfl ?_
 refine .e rfl (V:=.pointer (some ⟨b9,2,none⟩)) (fun H=>x_ixl (H.g 27 4) (H.c (.int .i64 1))) ?_
 refine .lp rfl 5 (#[x12,x13]) B9 ?_
 refine Go2.callR (i:=7) rfl (G0 rfl) [] rfl (VP.tup (NumP (x.div y)) (VP.is (.int .i64 0))) (f:=105) (fun u μ ρ H=>⟨#[.agg #[x10,x11],.agg #[x12,x13]],by have e26:=H.g 26 3; have e29:=H.g 29 6; have e23:=H.g 23 0; exact ex_callv rfl e23 Tryz.func105 (by kernel_rfl) (by kernel_rfl) (by simp only [List.map_toArray,List.map_cons,List.map_nil,e26,e29]; first | done | rfl),gaD1 (x:=x) (y:=y) (NumP.mk (H.was _ [] F_x10) (H.was _ [] F_x11)) (NumP.mk (H.was _ [] F_x12) (H.was _ [] F_x13)) (by first | omega | rfl | exact all_two p0 p1 | exact p2) (by first | omega | rfl | exact all_two p0 p1 | exact p2)⟩) ?_
 refine .mn rfl 7 [7] ?_
 refine Go2.fn (i:=9) rfl (G0 rfl) (.val 9 [7,8] (NumP (x.div y))) (fun u μ ρ H=>by have e22:=H.r 22 8; have h0:=(H.a 8 rfl); obtain ⟨x0,x1,h1,h2⟩:=h0; rw [h1] at e22; exact ⟨x0,by clear H; go_simp,SP.tupKeep (by decide) (by decide) h2.1⟩) ?_
 refine .e rfl (V:=.int .i64 0) (fun H=>by have e22:=H.r 22 8; have h0:=(H.a 8 rfl); obtain ⟨x0,x1,h1,h2,h3⟩:=h0; rw [h1] at e22; have h3:x1 = .int .i64 0:=h3; subst h3; clear H; go_simp) ?_
 refine .al rfl (#[.pointer none,.pointer none]) ?_
 refine Go2.storeOwn (i:=12) (m:=11) rfl rfl (.head _) (SP.cells 11 [9] (fun u=>#[((u 9).v.cells.getD 0 undef),((u 9).v.cells.getD 1 undef)]) 125 (by intro u u' h; simp [h 9 (by simp)])) (fun u μ ρ b H h0 hB hb=>?_) ?_
 · have e10:=H.r 10 11; have e31:=H.r 31 9
   rw [h0] at e10
   obtain ⟨x1,x2,h1,h2,h3⟩:=(H.a 9 rfl)
   have o1:=VP1.ratn h2
   have o2:=VP1.ratn h3
   rw [h1] at e31
   refine ⟨μ.setRow b #[x1,x2],ex_store_row 125 _ _ rfl e10 e31 hb (by kernel_rfl) rfl (by simp [o1,o2]),fun g=>⟨b,?_,hB,?_⟩,setRow_only _ _ _⟩
   · rw [upd_other _ _ (by decide)]; exact h0
   · rw [setRow_at hb]; try simp [upd,h1,Value.cells]
 refine .mv rfl 10 ?_
 refine .dk (fun u=>gV x::gV y::.func (.func 105) #[] #[]::u1 0::u1 1::U::u1 2::u1 3::.slice (some ⟨b9,0,none⟩) 2 2::u 13::u 11::.tuple #[.slice (some ⟨b9,0,none⟩) 2 2,.int .i64 0]::gV x::gV y::.slice p_q ([rg x,rg y]).length c_q::.tuple #[.slice (some ⟨b9,0,none⟩) 2 2,.int .i64 0]::.slice (some ⟨b9,0,none⟩) 2 2::.int .i64 0::u3 0::u3 1::U::U::u 8::sq u 0 8 (u 9::u 10::us 8)) K16 bel fun u4 w4 D bel=>?_
 obtain ⟨x17,x18,E4_9,F_x17,F_x18⟩:=(D.rr 9)
 obtain ⟨b19,E4_11,A19,B19⟩:=(D.a 12 rfl)
 replace A19:=le2 D.le A19
 have E4_13:=D.q 13
 have N4_19:=D.n1 11 (lt_of B4) E4_11
 replace B4:=D.k B4
 simp only [Value.cells,E4_9,E4_11] at B19
 replace B19:w4.heap[b19]? = some (.cells #[x17,x18] 125 (0,0)):=B19
 replace B_q:=fun h=>D.k (B_q h)
 clear D
 refine wp_seq_k fun _ K20=>?_
 refine gs 2 (Amb Z0 W) fun _ K21=>?_
 refine .mz rfl 9 E4_13 ?_
 refine .e rfl (V:=.bool false) (fun H=>x_cm (H.g 33 0) (H.c _) (bne_self_eq_false (show Int from 0))) ?_
 refine .dk (fun u=>gV x::gV y::.func (.func 105) #[] #[]::u1 0::u1 1::U::u1 2::u1 3::.slice (some ⟨b9,0,none⟩) 2 2::u4 13::u4 11::.tuple #[.slice (some ⟨b9,0,none⟩) 2 2,.int .i64 0]::gV x::gV y::.slice p_q ([rg x,rg y]).length c_q::.tuple #[.slice (some ⟨b9,0,none⟩) 2 2,.int .i64 0]::.slice (some ⟨b9,0,none⟩) 2 2::.int .i64 0::u3 0::u3 1::U::U::u4 8::sq u4 0 8 (u4 9::u4 10::u 0::u 1::us 6)) K21 bel fun u5 w5 D bel=>?_
 have E5_1:=D.q 1
 replace B4:=D.k B4
 replace B19:=D.k B19
 replace B_q:=fun h=>D.k (B_q h)
 replace F_x17:=D.gr (RatN ((x.div y).re)) F_x17
 replace F_x18:=D.gr (RatN ((x.div y).im)) F_x18
 clear D
 refine wp_cond_false (by exact E5_1) ?_
 refine wp_skip ?_
 refine K20 _ _ ?_
 refine gs1 6 (Amb Z0 W) 4 B4 fun _ K22=>?_
 refine .e rfl (fun H=>x_ldr (H.z 10 E4_11) (H.b1 B19 N4_19)) ?_
 refine .cK rfl Tryz.func155 (fun H=>⟨_,ar1 (H.g 37 0),eTold _ (NumP.mk (VP.any _ (H.was _ [] F_x17)) (VP.any _ (H.was _ [] F_x18))) (by first | omega | rfl | exact all_two p0 p1 | exact p2)⟩) ?_
 refine .e rfl (V:=rgV (gcut (x.div y))) (fun H=>x_ex (H.g 38 1)) ?_
 refine .e rfl (V:=.int .i64 (gerr (x.div y))) (fun H=>x_ex (H.g 38 1)) ?_
 refine .s1 rfl B4 (fun H=>⟨H.z 6 E1_2,H.g 39 2⟩) ?_
 refine .mv rfl 3 ?_
 refine .d1 (fun u=>gV x::gV y::.func (.func 105) #[] #[]::u1 0::u1 1::U::u1 2::u 5::.slice (some ⟨b9,0,none⟩) 2 2::u4 13::u4 11::.tuple #[.slice (some ⟨b9,0,none⟩) 2 2,.int .i64 0]::gV x::gV y::.slice p_q ([rg x,rg y]).length c_q::.tuple #[.slice (some ⟨b9,0,none⟩) 2 2,.int .i64 0]::.slice (some ⟨b9,0,none⟩) 2 2::.int .i64 0::u3 0::u3 1::U::U::u4 8::sq u4 0 8 (u4 9::u4 10::u5 0::u5 1::U::U::sq u 0 4 [])) K22 bel A4 fun u6 w6 D bel=>?_
 have E6_5:=D.q 5
 replace B4:=D.ol 4
 replace B_q:=fun h=>D.kk (B_q h) (no_cons N_q_b4 (no_nil _))
 clear D
 refine wp_ret ?_
 refine ret_ok rfl (by exact results_mix rfl (by exact E1_2) B4 Tryz.underlying30 rfl (by kernel_rfl) (by exact E6_5)) (RetV.mk ?_ bel)
 exact congrArg Ending.returned (rfl)
theorem gaDiv (x:Cx) (y:Cx) (p0:gfits (rg x) = true) (p1:gfits (rg y) = true) (p2:y.zero = false) :
  Calls Tryz.prog 50 #[gV x,gV y] W (RetV (.tuple #[.agg #[.bool (gcut (x.div y)).re.a.n,.string (gcut (x.div y)).re.a.s,.bool (gcut (x.div y)).re.b.n,.string (gcut (x.div y)).re.b.s,.bool (gcut (x.div y)).im.a.n,.string (gcut (x.div y)).im.a.s,.bool (gcut (x.div y)).im.b.n,.string (gcut (x.div y)).im.b.s],.int .i64 (gerr (x.div y))]) W):=by
 have bel:=b0 W
 go_enter Tryz.func50,Tryz.ntmps50
 refine gs 4 (Amb Z0 W) fun _ K1=>?_
 refine .bx rfl (fun H=>H.v 0 (gV x)) ?_
 refine .bx rfl (fun H=>H.v 1 (gV y)) ?_
 refine .al rfl zG ?_
 refine .mc rfl ?_
 refine .dk (fun u=>gV x::gV y::sq u 0 4 (us 5)) K1 bel fun u1 w1 D bel=>?_
 obtain ⟨b2,E1_0,A2,B2⟩:=D.nw 0
 obtain ⟨b3,E1_1,A3,B3⟩:=D.nw 1
 obtain ⟨b4,E1_2,A4,B4⟩:=D.nw 2
 have E1_3:=D.q 3
 have N2_4:=D.n2 0 2 E1_0 E1_2
 have N3_4:=D.n2 1 2 E1_1 E1_2
 clear D
 refine gs1 7 (Amb Z0 W) 5 B4 fun _ K5=>?_
 refine .e rfl (fun H=>x_ldr (H.z 2 E1_0) (H.b1 B2 (Ne.symm N2_4))) ?_
 refine .e rfl (fun H=>x_ldr (H.z 3 E1_1) (H.b1 B3 (Ne.symm N3_4))) ?_
 refine .cK rfl Tryz.func89 (fun H=>⟨_,ar3 (H.g 6 0) (H.g 7 1) (H.func _),gaTwoDiv _ _ (by first | exact p0 | exact p1 | exact p2) (by first | exact p0 | exact p1 | exact p2) (by first | exact p0 | exact p1 | exact p2)⟩) ?_
 refine .e rfl (V:=rgV (gcut (x.div y))) (fun H=>x_ex (H.g 8 2)) ?_
 refine .e rfl (V:=.int .i64 (gerr (x.div y))) (fun H=>x_ex (H.g 8 2)) ?_
 refine .s1 rfl B4 (fun H=>⟨H.z 4 E1_2,H.g 9 3⟩) ?_
 refine .mv rfl 4 ?_
 refine .d1 (fun u=>gV x::gV y::sq u1 0 3 (u 6::sq u 0 5 [])) K5 bel A4 fun u2 w2 D bel=>?_
 have E2_6:=D.q 6
 replace B4:=D.ol 5
 clear D
 refine wp_ret ?_
 refine ret_ok rfl (by exact results_mix rfl (by exact E1_2) B4 Tryz.underlying30 rfl (by kernel_rfl) (by exact E2_6)) (RetV.mk ?_ bel)
 exact congrArg Ending.returned (rfl)
theorem gaProd (x:Cx) (y:Cx) (p0:gfits (rg x) = true) (p1:gfits (rg y) = true) :
  Calls Tryz.prog 197 #[gV x,gV y] W (Ret (VP.tup3 (RatP ((x.conj.mul y).re)) (RatP ((x.conj.mul y).im)) (VP.is (.int .i64 0))) S W):=by
 have f1:=gfits_ht2 p0
 have f2:=gfits_ht2 p1
 have f3:=hc_conj x
 have f4:=hc_mul x.conj y
 have bel:=b0 W
 go_enter Tryz.func197,Tryz.ntmps197
 refine gs 5 (Amb S W) fun _ K1=>?_
 refine .bx rfl (fun H=>H.v 0 (gV x)) ?_
 refine .bx rfl (fun H=>H.v 1 (gV y)) ?_
 refine .mc rfl ?_
 refine .mc rfl ?_
 refine .mc rfl ?_
 refine .dk (fun u=>gV x::gV y::sq u 0 5 (us 25)) K1 bel fun u1 w1 D bel=>?_
 obtain ⟨b2,E1_0,A2,B2⟩:=D.nw 0
 obtain ⟨b3,E1_1,A3,B3⟩:=D.nw 1
 have E1_2:=D.q 2
 have E1_3:=D.q 3
 have E1_4:=D.q 4
 clear D
 refine wp_seq_k fun _ K4=>?_
 refine wp_region_list ?_
 refine wpT_val (v:=gV x) rfl (ex_load_row 30 _ rfl (by exact E1_0) B2 Tryz.underlying30 rfl (by kernel_rfl)) ?_
 refine wpList_as (fr (gV x::gV y::sq u1 0 5 (U::U::gV x::us 22))) (by kernel_rfl) ?_
 refine wpT_val (v:=gV y) rfl (ex_load_row 30 _ rfl (by exact E1_1) B3 Tryz.underlying30 rfl (by kernel_rfl)) ?_
 refine wpList_as (fr (gV x::gV y::sq u1 0 5 (U::U::gV x::gV y::us 21))) (by kernel_rfl) ?_
 refine wpT_lit2 (r0:=rg x) (r1:=rg y) rfl rfl rfl rfl fun v6 w5 tw5 mw5 ow5=>?_
 obtain ⟨p_q,c_q,cur_q,T_q,fr_q,rfl,y_q,z_q,P_q,B_q,Q_q⟩:=GSl.open tw5
 replace mw5:=mw5 _ _ _ rfl
 have N_q_b2:=Nat.ne_of_lt (Nat.lt_of_lt_of_le (lt_of B2) mw5)
 have N_q_b3:=Nat.ne_of_lt (Nat.lt_of_lt_of_le (lt_of B3) mw5)
 replace B2:=(ow5.block b2 (lt_of B2)).trans B2
 replace B3:=(ow5.block b3 (lt_of B3)).trans B3
 replace bel:=bel.trans (ow5.mono bel.size)
 replace P_q:=Lib.hid P_q
 have X_q:=GSl.lt B_q
 refine wpList_as (fr (gV x::gV y::sq u1 0 5 (U::U::gV x::gV y::.slice p_q ([rg x,rg y]).length c_q::us 20))) (by kernel_rfl) ?_
 refine wpT_nums2 (x:=x) (y:=y) (S:=Amb S W) rfl (ex_call rfl rfl Tryz.func154 (by kernel_rfl) (by kernel_rfl) (by simp only [List.map_toArray,List.map_cons,List.map_nil]; rfl)) (gaOpened2 (l:=[rg x,rg y]) (GSl.mk y_q z_q P_q.out B_q Q_q) (by first | omega | rfl | exact all_two p0 p1) (by first | omega | rfl | exact all_two p0 p1)) fun b8 x9 x10 x11 x12 w7 h0 h1 h2 h3 A8 B8 ow7=>?_
 have F_x9:(RatN x.re).p (Amb S W) x9 w7:=(RatN x.re).mono (fun _ _ h=>h.elim id (fun h=>.inr (Nat.le_trans bel.size h))) h0
 have F_x10:(RatN x.im).p (Amb S W) x10 w7:=(RatN x.im).mono (fun _ _ h=>h.elim id (fun h=>.inr (Nat.le_trans bel.size h))) h1
 have F_x11:(RatN y.re).p (Amb S W) x11 w7:=(RatN y.re).mono (fun _ _ h=>h.elim id (fun h=>.inr (Nat.le_trans bel.size h))) h2
 have F_x12:(RatN y.im).p (Amb S W) x12 w7:=(RatN y.im).mono (fun _ _ h=>h.elim id (fun h=>.inr (Nat.le_trans bel.size h))) h3
 have N2_8:=Nat.ne_of_lt (Nat.lt_of_lt_of_le (lt_of B2) A8)
 have N3_8:=Nat.ne_of_lt (Nat.lt_of_lt_of_le (lt_of B3) A8)
 replace A8:=Nat.le_trans bel.size A8
 replace B2:=(ow7.block b2 (lt_of B2)).trans B2
 replace B3:=(ow7.block b3 (lt_of B3)).trans B3
 replace B_q:=fun h=>(ow7.block _ (lt_of (B_q h))).trans (B_q h)
 replace bel:=bel.trans (ow7.mono bel.size)
 refine wpList_as (fr (gV x::gV y::sq u1 0 5 (U::U::gV x::gV y::.slice p_q ([rg x,rg y]).length c_q::.tuple #[.slice (some ⟨b8,0,none⟩) 2 2,.int .i64 0]::us 19))) (by kernel_rfl) ?_
 refine wpT_val rfl (ex_move rfl) ?_
 refine wpList_as (fr (gV x::gV y::sq u1 0 5 (U::.tuple #[.slice (some ⟨b8,0,none⟩) 2 2,.int .i64 0]::gV x::gV y::.slice p_q ([rg x,rg y]).length c_q::.tuple #[.slice (some ⟨b8,0,none⟩) 2 2,.int .i64 0]::us 19))) (by kernel_rfl) ?_
 refine wpT_val (v:=.slice (some ⟨b8,0,none⟩) 2 2) rfl (x_ex (vs:=#[.slice (some ⟨b8,0,none⟩) 2 2,.int .i64 0]) rfl) ?_
 refine wpList_as (fr (gV x::gV y::sq u1 0 5 (U::.tuple #[.slice (some ⟨b8,0,none⟩) 2 2,.int .i64 0]::gV x::gV y::.slice p_q ([rg x,rg y]).length c_q::.tuple #[.slice (some ⟨b8,0,none⟩) 2 2,.int .i64 0]::.slice (some ⟨b8,0,none⟩) 2 2::us 18))) (by kernel_rfl) ?_
 refine wpT_val (v:=.int .i64 0) rfl (x_ex (vs:=#[.slice (some ⟨b8,0,none⟩) 2 2,.int .i64 0]) rfl) ?_
 refine wpList_as (fr (gV x::gV y::sq u1 0 5 (U::.tuple #[.slice (some ⟨b8,0,none⟩) 2 2,.int .i64 0]::gV x::gV y::.slice p_q ([rg x,rg y]).length c_q::.tuple #[.slice (some ⟨b8,0,none⟩) 2 2,.int .i64 0]::.slice (some ⟨b8,0,none⟩) 2 2::.int .i64 0::us 17))) (by kernel_rfl) ?_
 refine wpT_val rfl (ex_assign rfl) ?_
 refine wpList_as (fr (gV x::gV y::sq u1 0 5 (.slice (some ⟨b8,0,none⟩) 2 2::.tuple #[.slice (some ⟨b8,0,none⟩) 2 2,.int .i64 0]::gV x::gV y::.slice p_q ([rg x,rg y]).length c_q::.tuple #[.slice (some ⟨b8,0,none⟩) 2 2,.int .i64 0]::.slice (some ⟨b8,0,none⟩) 2 2::.int .i64 0::us 17))) (by kernel_rfl) ?_
 refine wpT_val rfl (ex_assign rfl) ?_
 refine wpList_as (fr (gV x::gV y::sq u1 0 4 (.int .i64 0::.slice (some ⟨b8,0,none⟩) 2 2::.tuple #[.slice (some ⟨b8,0,none⟩) 2 2,.int .i64 0]::gV x::gV y::.slice p_q ([rg x,rg y]).length c_q::.tuple #[.slice (some ⟨b8,0,none⟩) 2 2,.int .i64 0]::.slice (some ⟨b8,0,none⟩) 2 2::.int .i64 0::us 17))) (by kernel_rfl) ?_
 refine wpList_nil ?_
 show _
 refine K4 _ _ ?_
 refine wp_seq_k fun _ K13=>?_
 refine gs 2 (Amb S W) fun _ K14=>?_
 refine .mz rfl 6 (V:=.int .i64 0) rfl ?_
 refine .e rfl (V:=.bool false) (fun H=>x_cm (H.g 15 0) (H.c _) (bne_self_eq_false (show Int from 0))) ?_
 refine .dk (fun u=>gV x::gV y::sq u1 0 4 (.int .i64 0::.slice (some ⟨b8,0,none⟩) 2 2::.tuple #[.slice (some ⟨b8,0,none⟩) 2 2,.int .i64 0]::gV x::gV y::.slice p_q ([rg x,rg y]).length c_q::.tuple #[.slice (some ⟨b8,0,none⟩) 2 2,.int .i64 0]::.slice (some ⟨b8,0,none⟩) 2 2::.int .i64 0::u 0::u 1::us 15)) K14 bel fun u3 w3 D bel=>?_
 have E3_1:=D.q 1
 replace B8:=D.k B8
 replace B_q:=fun h=>D.k (B_q h)
 replace F_x9:=D.gr (RatN x.re) F_x9
 replace F_x10:=D.gr (RatN x.im) F_x10
 replace F_x11:=D.gr (RatN y.re) F_x11
 replace F_x12:=D.gr (RatN y.im) F_x12
 clear D
 refine wp_cond_false (by exact E3_1) ?_
 refine wp_skip ?_
 refine K13 _ _ ?_
 refine gd 14 (Amb S W) fun _ K15=>?_
 refine .mz rfl 7 (V:=.slice (some ⟨b8,0,none⟩) 2 2) rfl ?_
 refine .e rfl (V:=pt b8) (fun H=>x_ixl (H.g 19 0) (H.c (.int .i64 0))) ?_
 refine .lp rfl 1 (#[x9,x10]) B8 ?_
 refine .cR rfl [] Tryz.func165 (fun H=>⟨_,ar1 (H.g 21 2),eConj _ (NumP.mk (H.was _ [] F_x9) (H.was _ [] F_x10)) (by first | omega | rfl | exact all_two p0 p1)⟩) ?_
 refine .mz rfl 7 (V:=.slice (some ⟨b8,0,none⟩) 2 2) rfl ?_
 refine .e rfl (V:=.pointer (some ⟨b8,2,none⟩)) (fun H=>x_ixl (H.g 23 4) (H.c (.int .i64 1))) ?_
 refine .lp rfl 5 (#[x11,x12]) B8 ?_
 refine .cR rfl [3] Tryz.func91 (fun H=>⟨_,ar2 (H.r 22 3) (H.g 25 6),eNMul _ _ (SV.sub [3] (H.a 3 rfl) rfl) (NumP.mk (H.was _ [3] F_x11) (H.was _ [3] F_x12)) (by first | omega | rfl | exact all_two p0 p1)⟩) ?_
 refine .cR rfl [3,7] Tryz.func214 (fun H=>⟨_,ar1 (H.r 26 7),eParts _ (SV.sub [3,7] (H.a 7 rfl) rfl)⟩) ?_
 refine .mn rfl 8 [3,7,8] ?_
 refine Go2.fn (i:=10) rfl (G0 rfl) (.val 10 [3,7,8,9] (RatP ((x.conj.mul y).re))) (fun u μ ρ H=>by have e18:=H.r 18 9; have h0:=(H.a 9 rfl); obtain ⟨x0,x1,h1,h2⟩:=h0; rw [h1] at e18; exact ⟨x0,by clear H; go_simp,SP.tupKeep (by decide) (by decide) h2.1⟩) ?_
 refine Go2.fn (i:=11) rfl (G0 rfl) (.val 11 [3,7,8,9] (RatP ((x.conj.mul y).im))) (fun u μ ρ H=>by have e18:=H.r 18 9; have h0:=(H.a 9 rfl); obtain ⟨x0,x1,h1,h2⟩:=h0; rw [h1] at e18; exact ⟨x1,by clear H; go_simp,SP.tupKeep (by decide) (by decide) h2.2⟩) ?_
 refine .mn rfl 10 [3,7,8,9,10] ?_
 refine .mn rfl 11 [3,7,8,9,11] ?_
 refine .dk (fun u=>gV x::gV y::u1 0::u1 1::u 12::u 13::.int .i64 0::.slice (some ⟨b8,0,none⟩) 2 2::.tuple #[.slice (some ⟨b8,0,none⟩) 2 2,.int .i64 0]::gV x::gV y::.slice p_q ([rg x,rg y]).length c_q::.tuple #[.slice (some ⟨b8,0,none⟩) 2 2,.int .i64 0]::.slice (some ⟨b8,0,none⟩) 2 2::.int .i64 0::u3 0::u3 1::U::u 9::sq u 0 9 (u 10::u 11::U::U::[])) K15 bel fun u4 w4 D bel=>?_
 obtain ⟨b16,E4_12,L16,F16⟩:=RatP.elim (D.rr 12)
 obtain ⟨b17,E4_13,L17,F17⟩:=RatP.elim (D.rr 13)
 replace B_q:=fun h=>D.k (B_q h)
 clear D
 refine wp_seq_k fun _ K18=>?_
 refine wp_region_list ?_
 refine wpT_val rfl (ex_move rfl) ?_
 refine wpList_as (fr (gV x::gV y::u1 0::u1 1::u4 12::u4 13::.int .i64 0::.slice (some ⟨b8,0,none⟩) 2 2::.tuple #[.slice (some ⟨b8,0,none⟩) 2 2,.int .i64 0]::gV x::gV y::.slice p_q ([rg x,rg y]).length c_q::.tuple #[.slice (some ⟨b8,0,none⟩) 2 2,.int .i64 0]::.slice (some ⟨b8,0,none⟩) 2 2::.int .i64 0::u3 0::u3 1::U::u4 9::sq u4 0 9 (sq u4 10 3 (U::[])))) (by kernel_rfl) ?_
 refine wpT_val rfl (ex_move rfl) ?_
 refine wpList_as (fr (gV x::gV y::u1 0::u1 1::u4 12::u4 13::.int .i64 0::.slice (some ⟨b8,0,none⟩) 2 2::.tuple #[.slice (some ⟨b8,0,none⟩) 2 2,.int .i64 0]::gV x::gV y::.slice p_q ([rg x,rg y]).length c_q::.tuple #[.slice (some ⟨b8,0,none⟩) 2 2,.int .i64 0]::.slice (some ⟨b8,0,none⟩) 2 2::.int .i64 0::u3 0::u3 1::U::u4 9::sq u4 0 9 (sq u4 10 4 []))) (by kernel_rfl) ?_
 refine wpT_val rfl (ex_assign rfl) ?_
 refine wpList_as (fr (gV x::gV y::u1 0::u1 1::u4 12::u4 13::.int .i64 0::.slice (some ⟨b8,0,none⟩) 2 2::.tuple #[.slice (some ⟨b8,0,none⟩) 2 2,.int .i64 0]::gV x::gV y::.slice p_q ([rg x,rg y]).length c_q::.tuple #[.slice (some ⟨b8,0,none⟩) 2 2,.int .i64 0]::.slice (some ⟨b8,0,none⟩) 2 2::.int .i64 0::u3 0::u3 1::U::u4 9::sq u4 0 9 (sq u4 10 4 []))) (by kernel_rfl) ?_
 refine wpT_val rfl (ex_assign rfl) ?_
 refine wpList_as (fr (gV x::gV y::u1 0::u1 1::u4 12::u4 13::.int .i64 0::.slice (some ⟨b8,0,none⟩) 2 2::.tuple #[.slice (some ⟨b8,0,none⟩) 2 2,.int .i64 0]::gV x::gV y::.slice p_q ([rg x,rg y]).length c_q::.tuple #[.slice (some ⟨b8,0,none⟩) 2 2,.int .i64 0]::.slice (some ⟨b8,0,none⟩) 2 2::.int .i64 0::u3 0::u3 1::U::u4 9::sq u4 0 9 (sq u4 10 4 []))) (by kernel_rfl) ?_
 refine wpT_val rfl (ex_assign rfl) ?_
 refine wpList_as (fr (gV x::gV y::u1 0::u1 1::u4 12::u4 13::.int .i64 0::.slice (some ⟨b8,0,none⟩) 2 2::.tuple #[.slice (some ⟨b8,0,none⟩) 2 2,.int .i64 0]::gV x::gV y::.slice p_q ([rg x,rg y]).length c_q::.tuple #[.slice (some ⟨b8,0,none⟩) 2 2,.int .i64 0]::.slice (some ⟨b8,0,none⟩) 2 2::.int .i64 0::u3 0::u3 1::U::u4 9::sq u4 0 9 (sq u4 10 4 []))) (by kernel_rfl) ?_
 refine wpList_nil ?_
 show _
 refine K18 _ _ ?_
 refine wp_ret ?_
 refine ret_ok rfl (by exact results_ttt rfl (by exact E4_12) (by exact E4_13) rfl) ⟨_,rfl,?_,bel⟩
 exact ⟨_,_,_,rfl,(VP.at F16 L16),(VP.at F17 L17),rfl⟩
theorem gaDot (x:Cx) (y:Cx) (p0:gfits (rg x) = true) (p1:gfits (rg y) = true) :
  Calls Tryz.prog 161 #[gV x,gV y] W (RetV (.tuple #[.agg #[.bool (fcut (x.conj.mul y).re).a.n,.string (fcut (x.conj.mul y).re).a.s,.bool (fcut (x.conj.mul y).re).b.n,.string (fcut (x.conj.mul y).re).b.s],.int .i64 (ferr (x.conj.mul y).re)]) W):=by
 have f1:=gfits_ht2 p0
 have f2:=gfits_ht2 p1
 have f3:=hc_conj x
 have f4:=hc_mul x.conj y
 have bel:=b0 W
 go_enter Tryz.func161,Tryz.ntmps161
 refine gs 4 (Amb Z0 W) fun _ K1=>?_
 refine .bx rfl (fun H=>H.v 0 (gV x)) ?_
 refine .bx rfl (fun H=>H.v 1 (gV y)) ?_
 refine .al rfl zF ?_
 refine .mc rfl ?_
 refine .dk (fun u=>gV x::gV y::sq u 0 4 (us 18)) K1 bel fun u1 w1 D bel=>?_
 obtain ⟨b2,E1_0,A2,B2⟩:=D.nw 0
 obtain ⟨b3,E1_1,A3,B3⟩:=D.nw 1
 obtain ⟨b4,E1_2,A4,B4⟩:=D.nw 2
 have E1_3:=D.q 3
 have N2_4:=D.n2 0 2 E1_0 E1_2
 have N3_4:=D.n2 1 2 E1_1 E1_2
 clear D
 refine gs 10 (Amb Z0 W) fun _ K5=>?_
 refine .lr rfl 2 E1_0 B2 ?_
 refine .lr rfl 3 E1_1 B3 ?_
 refine .cR rfl [] Tryz.func197 (fun H=>⟨_,ar2 (H.g 10 0) (H.g 11 1),gaProd _ _ (by first | omega | exact p0 | exact p1) (by first | omega | exact p0 | exact p1)⟩) ?_
 refine .mn rfl 2 [2] ?_
 refine Go2.fn (i:=4) rfl (G0 rfl) (.val 4 [2,3] (RatP ((x.conj.mul y).re))) (fun u μ ρ H=>by have e9:=H.r 9 3; have h0:=(H.a 3 rfl); obtain ⟨x0,x1,x2,h1,h2⟩:=h0; rw [h1] at e9; exact ⟨x0,by clear H; go_simp,SP.tupKeep (by decide) (by decide) h2.1⟩) ?_
 refine Go2.fn (i:=5) rfl (G0 rfl) (.val 5 [2,3] (RatP ((x.conj.mul y).im))) (fun u μ ρ H=>by have e9:=H.r 9 3; have h0:=(H.a 3 rfl); obtain ⟨x0,x1,x2,h1,h2⟩:=h0; rw [h1] at e9; exact ⟨x1,by clear H; go_simp,SP.tupKeep (by decide) (by decide) h2.2.1⟩) ?_
 refine .e rfl (V:=.int .i64 0) (fun H=>by have e9:=H.r 9 3; have h0:=(H.a 3 rfl); obtain ⟨x0,x1,x2,h1,_,_,h3⟩:=h0; rw [h1] at e9; have h3:x2 = .int .i64 0:=h3; subst h3; clear H; go_simp) ?_
 refine .mn rfl 4 [2,3,4] ?_
 refine .mn rfl 5 [2,3,5] ?_
 refine .mv rfl 6 ?_
 refine .dk (fun u=>gV x::gV y::sq u1 0 4 (sq u 7 3 (u 3::sq u 0 3 (sq u 4 3 (us 8))))) K5 bel fun u2 w2 D bel=>?_
 obtain ⟨b6,E2_7,L6,F6⟩:=RatP.elim (D.rr 7)
 have E2_9:=D.q 9
 replace B4:=D.k B4
 clear D
 refine wp_seq_k fun _ K7=>?_
 refine gs 2 (Amb Z0 W) fun _ K8=>?_
 refine .mz rfl 8 E2_9 ?_
 refine .e rfl (V:=.bool false) (fun H=>x_cm (H.g 16 0) (H.c _) (bne_self_eq_false (show Int from 0))) ?_
 refine .dk (fun u=>gV x::gV y::sq u1 0 4 (sq u2 7 3 (u2 3::sq u2 0 3 (sq u2 4 3 (u 0::u 1::us 6))))) K8 bel fun u3 w3 D bel=>?_
 have E3_1:=D.q 1
 replace B4:=D.k B4
 replace F6:=D.o L6 F6
 clear D
 refine wp_cond_false (by exact E3_1) ?_
 refine wp_skip ?_
 refine K7 _ _ ?_
 refine gs1 6 (Amb Z0 W) 4 B4 fun _ K9=>?_
 refine .mz rfl 6 E2_7 ?_
 refine .cK rfl Tryz.func193 (fun H=>⟨_,ar1 (H.g 20 0),eFrac _ (RatP.n (VP.any _ (H.was _ [] (VP.at F6 L6)))) (by first | omega | exact p0 | exact p1)⟩) ?_
 refine .e rfl (V:=rfV (fcut ((x.conj.mul y).re))) (fun H=>x_ex (H.g 21 1)) ?_
 refine .e rfl (V:=.int .i64 (ferr ((x.conj.mul y).re))) (fun H=>x_ex (H.g 21 1)) ?_
 refine .s1 rfl B4 (fun H=>⟨H.z 4 E1_2,H.g 22 2⟩) ?_
 refine .mv rfl 3 ?_
 refine .d1 (fun u=>gV x::gV y::sq u1 0 3 (u 5::sq u2 7 3 (u2 3::sq u2 0 3 (sq u2 4 3 (u3 0::u3 1::U::U::sq u 0 4 []))))) K9 bel A4 fun u4 w4 D bel=>?_
 have E4_5:=D.q 5
 replace B4:=D.ol 4
 clear D
 refine wp_ret ?_
 refine ret_ok rfl (by exact results_mix rfl (by exact E1_2) B4 Tryz.underlying28 rfl (by kernel_rfl) (by exact E4_5)) (RetV.mk ?_ bel)
 exact congrArg Ending.returned (rfl)
theorem gaNorm (x:Cx) (p0:gfits (rg x) = true) :
  Calls Tryz.prog 95 #[gV x] W (RetV (.tuple #[.agg #[.bool (fcut (x.conj.mul x).re).a.n,.string (fcut (x.conj.mul x).re).a.s,.bool (fcut (x.conj.mul x).re).b.n,.string (fcut (x.conj.mul x).re).b.s],.int .i64 (ferr (x.conj.mul x).re)]) W):=by
 have bel:=b0 W
 go_enter Tryz.func95,Tryz.ntmps95
 refine gs 3 (Amb Z0 W) fun _ K1=>?_
 refine .bx rfl (fun H=>H.v 0 (gV x)) ?_
 refine .al rfl zF ?_
 refine .mc rfl ?_
 refine .dk (fun u=>gV x::sq u 0 3 (us 5)) K1 bel fun u1 w1 D bel=>?_
 obtain ⟨b2,E1_0,A2,B2⟩:=D.nw 0
 obtain ⟨b3,E1_1,A3,B3⟩:=D.nw 1
 have E1_2:=D.q 2
 have N2_3:=D.n2 0 1 E1_0 E1_1
 clear D
 refine gs1 7 (Amb Z0 W) 5 B3 fun _ K4=>?_
 refine .e rfl (fun H=>x_ldr (H.z 1 E1_0) (H.b1 B2 (Ne.symm N2_3))) ?_
 refine .e rfl (fun H=>x_ldr (H.z 1 E1_0) (H.b1 B2 (Ne.symm N2_3))) ?_
 refine .cK rfl Tryz.func161 (fun H=>⟨_,ar2 (H.g 4 0) (H.g 5 1),gaDot _ _ (by exact p0) (by exact p0)⟩) ?_
 refine .e rfl (V:=rfV (fcut (x.conj.mul x).re)) (fun H=>x_ex (H.g 6 2)) ?_
 refine .e rfl (V:=.int .i64 (ferr (x.conj.mul x).re)) (fun H=>x_ex (H.g 6 2)) ?_
 refine .s1 rfl B3 (fun H=>⟨H.z 2 E1_1,H.g 7 3⟩) ?_
 refine .mv rfl 4 ?_
 refine .d1 (fun u=>gV x::u1 0::u1 1::u 6::sq u 0 5 []) K4 bel A3 fun u2 w2 D bel=>?_
 have E2_6:=D.q 6
 replace B3:=D.ol 5
 clear D
 refine wp_ret ?_
 refine ret_ok rfl (by exact results_mix rfl (by exact E1_1) B3 Tryz.underlying28 rfl (by kernel_rfl) (by exact E2_6)) (RetV.mk ?_ bel)
 exact congrArg Ending.returned (rfl)
theorem frBothAdd (x:Rat) (y:Rat) (p0:fmay (rf x) = true) (p1:fmay (rf y) = true) (p2:ht x + ht y ≤ 8589934592) :
  Calls Tryz.prog 93 #[fV x,fV y,.func (.func 94) #[] #[]] W (RetV (.tuple #[.agg #[.bool (fcut (x + y)).a.n,.string (fcut (x + y)).a.s,.bool (fcut (x + y)).b.n,.string (fcut (x + y)).b.s],.int .i64 (ferr (x + y))]) W):=by
 have h1:=ht_add x y
 have bel:=b0 W
 go_enter Tryz.func93,Tryz.ntmps93
 refine gs 4 (Amb Z0 W) fun _ K1=>?_
 refine .bx rfl (fun H=>H.v 0 (fV x)) ?_
 refine .bx rfl (fun H=>H.v 1 (fV y)) ?_
 refine .al rfl zF ?_
 refine .mc rfl ?_
 refine .dk (fun u=>fV x::fV y::.func (.func 94) #[] #[]::u 0::u 1::U::u 2::u 3::us 19) K1 bel fun u1 w1 D bel=>?_
 obtain ⟨b2,E1_0,A2,B2⟩:=D.nw 0
 obtain ⟨b3,E1_1,A3,B3⟩:=D.nw 1
 obtain ⟨b4,E1_2,A4,B4⟩:=D.nw 2
 have E1_3:=D.q 3
 have N2_4:=D.n2 0 2 E1_0 E1_2
 have N3_4:=D.n2 1 2 E1_1 E1_2
 clear D
 refine wp_seq_k fun _ K5=>?_
 refine gs 8 (Amb Z0 W) fun _ K6=>?_
 refine .lr rfl 3 E1_0 B2 ?_
 refine .cK rfl (V:=.bool true) Tryz.func100 (fun H=>⟨_,ar1 (H.g 8 0),reV (congrArg Value.bool p0) (frMay (rf x))⟩) ?_
 refine .e rfl (V:=.bool false) (fun H=>x_not (H.g 9 1)) ?_
 refine .mv rfl 2 ?_
 refine .lr rfl 4 E1_1 B3 ?_ (hg:=gq 3 rfl)
 refine .cK rfl (V:=.bool true) Tryz.func100 (fun H=>⟨_,ar1 (H.g 12 4),reV (congrArg Value.bool p1) (frMay (rf y))⟩) ?_ (hg:=gq 3 rfl)
 refine .e rfl (V:=.bool false) (fun H=>x_not (H.g 13 5)) ?_ (hg:=gq 3 rfl)
 refine .e rfl (fun H=>x_pkF (H.g 11 3) (H.g 14 6)) ?_
 refine .dk (fun u=>fV x::fV y::.func (.func 94) #[] #[]::u1 0::u1 1::U::u1 2::u1 3::sq u 0 8 (us 11)) K6 bel fun u2 w2 D bel=>?_
 have E2_7:=D.q 7
 replace B2:=D.k B2
 replace B3:=D.k B3
 replace B4:=D.k B4
 clear D
 refine wp_cond_false (by exact E2_7) ?_
 refine wp_skip ?_
 refine K5 _ _ ?_
 refine gd1 12 (Amb Z0 W) 10 B4 fun _ K7=>?_
 refine .mz rfl 2 (V:=.func (.func 94) #[] #[]) rfl ?_
 refine .al rfl zQ ?_
 refine .e rfl (fun H=>x_ldr (H.z 3 E1_0) (H.b1 B2 (Ne.symm N2_4))) ?_
 refine .cR rfl [] Tryz.func135 (fun H=>⟨_,ar1 (H.g 19 2),frRat _ (by omega)⟩) ?_
 refine .e rfl (fun H=>x_ldr (H.z 4 E1_1) (H.b1 B3 (Ne.symm N3_4))) ?_
 refine .cR rfl [] Tryz.func135 (fun H=>⟨_,ar1 (H.g 21 4),frRat _ (by omega)⟩) ?_
 refine Go2.callO (i:=6) (m:=1) rfl rfl (.tail _ (.tail _ (.tail _ (.tail _ (.head _))))) rfl (RatP (x + y)) (f:=94) (fun u μ ρ b H h0 hz=>⟨#[.pointer (some ⟨b,0,none⟩),(u 3).v,(u 5).v],by have e18:=H.r 18 1; have e20:=H.r 20 3; have e22:=H.r 22 5; have e17:=H.g 17 0; rw [h0] at e18; exact ex_callv rfl e17 Tryz.func94 (by kernel_rfl) (by kernel_rfl) (by simp only [List.map_toArray,List.map_cons,List.map_nil,e18,e20,e22]; first | done | rfl),qAdd (z:=b) (x:=x) (y:=y) (RatBlk.of hz) (SV.any (H.a 3 rfl)) (SV.any (H.a 5 rfl)) (by omega)⟩) ?_
 refine .cK rfl Tryz.func143 (fun H=>⟨_,ar1 (H.r 23 6),frAnswer _ (Own.any (H.a 6 rfl)) (by omega)⟩) ?_
 refine .e rfl (V:=rfV (fcut (x + y))) (fun H=>x_ex (H.g 24 7)) ?_
 refine .e rfl (V:=.int .i64 (ferr (x + y))) (fun H=>x_ex (H.g 24 7)) ?_
 refine .s1 rfl B4 (fun H=>⟨H.z 6 E1_2,H.g 25 8⟩) ?_
 refine .mv rfl 9 ?_
 refine .d1 (fun u=>fV x::fV y::.func (.func 94) #[] #[]::u1 0::u1 1::U::u1 2::u 11::sq u2 0 8 (U::sq u 0 10 [])) K7 bel A4 fun u3 w3 D bel=>?_
 have E3_11:=D.q 11
 replace B4:=D.ol 10
 clear D
 refine wp_ret ?_
 refine ret_ok rfl (by exact results_mix rfl (by exact E1_2) B4 Tryz.underlying28 rfl (by kernel_rfl) (by exact E3_11)) (RetV.mk ?_ bel)
 exact congrArg Ending.returned (rfl)
theorem frAdd (x:Rat) (y:Rat) (p0:fmay (rf x) = true) (p1:fmay (rf y) = true) (p2:ht x + ht y ≤ 8589934592) :
  Calls Tryz.prog 40 #[fV x,fV y] W (RetV (.tuple #[.agg #[.bool (fcut (x + y)).a.n,.string (fcut (x + y)).a.s,.bool (fcut (x + y)).b.n,.string (fcut (x + y)).b.s],.int .i64 (ferr (x + y))]) W):=by
 have bel:=b0 W
 go_enter Tryz.func40,Tryz.ntmps40
 refine gs 4 (Amb Z0 W) fun _ K1=>?_
 refine .bx rfl (fun H=>H.v 0 (fV x)) ?_
 refine .bx rfl (fun H=>H.v 1 (fV y)) ?_
 refine .al rfl zF ?_
 refine .mc rfl ?_
 refine .dk (fun u=>fV x::fV y::sq u 0 4 (us 5)) K1 bel fun u1 w1 D bel=>?_
 obtain ⟨b2,E1_0,A2,B2⟩:=D.nw 0
 obtain ⟨b3,E1_1,A3,B3⟩:=D.nw 1
 obtain ⟨b4,E1_2,A4,B4⟩:=D.nw 2
 have E1_3:=D.q 3
 have N2_4:=D.n2 0 2 E1_0 E1_2
 have N3_4:=D.n2 1 2 E1_1 E1_2
 clear D
 refine gs1 7 (Amb Z0 W) 5 B4 fun _ K5=>?_
 refine .e rfl (fun H=>x_ldr (H.z 2 E1_0) (H.b1 B2 (Ne.symm N2_4))) ?_
 refine .e rfl (fun H=>x_ldr (H.z 3 E1_1) (H.b1 B3 (Ne.symm N3_4))) ?_
 refine .cK rfl Tryz.func93 (fun H=>⟨_,ar3 (H.g 6 0) (H.g 7 1) (H.func _),frBothAdd _ _ (by first | omega | exact p0 | exact p1) (by first | omega | exact p0 | exact p1) (by first | omega | exact p0 | exact p1)⟩) ?_
 refine .e rfl (V:=rfV (fcut (x + y))) (fun H=>x_ex (H.g 8 2)) ?_
 refine .e rfl (V:=.int .i64 (ferr (x + y))) (fun H=>x_ex (H.g 8 2)) ?_
 refine .s1 rfl B4 (fun H=>⟨H.z 4 E1_2,H.g 9 3⟩) ?_
 refine .mv rfl 4 ?_
 refine .d1 (fun u=>fV x::fV y::sq u1 0 3 (u 6::sq u 0 5 [])) K5 bel A4 fun u2 w2 D bel=>?_
 have E2_6:=D.q 6
 replace B4:=D.ol 5
 clear D
 refine wp_ret ?_
 refine ret_ok rfl (by exact results_mix rfl (by exact E1_2) B4 Tryz.underlying28 rfl (by kernel_rfl) (by exact E2_6)) (RetV.mk ?_ bel)
 exact congrArg Ending.returned (rfl)
theorem frCmp (x:Rat) (y:Rat) (p0:fmay (rf x) = true) (p1:fmay (rf y) = true) (p2:ht x + ht y ≤ 8589934592) :
  Calls Tryz.prog 96 #[fV x,fV y] W (RetV (.tuple #[.int .i64 (icmp (x.num * (y.den:Int)) (y.num * (x.den:Int))),.int .i64 0]) W):=by
 have bel:=b0 W
 go_enter Tryz.func96,Tryz.ntmps96
 refine gs 4 (Amb Z0 W) fun _ K1=>?_
 refine .bx rfl (fun H=>H.v 0 (fV x)) ?_
 refine .bx rfl (fun H=>H.v 1 (fV y)) ?_
 refine .mc rfl ?_
 refine .mc rfl ?_
 refine .dk (fun u=>fV x::fV y::sq u 0 4 (us 13)) K1 bel fun u1 w1 D bel=>?_
 obtain ⟨b2,E1_0,A2,B2⟩:=D.nw 0
 obtain ⟨b3,E1_1,A3,B3⟩:=D.nw 1
 have E1_2:=D.q 2
 have E1_3:=D.q 3
 clear D
 refine wp_seq_k fun _ K4=>?_
 refine gs 8 (Amb Z0 W) fun _ K5=>?_
 refine .lr rfl 2 E1_0 B2 ?_
 refine .cK rfl (V:=.bool true) Tryz.func100 (fun H=>⟨_,ar1 (H.g 6 0),reV (congrArg Value.bool p0) (frMay (rf x))⟩) ?_
 refine .e rfl (V:=.bool false) (fun H=>x_not (H.g 7 1)) ?_
 refine .mv rfl 2 ?_
 refine .lr rfl 3 E1_1 B3 ?_ (hg:=gq 3 rfl)
 refine .cK rfl (V:=.bool true) Tryz.func100 (fun H=>⟨_,ar1 (H.g 10 4),reV (congrArg Value.bool p1) (frMay (rf y))⟩) ?_ (hg:=gq 3 rfl)
 refine .e rfl (V:=.bool false) (fun H=>x_not (H.g 11 5)) ?_ (hg:=gq 3 rfl)
 refine .e rfl (fun H=>x_pkF (H.g 9 3) (H.g 12 6)) ?_
 refine .dk (fun u=>fV x::fV y::sq u1 0 4 (sq u 0 8 (us 5))) K5 bel fun u2 w2 D bel=>?_
 have E2_7:=D.q 7
 replace B2:=D.k B2
 replace B3:=D.k B3
 clear D
 refine wp_cond_false (by exact E2_7) ?_
 refine wp_skip ?_
 refine K4 _ _ ?_
 refine gd 7 (Amb Z0 W) fun _ K6=>?_
 refine .lr rfl 2 E1_0 B2 ?_
 refine .cR rfl [] Tryz.func135 (fun H=>⟨_,ar1 (H.g 14 0),frRat _ (by omega)⟩) ?_
 refine .lr rfl 3 E1_1 B3 ?_
 refine .cR rfl [] Tryz.func135 (fun H=>⟨_,ar1 (H.g 16 2),frRat _ (by omega)⟩) ?_
 refine .cK rfl Tryz.func138 (fun H=>⟨_,ar2 (H.r 15 1) (H.r 17 3),qCmp _ _ (SV.any (H.a 1 rfl)) (SV.any (H.a 3 rfl)) (by omega)⟩) ?_
 refine .mv rfl 4 ?_
 refine .mc rfl ?_
 refine .dk (fun u=>fV x::fV y::u1 0::u1 1::u 5::u 6::sq u2 0 8 (sq u 0 5 [])) K6 bel fun u3 w3 D bel=>?_
 have E3_5:=D.q 5
 have E3_6:=D.q 6
 clear D
 refine wp_ret ?_
 refine ret_ok rfl (by exact results_two rfl (by exact E3_5) (by exact E3_6)) (RetV.mk ?_ bel)
 exact congrArg Ending.returned (rfl)
theorem frSign (x:Rat) (p0:fmay (rf x) = true) :
  Calls Tryz.prog 45 #[fV x] W (RetV (.int .i64 (wsign (rw x.num))) W):=by
 have bel:=b0 W
 go_enter Tryz.func45,Tryz.ntmps45
 refine gs 2 (Amb Z0 W) fun _ K1=>?_
 refine .bx rfl (fun H=>H.v 0 (fV x)) ?_
 refine .mc rfl ?_
 refine .dk (fun u=>fV x::u 0::u 1::us 6) K1 bel fun u1 w1 D bel=>?_
 obtain ⟨b2,E1_0,A2,B2⟩:=D.nw 0
 have E1_1:=D.q 1
 clear D
 refine wp_seq_k fun _ K3=>?_
 refine gs 3 (Amb Z0 W) fun _ K4=>?_
 refine .lr rfl 1 E1_0 B2 ?_
 refine .cK rfl (V:=.bool true) Tryz.func100 (fun H=>⟨_,ar1 (H.g 3 0),reV (congrArg Value.bool p0) (frMay (rf x))⟩) ?_
 refine .e rfl (V:=.bool false) (fun H=>x_not (H.g 4 1)) ?_
 refine .dk (fun u=>fV x::u1 0::u1 1::sq u 0 3 (us 3)) K4 bel fun u2 w2 D bel=>?_
 have E2_2:=D.q 2
 replace B2:=D.k B2
 clear D
 refine wp_cond_false (by exact E2_2) ?_
 refine wp_skip ?_
 refine K3 _ _ ?_
 refine gs 4 (Amb Z0 W) fun _ K5=>?_
 refine .fz rfl 1 0 E1_0 ?_
 refine .lp rfl 0 (wC x.num) B2 ?_
 refine .cK rfl Tryz.func101 (fun H=>⟨_,ar1 (H.g 7 1),wSign (rw x.num)⟩) ?_
 refine .mv rfl 2 ?_
 refine .dk (fun u=>fV x::u1 0::u 3::sq u2 0 3 (sq u 0 3 [])) K5 bel fun u3 w3 D bel=>?_
 have E3_3:=D.q 3
 clear D
 exact wp_ret (rt rfl E3_3 rfl bel)
end Go.Proofs.YtllohoibifcmdaaGreat
namespace Go.Proofs.YtllohoibifcmdaaGreat
open Go.RowKit Rgn
variable {W:World}
theorem gcut_is {x:Cx} (h:gfits (rg x) = true):Value.tuple #[.agg #[.bool (gcut x).re.a.n,.string (gcut x).re.a.s,.bool (gcut x).re.b.n,.string (gcut x).re.b.s,.bool (gcut x).im.a.n,.string (gcut x).im.a.s,.bool (gcut x).im.b.n,.string (gcut x).im.b.s],.int .i64 (gerr x)] = .tuple #[gV x,.int .i64 0]:=by
 unfold gcut gerr
 rw [if_pos h,if_pos h]
theorem gaMulY (x y:Cx) (p0:gfits (rg x) = true) (p1:gfits (rg y) = true) (p2:gfits (rg (x.mul y)) = true):Calls Tryz.prog 38 #[gV x,gV y] W (RetV (.tuple #[gV (x.mul y),.int .i64 0]) W):=reV (gcut_is p2) (gaMul x y p0 p1)
theorem gaAddY (x y:Cx) (p0:gfits (rg x) = true) (p1:gfits (rg y) = true) (p2:gfits (rg (x.add y)) = true):Calls Tryz.prog 39 #[gV x,gV y] W (RetV (.tuple #[gV (x.add y),.int .i64 0]) W):=reV (gcut_is p2) (gaAdd x y p0 p1)
theorem gaTurnY (x:Cx) (p0:gfits (rg x) = true) (p2:gfits (rg (x.mul (Cx.ofInt (0:Int) (1:Int)))) = true):Calls Tryz.prog 43 #[gV x] W (RetV (.tuple #[gV (x.mul (Cx.ofInt (0:Int) (1:Int))),.int .i64 0]) W):=reV (gcut_is p2) (gaTurn x p0)
theorem gaDivY (x y:Cx) (p0:gfits (rg x) = true) (p1:gfits (rg y) = true) (p2:y.zero = false) (p3:gfits (rg (x.div y)) = true):Calls Tryz.prog 50 #[gV x,gV y] W (RetV (.tuple #[gV (x.div y),.int .i64 0]) W):=reV (gcut_is p3) (gaDiv x y p0 p1 p2)
theorem gaNormY (x:Cx) (p0:gfits (rg x) = true) (p1:fits (rf (x.conj.mul x).re) = true):Calls Tryz.prog 95 #[gV x] W (RetV (.tuple #[fV (x.conj.mul x).re,.int .i64 0]) W):=reV (fcut_yes p1).symm (gaNorm x p0)
theorem frAddY (x y:Rat) (p0:fmay (rf x) = true) (p1:fmay (rf y) = true) (p2:ht x + ht y ≤ 8589934592) (p3:fits (rf (x + y)) = true):Calls Tryz.prog 40 #[fV x,fV y] W (RetV (.tuple #[fV (x + y),.int .i64 0]) W):=reV (fcut_yes p3).symm (frAdd x y p0 p1 p2)
end Go.Proofs.YtllohoibifcmdaaGreat
namespace Go.Proofs.YtllohoibifcmdaaGreat
open Go.RowKit Rgn
set_option maxHeartbeats 4000000
set_option maxRecDepth 100000
variable {S:Nat → Prop} {W:World}
theorem lNorm (x:Cx) (p0:gfits (rg x) = true) (p1:fits (rf (x.conj.mul x).re) = true) :
  Calls Tryz.prog 41 #[gV x] W (RetV (fV ((x.conj.mul x).re)) W):=by
 have bel:=b0 W
 go_enter Tryz.func41,Tryz.ntmps41
 refine gs 2 (Amb Z0 W) fun _ K1=>?_
 refine .bx rfl (fun H=>H.v 0 (gV x)) ?_
 refine .al rfl zF ?_
 refine .dk (fun u=>gV x::u 0::u 1::us 8) K1 bel fun u1 w1 D bel=>?_
 obtain ⟨b2,E1_0,A2,B2⟩:=D.nw 0
 obtain ⟨b3,E1_1,A3,B3⟩:=D.nw 1
 have N2_3:=D.n2 0 1 E1_0 E1_1
 clear D
 refine gs 8 (Amb Z0 W) fun _ K4=>?_
 refine .lr rfl 1 E1_0 B2 ?_
 refine .cK rfl Tryz.func95 (fun H=>⟨_,ar1 (H.g 6 0),gaNormY _ (by first | exact p0 | exact p1) (by first | exact p0 | exact p1)⟩) ?_
 refine .mv rfl 1 ?_
 refine .e rfl (V:=fV ((x.conj.mul x).re)) (fun H=>x_ex (H.g 5 2)) ?_
 refine .e rfl (V:=.int .i64 0) (fun H=>x_ex (H.g 5 2)) ?_
 refine .al rfl zF ?_
 refine .so rfl 5 (fun H=>⟨H.r 3 5,H.g 8 3⟩) ?_
 refine .mv rfl 4 ?_
 refine .dk (fun u=>gV x::u1 0::u1 1::u 5::u 7::u 2::u 0::u 1::u 3::u 4::U::[]) K4 bel fun u2 w2 D bel=>?_
 obtain ⟨b5,E2_5,A5,B5⟩:=D.st 6
 have N3_5:=D.n1 5 (lt_of B3) E2_5
 replace B3:=D.k B3
 clear D
 refine gs1 2 (Amb Z0 W) 1 B3 fun _ K6=>?_
 refine .e rfl (fun H=>x_ldr (H.z 3 E2_5) (H.b1 B5 N3_5)) ?_
 refine .s1 rfl B3 (fun H=>⟨H.z 2 E1_1,H.g 10 0⟩) ?_
 refine .d1 (fun u=>gV x::u1 0::u1 1::u2 5::u2 7::u2 2::u2 0::u2 1::u2 3::u2 4::u 0::[]) K6 bel A3 fun u3 w3 D bel=>?_
 replace B3:=D.ol 1
 clear D
 exact wp_ret (rr rfl E1_1 B3 rfl bel)
theorem lUnder (x:Rat) (y:Rat) (p0:fmay (rf x) = true) (p1:fmay (rf y) = true) (p2:ht x + ht y ≤ 8589934592) :
  Calls Tryz.prog 42 #[fV x,fV y] W (RetV (.bool (decide (icmp (x.num * (y.den:Int)) (y.num * (x.den:Int)) ≤ 0))) W):=by
 have bel:=b0 W
 go_enter Tryz.func42,Tryz.ntmps42
 refine gs 3 (Amb Z0 W) fun _ K1=>?_
 refine .bx rfl (fun H=>H.v 0 (fV x)) ?_
 refine .bx rfl (fun H=>H.v 1 (fV y)) ?_
 refine .mc rfl ?_
 refine .dk (fun u=>fV x::fV y::sq u 0 3 (us 14)) K1 bel fun u1 w1 D bel=>?_
 obtain ⟨b2,E1_0,A2,B2⟩:=D.nw 0
 obtain ⟨b3,E1_1,A3,B3⟩:=D.nw 1
 have E1_2:=D.q 2
 clear D
 refine gs 8 (Amb Z0 W) fun _ K4=>?_
 refine .lr rfl 2 E1_0 B2 ?_
 refine .lr rfl 3 E1_1 B3 ?_
 refine .cK rfl Tryz.func96 (fun H=>⟨_,ar2 (H.g 8 0) (H.g 9 1),frCmp _ _ (by first | exact p0 | exact p1 | exact p2) (by first | exact p0 | exact p1 | exact p2) (by first | exact p0 | exact p1 | exact p2)⟩) ?_
 refine .mv rfl 2 ?_
 refine .e rfl (V:=.int .i64 (icmp (x.num * (y.den:Int)) (y.num * (x.den:Int)))) (fun H=>x_ex (H.g 7 3)) ?_
 refine .e rfl (V:=.int .i64 0) (fun H=>x_ex (H.g 7 3)) ?_
 refine .mv rfl 4 ?_
 refine .mv rfl 5 ?_
 refine .dk (fun u=>fV x::fV y::sq u1 0 3 (u 6::u 7::u 3::sq u 0 3 (u 4::u 5::us 6))) K4 bel fun u2 w2 D bel=>?_
 have E2_6:=D.q 6
 have E2_7:=D.q 7
 clear D
 refine gs 7 (Amb Z0 W) fun _ K5=>?_
 refine .mz rfl 6 E2_7 ?_
 refine .e rfl (V:=.bool true) (fun H=>x_cm (H.g 13 0) (H.c _) (beq_self_eq_true (show Int from 0))) ?_
 refine .mv rfl 1 ?_
 refine .mz rfl 5 E2_6 ?_ (hg:=gq 2 rfl)
 refine .e rfl (V:=.bool (decide ((icmp (x.num * (y.den:Int)) (y.num * (x.den:Int))) ≤ 0))) (fun H=>x_cmp (H.g 16 3) (H.c _)) ?_ (hg:=gq 2 rfl)
 refine .e rfl (fun H=>x_pkT (H.g 15 2) (H.g 17 4)) ?_
 refine .mv rfl 5 ?_
 refine .dk (fun u=>fV x::fV y::u1 0::u1 1::u 6::u2 6::u2 7::u2 3::sq u2 0 3 (u2 4::u2 5::sq u 0 6 [])) K5 bel fun u3 w3 D bel=>?_
 have E3_6:=D.q 6
 clear D
 exact wp_ret (rt rfl E3_6 rfl bel)
theorem lDvd (x:Cx) (y:Cx) (p0:gfits (rg x) = true) (p1:gfits (rg y) = true) (p2:x.zero = false) (p3:gfits (rg (y.div x)) = true) :
  Calls Tryz.prog 44 #[gV x,gV y] W (RetV (.bool (gwhole (rg (y.div x)))) W):=by
 have bel:=b0 W
 go_enter Tryz.func44,Tryz.ntmps44
 refine gs 3 (Amb Z0 W) fun _ K1=>?_
 refine .bx rfl (fun H=>H.v 0 (gV x)) ?_
 refine .bx rfl (fun H=>H.v 1 (gV y)) ?_
 refine .mc rfl ?_
 refine .dk (fun u=>gV x::gV y::sq u 0 3 (us 14)) K1 bel fun u1 w1 D bel=>?_
 obtain ⟨b2,E1_0,A2,B2⟩:=D.nw 0
 obtain ⟨b3,E1_1,A3,B3⟩:=D.nw 1
 have E1_2:=D.q 2
 clear D
 refine gs 9 (Amb Z0 W) fun _ K4=>?_
 refine .lr rfl 3 E1_1 B3 ?_
 refine .lr rfl 2 E1_0 B2 ?_
 refine .cK rfl Tryz.func50 (fun H=>⟨_,ar2 (H.g 8 0) (H.g 9 1),gaDivY _ _ (by first | exact p0 | exact p1 | exact p2 | exact p3) (by first | exact p0 | exact p1 | exact p2 | exact p3) (by first | exact p0 | exact p1 | exact p2 | exact p3) (by first | exact p0 | exact p1 | exact p2 | exact p3)⟩) ?_
 refine .mv rfl 2 ?_
 refine .e rfl (V:=gV (y.div x)) (fun H=>x_ex (H.g 7 3)) ?_
 refine .e rfl (V:=.int .i64 0) (fun H=>x_ex (H.g 7 3)) ?_
 refine .al rfl zG ?_
 refine .so rfl 6 (fun H=>⟨H.r 5 6,H.g 11 4⟩) ?_
 refine .mv rfl 5 ?_
 refine .dk (fun u=>gV x::gV y::sq u1 0 3 (u 6::u 8::u 3::sq u 0 3 (u 4::u 5::us 6))) K4 bel fun u2 w2 D bel=>?_
 obtain ⟨b5,E2_6,A5,B5⟩:=D.st 7
 have E2_8:=D.q 8
 clear D
 refine gs 7 (Amb Z0 W) fun _ K6=>?_
 refine .mz rfl 6 E2_8 ?_
 refine .e rfl (V:=.bool true) (fun H=>x_cm (H.g 13 0) (H.c _) (beq_self_eq_true (show Int from 0))) ?_
 refine .mv rfl 1 ?_
 refine .lr rfl 5 E2_6 B5 ?_ (hg:=gq 2 rfl)
 refine .cK rfl Tryz.func28 (fun H=>⟨_,ar1 (H.g 16 3),hWhole (rg (y.div x))⟩) ?_ (hg:=gq 2 rfl)
 refine .e rfl (fun H=>x_pkT (H.g 15 2) (H.g 17 4)) ?_
 refine .mv rfl 5 ?_
 refine .dk (fun u=>gV x::gV y::u1 0::u1 1::u 6::u2 6::u2 8::u2 3::sq u2 0 3 (u2 4::u2 5::sq u 0 6 [])) K6 bel fun u3 w3 D bel=>?_
 have E3_6:=D.q 6
 clear D
 exact wp_ret (rt rfl E3_6 rfl bel)
set_option maxHeartbeats 8000000 in
theorem hCombC {N:Nat} {r:Cx × Cx × Cx} (x:Cx) (y:Cx) (p0:gwhole (rg x) = true) (p1:gwhole (rg y) = true) (p2:combC N x (Cx.ofInt (1:Int) (0:Int)) (Cx.ofInt (0:Int) (0:Int)) y (Cx.ofInt (0:Int) (0:Int)) (Cx.ofInt (1:Int) (0:Int)) = some r) (p3:gfits (rg (r.1.mul (unitC (firstC r.1).toNat))) = true) (p4:gfits (rg (r.2.1.mul (unitC (firstC r.1).toNat))) = true) (p5:gfits (rg (r.2.2.mul (unitC (firstC r.1).toNat))) = true) :
  Calls Tryz.prog 25 #[gV x,gV y] W (RetV (.tuple #[gV (r.1.mul (unitC (firstC r.1).toNat)),gV (r.2.1.mul (unitC (firstC r.1).toNat)),gV (r.2.2.mul (unitC (firstC r.1).toNat)),.int .i64 0]) W):=by
 have k0:=(comb_bd p2).1
 have k1:=comb_res3 p2
 have k2:=ht_unit (firstC r.1).toNat
 have k3:=hc_mul r.1 (unitC (firstC r.1).toNat)
 have k4:=hc_mul r.2.1 (unitC (firstC r.1).toNat)
 have k5:=hc_mul r.2.2 (unitC (firstC r.1).toNat)
 have bel:=b0 W
 go_enter Tryz.func25,Tryz.ntmps25
 refine gs 6 (Amb Z0 W) fun _ K1=>?_
 refine .bx rfl (fun H=>H.v 0 (gV x)) ?_
 refine .bx rfl (fun H=>H.v 1 (gV y)) ?_
 refine .al rfl zG ?_
 refine .al rfl zG ?_
 refine .al rfl zG ?_
 refine .mc rfl ?_
 refine .dk (fun u=>gV x::gV y::sq u 0 6 (us 62)) K1 bel fun u1 w1 D bel=>?_
 obtain ⟨b2,E1_0,A2,B2⟩:=D.nw 0
 obtain ⟨b3,E1_1,A3,B3⟩:=D.nw 1
 obtain ⟨b4,E1_2,A4,B4⟩:=D.nw 2
 obtain ⟨b5,E1_3,A5,B5⟩:=D.nw 3
 obtain ⟨b6,E1_4,A6,B6⟩:=D.nw 4
 have E1_5:=D.q 5
 have N2_4:=D.n2 0 2 E1_0 E1_2
 have N3_4:=D.n2 1 2 E1_1 E1_2
 have N2_5:=D.n2 0 3 E1_0 E1_3
 have N3_5:=D.n2 1 3 E1_1 E1_3
 have N4_5:=D.n2 2 3 E1_2 E1_3
 have N2_6:=D.n2 0 4 E1_0 E1_4
 have N3_6:=D.n2 1 4 E1_1 E1_4
 have N4_6:=D.n2 2 4 E1_2 E1_4
 have N5_6:=D.n2 3 4 E1_3 E1_4
 clear D
 refine gs 3 (Amb Z0 W) fun _ K7=>?_
 refine .e rfl (V:=.agg zG) (fun H=>by clear H; go_simp) ?_
 refine .al rfl zG ?_
 refine .so rfl 1 (fun H=>⟨H.r 8 1,H.g 18 0⟩) ?_
 refine .dk (fun u=>gV x::gV y::sq u1 0 6 (u 1::U::U::U::U::U::U::U::U::U::u 0::us 51)) K7 bel fun u2 w2 D bel=>?_
 obtain ⟨b8,E2_1,A8,B8⟩:=D.st 2
 have N4_8:=D.n1 1 (lt_of B4) E2_1
 have N5_8:=D.n1 1 (lt_of B5) E2_1
 have N6_8:=D.n1 1 (lt_of B6) E2_1
 replace B2:=D.k B2
 replace B3:=D.k B3
 replace B4:=D.k B4
 replace B5:=D.k B5
 replace B6:=D.k B6
 clear D
 refine wp_seq_k fun _ K9=>?_
 refine gs 8 (Amb Z0 W) fun _ K10=>?_
 refine .lr rfl 2 E1_0 B2 ?_
 refine .cK rfl (V:=.bool true) Tryz.func28 (fun H=>⟨_,ar1 (H.g 19 0),reV (congrArg Value.bool p0) (hWhole (rg x))⟩) ?_
 refine .e rfl (V:=.bool false) (fun H=>x_not (H.g 20 1)) ?_
 refine .mv rfl 2 ?_
 refine .lr rfl 3 E1_1 B3 ?_ (hg:=gq 3 rfl)
 refine .cK rfl (V:=.bool true) Tryz.func28 (fun H=>⟨_,ar1 (H.g 23 4),reV (congrArg Value.bool p1) (hWhole (rg y))⟩) ?_ (hg:=gq 3 rfl)
 refine .e rfl (V:=.bool false) (fun H=>x_not (H.g 24 5)) ?_ (hg:=gq 3 rfl)
 refine .e rfl (fun H=>x_pkF (H.g 22 3) (H.g 25 6)) ?_
 refine .dk (fun u=>gV x::gV y::sq u1 0 6 (u2 1::U::U::U::U::U::U::U::U::U::u2 0::sq u 0 8 (us 43))) K10 bel fun u3 w3 D bel=>?_
 have E3_7:=D.q 7
 replace B2:=D.k B2
 replace B3:=D.k B3
 replace B4:=D.k B4
 replace B5:=D.k B5
 replace B6:=D.k B6
 replace B8:=D.k B8
 clear D
 refine wp_cond_false (by exact E3_7) ?_
 refine wp_skip ?_
 refine K9 _ _ ?_
 refine gd 15 (Amb Z0 W) fun _ K11=>?_
 refine .lr rfl 2 E1_0 B2 ?_
 refine .cR rfl [] Tryz.func57 (fun H=>⟨_,ar1 (H.g 31 0),xOf _ (by first | omega | exact p2 | exact p3 | exact p4 | exact p5)⟩) ?_
 refine .lr rfl 3 E1_1 B3 ?_
 refine .cR rfl [] Tryz.func57 (fun H=>⟨_,ar1 (H.g 33 2),xOf _ (by first | omega | exact p2 | exact p3 | exact p4 | exact p5)⟩) ?_
 refine .cR rfl [1,3] Tryz.func71 (fun H=>⟨_,ar2 (H.r 32 1) (H.r 34 3),hCombine _ _ (N:=N) (r:=r) (SV.sub [1,3] (H.a 1 rfl) rfl) (SV.sub [1,3] (H.a 3 rfl) rfl) (by first | omega | exact p2 | exact p3 | exact p4 | exact p5)⟩) ?_
 refine .mn rfl 4 [1,3,4] ?_
 refine Go2.fn (i:=6) rfl (G0 rfl) (.val 6 [1,3,4,5] (CxP (r.1.mul (unitC (firstC r.1).toNat)))) (fun u μ ρ H=>by have e30:=H.r 30 5; have h0:=(H.a 5 rfl); obtain ⟨x0,x1,x2,h1,h2⟩:=h0; rw [h1] at e30; exact ⟨x0,by clear H; go_simp,SP.tupKeep (by decide) (by decide) h2.1⟩) ?_
 refine Go2.fn (i:=7) rfl (G0 rfl) (.val 7 [1,3,4,5] (CxP (r.2.1.mul (unitC (firstC r.1).toNat)))) (fun u μ ρ H=>by have e30:=H.r 30 5; have h0:=(H.a 5 rfl); obtain ⟨x0,x1,x2,h1,h2⟩:=h0; rw [h1] at e30; exact ⟨x1,by clear H; go_simp,SP.tupKeep (by decide) (by decide) h2.2.1⟩) ?_
 refine Go2.fn (i:=8) rfl (G0 rfl) (.val 8 [1,3,4,5] (CxP (r.2.2.mul (unitC (firstC r.1).toNat)))) (fun u μ ρ H=>by have e30:=H.r 30 5; have h0:=(H.a 5 rfl); obtain ⟨x0,x1,x2,h1,h2⟩:=h0; rw [h1] at e30; exact ⟨x2,by clear H; go_simp,SP.tupKeep (by decide) (by decide) h2.2.2⟩) ?_
 refine .al rfl (#[.pointer none,.pointer none]) ?_
 refine .al rfl (#[.pointer none,.pointer none]) ?_
 refine .al rfl (#[.pointer none,.pointer none]) ?_
 refine Go2.storeOwn (i:=12) (m:=9) rfl rfl (.tail _ (.tail _ (.head _))) (SP.cells 9 [6] (fun u=>#[((u 6).v.cells.getD 0 undef),((u 6).v.cells.getD 1 undef)]) 81 (by intro u u' h; simp [h 6 (by simp)])) (fun u μ ρ b H h0 hB hb=>?_) ?_
 · have e9:=H.r 9 9; have e36:=H.r 36 6
   rw [h0] at e9
   obtain ⟨x1,x2,h1,h2,h3⟩:=(H.a 6 rfl)
   have o1:=VP1.rat h2
   have o2:=VP1.rat h3
   rw [h1] at e36
   refine ⟨μ.setRow b #[x1,x2],ex_store_row 81 _ _ rfl e9 e36 hb (by kernel_rfl) rfl (by simp [o1,o2]),fun g=>⟨b,?_,hB,?_⟩,setRow_only _ _ _⟩
   · rw [upd_other _ _ (by decide)]; exact h0
   · rw [setRow_at hb]; try simp [upd,h1,Value.cells]
 refine Go2.storeOwn (i:=13) (m:=10) rfl rfl (.tail _ (.tail _ (.head _))) (SP.cells 10 [7] (fun u=>#[((u 7).v.cells.getD 0 undef),((u 7).v.cells.getD 1 undef)]) 81 (by intro u u' h; simp [h 7 (by simp)])) (fun u μ ρ b H h0 hB hb=>?_) ?_
 · have e10:=H.r 10 10; have e37:=H.r 37 7
   rw [h0] at e10
   obtain ⟨x1,x2,h1,h2,h3⟩:=(H.a 7 rfl)
   have o1:=VP1.rat h2
   have o2:=VP1.rat h3
   rw [h1] at e37
   refine ⟨μ.setRow b #[x1,x2],ex_store_row 81 _ _ rfl e10 e37 hb (by kernel_rfl) rfl (by simp [o1,o2]),fun g=>⟨b,?_,hB,?_⟩,setRow_only _ _ _⟩
   · rw [upd_other _ _ (by decide)]; exact h0
   · rw [setRow_at hb]; try simp [upd,h1,Value.cells]
 refine Go2.storeOwn (i:=14) (m:=11) rfl rfl (.tail _ (.tail _ (.head _))) (SP.cells 11 [8] (fun u=>#[((u 8).v.cells.getD 0 undef),((u 8).v.cells.getD 1 undef)]) 81 (by intro u u' h; simp [h 8 (by simp)])) (fun u μ ρ b H h0 hB hb=>?_) ?_
 · have e11:=H.r 11 11; have e38:=H.r 38 8
   rw [h0] at e11
   obtain ⟨x1,x2,h1,h2,h3⟩:=(H.a 8 rfl)
   have o1:=VP1.rat h2
   have o2:=VP1.rat h3
   rw [h1] at e38
   refine ⟨μ.setRow b #[x1,x2],ex_store_row 81 _ _ rfl e11 e38 hb (by kernel_rfl) rfl (by simp [o1,o2]),fun g=>⟨b,?_,hB,?_⟩,setRow_only _ _ _⟩
   · rw [upd_other _ _ (by decide)]; exact h0
   · rw [setRow_at hb]; try simp [upd,h1,Value.cells]
 refine .dk (fun u=>gV x::gV y::sq u1 0 6 (u2 1::sq u 9 3 (U::U::U::U::U::U::u2 0::sq u3 0 8 (U::U::U::u 5::sq u 0 5 (sq u 6 3 (us 31)))))) K11 bel fun u4 w4 D bel=>?_
 obtain ⟨b12,b13,E4_6,L12,L13,F12,F13⟩:=CxP.elim (D.rr 6)
 obtain ⟨b14,b15,E4_7,L14,L15,F14,F15⟩:=CxP.elim (D.rr 7)
 obtain ⟨b16,b17,E4_8,L16,L17,F16,F17⟩:=CxP.elim (D.rr 8)
 obtain ⟨b18,E4_9,A18,B18⟩:=(D.a 12 rfl)
 replace A18:=le2 D.le A18
 obtain ⟨b19,E4_10,A19,B19⟩:=(D.a 13 rfl)
 replace A19:=le2 D.le A19
 obtain ⟨b20,E4_11,A20,B20⟩:=(D.a 14 rfl)
 replace A20:=le2 D.le A20
 have N4_18:=D.n1 9 (lt_of B4) E4_9
 have N5_18:=D.n1 9 (lt_of B5) E4_9
 have N6_18:=D.n1 9 (lt_of B6) E4_9
 have N4_19:=D.n1 10 (lt_of B4) E4_10
 have N5_19:=D.n1 10 (lt_of B5) E4_10
 have N6_19:=D.n1 10 (lt_of B6) E4_10
 have N4_20:=D.n1 11 (lt_of B4) E4_11
 have N5_20:=D.n1 11 (lt_of B5) E4_11
 have N6_20:=D.n1 11 (lt_of B6) E4_11
 replace B4:=D.k B4
 replace B5:=D.k B5
 replace B6:=D.k B6
 replace B8:=D.k B8
 simp only [Value.cells,E4_6,E4_7,E4_8,E4_9,E4_10,E4_11] at B18
 replace B18:w4.heap[b18]? = some (.cells #[pt b12,pt b13] 81 (0,0)):=B18
 simp only [Value.cells,E4_6,E4_7,E4_8,E4_9,E4_10,E4_11] at B19
 replace B19:w4.heap[b19]? = some (.cells #[pt b14,pt b15] 81 (0,0)):=B19
 simp only [Value.cells,E4_6,E4_7,E4_8,E4_9,E4_10,E4_11] at B20
 replace B20:w4.heap[b20]? = some (.cells #[pt b16,pt b17] 81 (0,0)):=B20
 clear D
 refine gs 8 (Amb Z0 W) fun _ K21=>?_
 refine .lr rfl 9 E4_9 B18 ?_
 refine .cK rfl Tryz.func55 (fun H=>⟨_,ar1 (H.g 40 0),xGaussOk _ (CxP.mk (VP.any _ (H.was _ [] (VP.at F12 L12))) (VP.any _ (H.was _ [] (VP.at F13 L13)))) (by first | omega | exact p2 | exact p3 | exact p4 | exact p5) (by first | omega | exact p2 | exact p3 | exact p4 | exact p5)⟩) ?_
 refine .mv rfl 1 ?_
 refine .e rfl (V:=gV (r.1.mul (unitC (firstC r.1).toNat))) (fun H=>x_ex (H.g 39 2)) ?_
 refine .e rfl (V:=.int .i64 0) (fun H=>x_ex (H.g 39 2)) ?_
 refine .al rfl zG ?_
 refine .so rfl 5 (fun H=>⟨H.r 12 5,H.g 42 3⟩) ?_
 refine .mv rfl 4 ?_
 refine .dk (fun u=>gV x::gV y::sq u1 0 6 (u2 1::sq u4 9 3 (u 5::u 7::U::U::U::U::u2 0::sq u3 0 8 (U::U::U::u4 5::sq u4 0 5 (sq u4 6 3 (u 2::u 0::u 1::u 3::u 4::us 26)))))) K21 bel fun u5 w5 D bel=>?_
 obtain ⟨b22,E5_5,A22,B22⟩:=D.st 6
 have E5_7:=D.q 7
 have N4_22:=D.n1 5 (lt_of B4) E5_5
 have N5_22:=D.n1 5 (lt_of B5) E5_5
 have N6_22:=D.n1 5 (lt_of B6) E5_5
 replace B4:=D.k B4
 replace B5:=D.k B5
 replace B6:=D.k B6
 replace B8:=D.k B8
 replace B19:=D.k B19
 replace B20:=D.k B20
 replace F14:=D.o L14 F14
 replace F15:=D.o L15 F15
 replace F16:=D.o L16 F16
 replace F17:=D.o L17 F17
 clear D
 refine gs 8 (Amb Z0 W) fun _ K23=>?_
 refine .lr rfl 10 E4_10 B19 ?_
 refine .cK rfl Tryz.func55 (fun H=>⟨_,ar1 (H.g 45 0),xGaussOk _ (CxP.mk (VP.any _ (H.was _ [] (VP.at F14 L14))) (VP.any _ (H.was _ [] (VP.at F15 L15)))) (by first | omega | exact p2 | exact p3 | exact p4 | exact p5) (by first | omega | exact p2 | exact p3 | exact p4 | exact p5)⟩) ?_
 refine .mv rfl 1 ?_
 refine .e rfl (V:=gV (r.2.1.mul (unitC (firstC r.1).toNat))) (fun H=>x_ex (H.g 44 2)) ?_
 refine .e rfl (V:=.int .i64 0) (fun H=>x_ex (H.g 44 2)) ?_
 refine .al rfl zG ?_
 refine .so rfl 5 (fun H=>⟨H.r 14 5,H.g 47 3⟩) ?_
 refine .mv rfl 4 ?_
 refine .dk (fun u=>gV x::gV y::sq u1 0 6 (u2 1::sq u4 9 3 (u5 5::u5 7::u 5::u 7::U::U::u2 0::sq u3 0 8 (U::U::U::u4 5::sq u4 0 5 (sq u4 6 3 (u5 2::u5 0::u5 1::u5 3::u5 4::u 2::u 0::u 1::u 3::u 4::us 21)))))) K23 bel fun u6 w6 D bel=>?_
 obtain ⟨b24,E6_5,A24,B24⟩:=D.st 6
 have E6_7:=D.q 7
 have N4_24:=D.n1 5 (lt_of B4) E6_5
 have N5_24:=D.n1 5 (lt_of B5) E6_5
 have N6_24:=D.n1 5 (lt_of B6) E6_5
 replace B4:=D.k B4
 replace B5:=D.k B5
 replace B6:=D.k B6
 replace B8:=D.k B8
 replace B20:=D.k B20
 replace B22:=D.k B22
 replace F16:=D.o L16 F16
 replace F17:=D.o L17 F17
 clear D
 refine gs 8 (Amb Z0 W) fun _ K25=>?_
 refine .lr rfl 11 E4_11 B20 ?_
 refine .cK rfl Tryz.func55 (fun H=>⟨_,ar1 (H.g 50 0),xGaussOk _ (CxP.mk (VP.any _ (H.was _ [] (VP.at F16 L16))) (VP.any _ (H.was _ [] (VP.at F17 L17)))) (by first | omega | exact p2 | exact p3 | exact p4 | exact p5) (by first | omega | exact p2 | exact p3 | exact p4 | exact p5)⟩) ?_
 refine .mv rfl 1 ?_
 refine .e rfl (V:=gV (r.2.2.mul (unitC (firstC r.1).toNat))) (fun H=>x_ex (H.g 49 2)) ?_
 refine .e rfl (V:=.int .i64 0) (fun H=>x_ex (H.g 49 2)) ?_
 refine .al rfl zG ?_
 refine .so rfl 5 (fun H=>⟨H.r 16 5,H.g 52 3⟩) ?_
 refine .mv rfl 4 ?_
 refine .dk (fun u=>gV x::gV y::sq u1 0 6 (u2 1::sq u4 9 3 (u5 5::u5 7::u6 5::u6 7::u 5::u 7::u2 0::sq u3 0 8 (U::U::U::u4 5::sq u4 0 5 (sq u4 6 3 (u5 2::u5 0::u5 1::u5 3::u5 4::u6 2::u6 0::u6 1::u6 3::u6 4::u 2::u 0::u 1::u 3::u 4::us 16)))))) K25 bel fun u7 w7 D bel=>?_
 obtain ⟨b26,E7_5,A26,B26⟩:=D.st 6
 have E7_7:=D.q 7
 have N4_26:=D.n1 5 (lt_of B4) E7_5
 have N5_26:=D.n1 5 (lt_of B5) E7_5
 have N6_26:=D.n1 5 (lt_of B6) E7_5
 replace B4:=D.k B4
 replace B5:=D.k B5
 replace B6:=D.k B6
 replace B8:=D.k B8
 replace B22:=D.k B22
 replace B24:=D.k B24
 clear D
 refine wp_seq_k fun _ K27=>?_
 refine gs 10 (Amb Z0 W) fun _ K28=>?_
 refine .mz rfl 13 E5_7 ?_
 refine .e rfl (V:=.bool false) (fun H=>x_cm (H.g 54 0) (H.c _) (bne_self_eq_false (show Int from 0))) ?_
 refine .mv rfl 1 ?_
 refine .mz rfl 15 E6_7 ?_ (hg:=gq 2 rfl)
 refine .e rfl (V:=.bool false) (fun H=>x_cm (H.g 57 3) (H.c _) (bne_self_eq_false (show Int from 0))) ?_ (hg:=gq 2 rfl)
 refine .e rfl (fun H=>x_pkF (H.g 56 2) (H.g 58 4)) ?_
 refine .mv rfl 5 ?_
 refine .mz rfl 17 E7_7 ?_ (hg:=gq 6 rfl)
 refine .e rfl (V:=.bool false) (fun H=>x_cm (H.g 61 7) (H.c _) (bne_self_eq_false (show Int from 0))) ?_ (hg:=gq 6 rfl)
 refine .e rfl (fun H=>x_pkF (H.g 60 6) (H.g 62 8)) ?_
 refine .dk (fun u=>gV x::gV y::sq u1 0 6 (u2 1::sq u4 9 3 (u5 5::u5 7::u6 5::u6 7::u7 5::u7 7::u2 0::sq u3 0 8 (U::U::U::u4 5::sq u4 0 5 (sq u4 6 3 (u5 2::u5 0::u5 1::u5 3::u5 4::u6 2::u6 0::u6 1::u6 3::u6 4::u7 2::u7 0::u7 1::u7 3::u7 4::sq u 0 10 (us 6))))))) K28 bel fun u8 w8 D bel=>?_
 have E8_9:=D.q 9
 replace B4:=D.k B4
 replace B5:=D.k B5
 replace B6:=D.k B6
 replace B8:=D.k B8
 replace B22:=D.k B22
 replace B24:=D.k B24
 replace B26:=D.k B26
 clear D
 refine wp_cond_false (by exact E8_9) ?_
 refine wp_skip ?_
 refine K27 _ _ ?_
 refine wp_seq_k fun _ K29=>?_
 refine go2_drawn (by kernel_rfl) 7 rfl (Amb Z0 W) [(b4,3),(b5,4),(b6,5)] [3,4,5] (Olds.cons (R0:=fun _=>True) (lt_of B4) (by simp [(Ne.symm N4_5),(Ne.symm N4_6)]) (Olds.cons (R0:=fun _=>True) (lt_of B5) (by simp [(Ne.symm N5_6)]) (Olds.one (lt_of B6)))) (by kernel_rfl) ?_
 refine .e rfl (fun H=>x_ldr (H.z 12 E5_5) (H.bn B22 (no_cons N4_22 (no_cons N5_22 (no_cons N6_22 (no_nil _)))))) ?_
 refine .e rfl (fun H=>x_ldr (H.z 14 E6_5) (H.bn B24 (no_cons N4_24 (no_cons N5_24 (no_cons N6_24 (no_nil _)))))) ?_
 refine .e rfl (fun H=>x_ldr (H.z 16 E7_5) (H.bn B26 (no_cons N4_26 (no_cons N5_26 (no_cons N6_26 (no_nil _)))))) ?_
 refine .sz rfl 0 B4 (lt_of B4) (by intro y k hy; match y,hy with | 0,hy=>rfl | 1,hy=>simp at hy; exact absurd hy.1 (Ne.symm N4_5) | 2,hy=>simp at hy; exact absurd hy.1 (Ne.symm N4_6)) (fun H=>⟨(H.z 4 E1_2),(H.g 67 0)⟩) ?_
 refine .sz rfl 1 B5 (lt_of B5) (by intro y k hy; match y,hy with | 0,hy=>simp at hy; exact absurd hy.1 N4_5 | 1,hy=>rfl | 2,hy=>simp at hy; exact absurd hy.1 (Ne.symm N5_6)) (fun H=>⟨(H.z 5 E1_3),(H.g 68 1)⟩) ?_
 refine .sz rfl 2 B6 (lt_of B6) (by intro y k hy; match y,hy with | 0,hy=>simp at hy; exact absurd hy.1 N4_6 | 1,hy=>simp at hy; exact absurd hy.1 N5_6 | 2,hy=>rfl) (fun H=>⟨(H.z 6 E1_4),(H.g 69 2)⟩) ?_
 refine .mc rfl ?_
 refine .dd (fun u=>⟨List.toArray (gV x::gV y::sq u1 0 5 (u 6::u2 1::sq u4 9 3 (u5 5::u5 7::u6 5::u6 7::u7 5::u7 7::u2 0::sq u3 0 8 (U::U::U::u4 5::sq u4 0 5 (sq u4 6 3 (u5 2::u5 0::u5 1::u5 3::u5 4::u6 2::u6 0::u6 1::u6 3::u6 4::u7 2::u7 0::u7 1::u7 3::u7 4::sq u8 0 10 (U::U::U::sq u 0 3 []))))))),[]⟩) bel.size fun u9 w9 D=>?_
 have E9_6:=D.q 6
 replace B4:=D.ol 3
 replace B5:=D.ol 4
 replace B6:=D.ol 5
 replace bel:=D.d.base.bel bel bel.size (by simp; omega)
 clear D
 refine K29 _ _ ?_
 refine wp_ret ?_
 refine ret_ok rfl (by exact results_ccct rfl (by exact E1_2) B4 (by exact E1_3) B5 (by exact E1_4) B6 (by exact E9_6)) (RetV.mk ?_ bel)
 exact congrArg Ending.returned (rfl)
end Go.Proofs.YtllohoibifcmdaaGreat
